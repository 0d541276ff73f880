import PyProof.Rows.All
import Wide.All
import OpenK.AllK
import Wide.FinOn
import HandS.ForMost
import HandS.Walk
import HandS.Zip
import HandS.Style
import HandS.Deep
import HandS.TupAny
import HandS.Wide
import KE.KDictKeyed
import KE.SortData
import KE.DataEq
import HandS.Iter
import HandS.Dict
import KE.KDictCopyH
import KE.KDictSum
import HandS.DictComp
import HandS.Sort
import KE.DataCmp
import KE.KTupSum
import PySem.Challenge.RW_nogapsleft_k38_whole_areas_of_golden_tri
set_option Elab.async false
set_option linter.all false
set_option maxRecDepth 100000
/-! DL1: structural data over the abstract heap; frozen lists; slots; the tape. -/
namespace DL
open PySem PySem.Spec L2
open PyProof.Rows hiding St

abbrev D := PyData
/-- the program, the world, the written part -/
structure Pk where
  P : Program
  w : World
  K : PySem.W.Frag
abbrev pk (X : Cx) : Pk := ⟨X.prog, X.w, X.K⟩

/-- the law's tape -/
structure Tape where
  cells : List Int
  at' : Int
  left : Int
  seed : Int
  salt : Int

/-- a list that is never written again -/
def LsF (K : PySem.W.Frag) (H : Hp) (a : Addr) (xs : List V) : Prop :=
  (∃ o, H a = some (.frz o (.lst xs))) ∨ ∃ (o : Obj) (ys : Array Value) (n : Nat), K.lookup a = some o ∧ o.cls = .type "list" ∧ o.dict = none ∧ o.data = .seq ys n ∧ ys.size ≤ sizeLine ∧ Vals xs ys.toList
theorem LsF.of {K : PySem.W.Frag} {H : Hp} {a : Addr} {o : Obj} {xs : List V} (h : H a = some (.frz o (.lst xs))) : LsF K H a xs := .inl ⟨o, h⟩
theorem LsF.sq {K : PySem.W.Frag} {H : Hp} {a : Addr} {xs : List V} (h : LsF K H a xs) : SqL K H a xs := by
  rcases h with ⟨o, h⟩ | h
  · exact .inl (.inr ⟨o, h⟩)
  · exact .inr h
/-- what is never written again stays -/
structure Fz (H H' : Hp) : Prop where
  tup : ∀ a xs, H a = some (.tup xs) → H' a = some (.tup xs)
  frz : ∀ a o u, H a = some (.frz o u) → H' a = some (.frz o u)
theorem Fz.refl (H : Hp) : Fz H H := ⟨fun _ _ e => e, fun _ _ _ e => e⟩
theorem Fz.trans {H H1 H2 : Hp} (a : Fz H H1) (b : Fz H1 H2) : Fz H H2 := ⟨fun c xs e => b.tup c xs (a.tup c xs e), fun c o u e => b.frz c o u (a.frz c o u e)⟩
theorem LsF.fz {K : PySem.W.Frag} {H H' : Hp} {a : Addr} {xs : List V} (h : LsF K H a xs) (f : Fz H H') : LsF K H' a xs := by
  rcases h with ⟨o, h⟩ | h
  · exact .inl ⟨o, f.frz _ _ _ h⟩
  · exact .inr h
theorem sqt_fz {K : PySem.W.Frag} {H H' : Hp} {a : Addr} {xs : List V} (h : SqT K H a xs) (f : Fz H H') : SqT K H' a xs := by
  rcases h with (h | ⟨o, h⟩) | h
  · exact .inl (.inl (f.tup _ _ h))
  · exact .inl (.inr ⟨o, f.frz _ _ _ h⟩)
  · exact .inr h

/-- a dict with tuple keys, as raw entries: (key, the key's address, value) -/
def DKf (E : Pk) (d : Addr) (xs : List (NestedKey × Addr × Value)) : Heap → Prop := fun h =>
  (d == sysModules) = false ∧ xs.length ≤ sizeLine ∧ (∀ x ∈ xs, x.1.depth ≤ 8) ∧ ∃ o es ep, h.get? d = some o ∧ o.ExactDict ∧ o.data = .dict es ep ∧ es.toList = xs.map (entryOfKey (nestedKind E.P E.w)) ∧ (xs.map (·.1)).Nodup
/-- a key as data -/
def keyD : Key → D
  | .inl i => .int i
  | .inr x => .str x

mutual
/-- the value v reads as d, and will do so for ever -/
inductive Rp (E : Pk) (H : Hp) : V → D → Prop
  | non : Rp E H .non .none
  | bl (b : Bool) : Rp E H (.bl b) (.bool b)
  | int (i : Int) : Rp E H (.int i) (.int i)
  | str (x : Str) : Rp E H (.str x) (.str x)
  | lst {a : Addr} {xs : List V} {ds : List D} : LsF E.K H a xs → RpA E H xs ds → Rp E H (.ref a) (.list ds)
  | tup {a : Addr} {xs : List V} {ds : List D} : SqT E.K H a xs → RpA E H xs ds → Rp E H (.ref a) (.tuple ds)
  | dik {a : Addr} {o : Obj} {kvs : List (Key × V)} {ds : List (D × D)} : H a = some (.frz o (.dK kvs)) → RpK E H kvs ds → Rp E H (.ref a) (.dict ds)
  | dit {a : Addr} {o : Obj} {xs : List (NestedKey × Addr × Value)} {ds : List (D × D)} : H a = some (.frz o (.ext (DKf E a xs))) → RpT E H xs ds → Rp E H (.ref a) (.dict ds)
inductive RpA (E : Pk) (H : Hp) : List V → List D → Prop
  | nil : RpA E H [] []
  | cons {v : V} {vs : List V} {d : D} {ds : List D} : Rp E H v d → RpA E H vs ds → RpA E H (v :: vs) (d :: ds)
/-- entries with ints and texts as keys -/
inductive RpK (E : Pk) (H : Hp) : List (Key × V) → List (D × D) → Prop
  | nil : RpK E H [] []
  | cons {k : Key} {v : V} {kvs : List (Key × V)} {d : D} {ds : List (D × D)} : Rp E H v d → RpK E H kvs ds → RpK E H ((k, v) :: kvs) ((keyD k, d) :: ds)
/-- entries with tuples as keys -/
inductive RpT (E : Pk) (H : Hp) : List (NestedKey × Addr × Value) → List (D × D) → Prop
  | nil : RpT E H [] []
  | cons {k : NestedKey} {b : Addr} {u : Value} {v : V} {xs : List (NestedKey × Addr × Value)} {d : D} {ds : List (D × D)} : Rp E H (.ref b) k.data → RelV v u → Rp E H v d → RpT E H xs ds → RpT E H ((k, b, u) :: xs) ((k.data, d) :: ds)
end

section
variable {E : Pk} {H H' : Hp}
mutual
theorem Rp.fz (f : Fz H H') : ∀ {v : V} {d : D}, Rp E H v d → Rp E H' v d
  | _, _, .non => .non
  | _, _, .bl b => .bl b
  | _, _, .int i => .int i
  | _, _, .str x => .str x
  | _, _, .lst h r => .lst (h.fz f) (RpA.fz f r)
  | _, _, .tup h r => .tup (sqt_fz h f) (RpA.fz f r)
  | _, _, .dik h r => .dik (f.frz _ _ _ h) (RpK.fz f r)
  | _, _, .dit h r => .dit (f.frz _ _ _ h) (RpT.fz f r)
theorem RpA.fz (f : Fz H H') : ∀ {vs : List V} {ds : List D}, RpA E H vs ds → RpA E H' vs ds
  | _, _, .nil => .nil
  | _, _, .cons h r => .cons (Rp.fz f h) (RpA.fz f r)
theorem RpK.fz (f : Fz H H') : ∀ {vs : List (Key × V)} {ds : List (D × D)}, RpK E H vs ds → RpK E H' vs ds
  | _, _, .nil => .nil
  | _, _, .cons h r => .cons (Rp.fz f h) (RpK.fz f r)
theorem RpT.fz (f : Fz H H') : ∀ {vs : List (NestedKey × Addr × Value)} {ds : List (D × D)}, RpT E H vs ds → RpT E H' vs ds
  | _, _, .nil => .nil
  | _, _, .cons k e h r => .cons (Rp.fz f k) e (Rp.fz f h) (RpT.fz f r)
end
mutual
/-- as the hand layer's data, where no dict is in it -/
theorem Rp.dp : ∀ {v : V} {d : D}, Rp E H v d → d.plain = true → Dp E.K H v d
  | _, _, .non, _ => .non
  | _, _, .bl b, _ => .bl b
  | _, _, .int i, _ => .int i
  | _, _, .str x, _ => .str x
  | _, _, .lst h r, p => .lst h.sq (RpA.dp r (by simpa [PyData.plain] using p))
  | _, _, .tup h r, p => .tup h (RpA.dp r (by simpa [PyData.plain] using p))
  | _, _, .dik _ _, p => nomatch p
  | _, _, .dit _ _, p => nomatch p
theorem RpA.dp : ∀ {vs : List V} {ds : List D}, RpA E H vs ds → PyData.plainAll ds = true → DpAll E.K H vs ds
  | _, _, .nil, _ => .nil
  | _, _, .cons h r, p => by
    rw [PyData.plainAll, Bool.and_eq_true] at p
    exact .cons (Rp.dp h p.1) (RpA.dp r p.2)
end
end

/-! ### lists of data -/
section
variable {E : Pk} {H : Hp}
theorem RpA.length : ∀ {vs : List V} {ds : List D}, RpA E H vs ds → vs.length = ds.length
  | _, _, .nil => rfl
  | _, _, .cons _ r => by rw [List.length_cons, List.length_cons, RpA.length r]
theorem RpA.get : ∀ {vs : List V} {ds : List D} {i : Nat} {d : D}, RpA E H vs ds → ds[i]? = some d → ∃ v, vs[i]? = some v ∧ Rp E H v d
  | _, _, _, _, .nil, e => by simp at e
  | _, _, 0, _, .cons h _, e => by
    have := Option.some.inj e
    subst this
    exact ⟨_, rfl, h⟩
  | _, _, i + 1, d, .cons _ r, e => RpA.get (i := i) r e
theorem RpA.get' : ∀ {vs : List V} {ds : List D} {i : Nat} {v : V}, RpA E H vs ds → vs[i]? = some v → ∃ d, ds[i]? = some d ∧ Rp E H v d
  | _, _, _, _, .nil, e => by simp at e
  | _, _, 0, _, .cons h _, e => by
    have := Option.some.inj e
    subst this
    exact ⟨_, rfl, h⟩
  | _, _, i + 1, d, .cons _ r, e => RpA.get' (i := i) r e
theorem RpA.append : ∀ {vs ws : List V} {ds es : List D}, RpA E H vs ds → RpA E H ws es → RpA E H (vs ++ ws) (ds ++ es)
  | _, _, _, _, .nil, q => q
  | _, _, _, _, .cons h r, q => .cons h (RpA.append r q)
theorem RpA.take : ∀ {vs : List V} {ds : List D} (n : Nat), RpA E H vs ds → RpA E H (vs.take n) (ds.take n)
  | _, _, 0, _ => .nil
  | _, _, _ + 1, .nil => .nil
  | _, _, n + 1, .cons h r => .cons h (RpA.take n r)
theorem RpA.drop : ∀ {vs : List V} {ds : List D} (n : Nat), RpA E H vs ds → RpA E H (vs.drop n) (ds.drop n)
  | _, _, 0, r => r
  | _, _, _ + 1, .nil => .nil
  | _, _, n + 1, .cons _ r => RpA.drop n r
theorem RpA.set : ∀ {vs : List V} {ds : List D} (n : Nat) {v : V} {d : D}, RpA E H vs ds → Rp E H v d → RpA E H (vs.set n v) (ds.set n d)
  | _, _, _, _, _, .nil, _ => .nil
  | _, _, 0, _, _, .cons _ r, q => .cons q r
  | _, _, n + 1, _, _, .cons h r, q => .cons h (RpA.set n r q)
theorem RpA.reverse {vs : List V} {ds : List D} (h : RpA E H vs ds) : RpA E H vs.reverse ds.reverse := by
  induction vs generalizing ds with
  | nil => cases h; exact .nil
  | cons v vs ih =>
    cases h with
    | cons h r =>
      rw [List.reverse_cons, List.reverse_cons]
      exact (ih r).append (.cons h .nil)
theorem RpA.ints : ∀ {vs : List V} {ns : List Int}, RpA E H vs (ns.map .int) → vs = ns.map V.int
  | [], [], _ => rfl
  | _ :: _, [], h => by
    have h' : RpA E H _ [] := h
    cases h'
  | [], _ :: _, h => by
    have h' : RpA E H [] (_ :: _) := h
    cases h'
  | v :: vs, n :: ns, h => by
    have h' : RpA E H (v :: vs) (.int n :: ns.map .int) := h
    cases h' with
    | cons a r =>
      cases a
      rw [RpA.ints r, List.map_cons]
theorem RpA.bls : ∀ {vs : List V} {ns : List Bool}, RpA E H vs (ns.map .bool) → vs = ns.map V.bl
  | [], [], _ => rfl
  | _ :: _, [], h => by
    have h' : RpA E H _ [] := h
    cases h'
  | [], _ :: _, h => by
    have h' : RpA E H [] (_ :: _) := h
    cases h'
  | v :: vs, n :: ns, h => by
    have h' : RpA E H (v :: vs) (.bool n :: ns.map .bool) := h
    cases h' with
    | cons a r =>
      cases a
      rw [RpA.bls r, List.map_cons]
theorem RpA.ofInts : ∀ (ns : List Int), RpA E H (ns.map V.int) (ns.map .int)
  | [] => .nil
  | n :: ns => .cons (.int n) (RpA.ofInts ns)
end
end DL

set_option Elab.async false
set_option linter.all false
set_option maxRecDepth 100000
/-! DL2: slots, the state between two steps, readings over data; names, constants, operators, tests. -/
namespace DL
open PySem PySem.Spec L2
open PyProof.Rows hiding St

/-! ### the state -/
inductive Slot where
  | no | fz (d : D) | mu (d : D) | tp

def tpd (t : Tape) (c : Addr) : List (Key × V) :=
  [(.inr "cells", .ref c), (.inr "at", .int t.at'), (.inr "left", .int t.left), (.inr "seed", .int t.seed), (.inr "salt", .int t.salt)]
/-- the tape stands at its address -/
def GOk (E : Pk) (H : Hp) (tp : Option Addr) (t : Tape) : Prop := ∀ a, tp = some a → ∃ c, H a = some (.dK (tpd t c)) ∧ LsF E.K H c (t.cells.map V.int)
/-- all but the tape stands -/
def Ex (tp : Option Addr) (H H' : Hp) : Prop := ∀ a o, tp ≠ some a → H a = some o → H' a = some o
/-- an object that is written here holds d -/
def MuOk (E : Pk) (H : Hp) (a : Addr) : D → Prop
  | .list ds => ∃ xs, H a = some (.lst xs) ∧ RpA E H xs ds
  | .dict ds => (∃ kvs : List (Key × V), H a = some (.dK kvs) ∧ RpK E H kvs ds) ∨ ∃ xs : List (NestedKey × Addr × Value), H a = some (.ext (DKf E a xs)) ∧ RpT E H xs ds
  | _ => False
def SlotOk (E : Pk) (H0 H : Hp) (tp : Option Addr) : Slot → Option (Option V) → Prop
  | .no, _ => True
  | .fz d, o => ∃ v, o = some (some v) ∧ Rp E H v d
  | .mu d, o => ∃ a, o = some (some (.ref a)) ∧ H0 a = none ∧ MuOk E H a d
  | .tp, o => ∃ a, o = some (some (.ref a)) ∧ tp = some a
abbrev Env' := List Slot
structure Sok (E : Pk) (H0 : Hp) (tp : Option Addr) (t : Tape) (H : Hp) (σ : St) (Γ : Env') : Prop where
  ex : Ex tp H0 H
  g : GOk E H tp t
  h0 : ∀ a, tp = some a → H0 a ≠ none
  len : σ.length = Γ.length
  has : ∀ (i : Nat) (s : Slot), Γ[i]? = some s → SlotOk E H0 H tp s σ[i]?
  sep : ∀ (i j : Nat) (d e : D) (a : Addr), i ≠ j → Γ[i]? = some (.mu d) → Γ[j]? = some (.mu e) → σ[i]? = some (some (.ref a)) → σ[j]? = some (some (.ref a)) → False

section
variable {E : Pk} {H H' H0 H1 H2 : Hp} {tp : Option Addr} {t t' : Tape} {σ : St} {Γ : Env'}
theorem Ex.refl (tp : Option Addr) (H : Hp) : Ex tp H H := fun _ _ _ e => e
theorem Ex.trans (a : Ex tp H H1) (b : Ex tp H1 H2) : Ex tp H H2 := fun c o h e => b c o h (a c o h e)
theorem Ex.ofSame (a : Same H H') : Ex tp H H' := fun c o _ e => a c o e
theorem Ex.same (a : Ex none H H') : Same H H' := fun c o e => a c o (fun z => nomatch z) e
theorem Ex.free (a : Ex tp H H') {b : Addr} (h : H' b = none) (ht : tp ≠ some b) : H b = none := by
  cases q : H b with
  | none => rfl
  | some o => rw [a b o ht q] at h; cases h
theorem Ex.fz (a : Ex tp H H') (g : GOk E H tp t) : Fz H H' := by
  constructor
  · intro b xs e
    refine a b _ (fun z => ?_) e
    obtain ⟨c, q, _⟩ := g b z
    rw [e] at q; cases q
  · intro b o u e
    refine a b _ (fun z => ?_) e
    obtain ⟨c, q, _⟩ := g b z
    rw [e] at q; cases q
theorem same_upd (h : H b = none) : Same H (upd H b o) := fun c x e => by
  rw [upd_ne (ne_of_none e h)]
  exact e
theorem GOk.none : GOk E H none t := fun _ z => nomatch z
theorem GOk.same (g : GOk E H tp t) (s : Same H H') : GOk E H' tp t := fun a e => by
  obtain ⟨c, h, l⟩ := g a e
  have f : Fz H H' := Ex.fz (tp := Option.none) (t := t) (Ex.ofSame s) (GOk.none (E := E))
  exact ⟨c, s _ _ h, l.fz f⟩
theorem sameFz (s : Same H H') : Fz H H' := ⟨fun a xs e => s a _ e, fun a o u e => s a _ e⟩
theorem MuOk.ex {a : Addr} {d : D} (m : MuOk E H a d) (x : Ex tp H H') (f : Fz H H') (ha : tp ≠ some a) : MuOk E H' a d := by
  cases d with
  | list ds =>
    obtain ⟨xs, h, r⟩ := m
    exact ⟨xs, x _ _ ha h, r.fz f⟩
  | dict ds =>
    rcases m with ⟨kvs, h, r⟩ | ⟨xs, h, r⟩
    · exact .inl ⟨kvs, x _ _ ha h, r.fz f⟩
    · exact .inr ⟨xs, x _ _ ha h, r.fz f⟩
  | _ => exact m
theorem SlotOk.ex {s : Slot} {o : Option (Option V)} (h : SlotOk E H0 H tp s o) (x : Ex tp H H') (f : Fz H H') (h0 : ∀ a, tp = some a → H0 a ≠ none) : SlotOk E H0 H' tp s o := by
  cases s with
  | no => trivial
  | fz d => obtain ⟨v, e, r⟩ := h; exact ⟨v, e, r.fz f⟩
  | mu d => obtain ⟨a, e, n, m⟩ := h; exact ⟨a, e, n, m.ex x f fun z => h0 a z n⟩
  | tp => exact h
/-- behind a step that writes nothing but the tape -/
theorem Sok.step (S : Sok E H0 tp t H σ Γ) (x : Ex tp H H') (g : GOk E H' tp t') : Sok E H0 tp t' H' σ Γ :=
  ⟨S.ex.trans x, g, S.h0, S.len, fun i s e => (S.has i s e).ex x (x.fz S.g) S.h0, S.sep⟩
theorem Sok.same (S : Sok E H0 tp t H σ Γ) (x : Same H H') : Sok E H0 tp t H' σ Γ := S.step (Ex.ofSame x) (S.g.same x)
/-- a slot gets a frozen value -/
theorem Sok.set (S : Sok E H0 tp t H σ Γ) {v : V} {d : D} (i : Nat) (r : Rp E H v d) : Sok E H0 tp t H (σ.set i (some v)) (Γ.set i (.fz d)) := by
  refine ⟨S.ex, S.g, S.h0, by rw [List.length_set, List.length_set, S.len], fun j s e => ?_, fun j k d' e' a hjk h1 h2 h3 h4 => ?_⟩
  · by_cases hj : i = j
    · subst hj
      have hl : i < Γ.length := by
        have := (List.getElem?_eq_some_iff.mp e).1
        rwa [List.length_set] at this
      rw [List.getElem?_set_self hl] at e
      cases e
      rw [List.getElem?_set_self (by rw [S.len]; exact hl)]
      exact ⟨v, rfl, r⟩
    · rw [List.getElem?_set_ne hj] at e
      rw [List.getElem?_set_ne hj]
      exact S.has j s e
  · have nj : i ≠ j := by
      rintro rfl
      have hl : i < Γ.length := by
        have := (List.getElem?_eq_some_iff.mp h1).1
        rwa [List.length_set] at this
      rw [List.getElem?_set_self hl] at h1
      cases h1
    have nk : i ≠ k := by
      rintro rfl
      have hl : i < Γ.length := by
        have := (List.getElem?_eq_some_iff.mp h2).1
        rwa [List.length_set] at this
      rw [List.getElem?_set_self hl] at h2
      cases h2
    rw [List.getElem?_set_ne nj] at h1 h3
    rw [List.getElem?_set_ne nk] at h2 h4
    exact S.sep j k d' e' a hjk h1 h2 h3 h4
end

/-! ### readings -/
abbrev Ev := Env' → Tape → Option (D × Tape)
abbrev Eva := Env' → Tape → Option (List D × Tape)
abbrev Evb := Env' → Tape → Option (Bool × Tape)
def tX (E : Pk) (f : Ev) : TE := fun σ H Q => ∃ tp H0 t Γ d t', Sok E H0 tp t H σ Γ ∧ f Γ t = some (d, t') ∧ ∀ v H', Ex tp H H' → GOk E H' tp t' → Rp E H' v d → Q v H'
def tXA (E : Pk) (f : Eva) : TA := fun σ H Q => ∃ tp H0 t Γ ds t', Sok E H0 tp t H σ Γ ∧ f Γ t = some (ds, t') ∧ ∀ vs H', Ex tp H H' → GOk E H' tp t' → RpA E H' vs ds → Q vs H'
def tXB (E : Pk) (f : Evb) : TT := fun σ H Q => ∃ tp H0 t Γ b t', Sok E H0 tp t H σ Γ ∧ f Γ t = some (b, t') ∧ ∀ H', Ex tp H H' → GOk E H' tp t' → Q b H'
abbrev XE (X : Cx) (e : Expr) (f : Ev) : Prop := PE X e (tX (pk X) f)
abbrev XA (X : Cx) (es : List Expr) (f : Eva) : Prop := PA X es (tXA (pk X) f)
abbrev XT (X : Cx) (e : Expr) (f : Evb) : Prop := PT X e (tXB (pk X) f)

section
variable {X : Cx} {e : Expr} {es : List Expr}
theorem peImp {t u : TE} (h : PE X e t) (i : ∀ σ H Q, u σ H Q → t σ H Q) : PE X e u := ⟨fun pn s sg hp Q iv q => h.run pn s sg hp Q iv (i _ _ _ q)⟩
theorem ptImp {t u : TT} (h : PT X e t) (i : ∀ σ H Q, u σ H Q → t σ H Q) : PT X e u := ⟨fun pn s sg hp Q iv q => h.run pn s sg hp Q iv (i _ _ _ q)⟩
theorem paImp {t u : TA} (h : PA X es t) (i : ∀ σ H Q, u σ H Q → t σ H Q) : PA X es u := ⟨fun ps pn s sg hp Q iv q => h.run ps pn s sg hp Q iv (i _ _ _ q)⟩

/-! ### freezing -/
theorem inv_freeze {pins : List (Addr × Obj)} {σ : St} {H : Hp} {s : Shared} {a : Addr} {u : HO} (I : Inv X pins σ H s) (h : H a = some u)
    (hu : (∀ x, u ≠ .own x) ∧ (∀ xs, u ≠ .tup xs) ∧ (∀ o w, u ≠ .frz o w) ∧ ∀ ps, u ≠ .tbl ps) : ∃ o, Inv X pins σ (upd H a (.frz o u)) s := by
  have hok := I.hok a u h
  obtain ⟨o, ho⟩ : ∃ o, s.heap.get? a = some o := by
    have hl := hok.lt
    cases q : s.heap.get? a with
    | some o => exact ⟨o, rfl⟩
    | none =>
      exfalso
      cases u with
      | lst xs => obtain ⟨_, _, _, _, e⟩ := hok; rw [q] at e; cases e
      | tup xs => exact hu.2.1 xs rfl
      | dK kvs => obtain ⟨_, _, _, _, o, _, _, e, _⟩ := hok; rw [q] at e; cases e
      | dT kvs => obtain ⟨_, _, _, _, o, _, _, e, _⟩ := hok; rw [q] at e; cases e
      | set S n => obtain ⟨o, _, _, _, e, _⟩ := hok; rw [q] at e; cases e
      | ins C dx fs => obtain ⟨_, _, _, e, _⟩ := hok; rw [q] at e; cases e
      | own y => exact hu.1 y rfl
      | xd fs => obtain ⟨_, ⟨_, _, _, e, _⟩, _⟩ := hok; rw [q] at e; cases e
      | rng lo hi => obtain ⟨_, _, _, e⟩ := hok; rw [q] at e; cases e
      | frz ob u => exact hu.2.2.1 ob u rfl
      | tbl ps => exact hu.2.2.2 ps rfl
      | met f y => rw [show s.heap.get? a = _ from hok] at q; cases q
      | ext φ => obtain ⟨_, ⟨_, e⟩, _⟩ := hok; rw [q] at e; cases e
  have own : ∀ b y, H b = some (.own y) → upd H a (.frz o u) b = some (.own y) := fun b y e => by
    by_cases z : b = a
    · subst z; rw [h] at e; cases e; exact absurd rfl (hu.1 y)
    · rw [upd_ne z]; exact e
  have tup : ∀ b xs, H b = some (.tup xs) → upd H a (.frz o u) b = some (.tup xs) := fun b xs e => by
    by_cases z : b = a
    · subst z; rw [h] at e; cases e; exact absurd rfl (hu.2.1 xs)
    · rw [upd_ne z]; exact e
  have non : ∀ b, H b = none → upd H a (.frz o u) b = none := fun b e => by
    by_cases z : b = a
    · subst z; rw [h] at e; cases e
    · rw [upd_ne z]; exact e
  refine ⟨o, ⟨I.ok, I.os, I.bare, ?_, I.loc, I.cell, non _ I.free, fun x c e => non _ (I.freeC x c e), fun p hp => ?_, ?_, I.len⟩⟩
  · refine ⟨I.base.keep, I.base.slot, fun b ob e n hx => non _ (I.base.free b ob e n hx), I.base.there, fun b xs e => tup _ _ (I.base.tups b xs e), fun b ob w e => ?_, fun b ps e => ?_⟩
    · have q := I.base.frzs b ob w e
      by_cases z : b = a
      · subst z; rw [h] at q; cases q; exact absurd rfl (hu.2.2.1 ob w)
      · rw [upd_ne z]; exact q
    · obtain ⟨more, q⟩ := I.base.tbls b ps e
      refine ⟨more, ?_⟩
      by_cases z : b = a
      · subst z; rw [h] at q; cases q; exact absurd rfl (hu.2.2.2 _)
      · rw [upd_ne z]; exact q
  · obtain ⟨p1, p2, p3⟩ := I.pin p hp
    exact ⟨p1, non _ p2, p3⟩
  · intro b w e
    by_cases z : b = a
    · subst z
      rw [upd_same] at e
      cases e
      exact ⟨ho, hok.stay (fun c v _ q => q) (fun c q => own c _ q) fun c xs q => tup c xs q⟩
    · rw [upd_ne z] at e
      exact (I.hok b w e).stay (fun c v _ q => q) (fun c q => own c _ q) fun c xs q => tup c xs q
/-- what is wanted, or wanted of the frozen list -/
def frzK (Q : VK) : VK := fun v H => Q v H ∨ ∃ a u, v = .ref a ∧ H a = some u ∧ ((∃ xs, u = .lst xs) ∨ (∃ kvs, u = .dK kvs) ∨ ∃ φ, u = .ext φ) ∧ ∀ o, Q (.ref a) (upd H a (.frz o u))
theorem peFreeze {t : TE} (h : PE X e t) : PE X e (fun σ H Q => t σ H (frzK Q)) := by
  refine ⟨fun pn s sg hp Q iv q => ?_⟩
  refine thn (h.run pn s sg hp _ iv q) fun u s1 ⟨v, h1, i1, r1, q1⟩ => ?_
  rcases q1 with q1 | ⟨a, w, rfl, ha, hw, q1⟩
  · exact ⟨v, h1, i1, r1, q1⟩
  · obtain ⟨o, i2⟩ := inv_freeze i1 ha (by rcases hw with ⟨xs, rfl⟩ | ⟨kvs, rfl⟩ | ⟨φ, rfl⟩ <;> exact ⟨fun _ z => by (cases z), fun _ z => by (cases z), fun _ _ z => by (cases z), fun _ z => by (cases z)⟩)
    exact ⟨.ref a, _, i2, r1, q1 o⟩
end
end DL

set_option Elab.async false
set_option linter.all false
set_option maxRecDepth 100000
/-! DL3: names, constants, displays, operators, comparisons, tests. -/
namespace DL
open PySem PySem.Spec L2
open PyProof.Rows hiding St

section
variable {X : Cx} {e a b : Expr} {es : List Expr} {pos : Pos}

theorem bindO {α β : Type} {x : Option α} {f : α → Option β} {y : β} (h : (x >>= f) = some y) : ∃ z, x = some z ∧ f z = some y := Option.bind_eq_some_iff.mp h

/-! ### names and constants -/
def vVar (i : Nat) : Ev := fun Γ t => match Γ[i]? with
  | some (.fz d) => some (d, t)
  | _ => none
theorem xe_var (i : Nat) {x : Str} (hN : X.N[i]? = some x := by rfl) (hv : Vis X.env.scope x := by first | exact Or.inl rfl | exact Or.inr (Or.inl rfl) | exact Or.inr (Or.inr rfl)) (hd : (x == ("__debug__" : Str)) = false := by decide)
    (hcd : (x == ("__classdict__" : Str)) = false := by decide) : XE X (.Name x pos) (vVar i) := peImp (pe_var hN hv hd hcd) fun σ H Q h => by
  obtain ⟨tp, H0, t, Γ, d, t', S, hf, q⟩ := h
  unfold vVar at hf
  split at hf
  · rename_i d' hd
    cases hf
    obtain ⟨v, e, r⟩ := S.has i _ hd
    exact ⟨v, e, q v H (Ex.refl _ _) S.g r⟩
  · cases hf
def vC (d : D) : Ev := fun _ t => some (d, t)
theorem xe_const {v : V} {d : D} (h : PE X e (tC v)) (r : ∀ H, Rp (pk X) H v d) : XE X e (vC d) := peImp h fun σ H Q h => by
  obtain ⟨tp, H0, t, Γ, d', t', S, hf, q⟩ := h
  cases hf
  exact q v H (Ex.refl _ _) S.g (r H)
theorem xe_int {i : Int} {j : Nat} : XE X (.Constant (.int i) j pos) (vC (.int i)) := xe_const pe_int fun _ => .int i
theorem xe_bl {k : Bool} {j : Nat} : XE X (.Constant (.bool k) j pos) (vC (.bool k)) := xe_const pe_bl fun _ => .bl k
theorem xe_non {j : Nat} : XE X (.Constant .none j pos) (vC .none) := xe_const pe_non fun _ => .non
theorem xe_str {x : Str} {j : Nat} : XE X (.Constant (.str x) j pos) (vC (.str x)) := xe_const pe_str fun _ => .str x
/-- a module's constant that is no object -/
theorem xe_glob {x : Str} {v : V} {u : Value} {d : D} (hg : Gl X x) (hm : X.mg x = some u) (r : RelV v u) (hd : ∀ H, Rp (pk X) H v d) (hdb : (x == ("__debug__" : Str)) = false := by decide) : XE X (.Name x pos) (vC d) := xe_const (pe_glob hg hm r hdb) hd

/-! ### argument lists, displays -/
def aNil : Eva := fun _ t => some ([], t)
def aCons (f : Ev) (g : Eva) : Eva := fun Γ t => f Γ t >>= fun p => g Γ p.2 >>= fun q => some (p.1 :: q.1, q.2)
theorem xa_nil : XA X [] aNil := paImp pa_nil fun σ H Q h => by
  obtain ⟨tp, H0, t, Γ, d', t', S, hf, q⟩ := h
  cases hf
  exact q [] H (Ex.refl _ _) S.g .nil
theorem xa_cons {f : Ev} {g : Eva} (ha : XE X e f) (hr : XA X es g) (hs : starEach (e :: es) X.env = (false, eval e X.env) :: starEach es X.env := by rfl) : XA X (e :: es) (aCons f g) := paImp (pa_cons ha hr hs) fun σ H Q h => by
  obtain ⟨tp, H0, t, Γ, d', t', S, hf, q⟩ := h
  obtain ⟨⟨d, t1⟩, h1, hf⟩ := bindO hf
  obtain ⟨⟨ds, t2⟩, h2, hf⟩ := bindO hf
  cases hf
  refine ⟨tp, H0, t, Γ, d, t1, S, h1, fun v H1 x1 g1 r1 => ?_⟩
  refine ⟨tp, H0, t1, Γ, ds, t2, S.step x1 g1, h2, fun vs H2 x2 g2 r2 => ?_⟩
  exact q _ _ (x1.trans x2) g2 (.cons (r1.fz (x2.fz g1)) r2)
def vTup (f : Eva) : Ev := fun Γ t => f Γ t >>= fun p => if p.1.length ≤ 1000 then some (.tuple p.1, p.2) else none
def vLst (f : Eva) : Ev := fun Γ t => f Γ t >>= fun p => if p.1.length ≤ 1000 then some (.list p.1, p.2) else none
theorem line1000 {n : Nat} (h : n ≤ 1000) : n ≤ sizeLine := Nat.le_of_lt (small1000 h)
theorem xe_tup {f : Eva} {k : Nat} (h : XA X es f) : XE X (.Tuple es k pos) (vTup f) := peImp (pe_tup h) fun σ H Q h => by
  obtain ⟨tp, H0, t, Γ, d', t', S, hf, q⟩ := h
  obtain ⟨⟨ds, t1⟩, h1, hf⟩ := bindO hf
  split at hf
  · rename_i hl
    cases hf
    refine ⟨tp, H0, t, Γ, ds, t1, S, h1, fun vs H1 x1 g1 r1 => ⟨by rw [r1.length]; exact line1000 hl, fun p hp => ?_⟩⟩
    have s := same_upd (o := .tup vs) hp
    exact q _ _ (x1.trans (Ex.ofSame s)) (g1.same s) (.tup (SqT.of upd_same) (r1.fz (sameFz s)))
  · cases hf
theorem frzNew {H : Hp} {p : Addr} {u u' : HO} (hp : H p = none) : Same H (upd (upd H p u) p u') := by
  rw [upd_upd]
  exact same_upd hp
/-- a new list, frozen at once -/
theorem rp_newList {H : Hp} {E : Pk} {p : Addr} {o : Obj} {vs : List V} {ds : List D} (hp : H p = none) (r : RpA E H vs ds) : Rp E (upd (upd H p (.lst vs)) p (.frz o (.lst vs))) (.ref p) (.list ds) :=
  .lst (.of upd_same) (r.fz (sameFz (frzNew hp)))
theorem frzK_list {Q : VK} {H : Hp} {p : Addr} {vs : List V} (h : ∀ o, Q (.ref p) (upd (upd H p (.lst vs)) p (.frz o (.lst vs)))) : frzK Q (.ref p) (upd H p (.lst vs)) :=
  .inr ⟨p, .lst vs, rfl, upd_same, .inl ⟨vs, rfl⟩, h⟩
theorem xe_lst {f : Eva} (h : XA X es f) : XE X (.List es pos) (vLst f) := peImp (peFreeze (pe_lst h)) fun σ H Q h => by
  obtain ⟨tp, H0, t, Γ, d', t', S, hf, q⟩ := h
  obtain ⟨⟨ds, t1⟩, h1, hf⟩ := bindO hf
  split at hf
  · rename_i hl
    cases hf
    refine ⟨tp, H0, t, Γ, ds, t1, S, h1, fun vs H1 x1 g1 r1 => ⟨by rw [r1.length]; exact line1000 hl, fun p hp => frzK_list fun o => ?_⟩⟩
    have s := frzNew (u := .lst vs) (u' := .frz o (.lst vs)) hp
    exact q _ _ (x1.trans (Ex.ofSame s)) (g1.same s) (rp_newList hp r1)
  · cases hf

/-! ### operators by data -/
def rD (E : Pk) (g : D → D → Option D) : R2 := fun x y H Q => ∃ dx dy d, Rp E H x dx ∧ Rp E H y dy ∧ g dx dy = some d ∧ ∀ z H', Same H H' → Rp E H' z d → Q z H'
def binD (g : D → D → Option D) (f h : Ev) : Ev := fun Γ t => f Γ t >>= fun p => h Γ p.2 >>= fun q => g p.1 q.1 >>= fun z => some (z, q.2)
theorem two {g : D → D → Option D} {f h : Ev} {σ : St} {H : Hp} {Q : VK} (hq : tX (pk X) (binD g f h) σ H Q) : tOp (rD (pk X) g) (tX (pk X) f) (tX (pk X) h) σ H Q := by
  obtain ⟨tp, H0, t, Γ, d', t', S, hf, q⟩ := hq
  obtain ⟨⟨dx, t1⟩, h1, hf⟩ := bindO hf
  obtain ⟨⟨dy, t2⟩, h2, hf⟩ := bindO hf
  obtain ⟨z, h3, hf⟩ := bindO hf
  cases hf
  refine ⟨tp, H0, t, Γ, dx, t1, S, h1, fun v H1 x1 g1 r1 => ?_⟩
  refine ⟨tp, H0, t1, Γ, dy, t2, S.step x1 g1, h2, fun u H2 x2 g2 r2 => ?_⟩
  exact ⟨dx, dy, _, r1.fz (x2.fz g1), r2, h3, fun w H3 s r => q w H3 ((x1.trans x2).trans (Ex.ofSame s)) (g2.same s) r⟩
theorem xe_bin {op : Operator} {g : D → D → Option D} {f h : Ev} (ho : OpR X (binaryOp op) (rD (pk X) g)) (ha : XE X a f) (hb : XE X b h) : XE X (.BinOp a op b pos) (binD g f h) := peImp (pe_op ho ha hb) fun σ H Q q => two q
theorem xe_cmp {op : CmpOp} {g : D → D → Option D} {f h : Ev} (ho : OpR X (compareOp op) (rD (pk X) g)) (ha : XE X a f) (hb : XE X b h) (hm : behindInMarks op b = false := by first | rfl | exact nomark _) : XE X (.Compare a [op] [b] pos) (binD g f h) := peImp (pe_cmpR ho ha hb hm) fun σ H Q q => two q
theorem opr_imp {f : Value → Value → Sem Value} {r r' : R2} (h : OpR X f r) (i : ∀ x y H Q, r' x y H Q → r x y H Q) : OpR X f r' := fun pn s sg hp x y v u Q iv rx ry q => h pn s sg hp x y v u Q iv rx ry (i _ _ _ _ q)

/-- the object of a frozen list -/
theorem lsf_obj {pins : List (Addr × Obj)} {σ : St} {H : Hp} {s : Shared} {l : Addr} {xs : List V} (I : Inv X pins σ H s) (h : LsF X.K H l xs) : xs.length ≤ sizeLine ∧ ∃ (its : List Value) (n : Nat) (sl : Array (Option Value)), Vals xs its ∧ xs.length = its.length ∧ s.heap.get? l = some { cls := .type "list", dict := none, data := .seq its.toArray n, slots := sl } := by
  obtain ⟨its, r, ⟨⟨cl, dd, da, sl⟩, n, e, h1, h2, h3⟩, z⟩ := I.list h.sq
  cases h1
  cases h2
  cases h3
  exact ⟨z, its, n, sl, r, r.length, e⟩
def addD : D → D → Option D
  | .int i, .int j => some (.int (i + j))
  | .str i, .str j => if i.length + j.length ≤ sizeLine then some (.str (i ++ j)) else none
  | .tuple i, .tuple j => if i.length + j.length ≤ sizeLine then some (.tuple (i ++ j)) else none
  | .list i, .list j => if i.length + j.length ≤ sizeLine then some (.list (i ++ j)) else none
  | _, _ => none
theorem op_catL : OpR X (binaryOp .Add) (fun x y H Q => ∃ l b xs ys, x = .ref l ∧ y = .ref b ∧ LsF X.K H l xs ∧ LsF X.K H b ys ∧ xs.length + ys.length ≤ sizeLine ∧ ∀ p o, H p = none → Q (.ref p) (upd (upd H p (.lst (xs ++ ys))) p (.frz o (.lst (xs ++ ys))))) := by
  intro pn s sg hp x y v u Q iv rx ry h
  obtain ⟨l, b, xs, ys, rfl, rfl, hH, hB, hz, q⟩ := h
  cases rx
  cases ry
  obtain ⟨z1, its, n, sl, r, hl, e⟩ := lsf_obj iv hH
  obtain ⟨z2, its2, n2, sl2, r2, hl2, e2⟩ := lsf_obj iv hB
  refine PySem.concat_meets ⟨_, e, rfl⟩ ⟨_, e2, rfl⟩ PySem.noFill_list_add PySem.seq_list_add PySem.F.slot_list_add PySem.F.entry_list_add (PySem.F.args_list_add_2 _ _) (list_addW l b its.toArray its2.toArray n n2 none none sl sl2 (by rw [List.size_toArray, List.size_toArray]; omega)) ⟨e, e2, ?_⟩
  rw [show its.toArray ++ its2.toArray = (its ++ its2).toArray by simp]
  have i1 := iv.lnew (t' := s.toks) (r.append r2) (by rw [List.length_append]; omega)
  obtain ⟨o, i2⟩ := inv_freeze i1 upd_same (by exact ⟨(fun _ z => nomatch z), (fun _ z => nomatch z), (fun _ _ z => nomatch z), (fun _ z => nomatch z)⟩)
  exact ⟨.ref _, _, i2, rfl, q _ o iv.fresh⟩
theorem op_addD : OpR X (binaryOp .Add) (rD (pk X) addD) := opr_imp (op_add.or (op_add_str.or (op_catA.or op_catL))) fun x y H Q h => by
  obtain ⟨dx, dy, d, r1, r2, hg, q⟩ := h
  unfold addD at hg
  split at hg
  · cases hg; cases r1; cases r2
    exact .inl ⟨_, _, rfl, rfl, q _ H (Same.refl H) (.int _)⟩
  · cases r1; cases r2
    split at hg
    · cases hg
      exact .inr (.inl ⟨_, _, rfl, rfl, by assumption, q _ H (Same.refl H) (.str _)⟩)
    · cases hg
  · rename_i i j
    split at hg
    · rename_i hz
      cases hg
      cases r1 with
      | tup s1 a1 =>
        cases r2 with
        | tup s2 a2 =>
          refine .inr (.inr (.inl ⟨_, _, _, _, rfl, rfl, s1, s2, by rw [a1.length, a2.length]; exact hz, fun e => ?_, fun _ e => ?_, fun _ _ p hp => ?_⟩))
          · subst e
            cases a1
            exact q _ H (Same.refl H) (.tup s2 a2)
          · subst e
            cases a2
            refine q _ H (Same.refl H) ?_
            rw [List.append_nil]
            exact .tup s1 a1
          · exact q _ _ (same_upd hp) (.tup (SqT.of upd_same) ((a1.append a2).fz (sameFz (same_upd hp))))
    · cases hg
  · rename_i i j
    split at hg
    · rename_i hz
      cases hg
      cases r1 with
      | lst s1 a1 =>
        cases r2 with
        | lst s2 a2 =>
          refine .inr (.inr (.inr ⟨_, _, _, _, rfl, rfl, s1, s2, by rw [a1.length, a2.length]; exact hz, fun p o hp => ?_⟩))
          exact q _ _ (frzNew hp) (rp_newList hp (a1.append a2))
    · cases hg
  · cases hg
def subD : D → D → Option D
  | .int i, .int j => some (.int (i - j))
  | _, _ => none
theorem op_subD : OpR X (binaryOp .Sub) (rD (pk X) subD) := opr_imp op_sub fun x y H Q h => by
  obtain ⟨dx, dy, d, r1, r2, hg, q⟩ := h
  unfold subD at hg
  split at hg
  · cases hg; cases r1; cases r2
    exact ⟨_, _, rfl, rfl, q _ H (Same.refl H) (.int _)⟩
  · cases hg
/-- one factor within 64 bits -/
def smallI (i : Int) : Bool := decide (-(2 ^ 64) < i) && decide (i < 2 ^ 64)
def mulD : D → D → Option D
  | .int i, .int j => if smallI i || smallI j then some (.int (i * j)) else none
  | _, _ => none
theorem op_mulD : OpR X (binaryOp .Mult) (rD (pk X) mulD) := opr_imp op_mul fun x y H Q h => by
  obtain ⟨dx, dy, d, r1, r2, hg, q⟩ := h
  unfold mulD at hg
  split at hg
  · split at hg
    · rename_i hs
      cases hg; cases r1; cases r2
      refine ⟨_, _, rfl, rfl, ?_, q _ H (Same.refl H) (.int _)⟩
      simp only [smallI, Bool.or_eq_true, Bool.and_eq_true, decide_eq_true_eq] at hs
      exact hs
    · cases hg
  · cases hg
def divD : D → D → Option D
  | .int i, .int j => if decide (0 < j) && decide (j < 1073741824) then some (.int (i / j)) else none
  | _, _ => none
theorem op_divD : OpR X (binaryOp .FloorDiv) (rD (pk X) divD) := opr_imp op_fdiv fun x y H Q h => by
  obtain ⟨dx, dy, d, r1, r2, hg, q⟩ := h
  unfold divD at hg
  split at hg
  · split at hg
    · rename_i hs
      cases hg; cases r1; cases r2
      rw [Bool.and_eq_true, decide_eq_true_eq, decide_eq_true_eq] at hs
      exact ⟨_, _, rfl, rfl, hs, q _ H (Same.refl H) (.int _)⟩
    · cases hg
  · cases hg
def modD : D → D → Option D
  | .int i, .int j => if 0 < j then some (.int (i % j)) else none
  | _, _ => none
theorem op_modD : OpR X (binaryOp .Mod) (rD (pk X) modD) := opr_imp op_mod fun x y H Q h => by
  obtain ⟨dx, dy, d, r1, r2, hg, q⟩ := h
  unfold modD at hg
  split at hg
  · split at hg
    · rename_i hs
      cases hg; cases r1; cases r2
      exact ⟨_, _, rfl, rfl, hs, q _ H (Same.refl H) (.int _)⟩
    · cases hg
  · cases hg

/-! ### comparisons -/
def cmpI (p : Int → Int → Bool) : D → D → Option D
  | .int i, .int j => some (.bool (p i j))
  | _, _ => none
theorem opr_cmpI {op : CmpOp} {p : Int → Int → Bool} (h : OpR X (compareOp op) (rI0 fun i j => .bl (p i j))) : OpR X (compareOp op) (rD (pk X) (cmpI p)) := opr_imp h fun x y H Q h => by
  obtain ⟨dx, dy, d, r1, r2, hg, q⟩ := h
  unfold cmpI at hg
  split at hg
  · cases hg; cases r1; cases r2
    exact ⟨_, _, rfl, rfl, q _ H (Same.refl H) (.bl _)⟩
  · cases hg
abbrev ltD := cmpI fun i j => decide (i < j)
abbrev leD := cmpI fun i j => decide (i ≤ j)
abbrev gtD := cmpI fun i j => decide (j < i)
abbrev geD := cmpI fun i j => decide (j ≤ i)
theorem op_ltD : OpR X (compareOp .Lt) (rD (pk X) ltD) := opr_cmpI op_lt
theorem op_leD : OpR X (compareOp .LtE) (rD (pk X) leD) := opr_cmpI op_le
theorem op_gtD : OpR X (compareOp .Gt) (rD (pk X) gtD) := opr_cmpI op_gt
theorem op_geD : OpR X (compareOp .GtE) (rD (pk X) geD) := opr_cmpI op_ge
/-- plain data of small depth -/
def okD (d : D) : Bool := d.plain && decide (d.depth ≤ 60)
def eqD (x y : D) : Option D := if okD x && okD y then some (.bool (PyData.eqv x y)) else none
def neD (x y : D) : Option D := if okD x && okD y then some (.bool (!PyData.eqv x y)) else none
theorem rp_reads {pins : List (Addr × Obj)} {σ : St} {H : Hp} {s : Shared} {v : V} {u : Value} {d : D} (I : Inv X pins σ H s) (r : Rp (pk X) H v d) (hr : RelV v u) (h : okD d = true) : ∃ as, Reads s.heap u d as := by
  rw [okD, Bool.and_eq_true] at h
  exact Dp.reads I d v u (r.dp h.1) hr
theorem op_eqP (hu : X.A.units + 64 < cLine) : OpR X (compareOp .Eq) (rD (pk X) eqD) := by
  intro pn s sg hp x y v u Q iv rx ry h
  obtain ⟨dx, dy, d, r1, r2, hg, q⟩ := h
  unfold eqD at hg
  split at hg
  · rename_i hs
    cases hg
    rw [Bool.and_eq_true] at hs
    obtain ⟨as, w1⟩ := rp_reads iv r1 rx hs.1
    obtain ⟨bs, w2⟩ := rp_reads iv r2 ry hs.2
    have k := hs
    rw [okD, okD, Bool.and_eq_true, Bool.and_eq_true, decide_eq_true_eq, decide_eq_true_eq] at k
    exact SeqAt.eq_plain w1 w2 k.1.1 k.2.1 (by have := k.1.2; have := Nat.min_le_left dx.depth dy.depth; omega) ⟨.bl _, hp, iv, rfl, q _ _ (Same.refl _) (.bl _)⟩
  · cases hg
theorem op_neP (hu : X.A.units + 64 < cLine) : OpR X (compareOp .NotEq) (rD (pk X) neD) := by
  intro pn s sg hp x y v u Q iv rx ry h
  obtain ⟨dx, dy, d, r1, r2, hg, q⟩ := h
  unfold neD at hg
  split at hg
  · rename_i hs
    cases hg
    rw [Bool.and_eq_true] at hs
    obtain ⟨as, w1⟩ := rp_reads iv r1 rx hs.1
    obtain ⟨bs, w2⟩ := rp_reads iv r2 ry hs.2
    have k := hs
    rw [okD, okD, Bool.and_eq_true, Bool.and_eq_true, decide_eq_true_eq, decide_eq_true_eq] at k
    exact SeqAt.ne_plain w1 w2 k.1.1 k.2.1 (by have := k.1.2; have := Nat.min_le_left dx.depth dy.depth; omega) ⟨.bl _, hp, iv, rfl, q _ _ (Same.refl _) (.bl _)⟩
  · cases hg
/-- x in ys: a list or a tuple -/
def inD : D → D → Option D
  | x, .list ys => if okD x && okD (.list ys) then some (.bool (ys.any fun y => PyData.eqv y x)) else none
  | x, .tuple ys => if okD x && okD (.tuple ys) then some (.bool (ys.any fun y => PyData.eqv y x)) else none
  | _, _ => none
def ninD : D → D → Option D
  | x, .list ys => if okD x && okD (.list ys) then some (.bool (!ys.any fun y => PyData.eqv y x)) else none
  | x, .tuple ys => if okD x && okD (.tuple ys) then some (.bool (!ys.any fun y => PyData.eqv y x)) else none
  | _, _ => none
theorem okD_plainL {ys : List D} (h : okD (.list ys) = true) : PyData.plainAll ys = true ∧ PyData.depthAll ys ≤ 60 := by
  rw [okD, Bool.and_eq_true, decide_eq_true_eq] at h
  exact ⟨by simpa [PyData.plain] using h.1, by have := h.2; simp only [PyData.depth] at this; omega⟩
theorem okD_plainT {ys : List D} (h : okD (.tuple ys) = true) : PyData.plainAll ys = true ∧ PyData.depthAll ys ≤ 60 := by
  rw [okD, Bool.and_eq_true, decide_eq_true_eq] at h
  exact ⟨by simpa [PyData.plain] using h.1, by have := h.2; simp only [PyData.depth] at this; omega⟩
theorem okD_plain {d : D} (h : okD d = true) : d.plain = true ∧ d.depth ≤ 60 := by
  rw [okD, Bool.and_eq_true, decide_eq_true_eq] at h
  exact h
theorem op_inP (hu : X.A.units + 64 < cLine) : OpR X (compareOp .In) (rD (pk X) inD) := by
  intro pn s sg hp x y v u Q iv rx ry h
  obtain ⟨dx, dy, d, r1, r2, hg, q⟩ := h
  unfold inD at hg
  split at hg
  · split at hg
    · rename_i ys hs
      cases hg
      rw [Bool.and_eq_true] at hs
      obtain ⟨as, w1⟩ := rp_reads iv r1 rx hs.1
      obtain ⟨bs, w2⟩ := rp_reads iv r2 ry hs.2
      exact SeqAt.in_list_data w2 w1 (okD_plainL hs.2).1 (okD_plain hs.1).1 (by have := (okD_plain hs.1).2; have := Nat.min_le_right (PyData.depthAll ys) dx.depth; omega) ⟨.bl _, hp, iv, rfl, q _ _ (Same.refl _) (.bl _)⟩
    · cases hg
  · split at hg
    · rename_i ys hs
      cases hg
      rw [Bool.and_eq_true] at hs
      obtain ⟨as, w1⟩ := rp_reads iv r1 rx hs.1
      obtain ⟨bs, w2⟩ := rp_reads iv r2 ry hs.2
      exact SeqAt.in_tuple_data w2 w1 (okD_plainT hs.2).1 (okD_plain hs.1).1 (by have := (okD_plain hs.1).2; have := Nat.min_le_right (PyData.depthAll ys) dx.depth; omega) ⟨.bl _, hp, iv, rfl, q _ _ (Same.refl _) (.bl _)⟩
    · cases hg
  · cases hg
theorem op_ninP (hu : X.A.units + 64 < cLine) : OpR X (compareOp .NotIn) (rD (pk X) ninD) := by
  intro pn s sg hp x y v u Q iv rx ry h
  obtain ⟨dx, dy, d, r1, r2, hg, q⟩ := h
  unfold ninD at hg
  split at hg
  · split at hg
    · rename_i ys hs
      cases hg
      rw [Bool.and_eq_true] at hs
      obtain ⟨as, w1⟩ := rp_reads iv r1 rx hs.1
      obtain ⟨bs, w2⟩ := rp_reads iv r2 ry hs.2
      exact SeqAt.notIn_list_data w2 w1 (okD_plainL hs.2).1 (okD_plain hs.1).1 (by have := (okD_plain hs.1).2; have := Nat.min_le_right (PyData.depthAll ys) dx.depth; omega) ⟨.bl _, hp, iv, rfl, q _ _ (Same.refl _) (.bl _)⟩
    · cases hg
  · split at hg
    · rename_i ys hs
      cases hg
      rw [Bool.and_eq_true] at hs
      obtain ⟨as, w1⟩ := rp_reads iv r1 rx hs.1
      obtain ⟨bs, w2⟩ := rp_reads iv r2 ry hs.2
      exact SeqAt.notIn_tuple_data w2 w1 (okD_plainT hs.2).1 (okD_plain hs.1).1 (by have := (okD_plain hs.1).2; have := Nat.min_le_right (PyData.depthAll ys) dx.depth; omega) ⟨.bl _, hp, iv, rfl, q _ _ (Same.refl _) (.bl _)⟩
    · cases hg
  · cases hg
/-- is, is not: of truth values, of None -/
def isB : D → D → Option D
  | .bool i, .bool j => some (.bool (decide (i = j)))
  | _, _ => none
def isntB : D → D → Option D
  | .bool i, .bool j => some (.bool (!decide (i = j)))
  | _, _ => none
theorem op_isD : OpR X (compareOp .Is) (rD (pk X) isB) := opr_imp op_isBl fun x y H Q h => by
  obtain ⟨dx, dy, d, r1, r2, hg, q⟩ := h
  unfold isB at hg
  split at hg
  · cases hg; cases r1; cases r2
    exact ⟨_, _, rfl, rfl, q _ H (Same.refl H) (.bl _)⟩
  · cases hg
theorem op_isntD : OpR X (compareOp .IsNot) (rD (pk X) isntB) := opr_imp op_notBl fun x y H Q h => by
  obtain ⟨dx, dy, d, r1, r2, hg, q⟩ := h
  unfold isntB at hg
  split at hg
  · cases hg; cases r1; cases r2
    exact ⟨_, _, rfl, rfl, q _ H (Same.refl H) (.bl _)⟩
  · cases hg
def isNo : D → Bool
  | .none => true
  | _ => false
def isNonD : D → D → Option D
  | x, .none => some (.bool (isNo x))
  | _, _ => none
def isntNonD : D → D → Option D
  | x, .none => some (.bool (!isNo x))
  | _, _ => none
theorem rp_non {E : Pk} {H : Hp} {v : V} {d : D} (r : Rp E H v d) : decide (v = .non) = isNo d := by
  cases r <;> rfl
theorem op_isND : OpR X (compareOp .Is) (rD (pk X) isNonD) := opr_imp op_isN fun x y H Q h => by
  obtain ⟨dx, dy, d, r1, r2, hg, q⟩ := h
  unfold isNonD at hg
  split at hg
  · cases hg; cases r2
    refine ⟨rfl, ?_⟩
    rw [rp_non r1]
    exact q _ H (Same.refl H) (.bl _)
  · cases hg
theorem op_isntND : OpR X (compareOp .IsNot) (rD (pk X) isntNonD) := opr_imp op_notN fun x y H Q h => by
  obtain ⟨dx, dy, d, r1, r2, hg, q⟩ := h
  unfold isntNonD at hg
  split at hg
  · cases hg; cases r2
    refine ⟨rfl, ?_⟩
    rw [rp_non r1]
    exact q _ H (Same.refl H) (.bl _)
  · cases hg
def negD : D → Option D
  | .int i => some (.int (-i))
  | _ => none
def unD (g : D → Option D) (f : Ev) : Ev := fun Γ t => f Γ t >>= fun p => g p.1 >>= fun z => some (z, p.2)
theorem xe_neg {f : Ev} (ha : XE X a f) : XE X (.UnaryOp .USub a pos) (unD negD f) := peImp (pe_un un_neg ha) fun σ H Q h => by
  obtain ⟨tp, H0, t, Γ, d', t', S, hf, q⟩ := h
  obtain ⟨⟨d, t1⟩, h1, hf⟩ := bindO hf
  obtain ⟨z, h2, hf⟩ := bindO hf
  cases hf
  refine ⟨tp, H0, t, Γ, d, t1, S, h1, fun v H1 x1 g1 r1 => ?_⟩
  cases r1 with
  | int i => cases h2; exact ⟨_, rfl, q _ _ x1 g1 (.int _)⟩
  | _ => cases h2
end
end DL

set_option Elab.async false
set_option linter.all false
set_option maxRecDepth 100000
/-! DL4: tests, places, slices, calls of defs and of built-ins. -/
namespace DL
open PySem PySem.Spec L2
open PyProof.Rows hiding St

section
variable {X : Cx} {e a b c : Expr} {es rest : List Expr} {pos : Pos}

/-! ### tests -/
/-- a value that is True or False -/
def tst (f : Ev) : Evb := fun Γ t => f Γ t >>= fun p => match p.1 with
  | .bool k => some (k, p.2)
  | _ => none
theorem tst_inv {f : Ev} {Γ : Env'} {t t' : Tape} {k : Bool} (h : tst f Γ t = some (k, t')) : f Γ t = some (.bool k, t') := by
  obtain ⟨⟨d, t1⟩, h1, h2⟩ := bindO h
  cases d with
  | bool k' => cases h2; exact h1
  | _ => cases h2
theorem toB {f : Ev} {σ : St} {H : Hp} {Q : Bool → Hp → Prop} (h : tXB (pk X) (tst f) σ H Q) : tX (pk X) f σ H (fun x H1 => ∃ k, x = .bl k ∧ Q k H1) := by
  obtain ⟨tp, H0, t, Γ, k, t', S, hf, q⟩ := h
  exact ⟨tp, H0, t, Γ, _, t', S, tst_inv hf, fun v H' x g r => by cases r; exact ⟨k, rfl, q H' x g⟩⟩
theorem xt_cmp {op : CmpOp} {g : D → D → Option D} {f h : Ev} (ho : OpR X (compareOp op) (rD (pk X) g)) (ha : XE X a f) (hb : XE X b h) (hm : behindInMarks op b = false := by first | rfl | exact nomark _) : XT X (.Compare a [op] [b] pos) (tst (binD g f h)) :=
  ptImp (pt_cmpR ho ha hb hm) fun σ H Q q => two (toB q)
theorem xt_val {f : Ev} (h : XE X e f) (he : ∀ whole, isTrue e X.env whole = (do let v ← whole; standAt e.pos; holding [v] (truthy v)) := by intro _; rfl) : XT X e (tst f) := ptImp (pt_val h he) fun σ H Q q => toB q
/-- the truth of a value -/
def truD : D → Option Bool
  | .none => some false
  | .bool k => some k
  | .int i => some (i != 0)
  | .str y => if y.length ≤ sizeLine then some ((y.length : Int) != 0) else none
  | .list ds => some (!ds.isEmpty)
  | .tuple ds => some (!ds.isEmpty)
  | .dict _ => none
def tru (f : Ev) : Evb := fun Γ t => f Γ t >>= fun p => truD p.1 >>= fun k => some (k, p.2)
theorem empty_of {E : Pk} {H : Hp} {vs : List V} {ds : List D} (r : RpA E H vs ds) : vs.isEmpty = ds.isEmpty := by
  cases r <;> rfl
theorem xt_tru {f : Ev} (ha : XE X a f) (he : ∀ whole, isTrue a X.env whole = (do let v ← whole; standAt a.pos; holding [v] (truthy v)) := by intro _; rfl) : XT X a (tru f) := ptImp (pt_truth ha he) fun σ H Q h => by
  obtain ⟨tp, H0, t, Γ, k, t', S, hf, q⟩ := h
  obtain ⟨⟨d, t1⟩, h1, hf⟩ := bindO hf
  obtain ⟨k', h2, hf⟩ := bindO hf
  cases hf
  refine ⟨tp, H0, t, Γ, d, _, S, h1, fun v H' x g r => ⟨k, ?_, q H' x g⟩⟩
  cases r with
  | non => cases h2; rfl
  | bl b => cases h2; rfl
  | int i => cases h2; rfl
  | str y =>
    simp only [truD] at h2
    split at h2
    · cases h2
      exact ⟨by assumption, rfl⟩
    · cases h2
  | lst s r => cases h2; exact .inl ⟨_, s.sq, by rw [empty_of r]⟩
  | tup s r => cases h2; exact .inr (.inl ⟨_, s, by rw [empty_of r]⟩)
  | dik _ _ => cases h2
  | dit _ _ => cases h2
abbrev XW (X : Cx) (e : Expr) (f : Evb) : Prop := PW X e (tXB (pk X) f)
theorem pwImp {t u : TT} (h : PW X e t) (i : ∀ σ H Q, u σ H Q → t σ H Q) : PW X e u := ⟨fun w pn s sg hp Q iv q => h.run w pn s sg hp Q iv (i _ _ _ q)⟩
def andB (f g : Evb) : Evb := fun Γ t => f Γ t >>= fun p => if p.1 then g Γ p.2 else some (false, p.2)
def orB (f g : Evb) : Evb := fun Γ t => f Γ t >>= fun p => if p.1 then some (true, p.2) else g Γ p.2
def notB (f : Evb) : Evb := fun Γ t => f Γ t >>= fun p => some (!p.1, p.2)
theorem xw_and1 {f : Evb} (h : XT X a f) : XW X (.BoolOp .And [a] pos) f := pw_and1 h
theorem xw_or1 {f : Evb} (h : XT X a f) : XW X (.BoolOp .Or [a] pos) f := pw_or1 h
theorem xw_and {f g : Evb} (ha : XT X a f) (hb : XW X (.BoolOp .And (b :: rest) pos) g) : XW X (.BoolOp .And (a :: b :: rest) pos) (andB f g) := pwImp (pw_and ha hb) fun σ H Q h => by
  obtain ⟨tp, H0, t, Γ, k, t', S, hf, q⟩ := h
  obtain ⟨⟨k1, t1⟩, h1, hf⟩ := bindO hf
  refine ⟨tp, H0, t, Γ, k1, t1, S, h1, fun H1 x1 g1 => ?_⟩
  cases k1 with
  | true => exact iteT ⟨tp, H0, t1, Γ, k, t', S.step x1 g1, hf, fun H2 x2 g2 => q H2 (x1.trans x2) g2⟩
  | false => cases hf; exact iteF (q H1 x1 g1)
theorem xw_or {f g : Evb} (ha : XT X a f) (hb : XW X (.BoolOp .Or (b :: rest) pos) g) : XW X (.BoolOp .Or (a :: b :: rest) pos) (orB f g) := pwImp (pw_or ha hb) fun σ H Q h => by
  obtain ⟨tp, H0, t, Γ, k, t', S, hf, q⟩ := h
  obtain ⟨⟨k1, t1⟩, h1, hf⟩ := bindO hf
  refine ⟨tp, H0, t, Γ, k1, t1, S, h1, fun H1 x1 g1 => ?_⟩
  cases k1 with
  | true => cases hf; exact iteT (q H1 x1 g1)
  | false => exact iteF ⟨tp, H0, t1, Γ, k, t', S.step x1 g1, hf, fun H2 x2 g2 => q H2 (x1.trans x2) g2⟩
theorem xt_bool {f : Evb} (h : XW X e f) : XT X e f := h.pt
theorem xt_not {f : Evb} (h : XT X a f) : XT X (.UnaryOp .Not a pos) (notB f) := ptImp (pt_not h) fun σ H Q h => by
  obtain ⟨tp, H0, t, Γ, k, t', S, hf, q⟩ := h
  obtain ⟨⟨k1, t1⟩, h1, hf⟩ := bindO hf
  cases hf
  exact ⟨tp, H0, t, Γ, k1, t1, S, h1, fun H1 x1 g1 => q H1 x1 g1⟩
/-- a op b op' c -/
def chD (g g' : D → D → Option D) (f h k : Ev) : Ev := fun Γ t => f Γ t >>= fun p => h Γ p.2 >>= fun q => g p.1 q.1 >>= fun z => match z with
  | .bool true => k Γ q.2 >>= fun r => g' q.1 r.1 >>= fun y => some (y, r.2)
  | .bool false => some (.bool false, q.2)
  | _ => none
theorem chOk {g g' : D → D → Option D} {f h k : Ev} {σ : St} {H : Hp} {Q : VK} (hq : tX (pk X) (chD g g' f h k) σ H Q) : tChain (rD (pk X) g) (rD (pk X) g') (tX (pk X) f) (tX (pk X) h) (tX (pk X) k) σ H Q := by
  obtain ⟨tp, H0, t, Γ, d', t', S, hf, q⟩ := hq
  obtain ⟨⟨dx, t1⟩, h1, hf⟩ := bindO hf
  obtain ⟨⟨dy, t2⟩, h2, hf⟩ := bindO hf
  obtain ⟨z, h3, hf⟩ := bindO hf
  refine ⟨tp, H0, t, Γ, dx, t1, S, h1, fun v H1 x1 g1 r1 => ?_⟩
  refine ⟨tp, H0, t1, Γ, dy, t2, S.step x1 g1, h2, fun u H2 x2 g2 r2 => ?_⟩
  refine ⟨dx, dy, _, r1.fz (x2.fz g1), r2, h3, fun w H3 s r => ?_⟩
  cases z with
  | bool kk =>
    cases r
    cases kk with
    | true =>
      obtain ⟨⟨dz, t3⟩, h4, hf⟩ := bindO hf
      obtain ⟨y, h5, hf⟩ := bindO hf
      cases hf
      refine ⟨true, rfl, iteT ?_⟩
      refine ⟨tp, H0, t2, Γ, dz, _, ((S.step x1 g1).step x2 g2).same s, h4, fun w' H4 x4 g4 r4 => ?_⟩
      exact ⟨dy, dz, _, (r2.fz (sameFz s)).fz (x4.fz (g2.same s)), r4, h5, fun y' H5 s5 r5 => q y' H5 ((((x1.trans x2).trans (Ex.ofSame s)).trans x4).trans (Ex.ofSame s5)) (g4.same s5) r5⟩
    | false =>
      cases hf
      exact ⟨false, rfl, iteF (q _ H3 ((x1.trans x2).trans (Ex.ofSame s)) (g2.same s) (.bl false))⟩
  | _ => cases hf
theorem xe_chain {op op' : CmpOp} {g g' : D → D → Option D} {f h k : Ev} (ho : OpR X (compareOp op) (rD (pk X) g)) (ho' : OpR X (compareOp op') (rD (pk X) g')) (ha : XE X a f) (hb : XE X b h) (hc : XE X c k)
    (hm : lastMarks [op, op'] [b, c] = false := by with_unfolding_all rfl) : XE X (.Compare a [op, op'] [b, c] pos) (chD g g' f h k) := peImp (pe_chain ho ho' ha hb hc hm) fun σ H Q q => chOk q
theorem xt_chain {op op' : CmpOp} {g g' : D → D → Option D} {f h k : Ev} (ho : OpR X (compareOp op) (rD (pk X) g)) (ho' : OpR X (compareOp op') (rD (pk X) g')) (ha : XE X a f) (hb : XE X b h) (hc : XE X c k)
    (hm : lastMarks [op, op'] [b, c] = false := by with_unfolding_all rfl) : XT X (.Compare a [op, op'] [b, c] pos) (tst (chD g g' f h k)) := ptImp (pt_chain ho ho' ha hb hc hm) fun σ H Q q => chOk (toB q)
/-- a if t else b -/
def ifE (k : Evb) (f g : Ev) : Ev := fun Γ t => k Γ t >>= fun p => if p.1 then f Γ p.2 else g Γ p.2
theorem xe_if {k : Evb} {f g : Ev} (hc : XT X c k) (ha : XE X a f) (hb : XE X b g) : XE X (.IfExp c a b pos) (ifE k f g) := peImp (pe_ifExp hc ha hb) fun σ H Q h => by
  obtain ⟨tp, H0, t, Γ, d', t', S, hf, q⟩ := h
  obtain ⟨⟨k1, t1⟩, h1, hf⟩ := bindO hf
  refine ⟨tp, H0, t, Γ, k1, t1, S, h1, fun H1 x1 g1 => ?_⟩
  cases k1 with
  | true => exact iteT ⟨tp, H0, t1, Γ, _, _, S.step x1 g1, hf, fun v H2 x2 g2 r2 => q v H2 (x1.trans x2) g2 r2⟩
  | false => exact iteF ⟨tp, H0, t1, Γ, _, _, S.step x1 g1, hf, fun v H2 x2 g2 r2 => q v H2 (x1.trans x2) g2 r2⟩
/-- a and b, a or b as values: all but the last True or False -/
def andV (f g : Ev) : Ev := fun Γ t => f Γ t >>= fun p => match p.1 with
  | .bool true => g Γ p.2
  | .bool false => some (.bool false, p.2)
  | _ => none
def orV (f g : Ev) : Ev := fun Γ t => f Γ t >>= fun p => match p.1 with
  | .bool true => some (.bool true, p.2)
  | .bool false => g Γ p.2
  | _ => none
theorem xe_one {op : BoolOp} {f : Ev} (h : XE X a f) : XE X (.BoolOp op [a] pos) f := pe_one h
theorem xe_and {f g : Ev} (ha : XE X a f) (hb : XE X (.BoolOp .And (b :: rest) pos) g) : XE X (.BoolOp .And (a :: b :: rest) pos) (andV f g) := peImp (pe_and ha hb) fun σ H Q h => by
  obtain ⟨tp, H0, t, Γ, d', t', S, hf, q⟩ := h
  obtain ⟨⟨d, t1⟩, h1, hf⟩ := bindO hf
  refine ⟨tp, H0, t, Γ, d, t1, S, h1, fun v H1 x1 g1 r1 => ?_⟩
  cases r1 with
  | bl k =>
    refine ⟨k, rfl, ?_⟩
    cases k with
    | true => exact iteT ⟨tp, H0, t1, Γ, _, _, S.step x1 g1, hf, fun v H2 x2 g2 r2 => q v H2 (x1.trans x2) g2 r2⟩
    | false => cases hf; exact iteF (q _ H1 x1 g1 (.bl false))
  | _ => cases hf
theorem xe_or {f g : Ev} (ha : XE X a f) (hb : XE X (.BoolOp .Or (b :: rest) pos) g) : XE X (.BoolOp .Or (a :: b :: rest) pos) (orV f g) := peImp (pe_or ha hb) fun σ H Q h => by
  obtain ⟨tp, H0, t, Γ, d', t', S, hf, q⟩ := h
  obtain ⟨⟨d, t1⟩, h1, hf⟩ := bindO hf
  refine ⟨tp, H0, t, Γ, d, t1, S, h1, fun v H1 x1 g1 r1 => ?_⟩
  cases r1 with
  | bl k =>
    refine ⟨k, rfl, ?_⟩
    cases k with
    | true => cases hf; exact iteT (q _ H1 x1 g1 (.bl true))
    | false => exact iteF ⟨tp, H0, t1, Γ, _, _, S.step x1 g1, hf, fun v H2 x2 g2 r2 => q v H2 (x1.trans x2) g2 r2⟩
  | _ => cases hf
def notV (f : Ev) : Ev := fun Γ t => f Γ t >>= fun p => match p.1 with
  | .bool k => some (.bool (!k), p.2)
  | _ => none
theorem xe_not {f : Ev} (ha : XE X a f) : XE X (.UnaryOp .Not a pos) (notV f) := peImp (pe_not ha) fun σ H Q h => by
  obtain ⟨tp, H0, t, Γ, d', t', S, hf, q⟩ := h
  obtain ⟨⟨d, t1⟩, h1, hf⟩ := bindO hf
  refine ⟨tp, H0, t, Γ, d, t1, S, h1, fun v H1 x1 g1 r1 => ?_⟩
  cases r1 with
  | bl k => cases hf; exact ⟨k, rfl, q _ H1 x1 g1 (.bl _)⟩
  | _ => cases hf

/-! ### readable values: frozen, or a list that is written here -/
def Rn (E : Pk) (H : Hp) (v : V) (d : D) : Prop := Rp E H v d ∨ ∃ a ds xs, v = .ref a ∧ d = .list ds ∧ H a = some (.lst xs) ∧ RpA E H xs ds
def tXR (E : Pk) (f : Ev) : TE := fun σ H Q => ∃ tp H0 t Γ d t', Sok E H0 tp t H σ Γ ∧ f Γ t = some (d, t') ∧ ∀ v H', Ex tp H H' → GOk E H' tp t' → Rn E H' v d → Q v H'
abbrev XR (X : Cx) (e : Expr) (f : Ev) : Prop := PE X e (tXR (pk X) f)
theorem xr_of {f : Ev} (h : XE X e f) : XR X e f := peImp h fun σ H Q h => by
  obtain ⟨tp, H0, t, Γ, d', t', S, hf, q⟩ := h
  exact ⟨tp, H0, t, Γ, d', t', S, hf, fun v H' x g r => q v H' x g (.inl r)⟩
def vMu (i : Nat) : Ev := fun Γ t => match Γ[i]? with
  | some (.mu (.list ds)) => some (.list ds, t)
  | _ => none
theorem xr_mu (i : Nat) {x : Str} (hN : X.N[i]? = some x := by rfl) (hv : Vis X.env.scope x := by first | exact Or.inl rfl | exact Or.inr (Or.inl rfl) | exact Or.inr (Or.inr rfl)) (hd : (x == ("__debug__" : Str)) = false := by decide)
    (hcd : (x == ("__classdict__" : Str)) = false := by decide) : XR X (.Name x pos) (vMu i) := peImp (pe_var hN hv hd hcd) fun σ H Q h => by
  obtain ⟨tp, H0, t, Γ, d, t', S, hf, q⟩ := h
  unfold vMu at hf
  split at hf
  · rename_i ds hd
    cases hf
    obtain ⟨v, e, n, xs, m, r⟩ := S.has i _ hd
    exact ⟨_, e, q _ H (Ex.refl _ _) S.g (.inr ⟨v, ds, xs, rfl, rfl, m, r⟩)⟩
  · cases hf
theorem rn_sql {E : Pk} {H : Hp} {v : V} {ds : List D} (r : Rn E H v (.list ds)) : ∃ a xs, v = .ref a ∧ SqL E.K H a xs ∧ RpA E H xs ds := by
  rcases r with r | ⟨a, ds', xs, rfl, e, h, r⟩
  · cases r with
    | lst s r => exact ⟨_, _, rfl, s.sq, r⟩
  · cases e
    exact ⟨a, xs, rfl, SqL.of h, r⟩
theorem rn_rp {E : Pk} {H : Hp} {v : V} {d : D} (r : Rn E H v d) (h : ∀ ds, d ≠ .list ds) : Rp E H v d := by
  rcases r with r | ⟨_, ds, _, _, e, _⟩
  · exact r
  · exact absurd e (h ds)

/-! ### built-ins of one argument -/
/-- f of a value that reads as d gives what reads as g d; a new list is frozen -/
def rC1 (E : Pk) (g : D → Option D) : List V → Hp → VK → Prop := fun vs H Q => ∃ v dv d, vs = [v] ∧ Rn E H v dv ∧ g dv = some d ∧ ∀ z H', Same H H' → Rp E H' z d → Q z H'
structure B1 (X : Cx) (f : Value) (g : D → Option D) : Prop where
  ex : ∃ r0, CallR X f r0 ∧ ∀ vs H Q, rC1 (pk X) g vs H Q → r0 vs H (frzK Q)
theorem b1_run {g : D → Option D} {f : Ev} {r0 : List V → Hp → VK → Prop} {σ : St} {H : Hp} {Q : VK} (hi : ∀ vs H Q, rC1 (pk X) g vs H Q → r0 vs H (frzK Q)) (h : tX (pk X) (unD g f) σ H Q) : tCB r0 (tCons (tXR (pk X) f) tNil) σ H (frzK Q) := by
  obtain ⟨tp, H0, t, Γ, d', t', S, hf, q⟩ := h
  obtain ⟨⟨dv, t1⟩, h1, hf⟩ := bindO hf
  obtain ⟨z, h2, hf⟩ := bindO hf
  cases hf
  exact ⟨tp, H0, t, Γ, dv, _, S, h1, fun v H1 x1 g1 r1 => hi _ _ _ ⟨v, dv, _, rfl, r1, h2, fun w H2 s r => q w H2 (x1.trans (Ex.ofSame s)) (g1.same s) r⟩⟩
theorem xe_b1 {id : String} {x : Str} {p : Pos} {g : D → Option D} {f : Ev} (hb : B1 X (.builtin id) g) (hg : Gl X x) (hm : X.mg x = none) (hv : bootBuiltins x = some (.builtin id)) (ha : XR X e f) (hn : x ≠ "__name__" := by decide) (hdb : (x == ("__debug__" : Str)) = false := by decide)
    (hs : starEach [e] X.env = (false, eval e X.env) :: starEach [] X.env := by rfl) : XE X (.Call (.Name x p) [e] [] pos) (unD g f) := by
  obtain ⟨r0, hc, hi⟩ := hb.ex
  exact peImp (peFreeze (pe_callB hc hg hm hv (pa_cons ha pa_nil hs) hn hdb hs)) fun σ H Q h => b1_run hi h
theorem xe_t1 {T : String} {x : Str} {p : Pos} {g : D → Option D} {f : Ev} (hb : B1 X (.type T) g) (hg : Gl X x) (hm : X.mg x = none) (hv : bootBuiltins x = some (.type T)) (ha : XR X e f) (hn : x ≠ "__name__" := by decide) (hdb : (x == ("__debug__" : Str)) = false := by decide)
    (hs : starEach [e] X.env = (false, eval e X.env) :: starEach [] X.env := by rfl) : XE X (.Call (.Name x p) [e] [] pos) (unD g f) := by
  obtain ⟨r0, hc, hi⟩ := hb.ex
  exact peImp (peFreeze (pe_callTy hc hg hm hv (pa_cons ha pa_nil hs) hn hdb hs)) fun σ H Q h => b1_run hi h
def lenD : D → Option D
  | .str y => if y.length ≤ sizeLine then some (.int y.length) else none
  | .list ds => some (.int ds.length)
  | .tuple ds => some (.int ds.length)
  | _ => none
theorem b1_len : B1 X (.builtin "len") lenD := ⟨_, call_len, fun vs H Q h => by
  obtain ⟨v, dv, d, rfl, r, hg, q⟩ := h
  cases dv with
  | str y =>
    simp only [lenD] at hg
    split at hg
    · cases hg
      cases rn_rp r (fun _ z => by cases z)
      exact ⟨_, _, rfl, ⟨by assumption, rfl⟩, .inl (q _ H (Same.refl H) (.int _))⟩
    · cases hg
  | list ds =>
    cases hg
    obtain ⟨a, xs, rfl, s, r⟩ := rn_sql r
    refine ⟨_, _, rfl, .inl ⟨_, s, rfl⟩, ?_⟩
    rw [r.length]
    exact .inl (q _ H (Same.refl H) (.int _))
  | tuple ds =>
    cases hg
    cases rn_rp r (fun _ z => by cases z) with
    | tup s r =>
      refine ⟨_, _, rfl, .inr ⟨_, s, rfl⟩, ?_⟩
      rw [r.length]
      exact .inl (q _ H (Same.refl H) (.int _))
  | _ => cases hg⟩
def tupD : D → Option D
  | .list ds => some (.tuple ds)
  | .tuple ds => some (.tuple ds)
  | _ => none
theorem b1_tuple : B1 X (.type "tuple") tupD := ⟨_, call_tuple_of, fun vs H Q h => by
  obtain ⟨v, dv, d, rfl, r, hg, q⟩ := h
  cases dv with
  | list ds =>
    cases hg
    obtain ⟨a, xs, rfl, s, r⟩ := rn_sql r
    refine ⟨a, xs, rfl, .inl ⟨s, fun l hl => .inl (q _ _ (same_upd hl) (.tup (SqT.of upd_same) (r.fz (sameFz (same_upd hl)))))⟩⟩
  | tuple ds =>
    cases hg
    cases rn_rp r (fun _ z => by cases z) with
    | tup s r => exact ⟨_, _, rfl, .inr ⟨s, .inl (q _ _ (Same.refl H) (.tup s r))⟩⟩
  | _ => cases hg⟩
def lstD : D → Option D
  | .list ds => some (.list ds)
  | .tuple ds => some (.list ds)
  | _ => none
theorem b1_list : B1 X (.type "list") lstD := ⟨_, call_list_of, fun vs H Q h => by
  obtain ⟨v, dv, d, rfl, r, hg, q⟩ := h
  cases dv with
  | list ds =>
    cases hg
    obtain ⟨a, xs, rfl, s, r⟩ := rn_sql r
    exact ⟨a, xs, rfl, .inl s, fun l hl => frzK_list fun o => q _ _ (frzNew hl) (rp_newList hl r)⟩
  | tuple ds =>
    cases hg
    cases rn_rp r (fun _ z => by cases z) with
    | tup s r => exact ⟨_, _, rfl, .inr s, fun l hl => frzK_list fun o => q _ _ (frzNew hl) (rp_newList hl r)⟩
  | _ => cases hg⟩
def absD : D → Option D
  | .int i => some (.int (if i < 0 then -i else i))
  | _ => none
theorem b1_abs : B1 X (.builtin "abs") absD := ⟨_, call_abs, fun vs H Q h => by
  obtain ⟨v, dv, d, rfl, r, hg, q⟩ := h
  cases dv with
  | int i =>
    cases hg
    cases rn_rp r (fun _ z => by cases z)
    exact ⟨i, rfl, .inl (q _ H (Same.refl H) (.int _))⟩
  | _ => cases hg⟩
def intD : D → Option D
  | .int i => some (.int i)
  | .bool k => some (.int (if k then 1 else 0))
  | _ => none
theorem b1_int : B1 X (.type "int") intD := ⟨_, call_int1, fun vs H Q h => by
  obtain ⟨v, dv, d, rfl, r, hg, q⟩ := h
  cases dv with
  | int i =>
    cases hg
    cases rn_rp r (fun _ z => by cases z)
    exact .inl ⟨i, rfl, .inl (q _ H (Same.refl H) (.int _))⟩
  | bool k =>
    cases hg
    cases rn_rp r (fun _ z => by cases z)
    exact .inr ⟨k, rfl, .inl (q _ H (Same.refl H) (.int _))⟩
  | _ => cases hg⟩
/-- a list of numbers, of truth values -/
def intsOf : List D → Option (List Int)
  | [] => some []
  | .int i :: r => (intsOf r).map (i :: ·)
  | _ :: _ => none
def blsOf : List D → Option (List Bool)
  | [] => some []
  | .bool i :: r => (blsOf r).map (i :: ·)
  | _ :: _ => none
theorem intsOf_map : ∀ {ds : List D} {ns : List Int}, intsOf ds = some ns → ds = ns.map .int
  | [], ns, h => by cases h; rfl
  | .int i :: r, ns, h => by
    simp only [intsOf, Option.map_eq_some_iff] at h
    obtain ⟨ms, h1, rfl⟩ := h
    rw [intsOf_map h1]
    rfl
  | .none :: _, _, h => by cases h
  | .bool _ :: _, _, h => by cases h
  | .str _ :: _, _, h => by cases h
  | .list _ :: _, _, h => by cases h
  | .tuple _ :: _, _, h => by cases h
  | .dict _ :: _, _, h => by cases h
theorem blsOf_map : ∀ {ds : List D} {ns : List Bool}, blsOf ds = some ns → ds = ns.map .bool
  | [], ns, h => by cases h; rfl
  | .bool i :: r, ns, h => by
    simp only [blsOf, Option.map_eq_some_iff] at h
    obtain ⟨ms, h1, rfl⟩ := h
    rw [blsOf_map h1]
    rfl
  | .none :: _, _, h => by cases h
  | .int _ :: _, _, h => by cases h
  | .str _ :: _, _, h => by cases h
  | .list _ :: _, _, h => by cases h
  | .tuple _ :: _, _, h => by cases h
  | .dict _ :: _, _, h => by cases h
theorem intsOf_of (ns : List Int) : intsOf (ns.map .int) = some ns := by
  induction ns with
  | nil => rfl
  | cons n r ih => rw [List.map_cons, intsOf, ih]; rfl
theorem blsOf_of (ns : List Bool) : blsOf (ns.map .bool) = some ns := by
  induction ns with
  | nil => rfl
  | cons n r ih => rw [List.map_cons, blsOf, ih]; rfl
def sumD : D → Option D
  | .list ds => (intsOf ds).map fun ns => .int ns.sum
  | _ => none
theorem b1_sum (hc : X.calm = true) : B1 X (.builtin "sum") sumD := ⟨_, cr_sum hc, fun vs H Q h => by
  obtain ⟨v, dv, d, rfl, r, hg, q⟩ := h
  cases dv with
  | list ds =>
    simp only [sumD, Option.map_eq_some_iff] at hg
    obtain ⟨ns, h1, rfl⟩ := hg
    obtain ⟨a, xs, rfl, s, r⟩ := rn_sql r
    have e := intsOf_map h1
    subst e
    rw [r.ints] at s
    exact ⟨a, ns, rfl, s, .inl (q _ H (Same.refl H) (.int _))⟩
  | _ => cases hg⟩
def anyD : D → Option D
  | .list ds => (blsOf ds).map fun ns => .bool (ns.any id)
  | _ => none
def allD : D → Option D
  | .list ds => (blsOf ds).map fun ns => .bool (ns.all id)
  | _ => none
theorem b1_any (hc : X.calm = true) : B1 X (.builtin "any") anyD := ⟨_, cr_any hc, fun vs H Q h => by
  obtain ⟨v, dv, d, rfl, r, hg, q⟩ := h
  cases dv with
  | list ds =>
    simp only [anyD, Option.map_eq_some_iff] at hg
    obtain ⟨ns, h1, rfl⟩ := hg
    obtain ⟨a, xs, rfl, s, r⟩ := rn_sql r
    have e := blsOf_map h1
    subst e
    rw [r.bls] at s
    exact ⟨a, ns, rfl, s, .inl (q _ H (Same.refl H) (.bl _))⟩
  | _ => cases hg⟩
theorem b1_all (hc : X.calm = true) : B1 X (.builtin "all") allD := ⟨_, cr_all hc, fun vs H Q h => by
  obtain ⟨v, dv, d, rfl, r, hg, q⟩ := h
  cases dv with
  | list ds =>
    simp only [allD, Option.map_eq_some_iff] at hg
    obtain ⟨ns, h1, rfl⟩ := hg
    obtain ⟨a, xs, rfl, s, r⟩ := rn_sql r
    have e := blsOf_map h1
    subst e
    rw [r.bls] at s
    exact ⟨a, ns, rfl, s, .inl (q _ H (Same.refl H) (.bl _))⟩
  | _ => cases hg⟩
end
end DL

set_option Elab.async false
set_option linter.all false
set_option maxRecDepth 100000
/-! DL5: places, slices, calls of defs, what is walked, comprehensions. -/
namespace DL
open PySem PySem.Spec L2
open PyProof.Rows hiding St

section
variable {X : Cx} {e a b c : Expr} {es rest : List Expr} {pos : Pos}

/-! ### places -/
def ixD : D → D → Option D
  | .list ds, .int i => atI ds i
  | .tuple ds, .int i => atI ds i
  | .str z, .int i => if z.length ≤ sizeLine then (atI z.cps.toList i).map fun c => .str ⟨#[c]⟩ else none
  | _, _ => none
theorem rpa_at {E : Pk} {H : Hp} {vs : List V} {ds : List D} {i : Int} {d : D} (r : RpA E H vs ds) (h : atI ds i = some d) : ∃ v, atI vs i = some v ∧ Rp E H v d := by
  unfold atI at h
  obtain ⟨j, h1, h2⟩ := Option.bind_eq_some_iff.mp h
  obtain ⟨v, h3, h4⟩ := r.get h2
  refine ⟨v, ?_, h4⟩
  unfold atI
  rw [r.length, h1]
  exact h3
theorem twoR {r2 : R2} {g : D → D → Option D} {f h : Ev} {σ : St} {H : Hp} {Q : VK} (hr : ∀ (x y : V) (dx dy d : D) (H : Hp) (Q : VK), Rn (pk X) H x dx → Rp (pk X) H y dy → g dx dy = some d → (∀ z H', Same H H' → Rp (pk X) H' z d → Q z H') → r2 x y H Q)
    (hq : tX (pk X) (binD g f h) σ H Q) : tOp r2 (tXR (pk X) f) (tX (pk X) h) σ H Q := by
  obtain ⟨tp, H0, t, Γ, d', t', S, hf, q⟩ := hq
  obtain ⟨⟨dx, t1⟩, h1, hf⟩ := bindO hf
  obtain ⟨⟨dy, t2⟩, h2, hf⟩ := bindO hf
  obtain ⟨z, h3, hf⟩ := bindO hf
  cases hf
  refine ⟨tp, H0, t, Γ, dx, t1, S, h1, fun v H1 x1 g1 r1 => ?_⟩
  have S1 := S.step x1 g1
  refine ⟨tp, H0, t1, Γ, dy, t2, S1, h2, fun u H2 x2 g2 r2 => ?_⟩
  refine hr v u dx dy _ H2 Q ?_ r2 h3 fun w H3 s r => q w H3 ((x1.trans x2).trans (Ex.ofSame s)) (g2.same s) r
  rcases r1 with r1 | ⟨l, ds, xs, rfl, rfl, hl, r1⟩
  · exact .inl (r1.fz (x2.fz g1))
  · by_cases ht : tp = some l
    · obtain ⟨c, hc, _⟩ := g1 l ht
      rw [hl] at hc
      cases hc
    · exact .inr ⟨l, ds, xs, rfl, rfl, x2 _ _ ht hl, r1.fz (x2.fz g1)⟩
theorem xe_ix {f g : Ev} (ha : XR X a f) (hb : XE X b g) (hs : PlainIx b := by exact fun _ _ => rfl) : XE X (.Subscript a b pos) (binD ixD f g) := peImp (pe_ix ix_seq ha hb hs) fun σ H Q h => twoR (fun x y dx dy d H Q r1 r2 hg q => by
  cases dy with
  | int i =>
    cases r2
    cases dx with
    | list ds =>
      obtain ⟨p, xs, rfl, s, r⟩ := rn_sql r1
      obtain ⟨v, h1, h2⟩ := rpa_at r hg
      exact .inl ⟨p, xs, i, v, rfl, rfl, s, h1, q v H (Same.refl H) h2⟩
    | tuple ds =>
      cases rn_rp r1 (fun _ z => by cases z) with
      | tup s r =>
        obtain ⟨v, h1, h2⟩ := rpa_at r hg
        exact .inr (.inl ⟨_, _, i, v, rfl, rfl, s, h1, q v H (Same.refl H) h2⟩)
    | str z =>
      cases rn_rp r1 (fun _ z => by cases z)
      simp only [ixD] at hg
      split at hg
      · rename_i hz
        obtain ⟨c, h1, h2⟩ := Option.map_eq_some_iff.mp hg
        subst h2
        exact .inr (.inr ⟨z, i, c, rfl, rfl, hz, h1, q _ H (Same.refl H) (.str _)⟩)
      · cases hg
    | _ => cases hg
  | _ => cases dx <;> cases hg) h

/-! ### slices -/
abbrev Evo := Env' → Tape → Option (Option Int × Tape)
def tXO (E : Pk) (f : Evo) : TO := fun σ H Q => ∃ tp H0 t Γ o t', Sok E H0 tp t H σ Γ ∧ f Γ t = some (o, t') ∧ ∀ H', Ex tp H H' → GOk E H' tp t' → Q o H'
abbrev XO (X : Cx) (e : Option Expr) (f : Evo) : Prop := PO X e (tXO (pk X) f)
theorem poImp {e : Option Expr} {t u : TO} (h : PO X e t) (i : ∀ σ H Q, u σ H Q → t σ H Q) : PO X e u := ⟨fun pn s sg hp Q iv q => h.run pn s sg hp Q iv (i _ _ _ q)⟩
def oNone : Evo := fun _ t => some (none, t)
def oSome (f : Ev) : Evo := fun Γ t => f Γ t >>= fun p => match p.1 with
  | .int i => some (some i, p.2)
  | _ => none
theorem xo_none : XO X none oNone := poImp po_none fun σ H Q h => by
  obtain ⟨tp, H0, t, Γ, d', t', S, hf, q⟩ := h
  cases hf
  exact q H (Ex.refl _ _) S.g
theorem xo_some {f : Ev} (h : XE X e f) : XO X (some e) (oSome f) := poImp (po_some h) fun σ H Q h => by
  obtain ⟨tp, H0, t, Γ, d', t', S, hf, q⟩ := h
  obtain ⟨⟨d, t1⟩, h1, hf⟩ := bindO hf
  refine ⟨tp, H0, t, Γ, d, t1, S, h1, fun v H1 x1 g1 r1 => ?_⟩
  cases r1 with
  | int i => cases hf; exact ⟨i, rfl, q H1 x1 g1⟩
  | _ => cases hf
def cutD {α : Type} (xs : List α) (lo hi : Option Int) : List α := (xs.drop (HT.sIx xs.length 0 lo)).take (HT.sIx xs.length xs.length hi - HT.sIx xs.length 0 lo)
def slD : D → Option Int → Option Int → Option D
  | .list ds, lo, hi => some (.list (cutD ds lo hi))
  | .tuple ds, lo, hi => some (.tuple (cutD ds lo hi))
  | .str z, lo, hi => if z.length ≤ sizeLine then some (.str (cutS z lo hi)) else none
  | _, _, _ => none
theorem rpa_cut {E : Pk} {H : Hp} {vs : List V} {ds : List D} (r : RpA E H vs ds) (lo hi : Option Int) : RpA E H (cutV vs lo hi) (cutD ds lo hi) := by
  unfold cutV cutD
  rw [r.length]
  exact (r.drop _).take _
def sliceD (f : Ev) (lo hi : Evo) : Ev := fun Γ t => f Γ t >>= fun p => lo Γ p.2 >>= fun q => hi Γ q.2 >>= fun r => slD p.1 q.1 r.1 >>= fun z => some (z, r.2)
theorem rn_ex {E : Pk} {H H' : Hp} {tp : Option Addr} {t : Tape} {v : V} {d : D} (r : Rn E H v d) (x : Ex tp H H') (g : GOk E H tp t) : Rn E H' v d := by
  rcases r with r | ⟨l, ds, xs, rfl, rfl, hl, r⟩
  · exact .inl (r.fz (x.fz g))
  · by_cases ht : tp = some l
    · obtain ⟨c, hc, _⟩ := g l ht
      rw [hl] at hc
      cases hc
    · exact .inr ⟨l, ds, xs, rfl, rfl, x _ _ ht hl, r.fz (x.fz g)⟩
theorem xe_slice {lo hi : Option Expr} {f : Ev} {g h : Evo} {p2 : Pos} (ha : XR X a f) (hl : XO X lo g) (hh : XO X hi h) : XE X (.Subscript a (.Slice lo hi none p2) pos) (sliceD f g h) :=
  peImp (peFreeze (pe_slice (sl_list.or (sl_tupA.or sl_str)) ha hl hh)) fun σ H Q hq => by
    obtain ⟨tp, H0, t, Γ, d', t', S, hf, q⟩ := hq
    obtain ⟨⟨dx, t1⟩, h1, hf⟩ := bindO hf
    obtain ⟨⟨ol, t2⟩, h2, hf⟩ := bindO hf
    obtain ⟨⟨oh, t3⟩, h3, hf⟩ := bindO hf
    obtain ⟨z, h4, hf⟩ := bindO hf
    cases hf
    refine ⟨tp, H0, t, Γ, dx, t1, S, h1, fun v H1 x1 g1 r1 => ?_⟩
    have S1 := S.step x1 g1
    refine ⟨tp, H0, t1, Γ, ol, t2, S1, h2, fun H2 x2 g2 => ?_⟩
    have S2 := S1.step x2 g2
    refine ⟨tp, H0, t2, Γ, oh, _, S2, h3, fun H3 x3 g3 => ?_⟩
    have r3 := rn_ex (rn_ex r1 x2 g1) x3 g2
    have x13 := (x1.trans x2).trans x3
    cases dx with
    | list ds =>
      cases h4
      obtain ⟨p, xs, rfl, s, r⟩ := rn_sql r3
      exact .inl ⟨p, xs, rfl, s, fun p hp => frzK_list fun o => q _ _ (x13.trans (Ex.ofSame (frzNew hp))) (g3.same (frzNew hp)) (rp_newList hp (rpa_cut r ol oh))⟩
    | tuple ds =>
      cases h4
      cases rn_rp r3 (fun _ z => by cases z) with
      | @tup _ xs _ s r =>
        refine .inr (.inl ⟨_, _, rfl, s, fun hw => .inl (q _ _ x13 g3 ?_), fun hw p hp => .inl ?_⟩)
        · have hc : cutD ds ol oh = ds := by
            unfold cutD
            rw [← r.length, hw.1, hw.2, List.drop_zero, Nat.sub_zero, r.length, List.take_length]
          rw [hc]
          exact .tup s r
        · exact q _ _ (x13.trans (Ex.ofSame (same_upd hp))) (g3.same (same_upd hp)) (.tup (SqT.of upd_same) ((rpa_cut r ol oh).fz (sameFz (same_upd hp))))
    | str z =>
      simp only [slD] at h4
      split at h4
      · rename_i hz
        cases h4
        cases rn_rp r3 (fun _ z => by cases z)
        exact .inr (.inr ⟨z, rfl, hz, .inl (q _ _ x13 g3 (.str _))⟩)
      · cases h4
    | _ => cases h4

/-! ### calls of defs -/
/-- a def that is a function of its arguments -/
def spD (E : Pk) (F : List D → Option D) : Sp := fun vs H Q _ => ∃ ds d, RpA E H vs ds ∧ F ds = some d ∧ ∀ v H', Same H H' → Rp E H' v d → Q v H'
/-- a def whose first argument is the tape -/
def spT (E : Pk) (F : List D → Tape → Option (D × Tape)) : Sp := fun vs H Q _ => ∃ tau ws ds t d t', vs = .ref tau :: ws ∧ GOk E H (some tau) t ∧ RpA E H ws ds ∧ F ds t = some (d, t') ∧ ∀ v H', Ex (some tau) H H' → GOk E H' (some tau) t' → Rp E H' v d → Q v H'
structure DefOk (P : Program) (w : World) (K : PySem.W.Frag) (mg : Str → Option Value) (base : Heap) (x : Str) (k : Nat) (sp : Sp) : Prop where
  ex : ∃ f fd ps, FnOk P w K mg base CX0 k f fd ps sp ∧ mg x = some (.ref f) ∧ PySem.W.keepIn K (.ref f) = true ∧ Binds K fd ps []
abbrev XF (X : Cx) (x : Str) (k : Nat) (F : List D → Option D) : Prop := DefOk X.prog X.w X.K X.mg X.base x k (spD (pk X) F)
abbrev XFT (X : Cx) (x : Str) (k : Nat) (F : List D → Tape → Option (D × Tape)) : Prop := DefOk X.prog X.w X.K X.mg X.base x k (spT (pk X) F)
def callD (F : List D → Option D) (g : Eva) : Ev := fun Γ t => g Γ t >>= fun p => F p.1 >>= fun d => some (d, p.2)
def callT (F : List D → Tape → Option (D × Tape)) (i : Nat) (g : Eva) : Ev := fun Γ t => match Γ[i]? with
  | some .tp => g Γ t >>= fun p => F p.1 p.2
  | _ => none
theorem xe_call {k : Nat} {x : Str} {p : Pos} {F : List D → Option D} {g : Eva} (hF : XF X x k F) (hr : Room k X.A) (hg : Gl X x) (ha : XA X (e :: es) g) (hdb : (x == ("__debug__" : Str)) = false := by decide)
    (he : starEach (e :: es) X.env = (false, eval e X.env) :: starEach es X.env := by rfl) (hpl : (backTo pos (starEach es X.env)).any (·.1) = false := by rfl) : XE X (.Call (.Name x p) (e :: es) [] pos) (callD F g) := by
  obtain ⟨f, fd, ps, hf, hm, hk, hb⟩ := hF.ex
  refine peImp (pe_call hf hr hg hm hk hb .nil pass0 ha hdb he hpl) fun σ H Q h => ?_
  obtain ⟨tp, H0, t, Γ, d', t', S, hf, q⟩ := h
  obtain ⟨⟨ds, t1⟩, h1, hf⟩ := bindO hf
  obtain ⟨z, h2, hf⟩ := bindO hf
  cases hf
  refine ⟨tp, H0, t, Γ, ds, _, S, h1, fun vs H1 x1 g1 r1 => ?_⟩
  show spD (pk X) F (vs ++ []) H1 Q E0
  rw [List.append_nil]
  exact ⟨ds, _, r1, h2, fun v H2 s r => q v H2 (x1.trans (Ex.ofSame s)) (g1.same s) r⟩
theorem xe_call0 {k : Nat} {x : Str} {p : Pos} {F : List D → Option D} (hF : XF X x k F) (hr : Room k X.A) (hg : Gl X x) (hdb : (x == ("__debug__" : Str)) = false := by decide) : XE X (.Call (.Name x p) [] [] pos) (callD F aNil) := by
  obtain ⟨f, fd, ps, hf, hm, hk, hb⟩ := hF.ex
  refine peImp (pe_call0 hf hr hg hm hk hb .nil pass0 hdb) fun σ H Q h => ?_
  obtain ⟨tp, H0, t, Γ, d', t', S, hf, q⟩ := h
  obtain ⟨⟨ds, t1⟩, h1, hf⟩ := bindO hf
  obtain ⟨z, h2, hf⟩ := bindO hf
  cases hf
  cases h1
  exact ⟨[], _, .nil, h2, fun v H2 s r => q v H2 (Ex.ofSame s) (S.g.same s) r⟩
/-- f(tape, ..) -/
theorem xe_callT {k : Nat} {x y : Str} {p p2 : Pos} {F : List D → Tape → Option (D × Tape)} {g : Eva} (i : Nat) (hF : XFT X x k F) (hr : Room k X.A) (hg : Gl X x) (ha : XA X es g) (hN : X.N[i]? = some y := by rfl) (hv : Vis X.env.scope y := by first | exact Or.inl rfl | exact Or.inr (Or.inl rfl) | exact Or.inr (Or.inr rfl))
    (hyd : (y == ("__debug__" : Str)) = false := by decide) (hcd : (y == ("__classdict__" : Str)) = false := by decide) (hdb : (x == ("__debug__" : Str)) = false := by decide)
    (he : starEach (.Name y p2 :: es) X.env = (false, eval (.Name y p2) X.env) :: starEach es X.env := by rfl) (hpl : (backTo pos (starEach es X.env)).any (·.1) = false := by rfl) : XE X (.Call (.Name x p) (.Name y p2 :: es) [] pos) (callT F i g) := by
  obtain ⟨f, fd, ps, hf, hm, hk, hb⟩ := hF.ex
  refine peImp (pe_call hf hr hg hm hk hb .nil pass0 (pa_cons (pe_var hN hv hyd hcd) ha he) hdb he hpl) fun σ H Q h => ?_
  obtain ⟨tp, H0, t, Γ, d', t', S, hf, q⟩ := h
  unfold callT at hf
  split at hf
  · rename_i hi
    obtain ⟨⟨ds, t1⟩, h1, hf⟩ := bindO hf
    obtain ⟨tau, e1, e2⟩ := S.has i _ hi
    subst e2
    refine ⟨.ref tau, e1, some tau, H0, t, Γ, ds, _, S, h1, fun vs H1 x1 g1 r1 => ?_⟩
    show spT (pk X) F ((.ref tau :: vs) ++ []) H1 Q E0
    rw [List.append_nil]
    exact ⟨tau, vs, ds, t1, _, _, rfl, g1, r1, hf, fun v H2 x2 g2 r => q v H2 (x1.trans x2) g2 r⟩
  · cases hf

/-! ### what is walked -/
abbrev Evi := Env' → Tape → Option (List D × Tape)
/-- it gives the items ds, whatever is written meanwhile -/
structure JOk (E : Pk) (H : Hp) (J : It) (ds : List D) : Prop where
  ex : ∃ Y, Walk J ds.length (fun H' => Fz H H') Y ∧ ∀ i H1 x H2, i < ds.length → Fz H H1 → Y i H1 x H2 → Same H1 H2 ∧ ∃ d, ds[i]? = some d ∧ Rp E H2 x d
def tXI (E : Pk) (f : Evi) : TI := fun σ H R => ∃ tp H0 t Γ ds t', Sok E H0 tp t H σ Γ ∧ f Γ t = some (ds, t') ∧ ∀ J H', Ex tp H H' → GOk E H' tp t' → JOk E H' J ds → R J H'
abbrev XI (X : Cx) (tg iter : Expr) (f : Evi) : Prop := PI X tg iter (tXI (pk X) f)
theorem jok_list {E : Pk} {H : Hp} {p : Addr} {xs : List V} {ds : List D} (s : LsF E.K H p xs) (r : RpA E H xs ds) : JOk E H (Itl E.K p) ds := by
  refine ⟨YAt xs, r.length ▸ (walk_list (K := E.K) (a := p) (xs := xs)).mono (fun H' f => (s.fz f).sq) (fun i H1 x H2 _ _ y => y), fun i H1 x H2 _ f y => ?_⟩
  obtain ⟨rfl, h⟩ := y
  obtain ⟨d, h1, h2⟩ := r.get' h
  exact ⟨Same.refl _, d, h1, h2.fz f⟩
theorem jok_tup {E : Pk} {H : Hp} {p : Addr} {xs : List V} {ds : List D} (s : SqT E.K H p xs) (r : RpA E H xs ds) : JOk E H (Itt E.K p) ds := by
  refine ⟨YAt xs, r.length ▸ (walk_tup (K := E.K) (a := p) (xs := xs)).mono (fun H' f => sqt_fz s f) (fun i H1 x H2 _ _ y => y), fun i H1 x H2 _ f y => ?_⟩
  obtain ⟨rfl, h⟩ := y
  obtain ⟨d, h1, h2⟩ := r.get' h
  exact ⟨Same.refl _, d, h1, h2.fz f⟩
def strI (z : Str) : List D := z.cps.toList.map fun c => .str ⟨#[c]⟩
theorem jok_str {E : Pk} {H : Hp} {z : Str} : JOk E H (Its z) (strI z) := by
  have hl : z.cps.size = (strI z).length := by simp [strI]
  refine ⟨_, hl ▸ (walk_str (z := z)).mono (fun _ _ => trivial) (fun i H1 x H2 _ _ y => y), fun i H1 x H2 _ f y => ?_⟩
  obtain ⟨rfl, c, h, rfl⟩ := y
  refine ⟨Same.refl _, .str ⟨#[c]⟩, ?_, .str _⟩
  unfold strI
  rw [List.getElem?_map, Array.getElem?_toList, h]
  rfl
def seqD : D → Option (List D)
  | .list ds => some ds
  | .tuple ds => some ds
  | .str z => some (strI z)
  | _ => none
def iSeq (f : Ev) : Evi := fun Γ t => f Γ t >>= fun p => seqD p.1 >>= fun ds => some (ds, p.2)
theorem xi_seq {tg : Expr} {f : Ev} (ha : XE X a f) : XI X tg a (iSeq f) := by
  refine ⟨fun pn s sg hp R iv h => ?_⟩
  obtain ⟨tp, H0, t, Γ, ds, t', S, hf, q⟩ := h
  obtain ⟨⟨d, t1⟩, h1, hf⟩ := bindO hf
  obtain ⟨z, h2, hf⟩ := bindO hf
  cases hf
  cases d with
  | list ds =>
    cases h2
    refine (pi_list ha).run pn s sg hp R iv ⟨tp, H0, t, Γ, _, _, S, h1, fun v H1 x1 g1 r1 => ?_⟩
    cases r1 with
    | lst s r => exact ⟨_, rfl, ⟨_, s.sq⟩, q _ H1 x1 g1 (jok_list s r)⟩
  | tuple ds =>
    cases h2
    refine (pi_tup ha).run pn s sg hp R iv ⟨tp, H0, t, Γ, _, _, S, h1, fun v H1 x1 g1 r1 => ?_⟩
    cases r1 with
    | tup s r => exact ⟨_, rfl, ⟨_, s⟩, q _ H1 x1 g1 (jok_tup s r)⟩
  | str z =>
    cases h2
    refine (pi_str ha).run pn s sg hp R iv ⟨tp, H0, t, Γ, _, _, S, h1, fun v H1 x1 g1 r1 => ?_⟩
    cases r1
    exact ⟨_, rfl, q _ H1 x1 g1 jok_str⟩
  | _ => cases h2
def rngI (lo hi : Int) : List D := (List.range (hi - lo).toNat).map fun (k : Nat) => .int (lo + k)
theorem rngI_length (lo hi : Int) : (rngI lo hi).length = (hi - lo).toNat := by simp [rngI]
theorem rngI_get {lo hi : Int} {i : Nat} (h : i < (rngI lo hi).length) : (rngI lo hi)[i]? = some (.int (lo + i)) := by
  rw [rngI_length] at h
  unfold rngI
  rw [List.getElem?_map, List.getElem?_range h]
  rfl
theorem jok_rng {E : Pk} {H : Hp} {lo hi : Int} {n : Nat} (hn : n = (hi - lo).toNat) : JOk E H (Itr lo n) (rngI lo hi) := by
  subst hn
  refine ⟨YFn fun i => .int (lo + i), (rngI_length lo hi).symm ▸ (walk_range (lo := lo)).mono (fun _ _ => trivial) (fun i H1 x H2 _ _ y => y), fun i H1 x H2 hi f y => ?_⟩
  obtain ⟨rfl, rfl⟩ := y
  exact ⟨Same.refl _, _, rngI_get hi, .int _⟩
def smallR (i : Int) : Bool := decide (-(2 ^ 62) ≤ i) && decide (i < 2 ^ 62)
theorem xa_one {f : Ev} (ha : XE X a f) (hs : starEach [a] X.env = (false, eval a X.env) :: starEach [] X.env) : XA X [a] (aCons f aNil) := xa_cons ha xa_nil hs
def iRng1 (f : Ev) : Evi := fun Γ t => f Γ t >>= fun p => match p.1 with
  | .int j => if smallR j then some (rngI 0 j, p.2) else none
  | _ => none
def iRng2 (f g : Ev) : Evi := fun Γ t => f Γ t >>= fun p => g Γ p.2 >>= fun q => match p.1, q.1 with
  | .int i, .int j => if smallR i && smallR j then some (rngI i j, q.2) else none
  | _, _ => none
theorem xi_range1 {tg : Expr} {f : Ev} {p : Pos} (hg : Gl X "range") (hm : X.mg "range" = none) (ha : XE X a f) (hs : starEach [a] X.env = [(false, eval a X.env)] := by rfl) (hs2 : starEach [a] X.env = (false, eval a X.env) :: starEach [] X.env := by rfl) :
    XI X tg (.Call (.Name "range" p) [a] [] pos) (iRng1 f) := by
  refine ⟨fun pn s sg hp R iv h => (pi_range1 hg hm (pa_cons ha pa_nil hs2) hs).run pn s sg hp R iv ?_⟩
  obtain ⟨tp, H0, t, Γ, ds, t', S, hf, q⟩ := h
  obtain ⟨⟨d, t1⟩, h1, hf⟩ := bindO hf
  refine ⟨tp, H0, t, Γ, _, _, S, h1, fun v H1 x1 g1 r1 => ?_⟩
  cases r1 with
  | int j =>
    simp only at hf
    split at hf
    · rename_i hj
      cases hf
      rw [smallR, Bool.and_eq_true, decide_eq_true_eq, decide_eq_true_eq] at hj
      exact ⟨j, rfl, hj.1, hj.2, q _ H1 x1 g1 (jok_rng (by simp))⟩
    · cases hf
  | _ => cases hf
theorem xi_range2 {tg : Expr} {f g : Ev} {p : Pos} (hg : Gl X "range") (hm : X.mg "range" = none) (ha : XE X a f) (hb : XE X b g) (hs : starEach [a, b] X.env = [(false, eval a X.env), (false, eval b X.env)] := by rfl) (hs2 : starEach [b] X.env = [(false, eval b X.env)] := by rfl)
    (hs3 : starEach [a, b] X.env = (false, eval a X.env) :: starEach [b] X.env := by rfl) (hs4 : starEach [b] X.env = (false, eval b X.env) :: starEach [] X.env := by rfl) : XI X tg (.Call (.Name "range" p) [a, b] [] pos) (iRng2 f g) := by
  refine ⟨fun pn s sg hp R iv h => (pi_range2 hg hm (pa_cons ha (pa_cons hb pa_nil hs4) hs3) hs hs2).run pn s sg hp R iv ?_⟩
  obtain ⟨tp, H0, t, Γ, ds, t', S, hf, q⟩ := h
  obtain ⟨⟨d, t1⟩, h1, hf⟩ := bindO hf
  obtain ⟨⟨d2, t2⟩, h2, hf⟩ := bindO hf
  refine ⟨tp, H0, t, Γ, _, _, S, h1, fun v H1 x1 g1 r1 => ⟨tp, H0, t1, Γ, _, _, S.step x1 g1, h2, fun u H2 x2 g2 r2 => ?_⟩⟩
  cases r1 with
  | int i =>
    cases r2 with
    | int j =>
      simp only at hf
      split at hf
      · rename_i hj
        cases hf
        rw [Bool.and_eq_true, smallR, smallR, Bool.and_eq_true, Bool.and_eq_true, decide_eq_true_eq, decide_eq_true_eq, decide_eq_true_eq, decide_eq_true_eq] at hj
        exact ⟨i, j, rfl, ⟨hj.1.1, hj.1.2, hj.2.1, hj.2.2⟩, q _ H2 (x1.trans x2) g2 (jok_rng rfl)⟩
      · cases hf
    | _ => cases hf
  | _ => cases r2 <;> cases hf
/-- zip of two lists, of two tuples: pairs -/
def zipT : List D → List D → List D
  | x :: xs, y :: ys => .tuple [x, y] :: zipT xs ys
  | _, _ => []
theorem zipT_length : ∀ xs ys : List D, (zipT xs ys).length = min xs.length ys.length
  | [], _ => by simp [zipT]
  | _ :: _, [] => by simp [zipT]
  | x :: xs, y :: ys => by
    rw [zipT, List.length_cons, zipT_length xs ys, List.length_cons, List.length_cons]
    omega
theorem zipT_get : ∀ (xs ys : List D) (i : Nat) (x y : D), xs[i]? = some x → ys[i]? = some y → (zipT xs ys)[i]? = some (.tuple [x, y])
  | [], _, _, _, _, h, _ => by simp at h
  | _ :: _, [], _, _, _, _, h => by simp at h
  | a :: xs, b :: ys, 0, x, y, h, h' => by
    cases h
    cases h'
    rfl
  | a :: xs, b :: ys, i + 1, x, y, h, h' => zipT_get xs ys i x y h h'
theorem jok_pair {E : Pk} {H : Hp} {J : It} {n : Nat} {xs ys : List V} {ds es : List D} {zs : List D} (hn : n = zs.length) (w : Walk J n (fun H' => Fz H H') (YPair (fun i => xs[i]?) (fun i => ys[i]?))) (r : RpA E H xs ds) (r' : RpA E H ys es)
    (hz : ∀ (i : Nat) (x y : D), ds[i]? = some x → es[i]? = some y → zs[i]? = some (.tuple [x, y])) : JOk E H J zs := by
  subst hn
  refine ⟨_, w, fun i H1 v H2 hi f y => ?_⟩
  obtain ⟨T, x, y, rfl, hT, rfl, h1, h2⟩ := y
  obtain ⟨d1, e1, q1⟩ := r.get' h1
  obtain ⟨d2, e2, q2⟩ := r'.get' h2
  have s := same_upd (o := .tup [x, y]) hT
  exact ⟨s, _, hz i d1 d2 e1 e2, .tup (SqT.of upd_same) (.cons ((q1.fz f).fz (sameFz s)) (.cons ((q2.fz f).fz (sameFz s)) .nil))⟩
def iZip (f g : Ev) : Evi := fun Γ t => f Γ t >>= fun p => g Γ p.2 >>= fun q => match p.1, q.1 with
  | .list xs, .list ys => some (zipT xs ys, q.2)
  | .tuple xs, .tuple ys => some (zipT xs ys, q.2)
  | _, _ => none
theorem walk_zipT {K : PySem.W.Frag} {p q : Addr} {xs ys : List V} : Walk (RZ.ItzT K p q) (min xs.length ys.length) (fun H => SqT K H p xs ∧ SqT K H q ys) (YPair (fun i => xs[i]?) (fun i => ys[i]?)) := by
  refine ⟨fun i _ hi q => ?_, fun _ q => ⟨xs, ys, q.1, q.2, by omega⟩, fun i H v H' _ q y => ?_⟩
  · have h1 : i < xs.length := by omega
    have h2 : i < ys.length := by omega
    exact ⟨xs, ys, xs[i], ys[i], q.1, q.2, List.getElem?_eq_getElem h1, List.getElem?_eq_getElem h2⟩
  · obtain ⟨T, x, z, h1, h2, h3, h4, h5⟩ := y
    exact ⟨T, x, z, h1, h2, h3, h4 xs q.1, h5 ys q.2⟩
theorem xi_zip {f g : Ev} {p tpos : Pos} {elts : List Expr} {kk : Nat} (hg : Gl X "zip") (hm : X.mg "zip" = none) (ha : XE X a f) (hb : XE X b g) (hs : starEach [a, b] X.env = (false, eval a X.env) :: starEach [b] X.env := by rfl)
    (hs2 : starEach [b] X.env = (false, eval b X.env) :: starEach [] X.env := by rfl) (hpl : (backTo pos (starEach [b] X.env)).any (·.1) = false := by rfl) : XI X (.Tuple elts kk tpos) (.Call (.Name "zip" p) [a, b] [] pos) (iZip f g) := by
  refine ⟨fun pn s sg hp R iv h => (RZ.pi_zipA hg hm (pa_cons ha (pa_cons hb pa_nil hs2) hs) hs hpl).run pn s sg hp R iv ?_⟩
  obtain ⟨tp, H0, t, Γ, ds, t', S, hf, q⟩ := h
  obtain ⟨⟨d, t1⟩, h1, hf⟩ := bindO hf
  obtain ⟨⟨d2, t2⟩, h2, hf⟩ := bindO hf
  refine ⟨tp, H0, t, Γ, _, _, S, h1, fun v H1 x1 g1 r1 => ⟨tp, H0, t1, Γ, _, _, S.step x1 g1, h2, fun u H2 x2 g2 r2 => ?_⟩⟩
  cases d with
  | list xs =>
    cases d2 with
    | list ys =>
      cases hf
      cases r1 with
      | lst s1 a1 =>
        cases r2 with
        | lst s2 a2 =>
          have f2 := x2.fz g1
          refine ⟨_, _, _, _, rfl, .inl ⟨(s1.fz f2).sq, s2.sq, q _ H2 (x1.trans x2) g2 ?_⟩⟩
          exact jok_pair (by rw [zipT_length, a1.length, a2.length]) ((walk_zip rfl).mono (fun H' f => ⟨((s1.fz f2).fz f).sq, (s2.fz f).sq⟩) fun _ _ _ _ _ _ y => y) (a1.fz f2) a2 fun i x y e1 e2 => zipT_get _ _ i x y e1 e2
    | _ => cases hf
  | tuple xs =>
    cases d2 with
    | tuple ys =>
      cases hf
      cases r1 with
      | tup s1 a1 =>
        cases r2 with
        | tup s2 a2 =>
          have f2 := x2.fz g1
          refine ⟨_, _, _, _, rfl, .inr ⟨sqt_fz s1 f2, s2, q _ H2 (x1.trans x2) g2 ?_⟩⟩
          exact jok_pair (by rw [zipT_length, a1.length, a2.length]) (walk_zipT.mono (fun H' f => ⟨sqt_fz (sqt_fz s1 f2) f, sqt_fz s2 f⟩) fun _ _ _ _ _ _ y => y) (a1.fz f2) a2 fun i x y e1 e2 => zipT_get _ _ i x y e1 e2
    | _ => cases hf
  | _ => cases d2 <;> cases hf
end
end DL

set_option Elab.async false
set_option linter.all false
set_option maxRecDepth 100000
/-! DL6: targets, list comprehensions. -/
namespace DL
open PySem PySem.Spec L2
open PyProof.Rows hiding St

/-! ### targets: which slots get what -/
abbrev Tg := D → Option (List (Nat × D))
abbrev Tgs := List D → Option (List (Nat × D))
def setV (σ : St) (l : List (Nat × V)) : St := l.foldl (fun s p => s.set p.1 (some p.2)) σ
def setG (Γ : Env') (l : List (Nat × D)) : Env' := l.foldl (fun s p => s.set p.1 (.fz p.2)) Γ
def tXG (E : Pk) (g : Tg) : TG := fun v σ H Q => ∃ d l, Rp E H v d ∧ g d = some l ∧ ∀ lv : List (Nat × V), lv.map (·.1) = l.map (·.1) → RpA E H (lv.map (·.2)) (l.map (·.2)) → Q (setV σ lv) H
def tXGs (E : Pk) (g : Tgs) : TGs := fun vs σ H Q => ∃ ds l, RpA E H vs ds ∧ g ds = some l ∧ ∀ lv : List (Nat × V), lv.map (·.1) = l.map (·.1) → RpA E H (lv.map (·.2)) (l.map (·.2)) → Q (setV σ lv) H
abbrev XG (X : Cx) (tg : Expr) (g : Tg) : Prop := PG X tg (tXG (pk X) g)
abbrev XGs (X : Cx) (tgs : List Expr) (g : Tgs) : Prop := PGs X tgs (tXGs (pk X) g)
def gNm (i : Nat) : Tg := fun d => some [(i, d)]
def gsNil : Tgs := fun ds => match ds with
  | [] => some []
  | _ => none
def gsCons (g : Tg) (h : Tgs) : Tgs := fun ds => match ds with
  | d :: r => g d >>= fun l => h r >>= fun m => some (l ++ m)
  | [] => none
def gTp (n : Nat) (g : Tgs) : Tg := fun d => match d with
  | .tuple ds => if ds.length = n then g ds else none
  | _ => none
section
variable {X : Cx} {e a b c : Expr} {es rest : List Expr} {pos : Pos}
theorem pgImp {t u : TG} (h : PG X e t) (i : ∀ v σ H Q, u v σ H Q → t v σ H Q) : PG X e u := ⟨fun pn s sg hp v w Q iv r q => h.run pn s sg hp v w Q iv r (i _ _ _ _ q)⟩
theorem pgsImp {t u : TGs} (h : PGs X es t) (i : ∀ v σ H Q, u v σ H Q → t v σ H Q) : PGs X es u := ⟨fun pn s sg hp v w Q iv r q => h.run pn s sg hp v w Q iv r (i _ _ _ _ q)⟩
theorem xg_name (i : Nat) {x : Str} (hN : X.N.Nodup) (hi : X.N[i]? = some x := by rfl) (hx : Loc X.env.scope x := by first | exact Or.inl rfl | exact Or.inr rfl) (hf : X.fn x = true ∨ X.env.scope.names.lookup x = some .local := by first | exact .inl rfl | exact .inr rfl | assumption) : XG X (.Name x pos) (gNm i) :=
  pgImp (pg_name hN hi hx hf) fun v σ H Q h => by
    obtain ⟨d, l, r, hg, q⟩ := h
    cases hg
    exact q [(i, v)] rfl (.cons r .nil)
theorem xgs_nil : XGs X [] gsNil := pgsImp pgs_nil fun vs σ H Q h => by
  obtain ⟨ds, l, r, hg, q⟩ := h
  cases r with
  | nil => cases hg; exact ⟨rfl, q [] rfl .nil⟩
  | cons _ _ => cases hg
theorem setV_append (σ : St) (l m : List (Nat × V)) : setV σ (l ++ m) = setV (setV σ l) m := List.foldl_append
theorem xgs_cons {g : Tg} {h : Tgs} (h1 : XG X e g) (h2 : XGs X es h) (hs : (assignEach (e :: es) X.env).map (·.2) = assign e X.env :: (assignEach es X.env).map (·.2) := by rfl) : XGs X (e :: es) (gsCons g h) := pgsImp (pgs_cons h1 h2 hs) fun vs σ H Q hh => by
  obtain ⟨ds, l, r, hg, q⟩ := hh
  cases r with
  | nil => cases hg
  | cons r rs =>
    obtain ⟨l1, e1, hg⟩ := bindO hg
    obtain ⟨l2, e2, hg⟩ := bindO hg
    cases hg
    refine ⟨_, _, rfl, _, l1, r, e1, fun lv k1 k2 => ⟨_, l2, rs, e2, fun lw m1 m2 => ?_⟩⟩
    rw [← setV_append]
    exact q (lv ++ lw) (by rw [List.map_append, List.map_append, k1, m1]) (by rw [List.map_append, List.map_append]; exact k2.append m2)
theorem xg_tup {k n : Nat} {g : Tgs} (hc : X.calm = true) (h : XGs X es g) (hn : (assignEach es X.env).length = n := by rfl) (hst : (assignEach es X.env).findIdx? (·.1) = none := by rfl) : XG X (.Tuple es k pos) (gTp n g) := pgImp (pg_tup hc h hn hst) fun v σ H Q hh => by
  obtain ⟨d, l, r, hg, q⟩ := hh
  cases r with
  | @tup p xs ds s r =>
    simp only [gTp] at hg
    split at hg
    · rename_i hl
      exact ⟨p, xs, rfl, s, by rw [r.length]; exact hl, ds, l, r, hg, q⟩
    · cases hg
  | _ => cases hg
end
section
variable {E : Pk} {H H' H0 : Hp} {tp : Option Addr} {t t' : Tape} {σ : St} {Γ : Env'}
theorem sok_sets : ∀ {lv : List (Nat × V)} {l : List (Nat × D)} {σ : St} {Γ : Env'}, Sok E H0 tp t H σ Γ → lv.map (·.1) = l.map (·.1) → RpA E H (lv.map (·.2)) (l.map (·.2)) → Sok E H0 tp t H (setV σ lv) (setG Γ l)
  | [], [], _, _, S, _, _ => S
  | [], _ :: _, _, _, _, h, _ => by cases h
  | _ :: _, [], _, _, _, h, _ => by cases h
  | (i, v) :: lv, (j, d) :: l, σ, Γ, S, h, r => by
    rw [List.map_cons, List.map_cons] at h r
    obtain ⟨h1, h2⟩ := List.cons.inj h
    have h1 : i = j := h1
    subst h1
    cases r with
    | cons r rs =>
      show Sok E H0 tp t H (setV (σ.set i (some v)) lv) (setG (Γ.set i (.fz d)) l)
      exact sok_sets (S.set i r) h2 rs
def wipeG (Γ : Env') : List Nat → Env'
  | [] => Γ
  | i :: r => (wipeG Γ r).set i .no
theorem sok_no (S : Sok E H0 tp t H σ Γ) (i : Nat) : Sok E H0 tp t H (σ.set i none) (Γ.set i .no) := by
  refine ⟨S.ex, S.g, S.h0, by rw [List.length_set, List.length_set, S.len], fun j s e => ?_, fun j k d' e' a hjk h1 h2 h3 h4 => ?_⟩
  · by_cases hj : i = j
    · subst hj
      have hl : i < Γ.length := by
        have := (List.getElem?_eq_some_iff.mp e).1
        rwa [List.length_set] at this
      rw [List.getElem?_set_self hl] at e
      cases e
      trivial
    · rw [List.getElem?_set_ne hj] at e
      rw [List.getElem?_set_ne hj]
      exact S.has j s e
  · have ne : ∀ {j : Nat} {d : D}, (Γ.set i .no)[j]? = some (.mu d) → i ≠ j := fun {j d} h => by
      rintro rfl
      have hl : i < Γ.length := by
        have := (List.getElem?_eq_some_iff.mp h).1
        rwa [List.length_set] at this
      rw [List.getElem?_set_self hl] at h
      cases h
    have nj := ne h1
    have nk := ne h2
    rw [List.getElem?_set_ne nj] at h1 h3
    rw [List.getElem?_set_ne nk] at h2 h4
    exact S.sep j k d' e' a hjk h1 h2 h3 h4
theorem sok_wipe (S : Sok E H0 tp t H σ Γ) : ∀ vs : List Nat, Sok E H0 tp t H (wipe σ vs) (wipeG Γ vs)
  | [] => S
  | i :: r => sok_no (sok_wipe S r) i
/-- only these slots are touched -/
theorem wipe_set {i : Nat} {x : Option V} : ∀ {vs : List Nat} (σ : St), i ∈ vs → wipe (σ.set i x) vs = wipe σ vs
  | [], _, h => by cases h
  | j :: r, σ, h => by
    show (wipe (σ.set i x) r).set j none = (wipe σ r).set j none
    by_cases hj : i ∈ r
    · rw [wipe_set σ hj]
    · have hij : i = j := by
        rcases List.mem_cons.mp h with e | e
        · exact e
        · exact absurd e hj
      subst hij
      have key : ∀ (r : List Nat) (σ : St), i ∉ r → wipe (σ.set i x) r = (wipe σ r).set i x := by
        intro r
        induction r with
        | nil => intro σ _; rfl
        | cons k r ih =>
          intro σ hk
          show (wipe (σ.set i x) r).set k none = ((wipe σ r).set k none).set i x
          rw [ih σ (fun z => hk (List.mem_cons_of_mem _ z)), List.set_comm _ _ (show i ≠ k from fun z => hk (z ▸ List.mem_cons_self))]
      rw [key r σ hj, List.set_set]
theorem wipe_sets : ∀ {lv : List (Nat × V)} {vs : List Nat} (σ : St), (∀ p ∈ lv, p.1 ∈ vs) → wipe (setV σ lv) vs = wipe σ vs
  | [], _, _, _ => rfl
  | (i, v) :: lv, vs, σ, h => by
    show wipe (setV (σ.set i (some v)) lv) vs = wipe σ vs
    rw [wipe_sets _ fun p hp => h p (List.mem_cons_of_mem _ hp), wipe_set σ (h (i, v) List.mem_cons_self)]
theorem wipe_wipe (σ : St) : ∀ vs : List Nat, wipe (wipe σ vs) vs = wipe σ vs
  | [] => rfl
  | i :: r => by
    show (wipe ((wipe σ r).set i none) r).set i none = (wipe σ r).set i none
    by_cases h : i ∈ r
    · rw [wipe_set _ h, wipe_wipe σ r]
    · have key : ∀ (r : List Nat) (σ : St), i ∉ r → wipe (σ.set i none) r = (wipe σ r).set i none := by
        intro r
        induction r with
        | nil => intro σ _; rfl
        | cons k r ih =>
          intro σ hk
          show (wipe (σ.set i none) r).set k none = ((wipe σ r).set k none).set i none
          rw [ih σ (fun z => hk (List.mem_cons_of_mem _ z)), List.set_comm _ _ (show i ≠ k from fun z => hk (z ▸ List.mem_cons_self))]
      rw [key r _ h, wipe_wipe σ r, List.set_set]
/-- what a target touches -/
def TgIn (g : Tg) (vs : List Nat) : Prop := ∀ d l, g d = some l → ∀ p ∈ l, p.1 ∈ vs
def TgsIn (g : Tgs) (vs : List Nat) : Prop := ∀ d l, g d = some l → ∀ p ∈ l, p.1 ∈ vs
theorem tgIn_nm {i : Nat} {vs : List Nat} (h : i ∈ vs) : TgIn (gNm i) vs := fun d l e p hp => by
  cases e
  rw [List.mem_singleton] at hp
  subst hp
  exact h
theorem tgsIn_nil {vs : List Nat} : TgsIn gsNil vs := fun d l e p hp => by
  cases d with
  | nil => cases e; cases hp
  | cons _ _ => cases e
theorem tgsIn_cons {g : Tg} {h : Tgs} {vs : List Nat} (a : TgIn g vs) (b : TgsIn h vs) : TgsIn (gsCons g h) vs := fun d l e p hp => by
  cases d with
  | nil => cases e
  | cons d r =>
    obtain ⟨l1, e1, e⟩ := bindO e
    obtain ⟨l2, e2, e⟩ := bindO e
    cases e
    rcases List.mem_append.mp hp with q | q
    · exact a _ _ e1 p q
    · exact b _ _ e2 p q
theorem tgIn_tp {n : Nat} {g : Tgs} {vs : List Nat} (a : TgsIn g vs) : TgIn (gTp n g) vs := fun d l e p hp => by
  cases d with
  | tuple ds =>
    simp only [gTp] at e
    split at e
    · exact a _ _ e p hp
    · cases e
  | _ => cases e
theorem mem_of_map {l : List (Nat × D)} {lv : List (Nat × V)} {vs : List Nat} (h : lv.map (·.1) = l.map (·.1)) (k : ∀ p ∈ l, p.1 ∈ vs) : ∀ p ∈ lv, p.1 ∈ vs := fun p hp => by
  have : p.1 ∈ l.map (·.1) := h ▸ List.mem_map_of_mem hp
  obtain ⟨q, hq, e⟩ := List.mem_map.mp this
  rw [← e]
  exact k q hq
end

/-! ### list comprehensions -/
def bYes : Evb := fun _ t => some (true, t)
def lcLoop (tg : Tg) (cond : Evb) (elt : Ev) (Γ : Env') : List D → Tape → Option (List D × Tape)
  | [], t => some ([], t)
  | d :: ds, t => tg d >>= fun l => cond (setG Γ l) t >>= fun b => if b.1 then elt (setG Γ l) b.2 >>= fun p => lcLoop tg cond elt Γ ds p.2 >>= fun q => some (p.1 :: q.1, q.2) else lcLoop tg cond elt Γ ds b.2
def lcD (it : Evi) (own : List Nat) (tg : Tg) (cond : Evb) (elt : Ev) : Ev := fun Γ t => it Γ t >>= fun p => if p.1.length < sizeLine then lcLoop tg cond elt (wipeG Γ own) p.1 p.2 >>= fun q => some (.list q.1, q.2) else none
section
variable {X : Cx} {elt tg iter : Expr} {ifs : List Expr} {pos : Pos}
/-- the state of a comprehension's list at a turn -/
structure LcAt (E : Pk) (tp : Option Addr) (H1 : Hp) (Dd : Addr) (go : List D → Tape → Option (List D × Tape)) (ds out : List D) (tE : Tape) (i : Nat) (H : Hp) : Prop where
  ex : ∃ t vs acc more, H Dd = some (.lst vs) ∧ RpA E H vs acc ∧ Ex tp H1 H ∧ GOk E H tp t ∧ go (ds.drop i) t = some (more, tE) ∧ acc ++ more = out ∧ acc.length ≤ i
theorem fz_of {E : Pk} {tp : Option Addr} {t : Tape} {H1 H : Hp} (x : Ex tp H1 H) (g : GOk E H1 tp t) : Fz H1 H := x.fz g
theorem upd_ex {tp : Option Addr} {H1 H : Hp} {p : Addr} {o : HO} (x : Ex tp H1 H) (hp : H1 p = none) : Ex tp H1 (upd H p o) := fun b u hb e => by
  rw [upd_ne (ne_of_none e hp)]
  exact x b u hb e
theorem upd_fz {H : Hp} {p : Addr} {o : HO} {xs : List V} (hp : H p = some (.lst xs)) : Fz H (upd H p o) := by
  refine ⟨fun b ys e => ?_, fun b q u e => ?_⟩
  · rw [upd_ne (fun z => by rw [z, hp] at e; cases e)]
    exact e
  · rw [upd_ne (fun z => by rw [z, hp] at e; cases e)]
    exact e
theorem upd_g {E : Pk} {tp : Option Addr} {t : Tape} {H : Hp} {p : Addr} {o : HO} {xs : List V} (g : GOk E H tp t) (hp : H p = some (.lst xs)) : GOk E (upd H p o) tp t := fun b e => by
  obtain ⟨c, h1, h2⟩ := g b e
  refine ⟨c, ?_, h2.fz (upd_fz hp)⟩
  rw [upd_ne (fun z => by rw [z, hp] at h1; cases h1)]
  exact h1
theorem upd_g0 {E : Pk} {tp : Option Addr} {t : Tape} {H : Hp} {p : Addr} {o : HO} (g : GOk E H tp t) (hp : H p = none) : GOk E (upd H p o) tp t := g.same (same_upd hp)
theorem tp_ne {E : Pk} {tp : Option Addr} {t : Tape} {H : Hp} {p : Addr} (g : GOk E H tp t) (hp : H p = none) : tp ≠ some p := fun z => by
  obtain ⟨c, h, _⟩ := g p z
  rw [hp] at h
  cases h
theorem lc_imp {own : List Nat} {it : Evi} {g : Tg} {cond : Evb} {f : Ev} (hT : TgIn g own) {σ : St} {H : Hp} {Q : VK} (hq : tX (pk X) (lcD it own g cond f) σ H Q) : tLc (tXI (pk X) it) (tXG (pk X) g) (tXB (pk X) cond) (tX (pk X) f) own σ H (frzK Q) := by
  obtain ⟨tp, H0, t, Γ, d', t', S, hf, q⟩ := hq
  obtain ⟨⟨ds, t1⟩, h1, hf⟩ := bindO hf
  split at hf
  · rename_i hz
    obtain ⟨⟨out, tE⟩, h2, hf⟩ := bindO hf
    cases hf
    have hz : ds.length < sizeLine := hz
    refine ⟨tp, H0, t, Γ, ds, t1, S, h1, fun J H1 x1 g1 jj Dd hD => ?_⟩
    obtain ⟨Y, W, hY⟩ := jj.ex
    have S1 := S.step x1 g1
    refine lc_it (g := tXG (pk X) g) (te := tX (pk X) f) W (LcAt (pk X) tp H1 Dd (lcLoop g cond f (wipeG Γ (own))) ds out _) ⟨t1, [], [], out, upd_same, .nil, upd_ex (Ex.refl _ _) hD, upd_g0 g1 hD, h2, rfl, Nat.le_refl _⟩ (fun i H2 _ A => ?_) (fun i x H2 H3 hi A y => ?_) fun H2 A => ?_
    · obtain ⟨_, _, _, _, _, _, x2, _, _⟩ := A.ex
      exact x2.fz g1
    · obtain ⟨t2, vs, acc, more, eD, r, x2, g2, go, eo, la⟩ := A.ex
      obtain ⟨s3, d, hd, rd⟩ := hY i H2 x H3 hi (x2.fz g1) y
      rw [List.drop_eq_getElem_cons hi] at go
      rw [List.getElem?_eq_getElem hi] at hd
      cases hd
      obtain ⟨l, e1, go⟩ := bindO go
      have nD : tp ≠ some Dd := tp_ne g1 hD
      have g3 := g2.same s3
      have x3 : Ex tp H1 H3 := x2.trans (Ex.ofSame s3)
      have Sw := sok_wipe (S1.step x3 g3) (own)
      refine ⟨_, l, rd, e1, fun lv k1 k2 => ⟨wipe_sets _ (mem_of_map k1 (hT _ _ e1)) |>.trans ?_, ?_⟩⟩
      · exact wipe_wipe _ _
      · have St := sok_sets Sw k1 k2
        obtain ⟨⟨b, t4⟩, e2, go⟩ := bindO go
        refine ⟨tp, H0, t2, _, b, t4, St, e2, fun H4 x4 g4 => ?_⟩
        cases b with
        | true =>
          obtain ⟨⟨z, t5⟩, e3, go⟩ := bindO go
          obtain ⟨⟨ms, t6⟩, e4, go⟩ := bindO go
          cases go
          refine iteT ⟨tp, H0, t4, _, z, t5, St.step x4 g4, e3, fun v H5 x5 g5 r5 => ?_⟩
          have e5 : H5 Dd = some (.lst vs) := x5 _ _ nD (x4 _ _ nD (s3 _ _ eD))
          have f25 : Fz H2 H5 := ((sameFz s3).trans (x4.fz g3)).trans (x5.fz g4)
          refine ⟨vs, e5, by rw [r.length]; omega, ⟨t5, vs ++ [v], acc ++ [z], ms, upd_same, ?_, upd_ex ((x3.trans x4).trans x5) hD, upd_g g5 e5, e4, ?_, ?_⟩⟩
          · exact (((r.fz f25).append (.cons r5 .nil)).fz (upd_fz e5))
          · rw [List.append_assoc]; exact eo
          · rw [List.length_append]; exact Nat.succ_le_succ la
        | false =>
          refine iteF ⟨t4, vs, acc, more, x4 _ _ nD (s3 _ _ eD), r.fz ((sameFz s3).trans (x4.fz g3)), x3.trans x4, g4, go, eo, Nat.le_succ_of_le la⟩
    · obtain ⟨t2, vs, acc, more, eD, r, x2, g2, go, eo, la⟩ := A.ex
      rw [List.drop_length] at go
      cases go
      rw [List.append_nil] at eo
      subst eo
      refine .inr ⟨Dd, _, rfl, eD, .inl ⟨vs, rfl⟩, fun o => ?_⟩
      exact q _ _ (x1.trans (upd_ex x2 hD)) (upd_g g2 eD) (.lst (.of upd_same) (r.fz (upd_fz eD)))
  · cases hf
theorem xe_lc {scope : Scope} {own : List (Str × Nat)} {it : Evi} {g : Tg} {cond : Evb} {f : Ev} (hc : X.calm = true) (hN : X.N.Nodup) (hi : XI X tg iter it) (ok : BlkOk X.N X.env.scope scope own)
    (hg : ∀ (s : Shared) (H : Hp) (C : Addr) (cl : List (Str × Addr)) (fp : List Addr), XG (X.blk s H scope (compEnvC scope cl C X.env) fp) tg g) (hT : TgIn g (own.map (·.2)))
    (ht : ∀ (s : Shared) (H : Hp) (C : Addr) (cl : List (Str × Addr)) (fp : List Addr), PTs (X.blk s H scope (compEnvC scope cl C X.env) fp) ifs (tXB (pk X) cond))
    (he : ∀ (s : Shared) (H : Hp) (C : Addr) (cl : List (Str × Addr)) (fp : List Addr), XE (X.blk s H scope (compEnvC scope cl C X.env) fp) elt f) (hs : ∀ x, foldedSetIterable iter X.env x = pure x := by intro _; rfl) :
    XE X (.ListComp elt [⟨tg, iter, ifs, 0⟩] scope pos) (lcD it (own.map (·.2)) g cond f) := peImp (peFreeze (pe_lc hc hN hi ok hg ht he hs)) fun σ H Q hq => lc_imp hT hq
end
end DL

set_option Elab.async false
set_option linter.all false
set_option maxRecDepth 100000
/-! DL7: statements, loops, a def's promise. -/
namespace DL
open PySem PySem.Spec L2
open PyProof.Rows hiding St

inductive Res where
  | nx (Γ : Env') (t : Tape)
  | rt (d : D) (t : Tape)
  | bk (Γ : Env') (t : Tape)
  | ct (Γ : Env') (t : Tape)
abbrev Es := Env' → Tape → Option Res
def Post (E : Pk) (tp : Option Addr) (H0 H : Hp) (Dn : Ends) : Res → Prop
  | .nx Γ t => ∀ σ H', Fz H H' → Sok E H0 tp t H' σ Γ → Dn.nx σ H'
  | .rt d t => ∀ v H', Ex tp H0 H' → GOk E H' tp t → Rp E H' v d → Dn.rt v H'
  | .bk Γ t => ∀ σ H', Fz H H' → Sok E H0 tp t H' σ Γ → Dn.bk σ H'
  | .ct Γ t => ∀ σ H', Fz H H' → Sok E H0 tp t H' σ Γ → Dn.ct σ H'
def tXS (E : Pk) (f : Es) : TS := fun Dn σ H => ∃ tp H0 t Γ r, Sok E H0 tp t H σ Γ ∧ f Γ t = some r ∧ Post E tp H0 H Dn r
abbrev XS (X : Cx) (st : Stmt) (f : Es) : Prop := PS X st (tXS (pk X) f)
abbrev XSs (X : Cx) (st : List Stmt) (f : Es) : Prop := PSs X st (tXS (pk X) f)

section
variable {E : Pk} {H H' H0 : Hp} {tp : Option Addr} {t t' : Tape} {σ : St} {Γ : Env'}
/-- a slot gets a new object that is written here -/
theorem Sok.setMu (S : Sok E H0 tp t H σ Γ) {p : Addr} {d : D} (i : Nat) (x : Ex tp H H') (g : GOk E H' tp t') (hp : H p = none) (m : MuOk E H' p d) : Sok E H0 tp t' H' (σ.set i (some (.ref p))) (Γ.set i (.mu d)) := by
  have S1 := S.step x g
  have np : tp ≠ some p := tp_ne S.g hp
  have h0 : H0 p = none := S.ex.free hp np
  have old : ∀ {j : Nat} {d' : D} {b : Addr}, Γ[j]? = some (.mu d') → σ[j]? = some (some (.ref b)) → b ≠ p := fun {j d' b} e1 e2 z => by
    obtain ⟨b', q, _, mm⟩ := S.has j _ e1
    rw [e2] at q
    cases q
    subst z
    cases d' with
    | list ds => obtain ⟨xs, q, _⟩ := mm; rw [hp] at q; cases q
    | dict ds =>
      rcases mm with ⟨kvs, q, _⟩ | ⟨xs, q, _⟩
      · rw [hp] at q; cases q
      · rw [hp] at q; cases q
    | _ => exact mm
  refine ⟨S1.ex, S1.g, S1.h0, by rw [List.length_set, List.length_set, S1.len], fun j s e => ?_, fun j k d' e' a hjk h1 h2 h3 h4 => ?_⟩
  · by_cases hj : i = j
    · subst hj
      have hl : i < Γ.length := by
        have := (List.getElem?_eq_some_iff.mp e).1
        rwa [List.length_set] at this
      rw [List.getElem?_set_self hl] at e
      cases e
      rw [List.getElem?_set_self (by rw [S.len]; exact hl)]
      exact ⟨p, rfl, h0, m⟩
    · rw [List.getElem?_set_ne hj] at e
      rw [List.getElem?_set_ne hj]
      exact S1.has j s e
  · have val : ∀ {j : Nat} {d' : D}, i = j → (Γ.set i (.mu d))[j]? = some (.mu d') → (σ.set i (some (.ref p)))[j]? = some (some (.ref p)) := fun {j d'} hj h => by
      subst hj
      have hl : i < Γ.length := by
        have := (List.getElem?_eq_some_iff.mp h).1
        rwa [List.length_set] at this
      exact List.getElem?_set_self (by rw [S.len]; exact hl)
    by_cases hj : i = j
    · have v := val hj h1
      rw [h3] at v
      cases v
      have hk : i ≠ k := fun z => hjk (hj.symm.trans z)
      rw [List.getElem?_set_ne hk] at h2 h4
      exact old h2 h4 rfl
    · by_cases hk : i = k
      · have v := val hk h2
        rw [h4] at v
        cases v
        rw [List.getElem?_set_ne hj] at h1 h3
        exact old h1 h3 rfl
      · rw [List.getElem?_set_ne hj] at h1 h3
        rw [List.getElem?_set_ne hk] at h2 h4
        exact S.sep j k d' e' a hjk h1 h2 h3 h4
/-- the object of a slot is written -/
theorem Sok.wr (S : Sok E H0 tp t H σ Γ) {p : Addr} {d0 d : D} {i : Nat} {o : HO} (hΓ : Γ[i]? = some (.mu d0)) (hσ : σ[i]? = some (some (.ref p))) (f : Fz H (upd H p o)) (m : MuOk E (upd H p o) p d) : Sok E H0 tp t (upd H p o) σ (Γ.set i (.mu d)) := by
  obtain ⟨p', q, h0, _⟩ := S.has i _ hΓ
  rw [hσ] at q
  cases q
  have np : tp ≠ some p := fun z => S.h0 p z h0
  have hl : i < Γ.length := (List.getElem?_eq_some_iff.mp hΓ).1
  have keep : ∀ {b : Addr} {u : HO}, b ≠ p → H b = some u → upd H p o b = some u := fun {b u} n e => by rw [upd_ne n]; exact e
  refine ⟨fun b u hb e => ?_, fun b e => ?_, S.h0, by rw [List.length_set, S.len], fun j s e => ?_, fun j k d' e' a hjk h1 h2 h3 h4 => ?_⟩
  · exact keep (fun z => by rw [z, h0] at e; cases e) (S.ex b u hb e)
  · obtain ⟨c, h1, h2⟩ := S.g b e
    exact ⟨c, keep (fun z => np (z ▸ e)) h1, h2.fz f⟩
  · by_cases hj : i = j
    · subst hj
      rw [List.getElem?_set_self hl] at e
      cases e
      exact ⟨p, hσ, h0, m⟩
    · rw [List.getElem?_set_ne hj] at e
      have hs := S.has j s e
      cases s with
      | no => trivial
      | fz dd => obtain ⟨v, q1, q2⟩ := hs; exact ⟨v, q1, q2.fz f⟩
      | tp => exact hs
      | mu dd =>
        obtain ⟨b, q1, q2, mm⟩ := hs
        have nb : b ≠ p := fun z => S.sep i j d0 dd p hj hΓ e hσ (z ▸ q1)
        refine ⟨b, q1, q2, ?_⟩
        cases dd with
        | list ds => obtain ⟨xs, k1, k2⟩ := mm; exact ⟨xs, keep nb k1, k2.fz f⟩
        | dict ds =>
          rcases mm with ⟨kvs, k1, k2⟩ | ⟨xs, k1, k2⟩
          · exact .inl ⟨kvs, keep nb k1, k2.fz f⟩
          · exact .inr ⟨xs, keep nb k1, k2.fz f⟩
        | _ => exact mm
  · have old : ∀ {j : Nat} {d' : D}, (Γ.set i (.mu d))[j]? = some (.mu d') → ∃ d'', Γ[j]? = some (.mu d'') := fun {j d'} h => by
      by_cases hj : i = j
      · subst hj; exact ⟨_, hΓ⟩
      · rw [List.getElem?_set_ne hj] at h; exact ⟨_, h⟩
    obtain ⟨e1, k1⟩ := old h1
    obtain ⟨e2, k2⟩ := old h2
    exact S.sep j k e1 e2 a hjk k1 k2 h3 h4
end

section
variable {X : Cx} {st : Stmt} {e a b c : Expr} {es : List Expr} {rest body orelse : List Stmt} {pos : Pos}
theorem psImp {t u : TS} (h : PS X st t) (i : ∀ Dn σ H, u Dn σ H → t Dn σ H) : PS X st u := ⟨fun pn s sg hp Dn iv q => h.run pn s sg hp Dn iv (i _ _ _ q)⟩
theorem pssImp {t u : TS} (h : PSs X rest t) (i : ∀ Dn σ H, u Dn σ H → t Dn σ H) : PSs X rest u := ⟨fun pn s sg hp Dn iv q => h.run pn s sg hp Dn iv (i _ _ _ q)⟩
/-- an object is frozen behind a statement -/
def frzN (R : St → Hp → Prop) : St → Hp → Prop := fun σ H => R σ H ∨ ∃ p u, H p = some u ∧ ((∃ xs, u = .lst xs) ∨ (∃ kvs, u = .dK kvs) ∨ ∃ φ, u = .ext φ) ∧ ∀ o, R σ (upd H p (.frz o u))
theorem psFreeze {t : TS} (h : PS X st t) : PS X st (fun Dn σ H => t { Dn with nx := frzN Dn.nx } σ H) := by
  refine ⟨fun pn s sg hp Dn iv q => ?_⟩
  refine thn (h.run pn s sg hp _ iv q) fun f s1 q1 => ?_
  cases f with
  | next =>
    obtain ⟨σ', H', i1, q1⟩ := q1
    rcases q1 with q1 | ⟨p, u, hu, hw, q1⟩
    · exact ⟨σ', H', i1, q1⟩
    · obtain ⟨o, i2⟩ := inv_freeze i1 hu (by rcases hw with ⟨xs, rfl⟩ | ⟨kvs, rfl⟩ | ⟨φ, rfl⟩ <;> exact ⟨fun _ z => by (cases z), fun _ z => by (cases z), fun _ _ z => by (cases z), fun _ z => by (cases z)⟩)
      exact ⟨σ', _, i2, q1 o⟩
  | ret v => exact q1
  | brk => exact q1
  | cont => exact q1

/-! ### blocks -/
def sSkip : Es := fun Γ t => some (.nx Γ t)
def sSeq (f g : Es) : Es := fun Γ t => f Γ t >>= fun r => match r with
  | .nx Γ' t' => g Γ' t'
  | .rt d t' => some (.rt d t')
  | .bk Γ' t' => some (.bk Γ' t')
  | .ct Γ' t' => some (.ct Γ' t')
def sNever : Es := fun _ _ => none
theorem xss_nil : XSs X [] sSkip := pssImp pss_nil fun Dn σ H h => by
  obtain ⟨tp, H0, t, Γ, r, S, hf, q⟩ := h
  cases hf
  exact q σ H (Fz.refl H) S
theorem Post.fz {E : Pk} {tp : Option Addr} {H0 H H1 : Hp} {Dn : Ends} {r : Res} (p : Post E tp H0 H Dn r) (f : Fz H H1) : Post E tp H0 H1 Dn r := by
  cases r with
  | rt d t => exact p
  | nx Γ t => exact fun σ H' f' => p σ H' (f.trans f')
  | bk Γ t => exact fun σ H' f' => p σ H' (f.trans f')
  | ct Γ t => exact fun σ H' f' => p σ H' (f.trans f')
theorem xss_cons {f g : Es} (h1 : XS X st f) (h2 : XSs X rest g) : XSs X (st :: rest) (sSeq f g) := pssImp (pss_cons h1 h2) fun Dn σ H h => by
  obtain ⟨tp, H0, t, Γ, r, S, hf, q⟩ := h
  obtain ⟨r1, e1, hf⟩ := bindO hf
  refine ⟨tp, H0, t, Γ, r1, S, e1, ?_⟩
  cases r1 with
  | nx Γ1 t1 => exact fun σ1 H1 f1 S1 => ⟨tp, H0, t1, Γ1, r, S1, hf, q.fz f1⟩
  | rt d t1 => cases hf; exact q
  | bk Γ1 t1 => cases hf; exact q
  | ct Γ1 t1 => cases hf; exact q
theorem xss_one {f : Es} (h1 : XS X st f) : XSs X [st] f := pss_one h1
theorem xs_never : XS X st sNever := psImp ps_never fun Dn σ H h => by
  obtain ⟨tp, H0, t, Γ, r, S, hf, q⟩ := h
  cases hf
theorem xs_pass : XS X (.Pass pos) sSkip := psImp ps_pass fun Dn σ H h => by
  obtain ⟨tp, H0, t, Γ, r, S, hf, q⟩ := h
  cases hf
  exact q σ H (Fz.refl H) S
def sBrk : Es := fun Γ t => some (.bk Γ t)
def sCnt : Es := fun Γ t => some (.ct Γ t)
theorem xs_break : XS X (.Break pos) sBrk := psImp ps_break fun Dn σ H h => by
  obtain ⟨tp, H0, t, Γ, r, S, hf, q⟩ := h
  cases hf
  exact q σ H (Fz.refl H) S
theorem xs_continue : XS X (.Continue pos) sCnt := psImp ps_continue fun Dn σ H h => by
  obtain ⟨tp, H0, t, Γ, r, S, hf, q⟩ := h
  cases hf
  exact q σ H (Fz.refl H) S
def sRet (f : Ev) : Es := fun Γ t => f Γ t >>= fun p => some (.rt p.1 p.2)
theorem xs_ret {f : Ev} (h : XE X e f) : XS X (.Return (some e) pos) (sRet f) := psImp (ps_ret h) fun Dn σ H h => by
  obtain ⟨tp, H0, t, Γ, r, S, hf, q⟩ := h
  obtain ⟨⟨d, t1⟩, e1, hf⟩ := bindO hf
  cases hf
  exact ⟨tp, H0, t, Γ, d, t1, S, e1, fun v H' x g r => q v H' (S.ex.trans x) g r⟩
def sIf (c : Evb) (f g : Es) : Es := fun Γ t => c Γ t >>= fun p => if p.1 then f Γ p.2 else g Γ p.2
theorem xs_if {k : Evb} {f g : Es} (hc : XT X c k) (ha : XSs X body f) (hb : XSs X orelse g) : XS X (.If c body orelse pos) (sIf k f g) := psImp (ps_if hc ha hb) fun Dn σ H h => by
  obtain ⟨tp, H0, t, Γ, r, S, hf, q⟩ := h
  obtain ⟨⟨k1, t1⟩, e1, hf⟩ := bindO hf
  refine ⟨tp, H0, t, Γ, k1, t1, S, e1, fun H1 x1 g1 => ?_⟩
  cases k1 with
  | true => exact iteT ⟨tp, H0, t1, Γ, r, S.step x1 g1, hf, q.fz (x1.fz S.g)⟩
  | false => exact iteF ⟨tp, H0, t1, Γ, r, S.step x1 g1, hf, q.fz (x1.fz S.g)⟩

/-! ### assignments -/
theorem rpa2 {E : Pk} {H : Hp} {vs : List V} {ds : List D} (r : RpA E H vs ds) (h : ds.length = 2) : ∃ v w d e, vs = [v, w] ∧ ds = [d, e] ∧ Rp E H v d ∧ Rp E H w e := by
  cases r with
  | nil => cases h
  | cons a r => cases r with
    | nil => cases h
    | cons b r => cases r with
      | nil => exact ⟨_, _, _, _, rfl, rfl, a, b⟩
      | cons _ _ => simp at h
theorem rpa3 {E : Pk} {H : Hp} {vs : List V} {ds : List D} (r : RpA E H vs ds) (h : ds.length = 3) : ∃ v w u d e f, vs = [v, w, u] ∧ ds = [d, e, f] ∧ Rp E H v d ∧ Rp E H w e ∧ Rp E H u f := by
  cases r with
  | nil => cases h
  | cons a r => cases r with
    | nil => cases h
    | cons b r => cases r with
      | nil => cases h
      | cons c r => cases r with
        | nil => exact ⟨_, _, _, _, _, _, rfl, rfl, a, b, c⟩
        | cons _ _ => simp at h
def sSet (i : Nat) (f : Ev) : Es := fun Γ t => f Γ t >>= fun p => some (.nx (Γ.set i (.fz p.1)) p.2)
theorem xs_set (i : Nat) {x : Str} {p : Pos} {f : Ev} (hN : X.N.Nodup) (he : XE X e f) (hi : X.N[i]? = some x := by rfl) (hx : Loc X.env.scope x := by first | exact Or.inl rfl | exact Or.inr rfl) (hs : swapsWith e (some (.Name x p)) pos.line X.env = pure false := by rfl)
    (hf : X.fn x = true ∨ X.env.scope.names.lookup x = some .local := by first | exact .inl rfl | exact .inr rfl | assumption) : XS X (.Assign [.Name x p] e pos) (sSet i f) := psImp (ps_set hN hi hx he hs hf) fun Dn σ H h => by
  obtain ⟨tp, H0, t, Γ, r, S, hf, q⟩ := h
  obtain ⟨⟨d, t1⟩, e1, hf⟩ := bindO hf
  cases hf
  exact ⟨tp, H0, t, Γ, d, t1, S, e1, fun v H1 x1 g1 r1 => q _ _ (x1.fz S.g) ((S.step x1 g1).set i r1)⟩
/-- a, b, .. = e -/
def sTgt (g : Tg) (f : Ev) : Es := fun Γ t => f Γ t >>= fun p => g p.1 >>= fun l => some (.nx (setG Γ l) p.2)
theorem xs_tgt {tg : Expr} {g : Tg} {f : Ev} (he : XE X e f) (hg : XG X tg g) (hs : swapsWithSole [tg] e pos.line X.env = pure false := by rfl) (hw : swappedStores [tg] e X.env = pure none := by rfl)
    (h1 : (assignEach [tg] X.env).map (·.2) = [assign tg X.env] := by rfl) : XS X (.Assign [tg] e pos) (sTgt g f) := psImp (ps_asg he hg hs hw h1) fun Dn σ H h => by
  obtain ⟨tp, H0, t, Γ, r, S, hf, q⟩ := h
  obtain ⟨⟨d, t1⟩, e1, hf⟩ := bindO hf
  obtain ⟨l, e2, hf⟩ := bindO hf
  cases hf
  exact ⟨tp, H0, t, Γ, d, t1, S, e1, fun v H1 x1 g1 r1 => ⟨d, l, r1, e2, fun lv k1 k2 => q _ _ (x1.fz S.g) (sok_sets (S.step x1 g1) k1 k2)⟩⟩
/-- a, b = x, y by names -/
def sPar (is : List Nat) (f : Eva) : Es := fun Γ t => f Γ t >>= fun p => if p.1.length = is.length then some (.nx (setG Γ (is.zip p.1)) p.2) else none
theorem xs_par2 (i j : Nat) {x y : Str} {f : Eva} {px py pt : Pos} {kt k2 pt2} (hc : X.calm = true) (hN : X.N.Nodup) (ha : XA X [a, b] f) (hi : X.N[i]? = some x := by rfl) (hj : X.N[j]? = some y := by rfl) (hij : i ≠ j := by decide)
    (hx : X.env.scope.names.lookup x = some .local := by rfl) (hy : X.env.scope.names.lookup y = some .local := by rfl)
    (hw : swappedStores [.Tuple [.Name x px, .Name y py] kt pt] (.Tuple [a, b] k2 pt2) X.env = pure (some [x, y]) := by rfl)
    (hs : swapsWithSole [.Tuple [.Name x px, .Name y py] kt pt] (.Tuple [a, b] k2 pt2) pos.line X.env = pure false := by rfl) : XS X (.Assign [.Tuple [.Name x px, .Name y py] kt pt] (.Tuple [a, b] k2 pt2) pos) (sPar [i, j] f) :=
  psImp (ps_par hc hN hi hj hij hx hy ha hw hs) fun Dn σ H h => by
    obtain ⟨tp, H0, t, Γ, r, S, hf, q⟩ := h
    obtain ⟨⟨ds, t1⟩, e1, hf⟩ := bindO hf
    split at hf
    · rename_i hl
      cases hf
      refine ⟨tp, H0, t, Γ, ds, t1, S, e1, fun vs H1 x1 g1 r1 => ?_⟩
      obtain ⟨v, w, d1, d2, rfl, rfl, a1, a2⟩ := rpa2 r1 hl
      exact ⟨v, w, rfl, q _ _ (x1.fz S.g) (sok_sets (lv := [(i, v), (j, w)]) (l := [(i, d1), (j, d2)]) (S.step x1 g1) rfl (.cons a1 (.cons a2 .nil)))⟩
    · cases hf
theorem xs_par3 (i j l : Nat) {x y z : Str} {f : Eva} {px py pz pt : Pos} {kt k2 pt2} (hc : X.calm = true) (hN : X.N.Nodup) (ha : XA X [a, b, c] f) (hi : X.N[i]? = some x := by rfl) (hj : X.N[j]? = some y := by rfl) (hl : X.N[l]? = some z := by rfl) (hij : i ≠ j := by decide) (hil : i ≠ l := by decide) (hjl : j ≠ l := by decide)
    (hx : X.env.scope.names.lookup x = some .local := by rfl) (hy : X.env.scope.names.lookup y = some .local := by rfl) (hz : X.env.scope.names.lookup z = some .local := by rfl)
    (hw : swappedStores [.Tuple [.Name x px, .Name y py, .Name z pz] kt pt] (.Tuple [a, b, c] k2 pt2) X.env = pure (some [x, y, z]) := by rfl)
    (hs : swapsWithSole [.Tuple [.Name x px, .Name y py, .Name z pz] kt pt] (.Tuple [a, b, c] k2 pt2) pos.line X.env = pure false := by rfl) : XS X (.Assign [.Tuple [.Name x px, .Name y py, .Name z pz] kt pt] (.Tuple [a, b, c] k2 pt2) pos) (sPar [i, j, l] f) :=
  psImp (ps_par3 hc hN hi hj hl hij hil hjl hx hy hz ha hw hs) fun Dn σ H h => by
    obtain ⟨tp, H0, t, Γ, r, S, hf, q⟩ := h
    obtain ⟨⟨ds, t1⟩, e1, hf⟩ := bindO hf
    split at hf
    · rename_i hl
      cases hf
      refine ⟨tp, H0, t, Γ, ds, t1, S, e1, fun vs H1 x1 g1 r1 => ?_⟩
      obtain ⟨v, w, u, d1, d2, d3, rfl, rfl, a1, a2, a3⟩ := rpa3 r1 hl
      exact ⟨v, w, u, rfl, q _ _ (x1.fz S.g) (sok_sets (lv := [(i, v), (j, w), (l, u)]) (l := [(i, d1), (j, d2), (l, d3)]) (S.step x1 g1) rfl (.cons a1 (.cons a2 (.cons a3 .nil))))⟩
    · cases hf

/-! ### objects that are written here -/
def tXM (E : Pk) (f : Ev) : TE := fun σ H Q => ∃ tp H0 t Γ d t', Sok E H0 tp t H σ Γ ∧ f Γ t = some (d, t') ∧ ∀ p H', Ex tp H H' → GOk E H' tp t' → H p = none → MuOk E H' p d → Q (.ref p) H'
/-- e makes a new object, not frozen -/
abbrev XM (X : Cx) (e : Expr) (f : Ev) : Prop := PE X e (tXM (pk X) f)
def sMu (i : Nat) (f : Ev) : Es := fun Γ t => f Γ t >>= fun p => some (.nx (Γ.set i (.mu p.1)) p.2)
theorem xs_mu (i : Nat) {x : Str} {p : Pos} {f : Ev} (hN : X.N.Nodup) (he : XM X e f) (hi : X.N[i]? = some x := by rfl) (hx : Loc X.env.scope x := by first | exact Or.inl rfl | exact Or.inr rfl) (hs : swapsWith e (some (.Name x p)) pos.line X.env = pure false := by rfl)
    (hf : X.fn x = true ∨ X.env.scope.names.lookup x = some .local := by first | exact .inl rfl | exact .inr rfl | assumption) : XS X (.Assign [.Name x p] e pos) (sMu i f) := psImp (ps_set hN hi hx he hs hf) fun Dn σ H h => by
  obtain ⟨tp, H0, t, Γ, r, S, hf, q⟩ := h
  obtain ⟨⟨d, t1⟩, e1, hf⟩ := bindO hf
  cases hf
  exact ⟨tp, H0, t, Γ, d, t1, S, e1, fun p H1 x1 g1 hp m => q _ _ (x1.fz S.g) (S.setMu i x1 g1 hp m)⟩
theorem xm_lst {f : Eva} (h : XA X es f) : XM X (.List es pos) (vLst f) := peImp (pe_lst h) fun σ H Q h => by
  obtain ⟨tp, H0, t, Γ, d', t', S, hf, q⟩ := h
  obtain ⟨⟨ds, t1⟩, h1, hf⟩ := bindO hf
  split at hf
  · rename_i hl
    cases hf
    refine ⟨tp, H0, t, Γ, ds, t1, S, h1, fun vs H1 x1 g1 r1 => ⟨by rw [r1.length]; exact line1000 hl, fun p hp => ?_⟩⟩
    exact q p _ (x1.trans (Ex.ofSame (same_upd hp))) (upd_g0 g1 hp) (x1.free hp (tp_ne g1 hp)) ⟨vs, upd_same, r1.fz (sameFz (same_upd hp))⟩
  · cases hf
/-- x.append(e) -/
def sApp (i : Nat) (f : Ev) : Es := fun Γ t => f Γ t >>= fun p => match Γ[i]? with
  | some (.mu (.list ds)) => if ds.length < sizeLine then some (.nx (Γ.set i (.mu (.list (ds ++ [p.1])))) p.2) else none
  | _ => none
theorem xs_app (i : Nat) {x : Str} {p apos cpos : Pos} {f : Ev} (ha : XE X e f) (hN : X.N[i]? = some x := by rfl) (hv : Vis X.env.scope x := by first | exact Or.inl rfl | exact Or.inr (Or.inl rfl) | exact Or.inr (Or.inr rfl)) (hd : (x == ("__debug__" : Str)) = false := by decide)
    (hcd : (x == ("__classdict__" : Str)) = false := by decide) (hbase : attributeBase (.Name x p) "append" X.env (eval (.Name x p) X.env) = eval (.Name x p) X.env := by rfl)
    (hfew : ((backTo cpos (starEach [e] X.env)).all (fun x => !x.1) && (backToKw cpos (keywordEach [] X.env)).all (fun x => x.1.isSome)
      && decide ([e].length + ([] : List Keyword).length + (if ([] : List Keyword).isEmpty then 0 else 1) < 30)) = true := by rfl)
    (hline : (apos.endLine == cpos.line) = true := by rfl) (hs : starEach [e] X.env = (false, eval e X.env) :: starEach [] X.env := by rfl) (hplain : (backTo cpos (starEach [] X.env)).any (·.1) = false := by rfl)
    (hsw : swapsWith (.Call (.Attribute (.Name x p) "append" apos) [e] [] cpos) none pos.line X.env = pure false := by rfl) : XS X (.Expr (.Call (.Attribute (.Name x p) "append" apos) [e] [] cpos) pos) (sApp i f) :=
  psImp (ps_expr (pe_bm PySem.F.plainAttrs_list PySem.F.slot_list_append PySem.F.type_list_append mt_append (pe_var hN hv hd hcd) (pa_cons ha pa_nil hs) hbase hfew hline hs hplain) hsw) fun Dn σ H h => by
    obtain ⟨tp, H0, t, Γ, r, S, hf, q⟩ := h
    obtain ⟨⟨d, t1⟩, h1, hf⟩ := bindO hf
    split at hf
    · rename_i ds hi
      split at hf
      · rename_i hz
        cases hf
        obtain ⟨a, e1, n, xs, m, r⟩ := S.has i _ hi
        refine ⟨_, e1, .inl ⟨rfl, _, SqL.of m⟩, tp, H0, t, Γ, d, t1, S, h1, fun v H1 x1 g1 r1 => ?_⟩
        have S1 := S.step x1 g1
        obtain ⟨a', e1', n', xs', m', r'⟩ := S1.has i _ hi
        rw [e1] at e1'
        cases e1'
        have f1 := upd_fz (o := .lst (xs' ++ [v])) m'
        exact ⟨a, xs', v, rfl, rfl, m', by rw [r'.length]; exact hz, q _ _ ((x1.fz S.g).trans f1) (S1.wr hi e1 f1 ⟨_, upd_same, (r'.append (.cons r1 .nil)).fz f1⟩)⟩
      · cases hf
    · cases hf

/-! ### loops -/
def forL (g : Tg) (body : Es) : List D → Env' → Tape → Option Res
  | [], Γ, t => some (.nx Γ t)
  | d :: ds, Γ, t => g d >>= fun l => body (setG Γ l) t >>= fun r => match r with
    | .nx Γ' t' => forL g body ds Γ' t'
    | .ct Γ' t' => forL g body ds Γ' t'
    | .bk Γ' t' => some (.nx Γ' t')
    | .rt d t' => some (.rt d t')
def sFor (it : Evi) (g : Tg) (body : Es) : Es := fun Γ t => it Γ t >>= fun p => forL g body p.1 Γ p.2
theorem xs_for {tg iter : Expr} {it : Evi} {g : Tg} {f : Es} (hp : PassesOwn (model X.prog X.w) X.A X.env X.xe) (hc : X.calm = true) (hi : XI X tg iter it) (hg : XG X tg g) (hb : XSs X body f) (hs : ∀ x, foldedSetIterable iter X.env x = pure x := by intro _; rfl) :
    XS X (.For tg iter body [] pos) (sFor it g f) := psImp (ps_for hp hc hi hg hb hs) fun Dn σ H h => by
  obtain ⟨tp, H0, t, Γ, r, S, hf, q⟩ := h
  obtain ⟨⟨ds, t1⟩, h1, hf⟩ := bindO hf
  refine ⟨tp, H0, t, Γ, ds, t1, S, h1, fun J H1 x1 g1 jj => ?_⟩
  obtain ⟨Y, W, hY⟩ := jj.ex
  have q1 := q.fz (x1.fz S.g)
  refine for_it (g := tXG (pk X) g) (tb := tXS (pk X) f) W (fun i σ2 H2 => ∃ t2 Γ2, Sok (pk X) H0 tp t2 H2 σ2 Γ2 ∧ Fz H1 H2 ∧ forL g f (ds.drop i) Γ2 t2 = some r) ⟨t1, Γ, S.step x1 g1, Fz.refl _, hf⟩ (fun i σ2 H2 _ A => ?_) (fun i x σ2 H2 H3 hi A y => ?_) fun σ2 H2 A => ?_
  · obtain ⟨_, _, _, f2, _⟩ := A
    exact f2
  · obtain ⟨t2, Γ2, S2, f2, go⟩ := A
    obtain ⟨s3, d, hd, rd⟩ := hY i H2 x H3 hi f2 y
    rw [List.drop_eq_getElem_cons hi] at go
    rw [List.getElem?_eq_getElem hi] at hd
    cases hd
    obtain ⟨l, e1, go⟩ := bindO go
    have f3 := f2.trans (sameFz s3)
    refine ⟨_, l, rd, e1, fun lv k1 k2 => ?_⟩
    have S4 := sok_sets (S2.same s3) k1 k2
    obtain ⟨r4, e2, go⟩ := bindO go
    refine ⟨tp, H0, t2, _, r4, S4, e2, ?_⟩
    cases r4 with
    | nx Γ5 t5 => exact fun σ5 H5 f5 S5 => ⟨t5, Γ5, S5, f3.trans f5, go⟩
    | ct Γ5 t5 => exact fun σ5 H5 f5 S5 => ⟨t5, Γ5, S5, f3.trans f5, go⟩
    | bk Γ5 t5 =>
      cases go
      exact fun σ5 H5 f5 S5 => q1 σ5 H5 (f3.trans f5) S5
    | rt d t5 =>
      cases go
      exact fun v H5 x5 g5 r5 => q1 v H5 x5 g5 r5
  · obtain ⟨t2, Γ2, S2, f2, go⟩ := A
    rw [List.drop_length] at go
    cases go
    exact q1 σ2 H2 f2 S2
def whL (c : Evb) (body : Es) : Nat → Env' → Tape → Option Res
  | 0, _, _ => none
  | n + 1, Γ, t => c Γ t >>= fun b => if b.1 then body Γ b.2 >>= fun r => match r with
    | .nx Γ' t' => whL c body n Γ' t'
    | .ct Γ' t' => whL c body n Γ' t'
    | .bk Γ' t' => some (.nx Γ' t')
    | .rt d t' => some (.rt d t')
    else some (.nx Γ b.2)
/-- while: at most so many turns -/
def sWhile (n : Nat) (c : Evb) (body : Es) : Es := whL c body n
theorem xs_while (n : Nat) {k : Evb} {f : Es} (hp : PassesOwn (model X.prog X.w) X.A X.env X.xe) (hc : XT X c k) (hb : XSs X body f) : XS X (.While c body [] pos) (sWhile n k f) := psImp (ps_while hp hc hb) fun Dn σ H h => by
  obtain ⟨tp, H0, t, Γ, r, S, hf, q⟩ := h
  refine ⟨fun m σ2 H2 => ∃ t2 Γ2, Sok (pk X) H0 tp t2 H2 σ2 Γ2 ∧ Fz H H2 ∧ whL k f m Γ2 t2 = some r, ⟨n, t, Γ, S, Fz.refl _, hf⟩, fun m σ2 H2 A => ?_⟩
  obtain ⟨t2, Γ2, S2, f2, go⟩ := A
  cases m with
  | zero => cases go
  | succ m =>
    obtain ⟨⟨b, t3⟩, e1, go⟩ := bindO go
    refine ⟨tp, H0, t2, Γ2, b, t3, S2, e1, fun H3 x3 g3 => ?_⟩
    have S3 := S2.step x3 g3
    have f3 := f2.trans (x3.fz S2.g)
    cases b with
    | true =>
      obtain ⟨r4, e2, go⟩ := bindO go
      refine iteT ⟨fun σ5 H5 => ∃ t5 Γ5, Sok (pk X) H0 tp t5 H5 σ5 Γ5 ∧ Fz H H5 ∧ whL k f m Γ5 t5 = some r, fun σ5 H5 A => ⟨m, Nat.lt_succ_self m, A⟩, tp, H0, t3, Γ2, r4, S3, e2, ?_⟩
      cases r4 with
      | nx Γ5 t5 => exact fun σ5 H5 f5 S5 => ⟨t5, Γ5, S5, f3.trans f5, go⟩
      | ct Γ5 t5 => exact fun σ5 H5 f5 S5 => ⟨t5, Γ5, S5, f3.trans f5, go⟩
      | bk Γ5 t5 =>
        cases go
        exact fun σ5 H5 f5 S5 => q σ5 H5 (f3.trans f5) S5
      | rt d t5 =>
        cases go
        exact fun v H5 x5 g5 r5 => q v H5 x5 g5 r5
    | false =>
      cases go
      exact iteF (q σ2 H3 f3 S3)
end

/-! ### defs -/
def tape0 : Tape := ⟨[], 0, 0, 0, 0⟩
def fnD (n N : Nat) (body : Es) : List D → Option D := fun ds => if ds.length = n then body (ds.map .fz ++ List.replicate (N - n) .no) tape0 >>= fun r => match r with
  | .rt d _ => some d
  | .nx _ _ => some .none
  | _ => none
  else none
/-- the tape first -/
def fnT (n N : Nat) (body : Es) : List D → Tape → Option (D × Tape) := fun ds t => if ds.length + 1 = n then body (.tp :: ds.map .fz ++ List.replicate (N - n) .no) t >>= fun r => match r with
  | .rt d t' => some (d, t')
  | .nx _ t' => some (.none, t')
  | _ => none
  else none
section
variable {P : Program} {w : World} {K : PySem.W.Frag} {mg : Str → Option Value} {base : Heap}
theorem has_fz {E : Pk} {H : Hp} {tp : Option Addr} {vs : List V} {ds : List D} (r : RpA E H vs ds) (m : Nat) : ∀ (i : Nat) (s : Slot), (ds.map Slot.fz ++ List.replicate m .no)[i]? = some s → SlotOk E H H tp s ((vs.map some ++ List.replicate m none)[i]?) := fun i s e => by
  by_cases hi : i < ds.length
  · rw [List.getElem?_append_left (by rw [List.length_map]; exact hi), List.getElem?_map, List.getElem?_eq_getElem hi] at e
    cases e
    obtain ⟨v, h1, h2⟩ := r.get (List.getElem?_eq_getElem hi)
    refine ⟨v, ?_, h2⟩
    rw [List.getElem?_append_left (by rw [List.length_map, r.length]; exact hi), List.getElem?_map, h1]
    rfl
  · rw [List.getElem?_append_right (by rw [List.length_map]; omega)] at e
    have := List.mem_of_getElem? e
    rw [List.mem_replicate] at this
    rw [this.2]
    trivial
theorem no_mu {l : List Slot} (h : ∀ s ∈ l, ∀ d, s ≠ .mu d) {i : Nat} {d : D} (e : l[i]? = some (.mu d)) : False := h _ (List.mem_of_getElem? e) d rfl
theorem sok_start {E : Pk} {H : Hp} {vs : List V} {ds : List D} {N : List Str} {n : Nat} (r : RpA E H vs ds) (hn : ds.length = n) : Sok E H none tape0 H (L2.start N vs) (ds.map .fz ++ List.replicate (N.length - n) .no) := by
  have hl := r.length
  refine ⟨Ex.refl _ _, GOk.none, (fun _ z => nomatch z), ?_, ?_, fun i j d e a _ h1 _ _ _ => ?_⟩
  · unfold L2.start
    rw [List.length_append, List.length_append, List.length_map, List.length_map, List.length_replicate, List.length_replicate, hl, hn]
  · unfold L2.start
    rw [hl, hn]
    exact has_fz r _
  · refine no_mu (fun s hs d => ?_) h1
    rcases List.mem_append.mp hs with z | z
    · obtain ⟨x, _, rfl⟩ := List.mem_map.mp z
      exact fun q => nomatch q
    · rw [List.mem_replicate] at z
      rw [z.2]
      exact fun q => nomatch q
theorem sok_startT {E : Pk} {H : Hp} {tau : Addr} {t : Tape} {vs : List V} {ds : List D} {N : List Str} {n : Nat} (g : GOk E H (some tau) t) (r : RpA E H vs ds) (hn : ds.length + 1 = n) : Sok E H (some tau) t H (L2.start N (.ref tau :: vs)) (.tp :: ds.map .fz ++ List.replicate (N.length - n) .no) := by
  have hl := r.length
  refine ⟨Ex.refl _ _, g, fun a z => ?_, ?_, ?_, fun i j d e a _ h1 _ _ _ => ?_⟩
  · cases z
    obtain ⟨c, h, _⟩ := g tau rfl
    rw [h]
    exact fun q => nomatch q
  · unfold L2.start
    simp only [List.length_append, List.length_map, List.length_replicate, List.length_cons, hl]
    omega
  · intro i s e
    unfold L2.start
    rw [List.length_cons, hl, hn]
    cases i with
    | zero =>
      cases e
      exact ⟨tau, rfl, rfl⟩
    | succ i => exact has_fz r _ i s e
  · refine no_mu (fun s hs d => ?_) h1
    rcases List.mem_append.mp hs with z | z
    · rcases List.mem_cons.mp z with z | z
      · rw [z]; exact fun q => nomatch q
      · obtain ⟨x, _, rfl⟩ := List.mem_map.mp z
        exact fun q => nomatch q
    · rw [List.mem_replicate] at z
      rw [z.2]
      exact fun q => nomatch q
/-- a def keeps its promise -/
theorem def_fn {x qual : Str} {st : Stmt} {f : Addr} {fd : FuncData} {N ps : List Str} {k : Nat} {g : Es} (F : Fun K x qual st f fd) (S : FnScope N ps (defScope st))
    (h : ∀ (X : Cx), (∃ cdv A outer s H E, X = (cxOf CX0 P w K mg base N qual (defScope st) f cdv A outer s H E).nox) → Room k X.A → XSs X (defBody st) g) : FnOk P w K mg base CX0 (k + 1) f fd ps (spD ⟨P, w, K⟩ (fnD ps.length N.length g)) := by
  refine F.ok S (fun vs H Q E q => ?_) (fun cdv A outer s H vs Q E hr q => ?_)
  · obtain ⟨ds, d, r, e, _⟩ := q
    unfold fnD at e
    split at e
    · rename_i hl
      rw [r.length, hl]
    · cases e
  · obtain ⟨ds, d, r, e, q⟩ := q
    unfold fnD at e
    split at e
    · rename_i hl
      obtain ⟨r1, e1, e⟩ := bindO e
      refine ⟨_, h _ ⟨cdv, A, outer, s, H, E, rfl⟩ hr, none, H, tape0, _, r1, sok_start r hl, e1, ?_⟩
      cases r1 with
      | rt d1 t1 => cases e; exact fun v H' x g r => q v H' x.same r
      | nx Γ1 t1 => cases e; exact fun σ' H' _ S' => q .non H' S'.ex.same .non
      | bk _ _ => cases e
      | ct _ _ => cases e
    · cases e
theorem def_ok {x qual : Str} {st : Stmt} {f : Addr} {fd : FuncData} {N ps : List Str} {k : Nat} {g : Es} (F : Fun K x qual st f fd) (S : FnScope N ps (defScope st)) (hm : mg x = some (.ref f)) (hb : Binds K fd ps [])
    (h : ∀ (X : Cx), (∃ cdv A outer s H E, X = (cxOf CX0 P w K mg base N qual (defScope st) f cdv A outer s H E).nox) → Room k X.A → XSs X (defBody st) g) : DefOk P w K mg base x (k + 1) (spD ⟨P, w, K⟩ (fnD ps.length N.length g)) :=
  ⟨f, fd, ps, def_fn F S h, hm, F.kp, hb⟩
theorem def_okT {x qual : Str} {st : Stmt} {f : Addr} {fd : FuncData} {N ps : List Str} {k : Nat} {g : Es} (F : Fun K x qual st f fd) (S : FnScope N ps (defScope st)) (hm : mg x = some (.ref f)) (hb : Binds K fd ps [])
    (h : ∀ (X : Cx), (∃ cdv A outer s H E, X = (cxOf CX0 P w K mg base N qual (defScope st) f cdv A outer s H E).nox) → Room k X.A → XSs X (defBody st) g) : DefOk P w K mg base x (k + 1) (spT ⟨P, w, K⟩ (fnT ps.length N.length g)) := by
  refine ⟨f, fd, ps, F.ok S (fun vs H Q E q => ?_) (fun cdv A outer s H vs Q E hr q => ?_), hm, F.kp, hb⟩
  · obtain ⟨tau, ws, ds, t, d, t', rfl, g0, r, e, _⟩ := q
    unfold fnT at e
    split at e
    · rename_i hl
      rw [List.length_cons, r.length, hl]
    · cases e
  · obtain ⟨tau, ws, ds, t, d, t', rfl, g0, r, e, q⟩ := q
    unfold fnT at e
    split at e
    · rename_i hl
      obtain ⟨r1, e1, e⟩ := bindO e
      refine ⟨_, h _ ⟨cdv, A, outer, s, H, E, rfl⟩ hr, some tau, H, t, _, r1, sok_startT g0 r hl, e1, ?_⟩
      cases r1 with
      | rt d1 t1 => cases e; exact fun v H' x g r => q v H' x g r
      | nx Γ1 t1 => cases e; exact fun σ' H' _ S' => q .non H' S'.ex S'.g .non
      | bk _ _ => cases e
      | ct _ _ => cases e
    · cases e
end
end DL

set_option Elab.async false
set_option linter.all false
set_option maxRecDepth 100000
/-! DL8: the tape's fields; tuples from behind; sums of tuples. -/
namespace DL
open PySem PySem.Spec L2
open PyProof.Rows hiding St

/-! ### the tape's fields -/
def tget (k : Str) (t : Tape) : Option D :=
  if k = ("left" : Str) then some (.int t.left) else if k = ("at" : Str) then some (.int t.at') else if k = ("cells" : Str) then some (.list (t.cells.map .int))
  else if k = ("seed" : Str) then some (.int t.seed) else if k = ("salt" : Str) then some (.int t.salt) else none
def tset (k : Str) (n : Int) (t : Tape) : Option Tape :=
  if k = ("left" : Str) then some { t with left := n } else if k = ("at" : Str) then some { t with at' := n }
  else if k = ("seed" : Str) then some { t with seed := n } else if k = ("salt" : Str) then some { t with salt := n } else none
section
variable {E : Pk} {H : Hp} {t t' : Tape} {c : Addr}
theorem tget_ok {k : Str} {d : D} (hc : LsF E.K H c (t.cells.map V.int)) (h : tget k t = some d) : ∃ v, valV (tpd t c) (.inr k) = some v ∧ Rp E H v d := by
  unfold tget at h
  split at h
  · rename_i e; subst e; cases h
    exact ⟨.int t.left, rfl, .int _⟩
  · split at h
    · rename_i e; subst e; cases h
      exact ⟨.int t.at', rfl, .int _⟩
    · split at h
      · rename_i e; subst e; cases h
        exact ⟨.ref c, rfl, .lst hc (RpA.ofInts _)⟩
      · split at h
        · rename_i e; subst e; cases h
          exact ⟨.int t.seed, rfl, .int _⟩
        · split at h
          · rename_i e; subst e; cases h
            exact ⟨.int t.salt, rfl, .int _⟩
          · cases h
theorem tset_ok {k : Str} {n : Int} (h : tset k n t = some t') : putK (tpd t c) (.inr k) (.int n) = tpd t' c ∧ t'.cells = t.cells := by
  unfold tset at h
  split at h
  · rename_i e; subst e; cases h; exact ⟨rfl, rfl⟩
  · split at h
    · rename_i e; subst e; cases h; exact ⟨rfl, rfl⟩
    · split at h
      · rename_i e; subst e; cases h; exact ⟨rfl, rfl⟩
      · split at h
        · rename_i e; subst e; cases h; exact ⟨rfl, rfl⟩
        · cases h
end
section
variable {X : Cx} {e a b : Expr} {es : List Expr} {pos : Pos}
def vTape (i : Nat) (k : Str) : Ev := fun Γ t => match Γ[i]? with
  | some .tp => tget k t >>= fun d => some (d, t)
  | _ => none
theorem xe_tape (i : Nat) {x k : Str} {j : Nat} {p p2 : Pos} (hu : X.A.units + 64 < cLine) (hN : X.N[i]? = some x := by rfl) (hv : Vis X.env.scope x := by first | exact Or.inl rfl | exact Or.inr (Or.inl rfl) | exact Or.inr (Or.inr rfl)) (hd : (x == ("__debug__" : Str)) = false := by decide)
    (hcd : (x == ("__classdict__" : Str)) = false := by decide) : XE X (.Subscript (.Name x p) (.Constant (.str k) j p2) pos) (vTape i k) := peImp (pe_dget (by omega) (pe_var hN hv hd hcd) pe_str (fun _ _ => rfl)) fun σ H Q h => by
  obtain ⟨tp, H0, t, Γ, d, t', S, hf, q⟩ := h
  unfold vTape at hf
  split at hf
  · rename_i hi
    obtain ⟨z, h1, hf⟩ := bindO hf
    cases hf
    obtain ⟨tau, e1, e2⟩ := S.has i _ hi
    obtain ⟨c, g1, g2⟩ := S.g tau e2
    obtain ⟨v, h2, r⟩ := tget_ok g2 h1
    refine ⟨_, e1, tau, v, rfl, ?_, q v H (Ex.refl _ _) S.g r⟩
    rw [← h2]
    exact DGet.k (k := Sum.inr k) g1
  · cases hf
def sTset (i : Nat) (k : Str) (f : Ev) : Es := fun Γ t => f Γ t >>= fun p => match Γ[i]?, p.1 with
  | some .tp, .int n => tset k n p.2 >>= fun t' => some (.nx Γ t')
  | _, _ => none
theorem xs_tset (i : Nat) {x k : Str} {j : Nat} {p p2 p3 : Pos} {f : Ev} (hu : X.A.units + 64 < cLine) (he : XE X e f) (hN : X.N[i]? = some x := by rfl) (hv : Vis X.env.scope x := by first | exact Or.inl rfl | exact Or.inr (Or.inl rfl) | exact Or.inr (Or.inr rfl)) (hd : (x == ("__debug__" : Str)) = false := by decide)
    (hcd : (x == ("__classdict__" : Str)) = false := by decide) (hs : swapsWith e (some (.Subscript (.Name x p) (.Constant (.str k) j p2) p3)) pos.line X.env = pure false := by rfl) : XS X (.Assign [.Subscript (.Name x p) (.Constant (.str k) j p2) p3] e pos) (sTset i k f) :=
  psImp (ps_dput (by omega) (pe_var hN hv hd hcd) pe_str he hs) fun Dn σ H h => by
    obtain ⟨tp, H0, t, Γ, r, S, hf, q⟩ := h
    obtain ⟨⟨d, t1⟩, h1, hf⟩ := bindO hf
    refine ⟨tp, H0, t, Γ, d, t1, S, h1, fun v H1 x1 g1 r1 => ?_⟩
    split at hf
    · rename_i n hi hd
      obtain ⟨t2, h2, hf⟩ := bindO hf
      cases hf
      have hd : d = .int n := hd
      subst hd
      cases r1
      obtain ⟨tau, e1, e2⟩ := S.has i _ hi
      subst e2
      obtain ⟨c, k1, k2⟩ := g1 tau rfl
      obtain ⟨h3, h4⟩ := tset_ok (c := c) h2
      refine ⟨_, e1, tau, _, rfl, DPut.k (k := Sum.inr k) k1 (show 5 < sizeLine by decide), ?_⟩
      rw [h3]
      have xx : Ex (some tau) H1 (upd H1 tau (.dK (tpd t2 c))) := fun b u hb e => by
        rw [upd_ne (fun z => hb (by rw [z]))]
        exact e
      have f1 := xx.fz g1
      refine q _ _ ((x1.fz S.g).trans f1) ((S.step x1 g1).step xx fun b e => ?_)
      cases e
      exact ⟨c, upd_same, by rw [h4]; exact k2.fz f1⟩
    · cases hf

/-! ### tuples from behind: t[::-1] -/
theorem rev_pick (xs : List Value) : ((List.range xs.length).filterMap fun (m : Nat) => xs.toArray[(((xs.length : Int) - 1) + (m : Int) * (-1)).toNat]?) = xs.reverse := by
  have e : (fun (m : Nat) => xs.toArray[(((xs.length : Int) - 1) + (m : Int) * (-1)).toNat]?) = fun m => xs[xs.length - 1 - m]? := by
    funext m
    have : (((xs.length : Int) - 1) + (m : Int) * (-1)).toNat = xs.length - 1 - m := by omega
    rw [this, List.getElem?_toArray]
  rw [e]
  refine List.ext_getElem? fun i => ?_
  have key : ∀ n, n ≤ xs.length → (List.range n).filterMap (fun m => xs[xs.length - 1 - m]?) = (xs.reverse).take n := by
    intro n
    induction n with
    | zero => intro _; rfl
    | succ n ih =>
      intro hn
      rw [List.range_succ, List.filterMap_append, ih (by omega), List.take_succ]
      congr 1
      have h1 : xs.length - 1 - n < xs.length := by omega
      rw [List.getElem?_reverse (by omega)]
      simp [List.getElem?_eq_getElem h1]
  rw [key _ (Nat.le_refl _), List.take_of_length_le (by rw [List.length_reverse]; exact Nat.le_refl _)]
theorem getItem_tuple_rev {prog : Program} {w : World} {A : Around} {E : Value → Shared → Prop} {s : Shared} {t sl : Addr} {xs : List Value} {vk : Value} {Q : Value → Shared → Prop} (ht : IsTup s.heap t xs.toArray) (hs : s.heap.IsSliceOf sl .none .none vk) (pk : IsPart vk (some (-1)))
    (h : Q (.ref s.heap.objs.size) { s with heap := s.heap.push { cls := .type "tuple", data := .seq xs.reverse.toArray } }) (hsz : xs.length ≤ sizeLine) : wpAny (model prog w) A (getItem (.ref t) (.ref sl)) Q E s := by
  obtain ⟨os, hos, hcs, hds⟩ := id hs
  have hTs : s.TypeIs (.ref sl) "slice" := ⟨os, hos, hcs⟩
  have hz : sizeOk (.seq xs.reverse.toArray) := by
    show xs.reverse.toArray.size ≤ sizeLine
    rw [List.size_toArray, List.length_reverse]
    exact hsz
  unfold getItem
  try with_reducible refine wpAny_holding ?_
  first | refine wpAny_bind (wpAny_pure ?_) | skip
  refine wpAny_bind (wpAny_sequenceKey ht.typeIs (by decide) ?_)
  refine wpAny_bind (wpAny_callSpecial?_slot (name := Str.ofString "__getitem__") ht.typeIs PyProof.Rows.slot_tuple_getitem
    (wpAny_call_entry PyProof.Rows.slot_tuple_getitem ht.typeIs entry_tuple_getitem ?_ (args_tuple_getitem _ _)))
  show wpAny _ _ (Builtin.Tuple.tupleItemsOf (.ref t) >>= _) _ _ s
  refine wpAny_bind (tupleItemsOf_ ht ?_)
  refine wpAny_bind (wpAny_typeOf hTs ?_)
  rw [if_pos (by decide)]
  have hap : ∀ (A2 : Around) (E2 : Value → Shared → Prop) (R : Int × Int × Nat → Shared → Prop), R ((xs.length : Int) - 1, -1, xs.length) s → wpAny (model prog w) A2 (Builtin.Slice.sliceApplied (.ref sl) (pure (xs.toArray.size : Int))) R E2 s := by
    intro A2 E2 R hR
    unfold Builtin.Slice.sliceApplied Builtin.Slice.sliceFields
    refine wpAny_bind (wpAny_bind (wpAny_field hos hds (x := .none) rfl (wpAny_bind (wpAny_field hos hds (x := .none) rfl (wpAny_bind (wpAny_field hos hds (x := vk) rfl (wpAny_pure ?_)))))))
    refine wpAny_bind (HT.slicePart_ pk ?_)
    show wpAny _ _ (if ((-1 : Int) == 0) = true then _ else _) _ _ s
    rw [if_neg (by decide)]
    refine wpAny_bind (HT.slicePart_ .none (wpAny_bind (HT.slicePart_ .none (wpAny_bind (wpAny_pure (wpAny_pure ?_))))))
    have e : Builtin.Slice.slicePlaces ((xs.length : Int) - 1) (-1) (-1) = xs.length := by
      unfold Builtin.Slice.slicePlaces
      rw [if_neg (by decide)]
      by_cases h0 : xs.length = 0
      · rw [h0]; rfl
      · rw [if_pos (by omega), show (- -1 : Int) = 1 by decide, Int.ediv_one]
        omega
    show R ((xs.toArray.size : Int) - 1, -1, Builtin.Slice.slicePlaces ((xs.toArray.size : Int) - 1) (-1) (-1)) s
    rw [List.size_toArray, e]
    exact hR
  refine wpAny_bind (hap _ _ _ ?_)
  have hno : ¬ ((((xs.length : Int) - 1) == 0 && (-1 : Int) == 1 && xs.length == xs.toArray.size) = true) := by
    intro q
    rw [Bool.and_eq_true, Bool.and_eq_true] at q
    exact absurd q.1.2 (by decide)
  show wpAny _ _ (if ((((xs.length : Int) - 1) == 0 && (-1 : Int) == 1 && xs.length == xs.toArray.size) = true) then _ else _) _ _ s
  rw [if_neg hno, rev_pick]
  first
    | exact wpAny_bind (m := Builtin.Tuple.tupleExact _) (wpAny_newObj_type (wpAny_pure ⟨_, rfl, wpAny_pure h⟩) hz)
    | exact wpAny_bind (m := Builtin.Tuple.tupleExact _) (wpAny_newObj_type (wpAny_bind (wpAny_pure (wpAny_pure ⟨_, rfl, wpAny_pure h⟩))) hz)
    | exact wpAny_bind (wpAny_bind (m := Builtin.Tuple.tupleExact _) (wpAny_newObj_type (wpAny_pure (wpAny_pure ⟨_, rfl, wpAny_pure h⟩)) hz))
    | exact wpAny_bind (wpAny_bind (m := Builtin.Tuple.tupleExact _) (wpAny_newObj_type (wpAny_pure ⟨_, rfl, wpAny_pure h⟩) hz))
/-- x[::-1] of a tuple, of a list -/
def revD : D → Option D
  | .tuple ds => some (.tuple ds.reverse)
  | .list ds => some (.list ds.reverse)
  | _ => none
theorem xe_rev {f : Ev} {k : Nat} {p1 p2 p3 : Pos} (ha : XE X a f) : XE X (.Subscript a (.Slice none none (some (.UnaryOp .USub (.Constant (.int 1) k p1) p2)) p3) pos) (unD revD f) := by
  refine ⟨fun pn s sg hp Q iv hq => ?_⟩
  obtain ⟨tp, H0, t, Γ, d', t', S, hf, q⟩ := hq
  obtain ⟨⟨d, t1⟩, h1, hf⟩ := bindO hf
  obtain ⟨z, h2, hf⟩ := bindO hf
  cases hf
  cases d with
  | list ds =>
    cases h2
    refine (peFreeze (pe_revL ha)).run pn s sg hp Q iv ⟨tp, H0, t, Γ, _, _, S, h1, fun v H1 x1 g1 r1 => ?_⟩
    cases r1 with
    | lst s r => exact ⟨_, _, rfl, s.sq, fun p hp => frzK_list fun o => q _ _ (x1.trans (Ex.ofSame (frzNew hp))) (g1.same (frzNew hp)) (rp_newList hp r.reverse)⟩
  | tuple ds =>
    cases h2
    refine Subscript_ (thn (ha.run pn s sg hp _ iv ⟨tp, H0, t, Γ, _, _, S, h1, fun v H1 x1 g1 r1 => (⟨x1, g1, r1⟩ : Ex tp hp H1 ∧ GOk (pk X) H1 tp t1 ∧ Rp (pk X) H1 v (.tuple ds))⟩) fun v s1 ⟨x, H1, I1, r1, x1, g1, rp⟩ => ?_)
    cases rp with
    | @tup ta xs _ sq r =>
      cases r1
      have hst : PO X (some (.UnaryOp .USub (.Constant (.int 1) k p1) p2)) (tPart (tUn (rU fun i => .int (-i)) (tC (.int 1)))) := po_some (pe_un un_neg pe_int)
      refine wpAny_Slice (thn (po_none.run pn s1 sg H1 (fun o H2 => o = none ∧ H2 = H1) I1 ⟨rfl, rfl⟩) fun vl s2 ⟨l, H2, I2, pl, el, e2⟩ => ?_)
      subst el e2
      refine thn (po_none.run pn s2 sg H2 (fun o H3 => o = none ∧ H3 = H2) I2 ⟨rfl, rfl⟩) fun vu s3 ⟨u, H3, I3, pu, eu, e3⟩ => ?_
      subst eu e3
      refine thn (hst.run pn s3 sg H3 (fun o H4 => o = some (-1) ∧ H4 = H3) I3 ⟨1, rfl, -1, rfl, rfl, rfl⟩) fun vs s4 ⟨o, H4, I4, ps, eo, e4⟩ => ?_
      subst eo e4
      have I5 : L2.Inv X pn sg H4 { s4 with heap := s4.heap.push { cls := .type "slice", data := .fields #[vl, vu, vs] } } := I4.kept (t' := s4.toks) fun b ob z => Heap.get?_push_of_some _ z
      obtain ⟨its, rv, ht, hz⟩ := I5.tuple sq
      cases pl
      cases pu
      show wpAny (model X.prog X.w) X.A (subscriptTail a (.Slice none none (some (.UnaryOp .USub (.Constant (.int 1) k p1) p2)) p3) (.ref ta) (.ref s4.heap.objs.size)) (EP X pn sg Q) X.xe { s4 with heap := s4.heap.push { cls := .type "slice", data := .fields #[.none, .none, vs] } }
      refine tail_any (ops := [.ref ta, .ref s4.heap.objs.size]) ht.typeIs (PyProof.Rows.slot_tuple_getitem.lookup) ?_ (by with_unfolding_all rfl)
      refine getItem_tuple_rev ht (Heap.IsSliceOf.new _ .none .none vs) ps ?_ (by rw [← rv.length]; exact hz)
      have hp5 := I5.hok.fresh (Nat.le_refl _)
      refine ⟨.ref _, _, I5.laid (t' := s4.toks) (o := .tup xs.reverse) (fun b ob z => Heap.get?_push_of_some _ z) (Nat.le_refl _) ?_, rfl, q _ _ (x1.trans (Ex.ofSame (same_upd hp5))) (g1.same (same_upd hp5)) (.tup (SqT.of upd_same) (r.reverse.fz (sameFz (same_upd hp5))))⟩
      exact ⟨by rw [List.length_reverse]; exact hz, _, rv.reverse, IsTup.new _ _⟩
  | _ => cases h2
end
end DL

set_option Elab.async false
set_option linter.all false
set_option maxRecDepth 100000
/-! DL9: dicts whose keys are tuples. -/
namespace DL
open PySem PySem.Spec L2
open PyProof.Rows hiding St

/-! ### keys -/
mutual
def nkey : D → Option NestedKey
  | .int i => some (.num i)
  | .str x => some (.text x)
  | .none => some .none
  | .tuple ds => (nkeys ds).map .tup
  | .bool _ => none
  | .list _ => none
  | .dict _ => none
def nkeys : List D → Option (List NestedKey)
  | [] => some []
  | d :: ds => (nkey d).bind fun k => (nkeys ds).map fun ks => k :: ks
end
mutual
theorem nkey_data : ∀ {d : D} {k : NestedKey}, nkey d = some k → k.data = d
  | .int i, _, h => by cases h; rfl
  | .str x, _, h => by cases h; rfl
  | .none, _, h => by cases h; rfl
  | .tuple ds, k, h => by
    simp only [nkey, Option.map_eq_some_iff] at h
    obtain ⟨ks, h1, rfl⟩ := h
    rw [NestedKey.data, nkeys_data h1]
  | .bool _, _, h => by cases h
  | .list _, _, h => by cases h
  | .dict _, _, h => by cases h
theorem nkeys_data : ∀ {ds : List D} {ks : List NestedKey}, nkeys ds = some ks → NestedKey.datas ks = ds
  | [], _, h => by cases h; rfl
  | d :: ds, ks, h => by
    simp only [nkeys, Option.bind_eq_some_iff, Option.map_eq_some_iff] at h
    obtain ⟨k, h1, ks', h2, rfl⟩ := h
    rw [NestedKey.datas, nkey_data h1, nkeys_data h2]
end
mutual
theorem eqv_keys : ∀ a b : NestedKey, PyData.eqv a.data b.data = NestedKey.beq a b
  | .none, .none => rfl
  | .num i, .num j => by simp only [NestedKey.data, PyData.eqv, NestedKey.beq]; exact Bool.beq_eq_decide_eq ..
  | .text x, .text y => by simp only [NestedKey.data, PyData.eqv, NestedKey.beq]; exact Bool.beq_eq_decide_eq ..
  | .tup a, .tup b => by simp only [NestedKey.data, PyData.eqv, NestedKey.beq]; exact eqv_keysA a b
  | .none, .num _ => rfl
  | .none, .text _ => rfl
  | .none, .tup _ => rfl
  | .num _, .none => rfl
  | .num _, .text _ => rfl
  | .num _, .tup _ => rfl
  | .text _, .none => rfl
  | .text _, .num _ => rfl
  | .text _, .tup _ => rfl
  | .tup _, .none => rfl
  | .tup _, .num _ => rfl
  | .tup _, .text _ => rfl
theorem eqv_keysA : ∀ a b : List NestedKey, PyData.eqvAll (NestedKey.datas a) (NestedKey.datas b) = NestedKey.beqAll a b
  | [], [] => rfl
  | x :: xs, y :: ys => by simp only [NestedKey.datas, PyData.eqvAll, NestedKey.beqAll]; rw [eqv_keys x y, eqv_keysA xs ys]
  | [], _ :: _ => rfl
  | _ :: _, [] => rfl
end
section
variable {X : Cx} {pins : List (Addr × Obj)} {σ : St} {H : Hp} {s : Shared}
mutual
theorem nested_of (I : L2.Inv X pins σ H s) : ∀ (k : NestedKey) (v : V) (u : Value), Rp (pk X) H v k.data → RelV v u → NestedIs s.heap k u
  | .none, _, _, r, q => by
    cases r
    cases q
    exact .none
  | .num i, _, _, r, q => by
    cases r
    obtain ⟨t, rfl⟩ := q
    exact .int i t
  | .text x, _, _, r, q => by
    cases r
    obtain ⟨t, rfl⟩ := q
    exact .text x t
  | .tup ks, _, _, r, q => by
    simp only [NestedKey.data] at r
    cases r with
    | tup sq r =>
      cases q
      obtain ⟨its, rv, ⟨o, ho, hc, n, hd⟩, _⟩ := I.tuple sq
      exact .tup ho hc hd (by simpa using nested_all I ks _ _ r rv)
theorem nested_all (I : L2.Inv X pins σ H s) : ∀ (ks : List NestedKey) (vs : List V) (us : List Value), RpA (pk X) H vs (NestedKey.datas ks) → Vals vs us → NestedAll s.heap ks us
  | [], _, _, r, q => by
    simp only [NestedKey.datas] at r
    cases r
    cases q
    exact .nil
  | k :: ks, _, _, r, q => by
    simp only [NestedKey.datas] at r
    cases r with
    | cons a r =>
      cases q with
      | cons b q => exact .cons (nested_of I k _ _ a b) (nested_all I ks _ _ r q)
end

/-! ### entries -/
theorem rpT_len {E : Pk} : ∀ {xs : List (NestedKey × Addr × Value)} {ds : List (D × D)}, RpT E H xs ds → xs.length = ds.length
  | _, _, .nil => rfl
  | _, _, .cons _ _ _ r => by rw [List.length_cons, List.length_cons, rpT_len r]
/-- the value at a key -/
def dFind (ds : List (D × D)) (k : D) : Option D := (ds.find? fun p => PyData.eqv p.1 k).map (·.2)
def dPut (ds : List (D × D)) (k v : D) : List (D × D) := if (dFind ds k).isSome then ds.map fun p => if PyData.eqv p.1 k then (p.1, v) else p else ds ++ [(k, v)]
theorem rpT_find {E : Pk} {k : NestedKey} : ∀ {xs : List (NestedKey × Addr × Value)} {ds : List (D × D)}, RpT E H xs ds →
    (dFind ds k.data = none ∧ atKey xs k = none) ∨ ∃ d b u v, dFind ds k.data = some d ∧ atKey xs k = some (b, u) ∧ RelV v u ∧ Rp E H v d
  | _, _, .nil => .inl ⟨rfl, rfl⟩
  | _, _, .cons (k := k') (b := b) (u := u) (v := v) (xs := xs) (d := d) (ds := ds) hk e h r => by
    unfold dFind atKey
    rw [List.find?_cons, List.find?_cons]
    show _ ∨ ∃ d' b' u' v', Option.map (·.2) (match PyData.eqv k'.data k.data with | true => some (k'.data, d) | false => ds.find? fun p => PyData.eqv p.1 k.data) = some d' ∧ Option.map (·.2) (match decide (k' = k) with | true => some (k', b, u) | false => xs.find? fun x => decide (x.1 = k)) = some (b', u') ∧ _
    rw [eqv_keys, ← NestedKey.decide_eq]
    cases decide (k' = k) with
    | true => exact .inr ⟨d, b, u, v, rfl, rfl, e, h⟩
    | false => exact rpT_find r
theorem rpT_map {E : Pk} {k : NestedKey} {v : V} {u : Value} {d : D} (hv : RelV v u) (hr : Rp E H v d) : ∀ {xs : List (NestedKey × Addr × Value)} {ds : List (D × D)}, RpT E H xs ds →
    RpT E H (xs.map (putAt k u)) (ds.map fun p => if PyData.eqv p.1 k.data then (p.1, d) else p)
  | _, _, .nil => .nil
  | _, _, .cons (k := k') (b := b) (u := u') (v := v') (xs := xs) (d := d') (ds := ds) hk e h r => by
    rw [List.map_cons, List.map_cons]
    unfold putAt
    show RpT E H ((if k' = k then (k', b, u) else (k', b, u')) :: _) ((if PyData.eqv k'.data k.data = true then (k'.data, d) else (k'.data, d')) :: _)
    have e1 := eqv_keys k' k
    rw [← NestedKey.decide_eq] at e1
    rw [e1]
    by_cases hkk : k' = k
    · rw [if_pos hkk, if_pos (decide_eq_true hkk)]
      exact .cons hk hv hr (rpT_map hv hr r)
    · rw [if_neg hkk, if_neg (by rw [decide_eq_false hkk]; exact Bool.false_ne_true)]
      exact .cons hk e h (rpT_map hv hr r)
theorem rpT_app {E : Pk} : ∀ {xs ys : List (NestedKey × Addr × Value)} {ds es : List (D × D)}, RpT E H xs ds → RpT E H ys es → RpT E H (xs ++ ys) (ds ++ es)
  | _, _, _, _, .nil, q => q
  | _, _, _, _, .cons a b c r, q => .cons a b c (rpT_app r q)
theorem rpT_stored {E : Pk} {k : NestedKey} {a : Addr} {v : V} {u : Value} {d : D} {xs : List (NestedKey × Addr × Value)} {ds : List (D × D)} (r : RpT E H xs ds) (hk : Rp E H (.ref a) k.data) (hv : RelV v u) (hr : Rp E H v d) : RpT E H (storedH xs k a u) (dPut ds k.data d) := by
  unfold storedH dPut
  rcases rpT_find (k := k) r with ⟨e1, e2⟩ | ⟨d', b, u', v', e1, e2, _, _⟩
  · rw [e1, e2]
    exact rpT_app r (.cons hk hv hr .nil)
  · rw [e1, e2]
    exact rpT_map hv hr r

/-! ### a dict that is read -/
/-- at a stands a dict with tuples as keys (the empty one, too) -/
def DAt (E : Pk) (H : Hp) (a : Addr) (ds : List (D × D)) : Prop := (∃ xs, Rd H a (.ext (DKf E a xs)) ∧ RpT E H xs ds) ∨ (ds = [] ∧ Rd H a (.dK []))
theorem rpT_keys (I : L2.Inv X pins σ H s) : ∀ {xs : List (NestedKey × Addr × Value)} {ds : List (D × D)}, RpT (pk X) H xs ds → ∀ x ∈ xs, NestedIs s.heap x.1 (.ref x.2.1)
  | _, _, .nil, x, hx => by cases hx
  | _, _, .cons (k := k) (b := b) (u := u) hk e h r, x, hx => by
    rcases List.mem_cons.mp hx with z | z
    · rw [z]
      exact nested_of I _ _ _ hk rfl
    · exact rpT_keys I r x z
theorem dAt_obj {a : Addr} {ds : List (D × D)} (I : L2.Inv X pins σ H s) (h : DAt (pk X) H a ds) : ∃ xs, RpT (pk X) H xs ds ∧ (a == sysModules) = false ∧ xs.length ≤ sizeLine ∧ s.heap.DictOfH (nestedKind X.prog X.w) a xs := by
  rcases h with ⟨xs, h, r⟩ | ⟨rfl, h⟩
  · obtain ⟨⟨h1, h2, h3, o, es, ep, h4, h5, h6, h7, h8⟩, _⟩ := h.ok I.hok
    refine ⟨xs, r, h1, h2, o, es, ep, h4, h5, h6, h7, ?_, h8⟩
    exact fun x hx => ⟨rpT_keys I r x hx, h3 x hx⟩
  · obtain ⟨z, lo, vs, rel, hd⟩ := h.ok I.hok
    cases rel
    obtain ⟨o, es, ep, h4, h5, h6, _, h7, _⟩ := hd
    refine ⟨[], .nil, lo, Nat.zero_le _, o, es, ep, h4, h5, h6, ?_, (fun _ z => nomatch z), List.nodup_nil⟩
    cases h7e : es.toList with
    | nil => rfl
    | cons x r => rw [h7e] at h7; cases h7
/-- a value that is such a dict -/
def Rdd (E : Pk) (H : Hp) (v : V) (ds : List (D × D)) : Prop := ∃ a, v = .ref a ∧ DAt E H a ds
end

abbrev Evd := Env' → Tape → Option (List (D × D) × Tape)
def tXD (E : Pk) (f : Evd) : TE := fun σ H Q => ∃ tp H0 t Γ ds t', Sok E H0 tp t H σ Γ ∧ f Γ t = some (ds, t') ∧ ∀ v H', Ex tp H H' → GOk E H' tp t' → Rdd E H' v ds → Q v H'
abbrev XD (X : Cx) (e : Expr) (f : Evd) : Prop := PE X e (tXD (pk X) f)
def isTd : D → Bool
  | .tuple _ => true
  | _ => false
/-- all keys are tuples -/
def tKeys (ds : List (D × D)) : Bool := ds.all fun p => isTd p.1
def dTo (f : Ev) : Evd := fun Γ t => f Γ t >>= fun p => match p.1 with
  | .dict ds => if tKeys ds then some (ds, p.2) else none
  | _ => none
def dMu (i : Nat) : Evd := fun Γ t => match Γ[i]? with
  | some (.mu (.dict ds)) => if tKeys ds then some (ds, t) else none
  | _ => none
section
variable {X : Cx} {e a b c : Expr} {es : List Expr} {pos : Pos}
theorem rpK_t {E : Pk} {H : Hp} {kvs : List (Key × V)} {ds : List (D × D)} (r : RpK E H kvs ds) (h : tKeys ds = true) : kvs = [] ∧ ds = [] := by
  cases r with
  | nil => exact ⟨rfl, rfl⟩
  | cons r rs =>
    rename_i k _ _ _ _
    cases k <;> cases h
theorem xd_of {f : Ev} (h : XE X e f) : XD X e (dTo f) := peImp h fun σ H Q h => by
  obtain ⟨tp, H0, t, Γ, d', t', S, hf, q⟩ := h
  obtain ⟨⟨d, t1⟩, h1, hf⟩ := bindO hf
  refine ⟨tp, H0, t, Γ, d, t1, S, h1, fun v H1 x1 g1 r1 => ?_⟩
  cases r1 with
  | dik hd r =>
    simp only at hf
    split at hf
    · rename_i hk
      cases hf
      obtain ⟨rfl, rfl⟩ := rpK_t r hk
      exact q _ H1 x1 g1 ⟨_, rfl, .inr ⟨rfl, .inr ⟨_, hd⟩⟩⟩
    · cases hf
  | dit hd r =>
    simp only at hf
    split at hf
    · cases hf
      exact q _ H1 x1 g1 ⟨_, rfl, .inl ⟨_, .inr ⟨_, hd⟩, r⟩⟩
    · cases hf
  | _ => cases hf
theorem xd_mu (i : Nat) {x : Str} (hN : X.N[i]? = some x := by rfl) (hv : Vis X.env.scope x := by first | exact Or.inl rfl | exact Or.inr (Or.inl rfl) | exact Or.inr (Or.inr rfl)) (hd : (x == ("__debug__" : Str)) = false := by decide)
    (hcd : (x == ("__classdict__" : Str)) = false := by decide) : XD X (.Name x pos) (dMu i) := peImp (pe_var hN hv hd hcd) fun σ H Q h => by
  obtain ⟨tp, H0, t, Γ, ds, t', S, hf, q⟩ := h
  unfold dMu at hf
  split at hf
  · rename_i ds' hd
    split at hf
    · rename_i hk
      cases hf
      obtain ⟨v, e, n, m⟩ := S.has i _ hd
      refine ⟨_, e, q _ H (Ex.refl _ _) S.g ⟨v, rfl, ?_⟩⟩
      rcases m with ⟨kvs, h, r⟩ | ⟨xs, h, r⟩
      · obtain ⟨rfl, rfl⟩ := rpK_t r hk
        exact .inr ⟨rfl, .inl h⟩
      · exact .inl ⟨xs, .inl h, r⟩
    · cases hf
  · cases hf
/-- behind a step that writes nothing but the tape -/
theorem rdd_ex {E : Pk} {H H' : Hp} {tp : Option Addr} {t : Tape} {v : V} {ds : List (D × D)} (r : Rdd E H v ds) (hk : ∀ c, v = .ref c → tp ≠ some c) (x : Ex tp H H') (g : GOk E H tp t) : Rdd E H' v ds := by
  obtain ⟨p, rfl, h⟩ := r
  refine ⟨p, rfl, ?_⟩
  have f := x.fz g
  rcases h with ⟨xs, h | ⟨o, h⟩, r⟩ | ⟨rfl, h | ⟨o, h⟩⟩
  · exact .inl ⟨xs, .inl (x _ _ (hk p rfl) h), r.fz f⟩
  · exact .inl ⟨xs, .inr ⟨o, f.frz _ _ _ h⟩, r.fz f⟩
  · exact .inr ⟨rfl, .inl (x _ _ (hk p rfl) h)⟩
  · exact .inr ⟨rfl, .inr ⟨o, f.frz _ _ _ h⟩⟩
theorem rdd_tp {E : Pk} {H : Hp} {tp : Option Addr} {t : Tape} {v : V} {ds : List (D × D)} (r : Rdd E H v ds) (g : GOk E H tp t) : ∀ c, v = .ref c → tp ≠ some c := fun c e z => by
  obtain ⟨p, rfl, h⟩ := r
  cases e
  obtain ⟨cc, hc, _⟩ := g _ z
  rcases h with ⟨xs, h | ⟨o, h⟩, r⟩ | ⟨rfl, h | ⟨o, h⟩⟩
  · rw [h] at hc; cases hc
  · rw [h] at hc; cases hc
  · rw [h] at hc; cases hc
  · rw [h] at hc; cases hc
def okKey (k : D) : Option NestedKey := (nkey k).bind fun n => if isTd k && decide (n.depth ≤ 8) then some n else none
theorem okKey_inv {k : D} {n : NestedKey} (h : okKey k = some n) : n.data = k ∧ n.depth ≤ 8 ∧ ∃ ks, n = .tup ks := by
  unfold okKey at h
  obtain ⟨m, h1, h2⟩ := Option.bind_eq_some_iff.mp h
  split at h2
  · rename_i hd
    cases h2
    rw [Bool.and_eq_true, decide_eq_true_eq] at hd
    refine ⟨nkey_data h1, hd.2, ?_⟩
    have e := nkey_data h1
    cases n with
    | tup ks => exact ⟨ks, rfl⟩
    | none => rw [← e] at hd; cases hd.1
    | num i => rw [← e] at hd; cases hd.1
    | text i => rw [← e] at hd; cases hd.1
  · cases h2
theorem key_ref {E : Pk} {H : Hp} {v : V} {k : NestedKey} (h : ∃ ks, k = .tup ks) (r : Rp E H v k.data) : ∃ b, v = .ref b := by
  obtain ⟨ks, rfl⟩ := h
  simp only [NestedKey.data] at r
  cases r
  exact ⟨_, rfl⟩
/-! ### d[k] = v on an object that is written here -/
theorem stored_len {xs : List (NestedKey × Addr × Value)} {k : NestedKey} {b : Addr} {u : Value} : (storedH xs k b u).length ≤ xs.length + 1 := by
  unfold storedH
  split
  · rw [List.length_map]; exact Nat.le_succ _
  · rw [List.length_append]; exact Nat.le_refl _
theorem stored_depth {xs : List (NestedKey × Addr × Value)} {k : NestedKey} {b : Addr} {u : Value} (h : ∀ x ∈ xs, x.1.depth ≤ 8) (hk : k.depth ≤ 8) : ∀ x ∈ storedH xs k b u, x.1.depth ≤ 8 := fun x hx => by
  unfold storedH at hx
  split at hx
  · obtain ⟨y, hy, rfl⟩ := List.mem_map.mp hx
    unfold putAt
    split
    · exact h y hy
    · exact h y hy
  · rcases List.mem_append.mp hx with z | z
    · exact h x z
    · rw [List.mem_singleton] at z
      rw [z]
      exact hk
theorem d_setT {pins : List (Addr × Obj)} {σ : St} {H : Hp} {s : Shared} {p q : Addr} {ds : List (D × D)} {k : NestedKey} {v : V} {u : Value} {d : D} {Q : Unit → Shared → Prop} (hu : X.A.units + 64 < cLine) (I : L2.Inv X pins σ H s)
    (hm : (∃ xs, H p = some (.ext (DKf (pk X) p xs)) ∧ RpT (pk X) H xs ds) ∨ (ds = [] ∧ H p = some (.dK []))) (hk : Rp (pk X) H (.ref q) k.data) (hd : k.depth ≤ 8) (rv : RelV v u) (hv : Rp (pk X) H v d) (hz : ds.length < sizeLine)
    (h : ∀ (s' : Shared) (xs : List (NestedKey × Addr × Value)), L2.Inv X pins σ (upd H p (.ext (DKf (pk X) p xs))) s' → RpT (pk X) H xs (dPut ds k.data d) → Q () s') : wpAny (model X.prog X.w) X.A (setItem (.ref p) (.ref q) u) Q X.xe s := by
  have hD : DAt (pk X) H p ds := by
    rcases hm with ⟨xs, a, b⟩ | ⟨a, b⟩
    · exact .inl ⟨xs, .inl a, b⟩
    · exact .inr ⟨a, .inl b⟩
  have hM : Mut (H p) := by
    rcases hm with ⟨xs, a, b⟩ | ⟨a, b⟩
    · rw [a]; trivial
    · rw [b]; trivial
  obtain ⟨xs, r, lo, hl, ho⟩ := dAt_obj I hD
  have hlen := rpT_len r
  have hdep : ∀ x ∈ xs, x.1.depth ≤ 8 := fun x hx => by
    obtain ⟨_, _, _, _, _, _, _, his, _⟩ := ho
    exact (his x hx).2
  refine wpAny_setItem_heap (knd := nestedKind X.prog X.w) (hsz := hl) (show X.A.in1.units + 8 < cLine by rw [Around.in1_units]; omega) (show NestedIs s.heap k (.ref q) ∧ k.depth ≤ 8 from ⟨nested_of I _ _ _ hk rfl, hd⟩) ho fun h' hm' hs => ?_
  obtain ⟨o, es, ep, k1, k2, k3, k4, k5, k6⟩ := hm'
  refine h _ (storedH xs k q u) (I.write (t' := _) hM (.inl rfl) (fun b w hb e => (hs.2 b hb).trans e) ⟨o, k1⟩ ⟨?_, ⟨o, k1⟩, ?_⟩) (rpT_stored r hk rv hv)
  · exact ⟨lo, by have := stored_len (xs := xs) (k := k) (b := q) (u := u); omega, stored_depth hdep hd, o, es, ep, k1, k2, k3, k4, k6⟩
  · intro h1 h2 hφ hst
    obtain ⟨f1, f2, f3, o', es', ep', f4, f5⟩ := hφ
    exact ⟨f1, f2, f3, o', es', ep', hst o' f4, f5⟩
def sDput (i : Nat) (f h : Ev) : Es := fun Γ t => h Γ t >>= fun pv => match Γ[i]? with
  | some (.mu (.dict ds)) => f Γ pv.2 >>= fun pk => if tKeys ds && (okKey pk.1).isSome && decide (ds.length < sizeLine) then some (.nx (Γ.set i (.mu (.dict (dPut ds pk.1 pv.1)))) pk.2) else none
  | _ => none
theorem muT {E : Pk} {H : Hp} {p : Addr} {ds : List (D × D)} (m : MuOk E H p (.dict ds)) (h : tKeys ds = true) : (∃ xs, H p = some (.ext (DKf E p xs)) ∧ RpT E H xs ds) ∨ (ds = [] ∧ H p = some (.dK [])) := by
  rcases m with ⟨kvs, e, r⟩ | ⟨xs, e, r⟩
  · obtain ⟨rfl, rfl⟩ := rpK_t r h
    exact .inr ⟨rfl, e⟩
  · exact .inl ⟨xs, e, r⟩
theorem upd_fzM {H : Hp} {p : Addr} {o : HO} (hM : Mut (H p)) : Fz H (upd H p o) := by
  refine ⟨fun b ys e => ?_, fun b q u e => ?_⟩
  · rw [upd_ne (fun z => by rw [← z, e] at hM; exact hM)]
    exact e
  · rw [upd_ne (fun z => by rw [← z, e] at hM; exact hM)]
    exact e
theorem xs_dput (i : Nat) {x : Str} {f h : Ev} {p p3 : Pos} (hu : X.A.units + 64 < cLine) (hk : XE X a f) (he : XE X b h) (hN : X.N[i]? = some x := by rfl) (hv : Vis X.env.scope x := by first | exact Or.inl rfl | exact Or.inr (Or.inl rfl) | exact Or.inr (Or.inr rfl)) (hd : (x == ("__debug__" : Str)) = false := by decide)
    (hcd : (x == ("__classdict__" : Str)) = false := by decide) (hs : swapsWith b (some (.Subscript (.Name x p) a p3)) pos.line X.env = pure false := by rfl) : XS X (.Assign [.Subscript (.Name x p) a p3] b pos) (sDput i f h) := by
  refine ⟨fun pn s sg hp Dn iv hq => ?_⟩
  obtain ⟨tp, H0, t, Γ, r, S, hf, q⟩ := hq
  obtain ⟨⟨dv, t1⟩, e1, hf⟩ := bindO hf
  split at hf
  · rename_i ds hi
    obtain ⟨⟨dk, t2⟩, e2, hf⟩ := bindO hf
    split at hf
    · rename_i hok
      cases hf
      rw [Bool.and_eq_true, Bool.and_eq_true, decide_eq_true_eq] at hok
      obtain ⟨⟨hk1, hk2⟩, hk3⟩ := hok
      obtain ⟨nk, hnk⟩ := Option.isSome_iff_exists.mp hk2
      obtain ⟨hdat, hdep, htup⟩ := okKey_inv hnk
      have hdat : nk.data = dk := hdat
      refine wpAny_Assign_Subscript (thn (he.run pn s sg hp (fun v H1 => Ex tp hp H1 ∧ GOk (pk X) H1 tp t1 ∧ Rp (pk X) H1 v dv) iv ⟨tp, H0, t, Γ, dv, t1, S, e1, fun v H1 x1 g1 r1 => ⟨x1, g1, r1⟩⟩) fun vv s1 ⟨v, H1, I1, rv, x1, g1, r1⟩ => ?_) hs
      have S1 := S.step x1 g1
      obtain ⟨c, ec, n0, mu⟩ := S1.has i _ hi
      refine thn ((pe_var hN hv hd hcd).run pn s1 sg H1 (fun v' H2 => H2 = H1 ∧ v' = .ref c) I1 ⟨_, ec, rfl, rfl⟩) fun ov s2 ⟨v', H2, I2, ro, eH, ev⟩ => ?_
      subst eH ev
      cases ro
      refine thn (hk.run pn s2 sg H2 (fun v' H3 => Ex tp H2 H3 ∧ GOk (pk X) H3 tp t2 ∧ Rp (pk X) H3 v' dk) I2 ⟨tp, H0, t1, Γ, dk, t2, S1, e2, fun v H1 x1 g1 r1 => ⟨x1, g1, r1⟩⟩) fun kv s3 ⟨v', H3, I3, rk, x3, g3, r3⟩ => ?_
      have S3 := S1.step x3 g3
      obtain ⟨c', ec', n0', mu'⟩ := S3.has i _ hi
      rw [ec] at ec'
      cases ec'
      subst hdat
      obtain ⟨b', rfl⟩ := key_ref htup r3
      cases rk
      have mT := muT mu' hk1
      have hM : Mut (H3 c) := by
        rcases mT with ⟨xs, a, b⟩ | ⟨a, b⟩
        · rw [a]; trivial
        · rw [b]; trivial
      refine d_setT hu I3 mT r3 hdep rv (r1.fz (x3.fz g1)) hk3 fun s4 xs I4 r4 => ?_
      have f4 := upd_fzM (o := .ext (DKf (pk X) c xs)) hM
      exact ⟨sg, _, I4, q _ _ (((x1.fz S.g).trans (x3.fz g1)).trans f4) (S3.wr hi ec f4 (.inr ⟨xs, upd_same, r4.fz f4⟩))⟩
    · cases hf
  · cases hf
end
end DL

set_option Elab.async false
set_option linter.all false
set_option maxRecDepth 100000
/-! DL10: reading dicts whose keys are tuples: get, [], in, len, their keys; objects returned; tests of comprehensions. -/
namespace DL
open PySem PySem.Spec L2
open PyProof.Rows hiding St

section
variable {X : Cx} {e a b c : Expr} {es rest : List Expr} {pos : Pos}

/-! ### d.get(k, x), d[k], k in d -/
theorem key_at {pins : List (Addr × Obj)} {σ : St} {H : Hp} {s : Shared} {v : V} {u : Value} {dk : D} {nk : NestedKey} (I : L2.Inv X pins σ H s) (hk : okKey dk = some nk) (r : Rp (pk X) H v dk) (rel : RelV v u) : ∃ q, v = .ref q ∧ u = .ref q ∧ NestedIs s.heap nk (.ref q) ∧ nk.depth ≤ 8 ∧ nk.data = dk := by
  obtain ⟨hd, hdep, htup⟩ := okKey_inv hk
  subst hd
  obtain ⟨q, rfl⟩ := key_ref htup r
  cases rel
  exact ⟨q, rfl, rfl, nested_of I _ _ _ r rfl, hdep, rfl⟩
theorem k_room {A : Around} (hu : A.units + 64 < cLine) : A.in1.units + 8 < cLine := by rw [Around.in1_units]; omega
theorem rdd_at {pins : List (Addr × Obj)} {σ : St} {H : Hp} {s : Shared} {v : V} {u : Value} {ds : List (D × D)} (I : L2.Inv X pins σ H s) (r : Rdd (pk X) H v ds) (rel : RelV v u) : ∃ p xs, v = .ref p ∧ u = .ref p ∧ RpT (pk X) H xs ds ∧ (p == sysModules) = false ∧ xs.length ≤ sizeLine ∧ s.heap.DictOfH (nestedKind X.prog X.w) p xs := by
  obtain ⟨p, rfl, h⟩ := r
  cases rel
  obtain ⟨xs, h1, h2, h3, h4⟩ := dAt_obj I h
  exact ⟨p, xs, rfl, rfl, h1, h2, h3, h4⟩
theorem noDictH {h : Heap} {p : Addr} {xs : List (NestedKey × Addr × Value)} {P : Program} {w : World} (m : h.DictOfH (nestedKind P w) p xs) : ∀ b, Value.ref p = .ref b → ∃ ob, h.get? b = some ob ∧ ob.dict = none := fun b q => by
  cases q
  obtain ⟨o, _, _, h1, h2, _⟩ := m
  exact ⟨o, h1, h2.2.1⟩
def dGet2 (fd : Evd) (fk fx : Ev) : Ev := fun Γ t => fd Γ t >>= fun p => fk Γ p.2 >>= fun q => fx Γ q.2 >>= fun r => if (okKey q.1).isSome then some ((dFind p.1 q.1).getD r.1, r.2) else none
theorem xe_dget2 {apos cpos : Pos} {fd : Evd} {fk fx : Ev} (hu : X.A.units + 64 < cLine) (ho : XD X a fd) (hk : XE X b fk) (hx : XE X c fx) (m : M2 X a "get" apos b c cpos) : XE X (.Call (.Attribute a "get" apos) [b, c] [] cpos) (dGet2 fd fk fx) := by
  refine ⟨fun pn s sg hp Q iv hq => ?_⟩
  obtain ⟨tp, H0, t, Γ, d', t', S, hf, q⟩ := hq
  obtain ⟨⟨ds, t1⟩, e1, hf⟩ := bindO hf
  obtain ⟨⟨dk, t2⟩, e2, hf⟩ := bindO hf
  obtain ⟨⟨dx, t3⟩, e3, hf⟩ := bindO hf
  split at hf
  · rename_i hok
    cases hf
    obtain ⟨nk, hnk⟩ := Option.isSome_iff_exists.mp hok
    refine wpAny_Call_method m.base m.few m.line PySem.F.plainAttrs_dict PySem.F.slot_dict_get PySem.F.type_dict_get (thn (ho.run pn s sg hp (fun v H1 => Ex tp hp H1 ∧ GOk (pk X) H1 tp t1 ∧ Rdd (pk X) H1 v ds) iv ⟨tp, H0, t, Γ, _, _, S, e1, fun v H1 x1 g1 r1 => ⟨x1, g1, r1⟩⟩) fun u s1 ⟨v, H1, I1, rel, x1, g1, r1⟩ => ?_)
    obtain ⟨p, xs, rfl, rfl, _, _, _, hm⟩ := rdd_at I1 r1 rel
    refine ⟨hm.typeIs, noDictH hm, ?_⟩
    rw [m.trees]
    have S1 := S.step x1 g1
    refine Calls.callWith_builtin rfl (Calls.evalArgs_plain (Calls.spliced_cons (thn (hk.run pn s1 sg H1 (fun v H2 => Ex tp H1 H2 ∧ GOk (pk X) H2 tp t2 ∧ Rp (pk X) H2 v dk) I1 ⟨tp, H0, t1, Γ, _, _, S1, e2, fun v H1 x1 g1 r1 => ⟨x1, g1, r1⟩⟩) fun kv s2 ⟨v2, H2, I2, rel2, x2, g2, r2⟩ =>
      Calls.spliced_cons (thn (hx.run pn s2 sg H2 (fun v H3 => Ex tp H2 H3 ∧ GOk (pk X) H3 tp t3 ∧ Rp (pk X) H3 v dx) I2 ⟨tp, H0, t2, Γ, _, _, S1.step x2 g2, e3, fun v H1 x1 g1 r1 => ⟨x1, g1, r1⟩⟩) fun xv s3 ⟨v3, H3, I3, rel3, x3, g3, r3⟩ => Calls.spliced_nil ?_))))
    have rd3 := rdd_ex (rdd_ex r1 (rdd_tp r1 g1) x2 g1) (rdd_tp r1 g1) x3 g2
    obtain ⟨p', xs', e', _, rT, lo, hl, hm'⟩ := rdd_at I3 rd3 rfl
    cases e'
    obtain ⟨q', rfl, rfl, hin, hdep, hdat⟩ := key_at I3 hnk (r2.fz (x3.fz g2)) rel2
    refine call_meetsIn PySem.F.slot_dict_get hm'.typeIs PySem.F.entry_dict_get (PySem.F.args_dict_get_3 _ _ _) (meetsH_dict_get_default (nestedKind X.prog X.w) p q' lo _) ⟨k_room hu, nk, xs', ⟨hin, hdep⟩, hm', ?_⟩
    have hdat : nk.data = dk := hdat
    have x13 := (x1.trans x2).trans x3
    rw [← hdat] at q
    rcases rpT_find (k := nk) rT with ⟨f1, f2⟩ | ⟨d2, b2, u2, v2, f1, f2, f3, f4⟩
    · rw [f1] at q
      rw [f2]
      exact ⟨_, H3, I3.tok _, rel3, q _ _ x13 g3 r3⟩
    · rw [f1] at q
      rw [f2]
      exact ⟨_, H3, I3.tok _, f3, q _ _ x13 g3 f4⟩
  · cases hf
def dIx (fd : Evd) (fk : Ev) : Ev := fun Γ t => fd Γ t >>= fun p => fk Γ p.2 >>= fun q => if (okKey q.1).isSome then dFind p.1 q.1 >>= fun d => some (d, q.2) else none
theorem xe_dix {fd : Evd} {fk : Ev} (hu : X.A.units + 64 < cLine) (ho : XD X a fd) (hk : XE X b fk) (hs : NoSl b := by exact fun _ _ => rfl) : XE X (.Subscript a b pos) (dIx fd fk) := by
  refine ⟨fun pn s sg hp Q iv hq => ?_⟩
  obtain ⟨tp, H0, t, Γ, d', t', S, hf, q⟩ := hq
  obtain ⟨⟨ds, t1⟩, e1, hf⟩ := bindO hf
  obtain ⟨⟨dk, t2⟩, e2, hf⟩ := bindO hf
  split at hf
  · rename_i hok
    obtain ⟨dd, e3, hf⟩ := bindO hf
    cases hf
    obtain ⟨nk, hnk⟩ := Option.isSome_iff_exists.mp hok
    refine subD_of PySem.F.slot_dict_getitem.lookup hs (thn (ho.run pn s sg hp (fun v H1 => Ex tp hp H1 ∧ GOk (pk X) H1 tp t1 ∧ Rdd (pk X) H1 v ds) iv ⟨tp, H0, t, Γ, _, _, S, e1, fun v H1 x1 g1 r1 => ⟨x1, g1, r1⟩⟩) fun u s1 ⟨v, H1, I1, rel, x1, g1, r1⟩ => ?_)
    have S1 := S.step x1 g1
    refine thn (hk.run pn s1 sg H1 (fun v H2 => Ex tp H1 H2 ∧ GOk (pk X) H2 tp _ ∧ Rp (pk X) H2 v dk) I1 ⟨tp, H0, t1, Γ, _, _, S1, e2, fun v H1 x1 g1 r1 => ⟨x1, g1, r1⟩⟩) fun kv s2 ⟨v2, H2, I2, rel2, x2, g2, r2⟩ => ?_
    have rd2 := rdd_ex r1 (rdd_tp r1 g1) x2 g1
    obtain ⟨p, xs, rfl, rfl, rT, lo, hl, hm⟩ := rdd_at I2 rd2 rel
    obtain ⟨q', rfl, rfl, hin, hdep, hdat⟩ := key_at I2 hnk r2 rel2
    have hdat : nk.data = dk := hdat
    subst hdat
    rcases rpT_find (k := nk) rT with ⟨f1, f2⟩ | ⟨d2, b2, u2, v2, f1, f2, f3, f4⟩
    · rw [f1] at e3; cases e3
    · rw [f1] at e3
      cases e3
      exact ⟨hm.typeIs, wpAny_getItem_heap (k_room hu) (show NestedIs s2.heap nk (.ref q') ∧ nk.depth ≤ 8 from ⟨hin, hdep⟩) hm f2 ⟨_, H2, I2.tok _, f3, q _ _ (x1.trans x2) g2 f4⟩⟩
  · cases hf
def dIn (fk : Ev) (fd : Evd) : Ev := fun Γ t => fk Γ t >>= fun q => fd Γ q.2 >>= fun p => if (okKey q.1).isSome then some (.bool (dFind p.1 q.1).isSome, p.2) else none
def dNin (fk : Ev) (fd : Evd) : Ev := fun Γ t => fk Γ t >>= fun q => fd Γ q.2 >>= fun p => if (okKey q.1).isSome then some (.bool (!(dFind p.1 q.1).isSome), p.2) else none
def tInD (g : Bool → Bool) (E : Pk) (fk : Ev) (fd : Evd) : TE := tX E fun Γ t => fk Γ t >>= fun q => fd Γ q.2 >>= fun p => if (okKey q.1).isSome then some (.bool (g (dFind p.1 q.1).isSome), p.2) else none
theorem pc_in {fd : Evd} {fk : Ev} (hu : X.A.units + 64 < cLine) (hk : XE X a fk) (ho : XD X b fd) : PC X .In a b (tInD id (pk X) fk fd) := by
  refine ⟨fun pn s sg hp Q iv hq => ?_⟩
  obtain ⟨tp, H0, t, Γ, d', t', S, hf, q⟩ := hq
  obtain ⟨⟨dk, t1⟩, e1, hf⟩ := bindO hf
  obtain ⟨⟨ds, t2⟩, e2, hf⟩ := bindO hf
  split at hf
  · rename_i hok
    cases hf
    obtain ⟨nk, hnk⟩ := Option.isSome_iff_exists.mp hok
    refine thn (hk.run pn s sg hp (fun v H1 => Ex tp hp H1 ∧ GOk (pk X) H1 tp t1 ∧ Rp (pk X) H1 v dk) iv ⟨tp, H0, t, Γ, _, _, S, e1, fun v H1 x1 g1 r1 => ⟨x1, g1, r1⟩⟩) fun kv s1 ⟨v, H1, I1, rel, x1, g1, r1⟩ => ?_
    refine thn (ho.run pn s1 sg H1 (fun v H2 => Ex tp H1 H2 ∧ GOk (pk X) H2 tp _ ∧ Rdd (pk X) H2 v ds) I1 ⟨tp, H0, t1, Γ, _, _, S.step x1 g1, e2, fun v H1 x1 g1 r1 => ⟨x1, g1, r1⟩⟩) fun u s2 ⟨v2, H2, I2, rel2, x2, g2, r2⟩ => ?_
    obtain ⟨p, xs, rfl, rfl, rT, lo, hl, hm⟩ := rdd_at I2 r2 rel2
    obtain ⟨q', rfl, rfl, hin, hdep, hdat⟩ := key_at I2 hnk (r1.fz (x2.fz g1)) rel
    have hdat : nk.data = dk := hdat
    subst hdat
    refine wpAny_in_heap (knd := nestedKind X.prog X.w) (k_room hu) (show NestedIs s2.heap nk (.ref q') ∧ nk.depth ≤ 8 from ⟨hin, hdep⟩) lo hm ?_
    rcases rpT_find (k := nk) rT with ⟨f1, f2⟩ | ⟨d2, b2, u2, v2, f1, f2, f3, f4⟩
    · rw [f1] at q
      rw [f2]
      exact ⟨.bl false, H2, I2.tok _, rfl, q _ _ (x1.trans x2) g2 (.bl _)⟩
    · rw [f1] at q
      rw [f2]
      exact ⟨.bl true, H2, I2.tok _, rfl, q _ _ (x1.trans x2) g2 (.bl _)⟩
  · cases hf
theorem pc_nin {fd : Evd} {fk : Ev} (hu : X.A.units + 64 < cLine) (hk : XE X a fk) (ho : XD X b fd) : PC X .NotIn a b (tInD not (pk X) fk fd) := by
  refine ⟨fun pn s sg hp Q iv hq => ?_⟩
  obtain ⟨tp, H0, t, Γ, d', t', S, hf, q⟩ := hq
  obtain ⟨⟨dk, t1⟩, e1, hf⟩ := bindO hf
  obtain ⟨⟨ds, t2⟩, e2, hf⟩ := bindO hf
  split at hf
  · rename_i hok
    cases hf
    obtain ⟨nk, hnk⟩ := Option.isSome_iff_exists.mp hok
    refine thn (hk.run pn s sg hp (fun v H1 => Ex tp hp H1 ∧ GOk (pk X) H1 tp t1 ∧ Rp (pk X) H1 v dk) iv ⟨tp, H0, t, Γ, _, _, S, e1, fun v H1 x1 g1 r1 => ⟨x1, g1, r1⟩⟩) fun kv s1 ⟨v, H1, I1, rel, x1, g1, r1⟩ => ?_
    refine thn (ho.run pn s1 sg H1 (fun v H2 => Ex tp H1 H2 ∧ GOk (pk X) H2 tp _ ∧ Rdd (pk X) H2 v ds) I1 ⟨tp, H0, t1, Γ, _, _, S.step x1 g1, e2, fun v H1 x1 g1 r1 => ⟨x1, g1, r1⟩⟩) fun u s2 ⟨v2, H2, I2, rel2, x2, g2, r2⟩ => ?_
    obtain ⟨p, xs, rfl, rfl, rT, lo, hl, hm⟩ := rdd_at I2 r2 rel2
    obtain ⟨q', rfl, rfl, hin, hdep, hdat⟩ := key_at I2 hnk (r1.fz (x2.fz g1)) rel
    have hdat : nk.data = dk := hdat
    subst hdat
    refine wpAny_notIn_heap (knd := nestedKind X.prog X.w) (k_room hu) (show NestedIs s2.heap nk (.ref q') ∧ nk.depth ≤ 8 from ⟨hin, hdep⟩) lo hm ?_
    rcases rpT_find (k := nk) rT with ⟨f1, f2⟩ | ⟨d2, b2, u2, v2, f1, f2, f3, f4⟩
    · rw [f1] at q
      rw [f2]
      exact ⟨.bl true, H2, I2.tok _, rfl, q _ _ (x1.trans x2) g2 (.bl _)⟩
    · rw [f1] at q
      rw [f2]
      exact ⟨.bl false, H2, I2.tok _, rfl, q _ _ (x1.trans x2) g2 (.bl _)⟩
  · cases hf
/-! ### len(d), {} -/
def dLen (fd : Evd) : Ev := fun Γ t => fd Γ t >>= fun p => some (.int p.1.length, p.2)
theorem rc_lenD (hc : X.calm = true) : CallR X (.builtin "len") (fun vs H Q => ∃ v ds, vs = [v] ∧ Rdd (pk X) H v ds ∧ Q (.int ds.length) H) := by
  intro pn s sg hp vs us Q iv r h
  obtain ⟨v, ds, rfl, rd, q⟩ := h
  obtain ⟨u, rfl, rx⟩ := vals1 r
  obtain ⟨p, xs, rfl, rfl, rT, lo, hl, hm⟩ := rdd_at iv rd rx
  have hlen := rpT_len rT
  have hz : xs.length < 2 ^ 63 := by rw [sizeLine_eq] at hl; omega
  refine call_len_slot hm.typeIs PySem.F.slot_dict_len (n := (xs.length : Int)) (fun Q' h' => ?_) (by omega) (by omega) ?_
  · have hk : s.heap.DictKeyed (nestedKind X.prog X.w) p (pairsH xs) := ⟨xs, hm, rfl⟩
    refine len_keyed lo hk ?_
    rw [pairsH_length]
    exact h'
  · rw [hlen]
    exact ⟨.int _, hp, iv.tok _, ⟨_, rfl⟩, q⟩
theorem xe_dlen {p : Pos} {fd : Evd} (hc : X.calm = true) (hg : Gl X "len") (hm : X.mg "len" = none) (ha : XD X a fd) (hv : bootBuiltins "len" = some (.builtin "len") := by rfl) (hs : starEach [a] X.env = (false, eval a X.env) :: starEach [] X.env := by rfl) : XE X (.Call (.Name "len" p) [a] [] pos) (dLen fd) :=
  peImp (pe_callB (rc_lenD hc) hg hm hv (pa_cons ha pa_nil hs) (by decide) (by decide) hs) fun σ H Q h => by
    obtain ⟨tp, H0, t, Γ, d', t', S, hf, q⟩ := h
    obtain ⟨⟨ds, t1⟩, e1, hf⟩ := bindO hf
    cases hf
    exact ⟨tp, H0, t, Γ, _, _, S, e1, fun v H1 x1 g1 r1 => ⟨v, ds, rfl, r1, q _ _ x1 g1 (.int _)⟩⟩
theorem xm_dict : XM X (.Dict [] [] pos) (vC (.dict [])) := peImp pe_dnewK fun σ H Q h => by
  obtain ⟨tp, H0, t, Γ, d', t', S, hf, q⟩ := h
  cases hf
  exact fun p hp => q p _ (Ex.ofSame (same_upd hp)) (upd_g0 S.g hp) hp (.inl ⟨[], upd_same, .nil⟩)
/-! ### an object that was written here is returned -/
def sRetMu (i : Nat) : Es := fun Γ t => match Γ[i]? with
  | some (.mu d) => some (.rt d t)
  | _ => none
theorem xs_retMu (i : Nat) {x : Str} {p : Pos} (hN : X.N[i]? = some x := by rfl) (hv : Vis X.env.scope x := by first | exact Or.inl rfl | exact Or.inr (Or.inl rfl) | exact Or.inr (Or.inr rfl)) (hd : (x == ("__debug__" : Str)) = false := by decide)
    (hcd : (x == ("__classdict__" : Str)) = false := by decide) : XS X (.Return (some (.Name x p)) pos) (sRetMu i) := psImp (ps_ret (peFreeze (pe_var hN hv hd hcd))) fun Dn σ H h => by
  obtain ⟨tp, H0, t, Γ, r, S, hf, q⟩ := h
  unfold sRetMu at hf
  split at hf
  · rename_i d hi
    cases hf
    obtain ⟨p, e, n0, m⟩ := S.has i _ hi
    refine ⟨_, e, .inr ⟨p, ?_⟩⟩
    have x1 : ∀ o, Ex tp H0 (upd H p o) := fun o => upd_ex S.ex n0
    cases d with
    | list ds =>
      obtain ⟨xs, m1, m2⟩ := m
      exact ⟨_, rfl, m1, .inl ⟨xs, rfl⟩, fun o => q _ _ (x1 _) (upd_g S.g m1) (.lst (.of upd_same) (m2.fz (upd_fz m1)))⟩
    | dict ds =>
      have ng : ∀ {u : HO}, H p = some u → (∀ xs, u ≠ .tup xs) → (∀ o w, u ≠ .frz o w) → ∀ o, Fz H (upd H p o) ∧ GOk (pk X) (upd H p o) tp t := fun {u} hu h1 h2 o => by
        have f : Fz H (upd H p o) := ⟨fun b ys e => by
          rw [upd_ne (fun z => by rw [z, hu] at e; cases e; exact h1 _ rfl)]
          exact e, fun b q w e => by
          rw [upd_ne (fun z => by rw [z, hu] at e; cases e; exact h2 _ _ rfl)]
          exact e⟩
        refine ⟨f, fun b e => ?_⟩
        obtain ⟨c, k1, k2⟩ := S.g b e
        refine ⟨c, ?_, k2.fz f⟩
        rw [upd_ne (fun z => S.h0 b e (by rw [z]; exact n0))]
        exact k1
      rcases m with ⟨kvs, m1, m2⟩ | ⟨xs, m1, m2⟩
      · have k := ng m1 (fun _ z => nomatch z) (fun _ _ z => nomatch z)
        exact ⟨_, rfl, m1, .inr (.inl ⟨kvs, rfl⟩), fun o => q _ _ (x1 _) (k _).2 (.dik (o := o) upd_same (m2.fz (k _).1))⟩
      · have k := ng m1 (fun _ z => nomatch z) (fun _ _ z => nomatch z)
        exact ⟨_, rfl, m1, .inr (.inr ⟨_, rfl⟩), fun o => q _ _ (x1 _) (k _).2 (.dit (o := o) upd_same (m2.fz (k _).1))⟩
    | _ => exact m.elim
  · cases hf
/-! ### tests of a comprehension -/
theorem xts_nil : PTs X [] (tXB (pk X) bYes) := ⟨fun pn s sg hp Q iv h => pts_nil.run pn s sg hp Q iv (by
  obtain ⟨tp, H0, t, Γ, d', t', S, hf, q⟩ := h
  cases hf
  exact q hp (Ex.refl _ _) S.g)⟩
theorem xts_one {f : Evb} (h : XT X a f) : PTs X [a] (tXB (pk X) f) := pts_one h
end
end DL

set_option Elab.async false
set_option linter.all false
set_option maxRecDepth 100000
/-! DL11: the keys of a dict one by one; comprehensions with two clauses; x = [..]. -/
namespace DL
open PySem PySem.Spec L2
open PyProof.Rows hiding St

/-! ### keys one by one -/
def Itx (E : Pk) (d : Addr) (o : Obj) (xs : List (NestedKey × Addr × Value)) : It :=
  ⟨fun i H => H d = some (.frz o (.ext (DKf E d xs))) ∧ i < xs.length, fun i H x H' => H' = H ∧ ∃ y, xs[i]? = some y ∧ x = .ref y.2.1, fun i H => H d = some (.frz o (.ext (DKf E d xs))) ∧ xs.length ≤ i⟩
theorem frzX {X : Cx} {pins : List (Addr × Obj)} {σ : St} {H : Hp} {s : Shared} {d : Addr} {o : Obj} {xs : List (NestedKey × Addr × Value)} (iv : L2.Inv X pins σ H s) (h : H d = some (.frz o (.ext (DKf (pk X) d xs)))) :
    (d == sysModules) = false ∧ s.heap.get? d = some o ∧ o.ExactDict ∧ ∃ (ds : Array DictEntry) (ep : Nat), o.data = .dict ds ep ∧ ds.size = xs.length ∧ ∀ (i : Nat) (y : NestedKey × Addr × Value), xs[i]? = some y → ∃ en : DictEntry, ds[i]? = some en ∧ en.key = .ref y.2.1 := by
  obtain ⟨ho, inner⟩ := iv.hok d _ h
  obtain ⟨h1, h2, h3, o', ds, ep, h4, h5, h6, h7, h8⟩ := inner.1
  rw [ho] at h4
  cases h4
  refine ⟨h1, ho, h5, ds, ep, h6, size_of_entries h7, fun i y hy => ?_⟩
  have z := entry_at h7 i
  rw [hy] at z
  exact ⟨_, z, rfl⟩
theorem turn_x {E : Pk} {tg : Expr} {d : Addr} {o : Obj} {ds : Array DictEntry} {ep : Nat} {xs : List (NestedKey × Addr × Value)} (itr : Addr) (hod : o.data = .dict ds ep) : Turn E.P E.w E.K tg (Itx E d o xs) [itr] itr (fun i h => h.IsKeyIter itr d i xs.length ep) where
  mem := by simp
  obj := fun i h st b hb => by
    have z : b = itr := by simpa using hb
    subst z
    obtain ⟨oi, z, c, dd⟩ := st
    exact ⟨oi, z, fun v y => by rw [dd] at y; cases y⟩
  keep := fun i h h' st k => st.at fun oi z => k itr (by simp) oi z
  item := by
    intro X hP hw hK hc i pn s sg hp Ex iv hf st hg
    cases E
    subst hP hw hK
    obtain ⟨hd, hi⟩ := hg
    obtain ⟨k0, k1, k2, k3, k4, k5⟩ := hf itr (by simp)
    obtain ⟨hs, hgd, hx, ds', ep', hdt, hsz, ent⟩ := frzX iv hd
    obtain ⟨rfl, rfl⟩ := dict_ep hod hdt
    obtain ⟨en, hen, hkey⟩ := ent i xs[i] (List.getElem?_eq_getElem hi)
    refine next_key_item st hgd hdt hsz hen fun h' st' sb => ?_
    have I1 : L2.Inv X pn sg hp { s with heap := h' } := iv.turned (t' := s.toks) (fun b ob hb z => (sb.2 b hb).trans z) k0 k1 k3 k4 k5
    obtain ⟨oi, z, c, dd⟩ := id st'
    exact ⟨en.key, rfl, go_of (s := { s with heap := h' }) z c dd (by decide) ⟨.ref xs[i].2.1, hp, I1, hkey, ⟨rfl, xs[i], List.getElem?_eq_getElem hi, rfl⟩, st', fun b hb => (hf b hb).1⟩⟩
  done := by
    intro X hP hw hK hc i pn s sg hp Ex iv hf st hg
    cases E
    subst hP hw hK
    obtain ⟨hd, hi⟩ := hg
    obtain ⟨k0, k1, k2, k3, k4, k5⟩ := hf itr (by simp)
    obtain ⟨hs, hgd, hx, ds', ep', hdt, hsz, ent⟩ := frzX iv hd
    obtain ⟨rfl, rfl⟩ := dict_ep hod hdt
    exact next_key_end (iv.ok.hd hc) st hgd hdt hsz hi fun h' eb => ⟨rfl, iv.turned (t' := s.toks) (fun b ob hb z => eb b ob hb z) k0 k1 k3 k4 k5⟩
  self := fun A i s Q Ex st h => wpAny_pyIter_keyiter st h
theorem rpT_get {E : Pk} {H : Hp} : ∀ {xs : List (NestedKey × Addr × Value)} {ds : List (D × D)} {i : Nat} {y : NestedKey × Addr × Value}, RpT E H xs ds → xs[i]? = some y → ∃ p, ds[i]? = some p ∧ Rp E H (.ref y.2.1) p.1
  | _, _, _, _, .nil, e => by simp at e
  | _, _, 0, _, .cons hk _ _ _, e => by
    cases e
    exact ⟨_, rfl, hk⟩
  | _, _, i + 1, _, .cons _ _ _ r, e => rpT_get (i := i) r e
theorem jok_x {E : Pk} {H : Hp} {d : Addr} {o : Obj} {xs : List (NestedKey × Addr × Value)} {ds : List (D × D)} (h : H d = some (.frz o (.ext (DKf E d xs)))) (r : RpT E H xs ds) : JOk E H (Itx E d o xs) (ds.map (·.1)) := by
  have hl : xs.length = (ds.map (·.1)).length := by rw [List.length_map, rpT_len r]
  refine ⟨fun i H1 x H2 => H2 = H1 ∧ ∃ y, xs[i]? = some y ∧ x = .ref y.2.1, ⟨fun i H1 hi f => ⟨f.frz _ _ _ h, by omega⟩, fun H1 f => ⟨f.frz _ _ _ h, by omega⟩, fun i H1 x H2 hi f y => y⟩, fun i H1 x H2 hi f y => ?_⟩
  obtain ⟨rfl, y, hy, rfl⟩ := y
  obtain ⟨p, h1, h2⟩ := rpT_get r hy
  refine ⟨Same.refl _, p.1, ?_, h2.fz f⟩
  rw [List.getElem?_map, h1]
  rfl
def iKeysD (f : Ev) : Evi := fun Γ t => f Γ t >>= fun p => match p.1 with
  | .dict ds => if tKeys ds then some (ds.map (·.1), p.2) else none
  | _ => none
section
variable {X : Cx} {e a b c : Expr} {es rest : List Expr} {pos : Pos}
theorem xi_keysD {tg : Expr} {f : Ev} (ha : XE X a f) : XI X tg a (iKeysD f) := by
  refine ⟨fun pn s sg hp R iv h => ?_⟩
  obtain ⟨tp, H0, t, Γ, ks, t', S, hf, q⟩ := h
  obtain ⟨⟨d, t1⟩, h1, hf⟩ := bindO hf
  cases d with
  | dict ds =>
    simp only at hf
    split at hf
    · rename_i hk
      cases hf
      refine thn (ha.run pn s sg hp (fun v H1 => Ex tp hp H1 ∧ GOk (pk X) H1 tp _ ∧ Rp (pk X) H1 v (.dict ds)) iv ⟨tp, H0, t, Γ, _, _, S, h1, fun v H1 x1 g1 r1 => ⟨x1, g1, r1⟩⟩) fun u s1 ⟨v, H1, I1, rx, x1, g1, r1⟩ => ?_
      cases r1 with
      | dik hd r =>
        obtain ⟨rfl, rfl⟩ := rpK_t r hk
        cases rx
        obtain ⟨hs, hgd, hx, es, ep, vs, hdt, hsz, kv, hm⟩ := I1.frzK hd
        refine iter_keys hs hgd hx hdt (pi_one (tk := s1.toks) I1 _ (turn_keys _ hdt) ⟨_, Heap.get?_push_size _ rfl, rfl, ?_⟩ (q _ _ x1 g1 ⟨fun _ _ _ _ => False, ⟨fun i _ hi _ => absurd hi (Nat.not_lt_zero i), fun H2 f => ⟨f.frz _ _ _ hd, Nat.le_refl _⟩, fun i _ _ _ hi _ _ => absurd hi (Nat.not_lt_zero i)⟩, fun i _ _ _ hi _ _ => absurd hi (Nat.not_lt_zero i)⟩))
        rw [hsz]
        rfl
      | dit hd r =>
        cases rx
        obtain ⟨hs, hgd, hx, es, ep, hdt, hsz, ent⟩ := frzX I1 hd
        refine iter_keys hs hgd hx hdt (pi_one (tk := s1.toks) I1 _ (turn_x (E := pk X) _ hdt) ⟨_, Heap.get?_push_size _ rfl, rfl, ?_⟩ (q _ _ x1 g1 (jok_x hd r)))
        rw [hsz]
        rfl
    · cases hf
  | _ => cases hf

/-! ### [.. for .. in .. for .. in ..] -/
def lc2Loop (tg : Tg) (cond : Evb) (it1 : Evi) (own1 : List Nat) (tg1 : Tg) (cond1 : Evb) (elt : Ev) (Γ : Env') : List D → Tape → Option (List D × Tape)
  | [], t => some ([], t)
  | d :: ds, t => tg d >>= fun l => cond (setG Γ l) t >>= fun b => if b.1 then it1 (setG Γ l) b.2 >>= fun p => lcLoop tg1 cond1 elt (wipeG (setG Γ l) own1) p.1 p.2 >>= fun q => lc2Loop tg cond it1 own1 tg1 cond1 elt Γ ds q.2 >>= fun r => some (q.1 ++ r.1, r.2)
    else lc2Loop tg cond it1 own1 tg1 cond1 elt Γ ds b.2
def lc2D (it : Evi) (own : List Nat) (tg : Tg) (cond : Evb) (it1 : Evi) (own1 : List Nat) (tg1 : Tg) (cond1 : Evb) (elt : Ev) : Ev := fun Γ t => it Γ t >>= fun p => lc2Loop tg cond it1 own1 tg1 cond1 elt (wipeG Γ own) p.1 p.2 >>= fun q => if q.1.length ≤ sizeLine then some (.list q.1, q.2) else none
/-- the list's state -/
structure AccAt (E : Pk) (tp : Option Addr) (H1 : Hp) (Dd : Addr) (t : Tape) (acc : List D) (H : Hp) : Prop where
  ex : ∃ vs, H Dd = some (.lst vs) ∧ RpA E H vs acc
  x : Ex tp H1 H
  g : GOk E H tp t
theorem lc2_imp {own own1 : List Nat} {it it1 : Evi} {g g1 : Tg} {cond cond1 : Evb} {f : Ev} (hT : TgIn g own) (hT1 : TgIn g1 own1) {σ : St} {H : Hp} {Q : VK} (hq : tX (pk X) (lc2D it own g cond it1 own1 g1 cond1 f) σ H Q) :
    tLc2 (tXI (pk X) it) (tXG (pk X) g) (tXB (pk X) cond) (tXI (pk X) it1) (tXG (pk X) g1) (tXB (pk X) cond1) (tX (pk X) f) own own1 σ H (frzK Q) := by
  obtain ⟨tp, H0, t, Γ, d', t', S, hf, q⟩ := hq
  obtain ⟨⟨ds, t1⟩, h1, hf⟩ := bindO hf
  obtain ⟨⟨out, tE⟩, h2, hf⟩ := bindO hf
  split at hf
  · rename_i hz
    cases hf
    refine ⟨tp, H0, t, Γ, ds, t1, S, h1, fun J H1 x1 y1 jj Dd hD => ?_⟩
    obtain ⟨Y, W, hY⟩ := jj.ex
    have S1 := S.step x1 y1
    have nD : tp ≠ some Dd := tp_ne y1 hD
    refine ⟨fun i m H2 => i + m = ds.length ∧ ∃ t2 acc more, AccAt (pk X) tp H1 Dd t2 acc H2 ∧ lc2Loop g cond it1 own1 g1 cond1 f (wipeG Γ own) (ds.drop i) t2 = some (more, tE) ∧ acc ++ more = out, ⟨ds.length, Nat.zero_add _, t1, [], out, ⟨⟨[], upd_same, .nil⟩, upd_ex (Ex.refl _ _) hD, upd_g0 y1 hD⟩, h2, rfl⟩, fun i m H2 A => ?_⟩
    obtain ⟨him, t2, acc, more, B, go, eo⟩ := A
    have f2 := B.x.fz y1
    by_cases hi : i < ds.length
    · refine .inr ⟨W.goes i H2 hi f2, fun H' => i + 1 + (m - 1) = ds.length ∧ ∃ t2 acc more, AccAt (pk X) tp H1 Dd t2 acc H' ∧ lc2Loop g cond it1 own1 g1 cond1 f (wipeG Γ own) (ds.drop (i + 1)) t2 = some (more, tE) ∧ acc ++ more = out, fun H' n => ⟨m - 1, by omega, n⟩, fun x H3 y => ?_⟩
      have hi1 : i + 1 + (m - 1) = ds.length := by omega
      obtain ⟨s3, d, hd, rd⟩ := hY i H2 x H3 hi f2 (W.yields i H2 x H3 hi f2 y)
      rw [List.drop_eq_getElem_cons hi] at go
      rw [List.getElem?_eq_getElem hi] at hd
      cases hd
      obtain ⟨l, e1, go⟩ := bindO go
      have B3 : AccAt (pk X) tp H1 Dd t2 acc H3 := by
        obtain ⟨⟨vs, v1, v2⟩, bx, bg⟩ := B
        exact ⟨⟨vs, s3 _ _ v1, v2.fz (sameFz s3)⟩, bx.trans (Ex.ofSame s3), bg.same s3⟩
      refine ⟨_, l, rd, e1, fun lv k1 k2 => ⟨wipe_sets _ (mem_of_map k1 (hT _ _ e1)) |>.trans (wipe_wipe _ _), ?_⟩⟩
      obtain ⟨⟨b, t4⟩, e2, go⟩ := bindO go
      have Sx : ∀ {H' : Hp} {t5 : Tape}, Ex tp H1 H' → Fz H3 H' → GOk (pk X) H' tp t5 → Sok (pk X) H0 tp t5 H' (setV (wipe σ own) lv) (setG (wipeG Γ own) l) := fun {H' t5} x5 f5 g5 => sok_sets (sok_wipe (S1.step x5 g5) own) k1 (k2.fz f5)
      refine ⟨tp, H0, t2, _, b, t4, Sx B3.x (Fz.refl _) B3.g, e2, fun H4 x4 g4 => ?_⟩
      have f34 := x4.fz B3.g
      have B4 : AccAt (pk X) tp H1 Dd t4 acc H4 := by
        obtain ⟨⟨vs, v1, v2⟩, bx, bg⟩ := B3
        exact ⟨⟨vs, x4 _ _ nD v1, v2.fz (x4.fz bg)⟩, bx.trans x4, g4⟩
      cases b with
      | false => exact iteF ⟨hi1, t4, acc, more, B4, go, eo⟩
      | true =>
        obtain ⟨⟨ds1, t5⟩, e3, go⟩ := bindO go
        obtain ⟨⟨o1, t6⟩, e4, go⟩ := bindO go
        obtain ⟨⟨o2, t7⟩, e5, go⟩ := bindO go
        cases go
        refine iteT ⟨tp, H0, t4, _, ds1, t5, Sx B4.x f34 g4, e3, fun J1 H5 x5 y5 jj1 => ?_⟩
        have f35 := f34.trans (x5.fz g4)
        obtain ⟨Y1, W1, hY1⟩ := jj1.ex
        have B5 : AccAt (pk X) tp H1 Dd t5 acc H5 := by
          obtain ⟨⟨vs, v1, v2⟩, bx, bg⟩ := B4
          exact ⟨⟨vs, x5 _ _ nD v1, v2.fz (x5.fz bg)⟩, bx.trans x5, y5⟩
        refine ⟨fun j k H6 => j + k = ds1.length ∧ ∃ t6' acc1 more1, AccAt (pk X) tp H1 Dd t6' acc1 H6 ∧ Fz H5 H6 ∧ lcLoop g1 cond1 f (wipeG (setG (wipeG Γ own) l) own1) (ds1.drop j) t6' = some (more1, t6) ∧ acc1 ++ more1 = acc ++ o1, ⟨ds1.length, Nat.zero_add _, t5, acc, o1, B5, Fz.refl _, e4, rfl⟩, fun j k H6 A6 => ?_⟩
        obtain ⟨hjk, t6', acc1, more1, B6, f6, go6, eo6⟩ := A6
        by_cases hj : j < ds1.length
        · have hj1 : j + 1 + (k - 1) = ds1.length := by omega
          refine .inr ⟨W1.goes j H6 hj f6, fun H' => j + 1 + (k - 1) = ds1.length ∧ ∃ t6' acc1 more1, AccAt (pk X) tp H1 Dd t6' acc1 H' ∧ Fz H5 H' ∧ lcLoop g1 cond1 f (wipeG (setG (wipeG Γ own) l) own1) (ds1.drop (j + 1)) t6' = some (more1, t6) ∧ acc1 ++ more1 = acc ++ o1, fun H' n => ⟨k - 1, by omega, n⟩, fun x7 H7 y7 => ?_⟩
          obtain ⟨s7, d7, hd7, rd7⟩ := hY1 j H6 x7 H7 hj f6 (W1.yields j H6 x7 H7 hj f6 y7)
          rw [List.drop_eq_getElem_cons hj] at go6
          rw [List.getElem?_eq_getElem hj] at hd7
          cases hd7
          obtain ⟨l7, e7, go6⟩ := bindO go6
          have B7 : AccAt (pk X) tp H1 Dd t6' acc1 H7 := by
            obtain ⟨⟨vs, v1, v2⟩, bx, bg⟩ := B6
            exact ⟨⟨vs, s7 _ _ v1, v2.fz (sameFz s7)⟩, bx.trans (Ex.ofSame s7), bg.same s7⟩
          refine ⟨_, l7, rd7, e7, fun lv7 k3 k4 => ⟨wipe_sets _ (mem_of_map k3 (hT1 _ _ e7)) |>.trans (wipe_wipe _ _), ?_⟩⟩
          obtain ⟨⟨b8, t8⟩, e8, go6⟩ := bindO go6
          have S7 := sok_sets (sok_wipe (Sx B7.x (f35.trans (f6.trans (sameFz s7))) B7.g) own1) k3 k4
          refine ⟨tp, H0, t6', _, b8, t8, S7, e8, fun H8 x8 g8 => ?_⟩
          have B8 : AccAt (pk X) tp H1 Dd t8 acc1 H8 := by
            obtain ⟨⟨vs, v1, v2⟩, bx, bg⟩ := B7
            exact ⟨⟨vs, x8 _ _ nD v1, v2.fz (x8.fz bg)⟩, bx.trans x8, g8⟩
          have f58 : Fz H5 H8 := (f6.trans (sameFz s7)).trans (x8.fz B7.g)
          cases b8 with
          | false => exact iteF ⟨hj1, t8, acc1, more1, B8, f58, go6, eo6⟩
          | true =>
            obtain ⟨⟨z, t9⟩, e9, go6⟩ := bindO go6
            obtain ⟨⟨ms, tA⟩, eA, go6⟩ := bindO go6
            cases go6
            refine iteT ⟨tp, H0, t8, _, z, t9, S7.step x8 g8, e9, fun v H9 x9 g9 r9 => ?_⟩
            obtain ⟨⟨vs, v1, v2⟩, bx, bg⟩ := B8
            have v9 : H9 Dd = some (.lst vs) := x9 _ _ nD v1
            have r9' := v2.fz (x9.fz bg)
            have hlen : acc1.length < sizeLine := by
              have z1 := congrArg List.length eo6
              have z2 := congrArg List.length eo
              simp only [List.length_append, List.length_cons] at z1 z2
              have hz : out.length ≤ sizeLine := hz
              omega
            have up : Fz H9 (upd H9 Dd (.lst (vs ++ [v]))) := upd_fz v9
            refine ⟨vs, v9, by rw [r9'.length]; exact hlen, hj1, t9, acc1 ++ [z], ms, ⟨⟨_, upd_same, (r9'.append (.cons r9 .nil)).fz up⟩, upd_ex (bx.trans x9) hD, upd_g g9 v9⟩, (f58.trans (x9.fz g8)).trans up, eA, by rw [List.append_assoc]; exact eo6⟩
        · have hj2 : j = ds1.length := by omega
          subst hj2
          rw [List.drop_length] at go6
          cases go6
          rw [List.append_nil] at eo6
          subst eo6
          exact .inl ⟨W1.stops H6 f6, hi1, t6, _, o2, B6, e5, by rw [List.append_assoc]; exact eo⟩
    · have hi2 : i = ds.length := by omega
      subst hi2
      rw [List.drop_length] at go
      cases go
      rw [List.append_nil] at eo
      subst eo
      obtain ⟨⟨vs, v1, v2⟩, bx, bg⟩ := B
      refine .inl ⟨W.stops H2 f2, .inr ⟨Dd, _, rfl, v1, .inl ⟨vs, rfl⟩, fun o => ?_⟩⟩
      exact q _ _ (x1.trans (upd_ex bx hD)) (upd_g bg v1) (.lst (.of upd_same) (v2.fz (upd_fz v1)))
  · cases hf
theorem xe_lc2 {elt tg iter tg1 iter1 : Expr} {ifs ifs1 : List Expr} {scope : Scope} {own : List (Str × Nat)} (own1 : List Nat) {it it1 : Evi} {g g1 : Tg} {cond cond1 : Evb} {f : Ev} (hc : X.calm = true) (hN : X.N.Nodup) (hi : XI X tg iter it) (ok : BlkOk X.N X.env.scope scope own) (hv : ∀ i ∈ own1, i ∈ own.map (·.2))
    (hg : ∀ (s : Shared) (H : Hp) (C : Addr) (cl : List (Str × Addr)) (fp : List Addr), XG (X.blk s H scope (compEnvC scope cl C X.env) fp) tg g) (hT : TgIn g (own.map (·.2)))
    (ht : ∀ (s : Shared) (H : Hp) (C : Addr) (cl : List (Str × Addr)) (fp : List Addr), PTs (X.blk s H scope (compEnvC scope cl C X.env) fp) ifs (tXB (pk X) cond))
    (hi1 : ∀ (s : Shared) (H : Hp) (C : Addr) (cl : List (Str × Addr)) (fp : List Addr), XI (X.blk s H scope (compEnvC scope cl C X.env) fp) tg1 iter1 it1)
    (hg1 : ∀ (s : Shared) (H : Hp) (C : Addr) (cl : List (Str × Addr)) (fp : List Addr), XG (X.blk s H scope (compEnvC scope cl C X.env) fp) tg1 g1) (hT1 : TgIn g1 own1)
    (ht1 : ∀ (s : Shared) (H : Hp) (C : Addr) (cl : List (Str × Addr)) (fp : List Addr), PTs (X.blk s H scope (compEnvC scope cl C X.env) fp) ifs1 (tXB (pk X) cond1))
    (he : ∀ (s : Shared) (H : Hp) (C : Addr) (cl : List (Str × Addr)) (fp : List Addr), XE (X.blk s H scope (compEnvC scope cl C X.env) fp) elt f) (hs : ∀ x, foldedSetIterable iter X.env x = pure x := by intro _; rfl) (hs1 : ∀ env x, foldedSetIterable iter1 env x = pure x := by intro _ _; rfl) :
    XE X (.ListComp elt [⟨tg, iter, ifs, 0⟩, ⟨tg1, iter1, ifs1, 0⟩] scope pos) (lc2D it (own.map (·.2)) g cond it1 own1 g1 cond1 f) := peImp (peFreeze (pe_lc2 hc hN hi ok hv hg ht hi1 hg1 ht1 he hs hs1)) fun σ H Q hq => lc2_imp hT hT1 hq
/-- the value stands in the slot, frozen -/
theorem frzN_set {Q : St → Hp → Prop} {i : Nat} {σ : St} {x : V} {H : Hp} (h : frzK (fun v H' => Q (σ.set i (some v)) H') x H) : frzN Q (σ.set i (some x)) H := by
  rcases h with h | ⟨p, u, rfl, hu, hw, h⟩
  · exact .inl h
  · exact .inr ⟨p, u, hu, hw, h⟩
theorem set_of {i : Nat} {f : Ev} {te : TE} {Dn : Ends} {σ : St} {H : Hp} (hi : ∀ Q, tX (pk X) f σ H Q → te σ H (frzK Q)) (mono : ∀ Q Q' : VK, (∀ v H', Q v H' → Q' v H') → te σ H Q → te σ H Q') (h : tXS (pk X) (sSet i f) Dn σ H) : tAsg te (gName i) { Dn with nx := frzN Dn.nx } σ H := by
  obtain ⟨tp, H0, t, Γ, r, S, hf, q⟩ := h
  obtain ⟨⟨d, t1⟩, e1, hf⟩ := bindO hf
  cases hf
  refine mono _ _ (fun v H' z => frzN_set (Q := Dn.nx) (i := i) z) (hi (fun v H' => Dn.nx (σ.set i (some v)) H') ⟨tp, H0, t, Γ, d, t1, S, e1, fun v H1 x1 g1 r1 => q _ _ (x1.fz S.g) ((S.step x1 g1).set i r1)⟩)
theorem lc_mono {wi : TI} {g : TG} {tt : TT} {te : TE} {own : List Nat} {σ : St} {H : Hp} (hwi : ∀ (R R' : It → Hp → Prop), (∀ J H', R J H' → R' J H') → wi σ H R → wi σ H R') (Q Q' : VK) (h : ∀ v H', Q v H' → Q' v H') (q : tLc wi g tt te own σ H Q) : tLc wi g tt te own σ H Q' := by
  refine hwi _ _ (fun J H1 z D hD => ?_) q
  obtain ⟨W, w0, w1⟩ := z D hD
  refine ⟨W, w0, fun i m H2 a => ?_⟩
  rcases w1 i m H2 a with ⟨b, c⟩ | b
  · exact .inl ⟨b, h _ _ c⟩
  · exact .inr b
theorem lc2_mono {wi wi1 : TI} {g g1 : TG} {tt tt1 : TT} {te : TE} {own own1 : List Nat} {σ : St} {H : Hp} (hwi : ∀ (R R' : It → Hp → Prop), (∀ J H', R J H' → R' J H') → wi σ H R → wi σ H R') (Q Q' : VK) (h : ∀ v H', Q v H' → Q' v H') (q : tLc2 wi g tt wi1 g1 tt1 te own own1 σ H Q) : tLc2 wi g tt wi1 g1 tt1 te own own1 σ H Q' := by
  refine hwi _ _ (fun J H1 z D hD => ?_) q
  obtain ⟨W, w0, w1⟩ := z D hD
  refine ⟨W, w0, fun i m H2 a => ?_⟩
  rcases w1 i m H2 a with ⟨b, c⟩ | b
  · exact .inl ⟨b, h _ _ c⟩
  · exact .inr b
theorem xi_mono {it : Evi} {σ : St} {H : Hp} (R R' : It → Hp → Prop) (h : ∀ J H', R J H' → R' J H') (q : tXI (pk X) it σ H R) : tXI (pk X) it σ H R' := by
  obtain ⟨tp, H0, t, Γ, ds, t', S, hf, q⟩ := q
  exact ⟨tp, H0, t, Γ, ds, t', S, hf, fun J H' x g j => h _ _ (q J H' x g j)⟩
/-- x = [..] -/
theorem xs_setLc (i : Nat) {y : Str} {py spos : Pos} {elt tg iter : Expr} {ifs : List Expr} {scope : Scope} {own : List (Str × Nat)} {it : Evi} {g : Tg} {cond : Evb} {f : Ev} (hc : X.calm = true) (hN : X.N.Nodup) (hi : XI X tg iter it) (ok : BlkOk X.N X.env.scope scope own)
    (hg : ∀ (s : Shared) (H : Hp) (C : Addr) (cl : List (Str × Addr)) (fp : List Addr), XG (X.blk s H scope (compEnvC scope cl C X.env) fp) tg g) (hT : TgIn g (own.map (·.2)))
    (ht : ∀ (s : Shared) (H : Hp) (C : Addr) (cl : List (Str × Addr)) (fp : List Addr), PTs (X.blk s H scope (compEnvC scope cl C X.env) fp) ifs (tXB (pk X) cond))
    (he : ∀ (s : Shared) (H : Hp) (C : Addr) (cl : List (Str × Addr)) (fp : List Addr), XE (X.blk s H scope (compEnvC scope cl C X.env) fp) elt f)
    (hsw : swapsWith (.ListComp elt [⟨tg, iter, ifs, 0⟩] scope pos) (some (.Name y py)) spos.line X.env = pure true) (hy : X.N[i]? = some y := by rfl) (hyl : X.env.scope.names.lookup y = some .local := by rfl) (hs : ∀ x, foldedSetIterable iter X.env x = pure x := by intro _; rfl) :
    XS X (.Assign [.Name y py] (.ListComp elt [⟨tg, iter, ifs, 0⟩] scope pos) spos) (sSet i (lcD it (own.map (·.2)) g cond f)) := psImp (psFreeze (ps_setLc hc hN hy hyl hsw hi ok hg ht he hs)) fun Dn σ H h => set_of (fun Q => lc_imp hT) (fun Q Q' z => lc_mono (fun R R' => xi_mono R R') Q Q' z) h
theorem xs_setLc2 (i : Nat) (own1 : List Nat) {y : Str} {py spos : Pos} {elt tg iter tg1 iter1 : Expr} {ifs ifs1 : List Expr} {scope : Scope} {own : List (Str × Nat)} {it it1 : Evi} {g g1 : Tg} {cond cond1 : Evb} {f : Ev} (hc : X.calm = true) (hN : X.N.Nodup) (hi : XI X tg iter it) (ok : BlkOk X.N X.env.scope scope own) (hv : ∀ i ∈ own1, i ∈ own.map (·.2))
    (hg : ∀ (s : Shared) (H : Hp) (C : Addr) (cl : List (Str × Addr)) (fp : List Addr), XG (X.blk s H scope (compEnvC scope cl C X.env) fp) tg g) (hT : TgIn g (own.map (·.2)))
    (ht : ∀ (s : Shared) (H : Hp) (C : Addr) (cl : List (Str × Addr)) (fp : List Addr), PTs (X.blk s H scope (compEnvC scope cl C X.env) fp) ifs (tXB (pk X) cond))
    (hi1 : ∀ (s : Shared) (H : Hp) (C : Addr) (cl : List (Str × Addr)) (fp : List Addr), XI (X.blk s H scope (compEnvC scope cl C X.env) fp) tg1 iter1 it1)
    (hg1 : ∀ (s : Shared) (H : Hp) (C : Addr) (cl : List (Str × Addr)) (fp : List Addr), XG (X.blk s H scope (compEnvC scope cl C X.env) fp) tg1 g1) (hT1 : TgIn g1 own1)
    (ht1 : ∀ (s : Shared) (H : Hp) (C : Addr) (cl : List (Str × Addr)) (fp : List Addr), PTs (X.blk s H scope (compEnvC scope cl C X.env) fp) ifs1 (tXB (pk X) cond1))
    (he : ∀ (s : Shared) (H : Hp) (C : Addr) (cl : List (Str × Addr)) (fp : List Addr), XE (X.blk s H scope (compEnvC scope cl C X.env) fp) elt f)
    (hsw : swapsWith (.ListComp elt [⟨tg, iter, ifs, 0⟩, ⟨tg1, iter1, ifs1, 0⟩] scope pos) (some (.Name y py)) spos.line X.env = pure true) (hy : X.N[i]? = some y := by rfl) (hyl : X.env.scope.names.lookup y = some .local := by rfl) (hs : ∀ x, foldedSetIterable iter X.env x = pure x := by intro _; rfl) (hs1 : ∀ env x, foldedSetIterable iter1 env x = pure x := by intro _ _; rfl) :
    XS X (.Assign [.Name y py] (.ListComp elt [⟨tg, iter, ifs, 0⟩, ⟨tg1, iter1, ifs1, 0⟩] scope pos) spos) (sSet i (lc2D it (own.map (·.2)) g cond it1 own1 g1 cond1 f)) := psImp (psFreeze (ps_setLc2 hc hN hy hyl hsw hi ok hv hg ht hi1 hg1 ht1 he hs hs1)) fun Dn σ H h => set_of (fun Q => lc2_imp hT hT1) (fun Q Q' z => lc2_mono (fun R R' => xi_mono R R') Q Q' z) h
end
end DL

set_option Elab.async false
set_option linter.all false
set_option maxRecDepth 100000
/-! DL12: a dict made by a comprehension with two clauses (keys: tuples). -/
namespace DL
open PySem PySem.Spec L2
open PyProof.Rows hiding St

abbrev testsOf (ifs : List Expr) (ev : Env) : Sem Bool := forIn ifs true fun c r => if r = true then do let ok ← isTrue c ev (eval c ev); pure (ForInStep.yield ok) else pure (ForInStep.yield r)
abbrev Nope : Value → Shared → Prop := fun _ _ => False
section
variable {Y : Cx} {tg : Expr} {J : It} {fp : List Addr} {itr : Addr} {tn : Nat → Heap → Prop} {ifs : List Expr} {g : TG} {tt : TT} {i : Nat} {pn : List (Addr × Obj)} {sg : St} {hp : Hp} {s : Shared} {Q : St → Bool → Hp → Prop}
theorem nope {α : Type} {t : Sem α} {R R' : α → Shared → Prop} {A : Around} {M : Model} (hx : ∀ v s, ¬ Y.xe v s) (h : wpAny M A t R Y.xe s) (k : ∀ a s, R a s → R' a s) : wpAny M A t R' Nope s := wpAny_mono h k fun v s z => hx v s z
/-- one item of a source, stored and tested; pl: what the source's own objects are held by -/
theorem src_go (T : Turn Y.prog Y.w Y.K tg J fp itr tn) (hc : Y.calm = true) (hx : ∀ v s, ¬ Y.xe v s) (pg : PG Y tg g) (pt : PTs Y ifs tt) (iv : L2.Inv Y pn sg hp s)
    (hfp : ∀ H' s', L2.Inv Y pn sg H' s' → (∀ b ∈ fp, H' b = none) → ∀ b ∈ fp, FpOk Y pn H' b) (hn : ∀ b ∈ fp, hp b = none) (st : tn i s.heap) (go : J.go i hp)
    (h : ∀ x H', J.yld i hp x H' → g x sg H' fun σ2 H2 => tt σ2 H2 fun b H3 => Q σ2 b H3) :
    wpAny (model Y.prog Y.w) Y.A (pyNext (.ref itr)) (fun r s1 => ∃ u, r = some u ∧ wpAny (model Y.prog Y.w) Y.A (letOwnedTupleGo tg (.ref itr) u) (fun _ s2 => wpAny (model Y.prog Y.w) Y.A (assign tg Y.env u) (fun _ s3 =>
      wpAny (model Y.prog Y.w) Y.A (testsOf ifs Y.env) (fun b s4 => ∃ pl σ2 H3, L2.Inv Y (pn ++ pl) σ2 H3 s4 ∧ (∀ σ' H' s', L2.Inv Y (pn ++ pl) σ' H' s' → L2.Inv Y pn σ' H' s' ∧ tn (i + 1) s'.heap ∧ ∀ b ∈ fp, H' b = none) ∧ Q σ2 b H3) Nope s3) Nope s2) Nope s1) Nope s := by
  refine wpAny_mono (T.item Y rfl rfl rfl hc i pn s sg hp Nope iv (hfp hp s iv hn) st go) (fun r s1 ⟨u, hr, q1⟩ => ⟨u, hr, ?_⟩) fun _ _ z => z
  refine wpAny_mono q1 (fun _ s2 ⟨x, H2, I2, rx, y2, st2, n2⟩ => ?_) fun _ _ z => z
  have I3 := I2.pinned (hfp H2 s2 I2 n2) (T.obj _ _ st2)
  refine nope hx (pg.run _ s2 sg H2 x u _ I3 rx (h x H2 y2)) fun _ s3 ⟨σ3, H3, I4, q3⟩ => ?_
  refine nope hx (pt.run _ s3 σ3 H3 _ I4 q3) fun b s4 ⟨H4, I5, q4⟩ => ⟨pinsAt fp s2.heap, σ3, H4, I5, fun σ' H' s' I' => ?_, q4⟩
  have held : ∀ c ∈ fp, ∀ o, s2.heap.get? c = some o → s'.heap.get? c = some o ∧ H' c = none := fun c hc o ho => by
    have z := I'.pin (c, o) (List.mem_append_right _ (List.mem_append_right _ (mem_pinsAt hc ho)))
    exact ⟨z.1, z.2.1⟩
  refine ⟨I'.unpinned, T.keep _ _ _ st2 fun c hc o ho => (held c hc o ho).1, fun c hc => ?_⟩
  obtain ⟨o, ho, _⟩ := T.obj _ _ st2 c hc
  exact (held c hc o ho).2
end

/-! ### the two loops -/
section
variable {kx vx ta ia tb ib : Expr} {ca cb : List Expr} {scp : Scope} {ps : Pos} {Dd : Addr} {ev : Env} {vs : List Nat}
abbrev dc2 (kx vx ta ia tb ib : Expr) (ca cb : List Expr) (scp : Scope) (ps : Pos) : Expr := .DictComp kx vx [⟨ta, ia, ca, 0⟩, ⟨tb, ib, cb, 0⟩] scp ps
theorem turnA (src dst : Value) : compTurn (dc2 kx vx ta ia tb ib ca cb scp ps) 0 src dst ev = (standAt ia.pos >>= fun _ => pyNext src >>= fun o => match o with
    | none => pure (.done .next)
    | some u => letOwnedTupleGo ta src u >>= fun _ => assign ta ev u >>= fun _ => testsOf ca ev >>= fun r => if r = true then (eval ib ev >>= fun z => standAt ib.pos >>= fun _ => foldedSetIterable ib ev z >>= fun z => holding [z] (pyIter z) >>= fun j => runOwn (.compStart (dc2 kx vx ta ia tb ib ca cb scp ps) 1 j dst ev) ev >>= fun _ => again (.compLoop (dc2 kx vx ta ia tb ib ca cb scp ps) 0 src dst ev))
      else again (.compLoop (dc2 kx vx ta ia tb ib ca cb scp ps) 0 src dst ev)) := by rfl
theorem turnB (src : Value) : compTurn (dc2 kx vx ta ia tb ib ca cb scp ps) 1 src (.ref Dd) ev = (standAt ib.pos >>= fun _ => pyNext src >>= fun o => match o with
    | none => pure (.done .next)
    | some u => letOwnedTupleGo tb src u >>= fun _ => assign tb ev u >>= fun _ => testsOf cb ev >>= fun r => if r = true then ((eval kx ev >>= fun k => holding [k] (eval vx ev) >>= fun z => standAt { kx.pos with endLine := vx.pos.endLine, endCol := vx.pos.endCol } >>= fun _ => holding [k, z] (dictSet Dd k z)) >>= fun _ => again (.compLoop (dc2 kx vx ta ia tb ib ca cb scp ps) 1 src (.ref Dd) ev))
      else again (.compLoop (dc2 kx vx ta ia tb ib ca cb scp ps) 1 src (.ref Dd) ev)) := by rfl
/-- the reading: the dict at D is written by `put`, from which Nx is reached -/
abbrev PutK := St → Hp → (Hp → Prop) → Prop
structure PP (Y : Cx) (kx vx : Expr) (D : Addr) (tp : PutK) : Prop where
  run : ∀ (pn : List (Addr × Obj)) (s : Shared) (sg : St) (hp : Hp) (N : Hp → Prop), L2.Inv Y pn sg hp s → tp sg hp N →
    wpAny (model Y.prog Y.w) Y.A (eval kx Y.env) (fun k s1 => wpAny (model Y.prog Y.w) Y.A (eval vx Y.env) (fun z s2 => wpAny (model Y.prog Y.w) Y.A (dictSet D k z) (fun _ s3 => ∃ H', L2.Inv Y pn sg H' s3 ∧ N H') Nope s2) Nope s1) Nope s
theorem loopB {Y : Cx} {J : It} {fp : List Addr} {itr : Addr} {tn : Nat → Heap → Prop} {g : TG} {tt : TT} {tp : PutK} {pn : List (Addr × Obj)} {sg : St} {R : Result → Shared → Prop} {W : Nat → Nat → Hp → Prop} {Fin : Hp → Prop}
    (T : Turn Y.prog Y.w Y.K tb J fp itr tn) (hc : Y.calm = true) (hx : ∀ v s, ¬ Y.xe v s) (pg : PG Y tb g) (pt : PTs Y cb tt) (pp : PP Y kx vx Dd tp)
    (hfp : ∀ σ' H' s', L2.Inv Y pn σ' H' s' → (∀ b ∈ fp, H' b = none) → ∀ b ∈ fp, FpOk Y pn H' b)
    (turn : ∀ j k H, W j k H → (J.stop j H ∧ Fin H) ∨ (J.go j H ∧ ∃ Nx : Hp → Prop, (∀ H', Nx H' → ∃ k', k' < k ∧ W (j + 1) k' H') ∧ ∀ x H', J.yld j H x H' → g x sg H' fun σ2 H2 => tt σ2 H2 fun b H3 => wipe σ2 vs = wipe sg vs ∧ if b = true then tp σ2 H3 Nx else Nx H3))
    (hw : sg = wipe sg vs) (hR : ∀ H' s', L2.Inv Y pn sg H' s' → Fin H' → R (.ok .next) s') :
    ∀ (n : Nat) (s : Shared), (∃ j H, L2.Inv Y pn sg H s ∧ tn j s.heap ∧ (∀ b ∈ fp, H b = none) ∧ W j n H) → codeAny (model Y.prog Y.w) Y.A (.compLoop (dc2 kx vx ta ia tb ib ca cb scp ps) 1 (.ref itr) (.ref Dd) Y.env) R s := by
  intro n s h0
  refine codeAny_loop rfl (fun n s => ∃ j H, L2.Inv Y pn sg H s ∧ tn j s.heap ∧ (∀ b ∈ fp, H b = none) ∧ W j n H) (fun n s1 ⟨j, H, I1, st, hn, w⟩ => ?_) n h0
  show wpAny _ Y.A ((compTurn (dc2 kx vx ta ia tb ib ca cb scp ps) 1 (.ref itr) (.ref Dd) Y.env).onRaise (fun x => do noteFrame x Y.env; theTreesLotGoes x)) _ _ s1
  refine wpAny_noted ?_
  rw [turnB]
  refine wpAny_bind (wpAny_standAt (wpAny_bind ?_))
  rcases turn j n H w with ⟨hs, hf⟩ | ⟨hgo, Nx, hN, step⟩
  · refine wpAny_mono (T.done Y rfl rfl rfl hc j pn s1 sg H Nope I1 (hfp _ _ _ I1 hn) st hs) (fun o s2 ⟨ho, I2⟩ => ?_) fun _ _ z => z.elim
    subst ho
    exact wpAny_pure (hR H s2 I2 hf)
  · refine wpAny_mono (src_go (Q := fun σ2 b H3 => wipe σ2 vs = wipe sg vs ∧ if b = true then tp σ2 H3 Nx else Nx H3) T hc hx pg pt I1 (fun H' s' => hfp _ H' s') hn st hgo step) (fun o s2 ⟨u, ho, q⟩ => ?_) fun _ _ z => z.elim
    subst ho
    refine wpAny_bind (wpAny_mono q (fun _ s3 q => wpAny_bind (wpAny_mono q (fun _ s4 q => wpAny_bind (wpAny_mono q (fun b s5 ⟨pl, σ2, H3, I3, back, hwp, q⟩ => ?_) fun _ _ z => z.elim)) fun _ _ z => z.elim)) fun _ _ z => z.elim)
    have again' : ∀ H' s', L2.Inv Y (pn ++ pl) σ2 H' s' → Nx H' → ∃ m, m < n ∧ ∃ j H, L2.Inv Y pn sg H s' ∧ tn j s'.heap ∧ (∀ b ∈ fp, H b = none) ∧ W j m H := fun H' s' I' nx => by
      obtain ⟨k', hk, w'⟩ := hN H' nx
      obtain ⟨I2, st2, n2⟩ := back σ2 H' s' I'
      refine ⟨k', hk, j + 1, H', ?_, st2, n2, w'⟩
      rw [hw, ← hwp]
      exact I2.weak (wipe_length _ _) fun i v e => (wipe_some e).1
    cases b with
    | false => exact wpAny_pure ⟨rfl, again' _ _ I3 q⟩
    | true =>
      refine wpAny_bind (wpAny_bind (wpAny_mono (pp.run _ s5 σ2 H3 Nx I3 q) (fun k s6 q => wpAny_bind (wpAny_holding (wpAny_mono q (fun z s7 q => wpAny_bind (wpAny_standAt (wpAny_holding (wpAny_mono q (fun _ s8 ⟨H', I', nx⟩ => wpAny_pure ⟨rfl, again' _ _ I' nx⟩) fun _ _ z => z.elim)))) fun _ _ z => z.elim))) fun _ _ z => z.elim))
theorem startB {M : Program} {w : World} {A : Around} {R : Result → Shared → Prop} {s : Shared} {itr : Addr} (h0 : codeAny (model M w) A (.compLoop (dc2 kx vx ta ia tb ib ca cb scp ps) 1 (.ref itr) (.ref Dd) ev) R s)
    (hs : ∀ (Q : Value → Shared → Prop) (E : Value → Shared → Prop), Q (.ref itr) s → wpAny (model M w) A (pyIter (.ref itr)) Q E s) : codeAny (model M w) A (.compStart (dc2 kx vx ta ia tb ib ca cb scp ps) 1 (.ref itr) (.ref Dd) ev) R s := by
  refine codeAny_of_tree ?_
  show wpAny _ _ ((compStart (dc2 kx vx ta ia tb ib ca cb scp ps) 1 (.ref itr) (.ref Dd) ev).onRaise (fun x => do noteFrame x ev; standAt theWindowsPlace)) _ _ s
  refine wpAny_notedAt ?_
  unfold compStart
  show wpAny _ _ (ask >>= _) _ _ s
  refine wpAny_bind (wpAny_askSetting (wpAny_ite ?_))
  split
  · first
      | exact wpAny_pure ⟨rfl, h0⟩
      | exact wpAny_bind (wpAny_pure (wpAny_pure ⟨rfl, h0⟩))
  · refine wpAny_bind (wpAny_rule ?_)
    show wpAny _ _ (standAt ib.pos >>= _) _ _ s
    exact wpAny_bind (wpAny_standAt (wpAny_bind (hs _ _ (wpAny_pure ⟨rfl, h0⟩))))
/-- what a two-clause comprehension asks, the inner write left open -/
def tDc2 (wi : TI) (g : TG) (tt : TT) (wi1 : TI) (g1 : TG) (tt1 : TT) (tp : Addr → PutK) (vs vs1 : List Nat) : TE := fun σ H Q => wi σ H fun J H1 => ∀ D, H1 D = none → ∃ W : Nat → Nat → Hp → Prop, (∃ m, W 0 m (upd H1 D (.dK []))) ∧ ∀ i m H, W i m H →
  (J.stop i H ∧ Q (.ref D) H) ∨ (J.go i H ∧ ∃ Nx : Hp → Prop, (∀ H', Nx H' → ∃ m', m' < m ∧ W (i + 1) m' H') ∧ ∀ x H', J.yld i H x H' → g x (wipe σ vs) H' fun σ2 H2 => tt σ2 H2 fun b H3 => wipe σ2 vs = wipe σ vs ∧
    if b = true then wi1 σ2 H3 fun J1 H4 => ∃ W1 : Nat → Nat → Hp → Prop, (∃ m, W1 0 m H4) ∧ ∀ j k H, W1 j k H →
      (J1.stop j H ∧ Nx H) ∨ (J1.go j H ∧ ∃ Nx1 : Hp → Prop, (∀ H', Nx1 H' → ∃ k', k' < k ∧ W1 (j + 1) k' H') ∧ ∀ x H', J1.yld j H x H' → g1 x (wipe σ2 vs1) H' fun σ3 H5 => tt1 σ3 H5 fun b H6 => wipe σ3 vs1 = wipe σ2 vs1 ∧ if b = true then tp D σ3 H6 Nx1 else Nx1 H6)
    else Nx H3)
theorem loopA {Y : Cx} {J : It} {fp : List Addr} {itr : Addr} {tn : Nat → Heap → Prop} {g g1 : TG} {tt tt1 : TT} {wi1 : TI} {tp : PutK} {sg : St} {vs1 : List Nat} {R : Result → Shared → Prop} {W : Nat → Nat → Hp → Prop} {Fin : Hp → Prop}
    (T : Turn Y.prog Y.w Y.K ta J fp itr tn) (hc : Y.calm = true) (hx : ∀ v s, ¬ Y.xe v s) (pg : PG Y ta g) (pt : PTs Y ca tt) (pi1 : PI Y tb ib wi1) (pg1 : PG Y tb g1) (pt1 : PTs Y cb tt1) (pp : PP Y kx vx Dd tp) (hsb : ∀ x, foldedSetIterable ib Y.env x = pure x) (hv : ∀ i ∈ vs1, i ∈ vs)
    (hfp : ∀ σ' H' s', L2.Inv Y [] σ' H' s' → (∀ b ∈ fp, H' b = none) → ∀ b ∈ fp, FpOk Y [] H' b)
    (turn : ∀ i m H, W i m H → (J.stop i H ∧ Fin H) ∨ (J.go i H ∧ ∃ Nx : Hp → Prop, (∀ H', Nx H' → ∃ m', m' < m ∧ W (i + 1) m' H') ∧ ∀ x H', J.yld i H x H' → g x sg H' fun σ2 H2 => tt σ2 H2 fun b H3 => wipe σ2 vs = wipe sg vs ∧
      if b = true then wi1 σ2 H3 fun J1 H4 => ∃ W1 : Nat → Nat → Hp → Prop, (∃ m, W1 0 m H4) ∧ ∀ j k H, W1 j k H →
        (J1.stop j H ∧ Nx H) ∨ (J1.go j H ∧ ∃ Nx1 : Hp → Prop, (∀ H', Nx1 H' → ∃ k', k' < k ∧ W1 (j + 1) k' H') ∧ ∀ x H', J1.yld j H x H' → g1 x (wipe σ2 vs1) H' fun σ3 H5 => tt1 σ3 H5 fun b H6 => wipe σ3 vs1 = wipe σ2 vs1 ∧ if b = true then tp σ3 H6 Nx1 else Nx1 H6)
      else Nx H3))
    (hw : sg = wipe sg vs) (hR : ∀ H' s', L2.Inv Y [] sg H' s' → Fin H' → R (.ok .next) s') :
    ∀ (n : Nat) (s : Shared), (∃ i H, L2.Inv Y [] sg H s ∧ tn i s.heap ∧ (∀ b ∈ fp, H b = none) ∧ W i n H) → codeAny (model Y.prog Y.w) Y.A (.compLoop (dc2 kx vx ta ia tb ib ca cb scp ps) 0 (.ref itr) (.ref Dd) Y.env) R s := by
  intro n s h0
  refine codeAny_loop rfl (fun n s => ∃ i H, L2.Inv Y [] sg H s ∧ tn i s.heap ∧ (∀ b ∈ fp, H b = none) ∧ W i n H) (fun n s1 ⟨i, H, I1, st, hn, w⟩ => ?_) n h0
  show wpAny _ Y.A ((compTurn (dc2 kx vx ta ia tb ib ca cb scp ps) 0 (.ref itr) (.ref Dd) Y.env).onRaise (fun x => do noteFrame x Y.env; theTreesLotGoes x)) _ _ s1
  refine wpAny_noted ?_
  rw [turnA]
  refine wpAny_bind (wpAny_standAt (wpAny_bind ?_))
  rcases turn i n H w with ⟨hs, hf⟩ | ⟨hgo, Nx, hN, step⟩
  · refine wpAny_mono (T.done Y rfl rfl rfl hc i [] s1 sg H Nope I1 (hfp _ _ _ I1 hn) st hs) (fun o s2 ⟨ho, I2⟩ => ?_) fun _ _ z => z.elim
    subst ho
    exact wpAny_pure (hR H s2 I2 hf)
  · refine wpAny_mono (src_go (Q := fun σ2 b H3 => wipe σ2 vs = wipe sg vs ∧ if b = true then _ else Nx H3) T hc hx pg pt I1 (fun H' s' => hfp _ H' s') hn st hgo step) (fun o s2 ⟨u, ho, q⟩ => ?_) fun _ _ z => z.elim
    subst ho
    refine wpAny_bind (wpAny_mono q (fun _ s3 q => wpAny_bind (wpAny_mono q (fun _ s4 q => wpAny_bind (wpAny_mono q (fun b s5 ⟨pl, σ2, H3, I3, back, hwp, q⟩ => ?_) fun _ _ z => z.elim)) fun _ _ z => z.elim)) fun _ _ z => z.elim)
    have again' : ∀ σ3 H' s', L2.Inv Y ([] ++ pl) σ3 H' s' → σ3.length = σ2.length → (∀ (j : Nat) v, j ∉ vs → σ2[j]? = some (some v) → σ3[j]? = some (some v)) → Nx H' → ∃ m, m < n ∧ ∃ i H, L2.Inv Y [] sg H s' ∧ tn i s'.heap ∧ (∀ b ∈ fp, H b = none) ∧ W i m H := fun σ3 H' s' I' hl hk nx => by
      obtain ⟨m', hm, w'⟩ := hN H' nx
      obtain ⟨I2, st2, n2⟩ := back σ3 H' s' I'
      refine ⟨m', hm, i + 1, H', ?_, st2, n2, w'⟩
      rw [hw, ← hwp]
      refine I2.weak (by rw [wipe_length, hl]) fun j v e => ?_
      obtain ⟨e1, e2⟩ := wipe_some e
      exact hk j v e2 e1
    cases b with
    | false => exact wpAny_pure ⟨rfl, again' _ _ _ I3 rfl (fun _ _ _ e => e) q⟩
    | true =>
      refine wpAny_bind (wpAny_mono (nope (R' := fun z s6 => wpAny (model Y.prog Y.w) Y.A (pyIter z) (PIE Y ([] ++ pl) σ2 tb _) Y.xe s6) hx (pi1.run _ s5 σ2 H3 _ I3 q) (fun _ _ z => z)) (fun z s6 q => ?_) fun _ _ z => z.elim)
      refine wpAny_bind (wpAny_standAt (wpAny_bind (wpAny_of_eq (hsb z) (wpAny_bind (wpAny_holding (wpAny_mono q (fun it1 s7 q => ?_) fun v s z => (hx v s z).elim))))))
      obtain ⟨a1, fp1, tn1, J1, H4, rfl, I4, T1, st1, f1, W1, ⟨m1, w1⟩, turn1⟩ := q
      refine wpAny_bind (wpAny_runOwn ?_)
      rw [Around.mark_none]
      have inner := loopB (kx := kx) (vx := vx) (ta := ta) (ia := ia) (ib := ib) (ca := ca) (scp := scp) (ps := ps) (Dd := Dd) (pn := [] ++ pl) (sg := wipe σ2 vs1) (vs := vs1) (W := W1) (Fin := Nx) (R := fun r s' => match r with
        | .ok _ => ∃ m, m < n ∧ ∃ i H, L2.Inv Y [] sg H s' ∧ tn i s'.heap ∧ (∀ b ∈ fp, H b = none) ∧ W i m H
        | .error _ => False) T1 hc hx pg1 pt1 pp (fun σ' H' s' _ hn b hb => ⟨hn b hb, (f1 b hb).2⟩) (by
          intro j k H hj
          rcases turn1 j k H hj with z | ⟨z1, Nx1, z2, z3⟩
          · exact .inl z
          · refine .inr ⟨z1, Nx1, z2, fun x H' y => ?_⟩
            rw [wipe_wipe]
            exact z3 x H' y) (wipe_wipe σ2 vs1).symm (fun H' s' I' nx => again' _ _ _ I' (wipe_length _ _) (fun j v hj e => by rw [wipe_out fun z => hj (hv j z)]; exact e) nx) m1 s7 ⟨0, H4, I4.weak (wipe_length _ _) (fun j v e => (wipe_some e).1), st1, fun b hb => (f1 b hb).1, w1⟩
      refine codeAny_mono (startB inner fun Q E hQ => T1.self Y.A 0 s7 Q E st1 hQ) fun r s8 hr => ?_
      cases r with
      | ok f => first
          | exact wpAny_pure ⟨rfl, hr⟩
          | exact wpAny_bind (wpAny_pure (wpAny_pure ⟨rfl, hr⟩))
      | error e => exact hr.elim
end
section
variable {X : Cx} {kx vx ta ia tb ib : Expr} {ca cb : List Expr} {scp : Scope} {ps : Pos}
/-- {k: v for .. in .. if .. for .. in .. if ..} -/
theorem pe_dc2 {ow : List (Str × Nat)} {vs1 : List Nat} {g g1 : TG} {tt tt1 : TT} {wi wi1 : TI} {tp : Addr → PutK} (hc : X.calm = true) (hN : X.N.Nodup) (hi : PI X ta ia wi) (ok : BlkOk X.N X.env.scope scp ow) (hv : ∀ i ∈ vs1, i ∈ ow.map (·.2))
    (hg : ∀ (s : Shared) (H : Hp) (C : Addr) (cl : List (Str × Addr)) (fp : List Addr), PG (X.blk s H scp (compEnvC scp cl C X.env) fp) ta g)
    (ht : ∀ (s : Shared) (H : Hp) (C : Addr) (cl : List (Str × Addr)) (fp : List Addr), PTs (X.blk s H scp (compEnvC scp cl C X.env) fp) ca tt)
    (hi1 : ∀ (s : Shared) (H : Hp) (C : Addr) (cl : List (Str × Addr)) (fp : List Addr), PI (X.blk s H scp (compEnvC scp cl C X.env) fp) tb ib wi1)
    (hg1 : ∀ (s : Shared) (H : Hp) (C : Addr) (cl : List (Str × Addr)) (fp : List Addr), PG (X.blk s H scp (compEnvC scp cl C X.env) fp) tb g1)
    (ht1 : ∀ (s : Shared) (H : Hp) (C : Addr) (cl : List (Str × Addr)) (fp : List Addr), PTs (X.blk s H scp (compEnvC scp cl C X.env) fp) cb tt1)
    (hp1 : ∀ (s : Shared) (H : Hp) (C : Addr) (cl : List (Str × Addr)) (fp : List Addr) (D : Addr), PP (X.blk s H scp (compEnvC scp cl C X.env) fp) kx vx D (tp D))
    (hs : ∀ z, foldedSetIterable ia X.env z = pure z := by intro _; rfl) (hs1 : ∀ ev z, foldedSetIterable ib ev z = pure z := by intro _ _; rfl) :
    PE X (dc2 kx vx ta ia tb ib ca cb scp ps) (tDc2 wi g tt wi1 g1 tt1 tp (ow.map (·.2)) vs1) := by
  refine ⟨fun pn s sg hp Q iv hq => ?_⟩
  rw [arm_eval_DictComp]
  have free : ∀ y ∈ scp.names, y.2 = .free → ∃ c, X.env.cells.lookup y.1 = some c := fun y hy z => iv.ok.has _ (ok.free y hy z)
  refine wpAny_comprehension_free (use := none) rfl hs (closure_ok free) ok.kind (fun y hy z => by rw [ok.uniq y hy, z]) (thn (hi.run pn s sg hp _ iv hq) fun xv s1 hx => thn hx fun itv s2 h2 => ?_)
  obtain ⟨itr, fp, tn, J, H2, rfl, I2, T, st2, fr2, q⟩ := h2
  obtain ⟨W, ⟨m0, w0⟩, turn⟩ := q s2.heap.objs.size (I2.hok.fresh (Nat.le_refl _))
  have I3 := I2.laid (a := s2.heap.objs.size) (o := .dK []) (t' := s2.toks) (fun _ _ z => Heap.get?_push_of_some _ z) (Nat.le_refl _) (dk_empty s2.heap I2.big)
  refine wpAny_newObj_type (newEnv_comp ?_)
  have fr3 : ∀ b ∈ fp, FpOk X pn (upd H2 s2.heap.objs.size (.dK [])) b ∧ b < (s2.heap.push { cls := .type "dict", data := .dict #[] }).objs.size := fun b hb => by
    obtain ⟨o, ho, _⟩ := T.obj _ _ st2 b hb
    have lt := Heap.lt_size ho
    exact ⟨⟨(upd_ne (Nat.ne_of_lt lt)).trans (fr2 b hb).1, (fr2 b hb).2⟩, by rw [Heap.size_push]; exact Nat.lt_succ_of_lt lt⟩
  have I4 := block_start I3 ok hN fr3
  have st3 : tn 0 (s2.heap.push { cls := .type "dict", data := .dict #[] }) := T.keep _ _ _ st2 fun b _ o ho => Heap.get?_push_of_some _ ho
  have st4 := T.keep _ _ (pushCells ((s2.heap.push { cls := .type "dict", data := .dict #[] }).push { cls := .type "dict", data := .dict #[] }) scp.names) st3 fun b _ o ho => pushCells_keeps _ _ _ _ (Heap.get?_push_of_some _ ho)
  have ends := loopA (kx := kx) (vx := vx) (ia := ia) (ca := ca) (cb := cb) (scp := scp) (ps := ps) (Dd := s2.heap.objs.size) (sg := wipe sg (ow.map (·.2))) (vs := ow.map (·.2)) (vs1 := vs1) (W := W) (Fin := fun H => Q (.ref s2.heap.objs.size) H) (R := compPost (model X.prog X.w) X.A X.xe none (EP X pn sg Q) (.ref s2.heap.objs.size) (s2.heap.push { cls := .type "dict", data := .dict #[] }).objs.size)
    (Y := X.blk { s2 with heap := s2.heap.push { cls := .type "dict", data := .dict #[] } } (upd H2 s2.heap.objs.size (.dK [])) scp (compEnvC scp (cellsFrom ((s2.heap.push { cls := .type "dict", data := .dict #[] }).objs.size + 1) scp.names (cloFrom X.env.cells scp.names [])) (s2.heap.push { cls := .type "dict", data := .dict #[] }).objs.size X.env) fp)
    T hc (fun _ _ z => z) (hg _ _ _ _ _) (ht _ _ _ _ _) (hi1 _ _ _ _ _) (hg1 _ _ _ _ _) (ht1 _ _ _ _ _) (hp1 _ _ _ _ _ _) (hs1 _) hv
    (fun σ' H' s' I' hn b hb => ⟨hn b hb, (I'.ok.exf b hb).1, I'.ok.exfs b hb, .inl hb, fun z c hz => (I'.ok.exf b hb).2 z c hz, fun p hp => absurd hp List.not_mem_nil⟩)
    (by
      intro i m H hi
      rcases turn i m H hi with z | ⟨z1, Nx, z2, z3⟩
      · exact .inl z
      · refine .inr ⟨z1, Nx, z2, fun x H' y => ?_⟩
        rw [wipe_wipe]
        exact z3 x H' y) (wipe_wipe sg _).symm (fun H' s' I' nx => by
      have I7 : L2.Inv X pn sg H' s' := I3.call' (ch := fp) I'.os I'.base I'.hok I'.bare fun b hb => ⟨(fr3 b hb).1.2.2.2.1, (fr3 b hb).1.2.1, (fr3 b hb).1.2.2.2.2.1, (fr3 b hb).1.2.2.2.2.2⟩
      obtain ⟨m, hn, _⟩ := I'.loc
      refine ⟨m, hn, fun h' sb => ?_⟩
      obtain ⟨k0, k1, k2, k3, k4, k5⟩ := I3.fpOk (H' := H') (Nat.le_refl _) I'.free
      exact ⟨.ref _, H', I7.turned (t' := s'.toks) (fun b o hb z => (sb.2 b hb).trans z) k0 k1 k3 k4 k5, rfl, nx⟩) m0 _ ⟨0, _, I4, st4, fun b hb => (fr3 b hb).1.1, w0⟩
  exact codeAny_compStart_dict ends (T.self X.A 0 _ _ _ st4 ends)
end
end DL

set_option Elab.async false
set_option linter.all false
set_option maxRecDepth 100000
/-! DL13: {k: v for .. for ..} as data; sorted; sums of tuples. -/
namespace DL
open PySem PySem.Spec L2
open PyProof.Rows hiding St

/-- what the dict at D holds -/
def TdAt (E : Pk) (H : Hp) (D : Addr) (ds : List (DL.D × DL.D)) : Prop := (∃ xs, H D = some (.ext (DKf E D xs)) ∧ RpT E H xs ds) ∨ (ds = [] ∧ H D = some (.dK []))
section
variable {X : Cx}
theorem d_dsetT {pins : List (Addr × Obj)} {σ : St} {H : Hp} {s : Shared} {p q : Addr} {ds : List (D × D)} {k : NestedKey} {v : V} {u : Value} {d : D} {Q : Unit → Shared → Prop} {Ex : Value → Shared → Prop} (hu : X.A.units + 64 < cLine) (I : L2.Inv X pins σ H s)
    (hm : TdAt (pk X) H p ds) (hk : Rp (pk X) H (.ref q) k.data) (hd : k.depth ≤ 8) (rv : RelV v u) (hv : Rp (pk X) H v d) (hz : ds.length < sizeLine)
    (h : ∀ (s' : Shared) (xs : List (NestedKey × Addr × Value)), L2.Inv X pins σ (upd H p (.ext (DKf (pk X) p xs))) s' → RpT (pk X) H xs (dPut ds k.data d) → Q () s') : wpAny (model X.prog X.w) X.A (dictSet p (.ref q) u) Q Ex s := by
  have hD : DAt (pk X) H p ds := by
    rcases hm with ⟨xs, a, b⟩ | ⟨a, b⟩
    · exact .inl ⟨xs, .inl a, b⟩
    · exact .inr ⟨a, .inl b⟩
  have hM : Mut (H p) := by
    rcases hm with ⟨xs, a, b⟩ | ⟨a, b⟩
    · rw [a]; trivial
    · rw [b]; trivial
  obtain ⟨xs, r, lo, hl, ho⟩ := dAt_obj I hD
  have hlen := rpT_len r
  have hdep : ∀ x ∈ xs, x.1.depth ≤ 8 := fun x hx => by
    obtain ⟨_, _, _, _, _, _, _, his, _⟩ := ho
    exact (his x hx).2
  refine wpAny_dictSet_heap (knd := nestedKind X.prog X.w) (hsz := hl) (show X.A.units + 8 < cLine by omega) (show NestedIs s.heap k (.ref q) ∧ k.depth ≤ 8 from ⟨nested_of I _ _ _ hk rfl, hd⟩) ho fun h' hm' hs => ?_
  obtain ⟨o, es, ep, k1, k2, k3, k4, k5, k6⟩ := hm'
  refine h _ (storedH xs k q u) (I.write (t' := _) hM (.inl rfl) (fun b w hb e => (hs.2 b hb).trans e) ⟨o, k1⟩ ⟨?_, ⟨o, k1⟩, ?_⟩) (rpT_stored r hk rv hv)
  · exact ⟨lo, by have := stored_len (xs := xs) (k := k) (b := q) (u := u); omega, stored_depth hdep hd, o, es, ep, k1, k2, k3, k4, k6⟩
  · intro h1 h2 hφ hst
    obtain ⟨f1, f2, f3, o', es', ep', f4, f5⟩ := hφ
    exact ⟨f1, f2, f3, o', es', ep', hst o' f4, f5⟩
/-- the inner write, as data -/
def putX (E : Pk) (fk fx : Ev) (D : Addr) : PutK := fun σ H N => tX E fk σ H fun y H4 => tX E fx σ H4 fun z H5 => ∃ (ds : List (DL.D × DL.D)) (nk : NestedKey) (q : Addr) (d : DL.D), TdAt E H5 D ds ∧ y = .ref q ∧ Rp E H5 (.ref q) nk.data ∧ nk.depth ≤ 8 ∧ Rp E H5 z d ∧ ds.length < sizeLine ∧ ∀ xs, RpT E H5 xs (dPut ds nk.data d) → N (upd H5 D (.ext (DKf E D xs)))
theorem pp_of {kx vx : Expr} {fk fx : Ev} {D : Addr} (hu : X.A.units + 64 < cLine) (hx : ∀ v s, ¬ X.xe v s) (hk : XE X kx fk) (hv : XE X vx fx) : PP X kx vx D (putX (pk X) fk fx D) := by
  refine ⟨fun pn s sg hp N iv hq => ?_⟩
  refine nope hx (hk.run pn s sg hp _ iv hq) fun u s1 ⟨y, H1, I1, ry, q1⟩ => ?_
  refine nope hx (hv.run pn s1 sg H1 _ I1 q1) fun w s2 ⟨z, H2, I2, rz, q2⟩ => ?_
  obtain ⟨ds, nk, q, d, h1, rfl, h2, h3, h4, h5, h6⟩ := q2
  cases ry
  exact d_dsetT hu I2 h1 h2 h3 rz h4 h5 fun s3 xs I3 r3 => ⟨_, I3, h6 xs r3⟩
def dcLoop1 (tg1 : Tg) (cond1 : Evb) (fk fx : Ev) (Γ : Env') : List D → List (D × D) → Tape → Option (List (D × D) × Tape)
  | [], acc, t => some (acc, t)
  | d :: ds, acc, t => tg1 d >>= fun l => cond1 (setG Γ l) t >>= fun b => if b.1 then fk (setG Γ l) b.2 >>= fun k => fx (setG Γ l) k.2 >>= fun v => if (okKey k.1).isSome && decide (acc.length < sizeLine) then dcLoop1 tg1 cond1 fk fx Γ ds (dPut acc k.1 v.1) v.2 else none
    else dcLoop1 tg1 cond1 fk fx Γ ds acc b.2
def dcLoop2 (tg : Tg) (cond : Evb) (it1 : Evi) (own1 : List Nat) (tg1 : Tg) (cond1 : Evb) (fk fx : Ev) (Γ : Env') : List D → List (D × D) → Tape → Option (List (D × D) × Tape)
  | [], acc, t => some (acc, t)
  | d :: ds, acc, t => tg d >>= fun l => cond (setG Γ l) t >>= fun b => if b.1 then it1 (setG Γ l) b.2 >>= fun p => dcLoop1 tg1 cond1 fk fx (wipeG (setG Γ l) own1) p.1 acc p.2 >>= fun q => dcLoop2 tg cond it1 own1 tg1 cond1 fk fx Γ ds q.1 q.2
    else dcLoop2 tg cond it1 own1 tg1 cond1 fk fx Γ ds acc b.2
def dc2D (it : Evi) (own : List Nat) (tg : Tg) (cond : Evb) (it1 : Evi) (own1 : List Nat) (tg1 : Tg) (cond1 : Evb) (fk fx : Ev) : Evd := fun Γ t => it Γ t >>= fun p => dcLoop2 tg cond it1 own1 tg1 cond1 fk fx (wipeG Γ own) p.1 [] p.2
structure DccAt (E : Pk) (tp : Option Addr) (H1 : Hp) (Dd : Addr) (t : Tape) (acc : List (D × D)) (H : Hp) : Prop where
  ex : TdAt E H Dd acc
  x : Ex tp H1 H
  g : GOk E H tp t
theorem td_ex {E : Pk} {tp : Option Addr} {t : Tape} {H H' : Hp} {Dd : Addr} {acc : List (D × D)} (m : TdAt E H Dd acc) (nD : tp ≠ some Dd) (x : Ex tp H H') (g : GOk E H tp t) : TdAt E H' Dd acc := by
  rcases m with ⟨xs, a, b⟩ | ⟨a, b⟩
  · exact .inl ⟨xs, x _ _ nD a, b.fz (x.fz g)⟩
  · exact .inr ⟨a, x _ _ nD b⟩
theorem td_mut {E : Pk} {H : Hp} {Dd : Addr} {acc : List (D × D)} (m : TdAt E H Dd acc) : Mut (H Dd) := by
  rcases m with ⟨xs, a, b⟩ | ⟨a, b⟩
  · rw [a]; trivial
  · rw [b]; trivial
theorem upd_gD {E : Pk} {tp : Option Addr} {t : Tape} {H : Hp} {Dd : Addr} {o : HO} {acc : List (D × D)} (nD : tp ≠ some Dd) (m : TdAt E H Dd acc) (g : GOk E H tp t) : GOk E (upd H Dd o) tp t := fun b z => by
  obtain ⟨c, h1, h2⟩ := g b z
  exact ⟨c, by rw [upd_ne (fun y => nD (by rw [z, y]))]; exact h1, h2.fz (upd_fzM (td_mut m))⟩
theorem dc2_imp {own own1 : List Nat} {it it1 : Evi} {g g1 : Tg} {cond cond1 : Evb} {fk fx : Ev} (hT : TgIn g own) (hT1 : TgIn g1 own1) {σ : St} {H : Hp} {Q : VK} (hq : tXD (pk X) (dc2D it own g cond it1 own1 g1 cond1 fk fx) σ H Q) :
    tDc2 (tXI (pk X) it) (tXG (pk X) g) (tXB (pk X) cond) (tXI (pk X) it1) (tXG (pk X) g1) (tXB (pk X) cond1) (putX (pk X) fk fx) own own1 σ H Q := by
  obtain ⟨tp, H0, t, Γ, out, tE, S, hf, q⟩ := hq
  obtain ⟨⟨ds, t1⟩, h1, h2⟩ := bindO hf
  refine ⟨tp, H0, t, Γ, ds, t1, S, h1, fun J H1 x1 y1 jj Dd hD => ?_⟩
  obtain ⟨Y, W, hY⟩ := jj.ex
  have S1 := S.step x1 y1
  have nD : tp ≠ some Dd := tp_ne y1 hD
  refine ⟨fun i m H2 => i + m = ds.length ∧ ∃ t2 acc, DccAt (pk X) tp H1 Dd t2 acc H2 ∧ dcLoop2 g cond it1 own1 g1 cond1 fk fx (wipeG Γ own) (ds.drop i) acc t2 = some (out, tE), ⟨ds.length, Nat.zero_add _, t1, [], ⟨.inr ⟨rfl, upd_same⟩, upd_ex (Ex.refl _ _) hD, upd_g0 y1 hD⟩, h2⟩, fun i m H2 A => ?_⟩
  obtain ⟨him, t2, acc, B, go⟩ := A
  have f2 := B.x.fz y1
  by_cases hi : i < ds.length
  · refine .inr ⟨W.goes i H2 hi f2, fun H' => i + 1 + (m - 1) = ds.length ∧ ∃ t2 acc, DccAt (pk X) tp H1 Dd t2 acc H' ∧ dcLoop2 g cond it1 own1 g1 cond1 fk fx (wipeG Γ own) (ds.drop (i + 1)) acc t2 = some (out, tE), fun H' n => ⟨m - 1, by omega, n⟩, fun x H3 y => ?_⟩
    have hi1 : i + 1 + (m - 1) = ds.length := by omega
    obtain ⟨s3, d, hd, rd⟩ := hY i H2 x H3 hi f2 (W.yields i H2 x H3 hi f2 y)
    rw [List.drop_eq_getElem_cons hi] at go
    rw [List.getElem?_eq_getElem hi] at hd
    cases hd
    obtain ⟨l, e1, go⟩ := bindO go
    have B3 : DccAt (pk X) tp H1 Dd t2 acc H3 := ⟨td_ex B.ex nD (Ex.ofSame s3) B.g, B.x.trans (Ex.ofSame s3), B.g.same s3⟩
    refine ⟨_, l, rd, e1, fun lv k1 k2 => ?_⟩
    obtain ⟨⟨b, t4⟩, e2, go⟩ := bindO go
    have Sx : ∀ {H' : Hp} {t5 : Tape}, Ex tp H1 H' → Fz H3 H' → GOk (pk X) H' tp t5 → Sok (pk X) H0 tp t5 H' (setV (wipe σ own) lv) (setG (wipeG Γ own) l) := fun {H' t5} x5 f5 g5 => sok_sets (sok_wipe (S1.step x5 g5) own) k1 (k2.fz f5)
    refine ⟨tp, H0, t2, _, b, t4, Sx B3.x (Fz.refl _) B3.g, e2, fun H4 x4 g4 => ⟨wipe_sets _ (mem_of_map k1 (hT _ _ e1)) |>.trans (wipe_wipe _ _), ?_⟩⟩
    have f34 := x4.fz B3.g
    have B4 : DccAt (pk X) tp H1 Dd t4 acc H4 := ⟨td_ex B3.ex nD x4 B3.g, B3.x.trans x4, g4⟩
    cases b with
    | false => exact iteF ⟨hi1, t4, acc, B4, go⟩
    | true =>
      obtain ⟨⟨ds1, t5⟩, e3, go⟩ := bindO go
      obtain ⟨⟨a1, t6⟩, e4, go⟩ := bindO go
      refine iteT ⟨tp, H0, t4, _, ds1, t5, Sx B4.x f34 g4, e3, fun J1 H5 x5 y5 jj1 => ?_⟩
      have f35 := f34.trans (x5.fz g4)
      obtain ⟨Y1, W1, hY1⟩ := jj1.ex
      have B5 : DccAt (pk X) tp H1 Dd t5 acc H5 := ⟨td_ex B4.ex nD x5 B4.g, B4.x.trans x5, y5⟩
      refine ⟨fun j k H6 => j + k = ds1.length ∧ ∃ t6' acc1, DccAt (pk X) tp H1 Dd t6' acc1 H6 ∧ Fz H5 H6 ∧ dcLoop1 g1 cond1 fk fx (wipeG (setG (wipeG Γ own) l) own1) (ds1.drop j) acc1 t6' = some (a1, t6), ⟨ds1.length, Nat.zero_add _, t5, acc, B5, Fz.refl _, e4⟩, fun j k H6 A6 => ?_⟩
      obtain ⟨hjk, t6', acc1, B6, f6, go6⟩ := A6
      by_cases hj : j < ds1.length
      · have hj1 : j + 1 + (k - 1) = ds1.length := by omega
        refine .inr ⟨W1.goes j H6 hj f6, fun H' => j + 1 + (k - 1) = ds1.length ∧ ∃ t6' acc1, DccAt (pk X) tp H1 Dd t6' acc1 H' ∧ Fz H5 H' ∧ dcLoop1 g1 cond1 fk fx (wipeG (setG (wipeG Γ own) l) own1) (ds1.drop (j + 1)) acc1 t6' = some (a1, t6), fun H' n => ⟨k - 1, by omega, n⟩, fun x7 H7 y7 => ?_⟩
        obtain ⟨s7, d7, hd7, rd7⟩ := hY1 j H6 x7 H7 hj f6 (W1.yields j H6 x7 H7 hj f6 y7)
        rw [List.drop_eq_getElem_cons hj] at go6
        rw [List.getElem?_eq_getElem hj] at hd7
        cases hd7
        obtain ⟨l7, e7, go6⟩ := bindO go6
        have B7 : DccAt (pk X) tp H1 Dd t6' acc1 H7 := ⟨td_ex B6.ex nD (Ex.ofSame s7) B6.g, B6.x.trans (Ex.ofSame s7), B6.g.same s7⟩
        refine ⟨_, l7, rd7, e7, fun lv7 k3 k4 => ?_⟩
        obtain ⟨⟨b8, t8⟩, e8, go6⟩ := bindO go6
        have S7 := sok_sets (sok_wipe (Sx B7.x (f35.trans (f6.trans (sameFz s7))) B7.g) own1) k3 k4
        refine ⟨tp, H0, t6', _, b8, t8, S7, e8, fun H8 x8 g8 => ⟨wipe_sets _ (mem_of_map k3 (hT1 _ _ e7)) |>.trans (wipe_wipe _ _), ?_⟩⟩
        have B8 : DccAt (pk X) tp H1 Dd t8 acc1 H8 := ⟨td_ex B7.ex nD x8 B7.g, B7.x.trans x8, g8⟩
        have f58 : Fz H5 H8 := (f6.trans (sameFz s7)).trans (x8.fz B7.g)
        cases b8 with
        | false => exact iteF ⟨hj1, t8, acc1, B8, f58, go6⟩
        | true =>
          obtain ⟨⟨dk, t9⟩, e9, go6⟩ := bindO go6
          obtain ⟨⟨dv, tA⟩, eA, go6⟩ := bindO go6
          split at go6
          · rename_i hok
            rw [Bool.and_eq_true, decide_eq_true_eq] at hok
            obtain ⟨nk, hnk⟩ := Option.isSome_iff_exists.mp hok.1
            obtain ⟨hdat, hdep, htup⟩ := okKey_inv hnk
            have hdat : nk.data = dk := hdat
            subst hdat
            have S8 := S7.step x8 g8
            refine iteT ⟨tp, H0, t8, _, _, t9, S8, e9, fun y H9 x9 g9 r9 => ?_⟩
            refine ⟨tp, H0, t9, _, dv, tA, S8.step x9 g9, eA, fun z HA xA gA rA => ?_⟩
            obtain ⟨p, rfl⟩ := key_ref htup r9
            have BA : DccAt (pk X) tp H1 Dd tA acc1 HA := ⟨td_ex (td_ex B8.ex nD x9 B8.g) nD xA g9, (B8.x.trans x9).trans xA, gA⟩
            refine ⟨acc1, nk, p, dv, BA.ex, rfl, r9.fz (xA.fz g9), hdep, rA, hok.2, fun xs r => ?_⟩
            have up := upd_fzM (o := .ext (DKf (pk X) Dd xs)) (td_mut BA.ex)
            exact ⟨hj1, tA, _, ⟨.inl ⟨xs, upd_same, r.fz up⟩, upd_ex BA.x hD, upd_gD nD BA.ex gA⟩, ((f58.trans (x9.fz g8)).trans (xA.fz g9)).trans up, go6⟩
          · cases go6
      · have hj2 : j = ds1.length := by omega
        subst hj2
        rw [List.drop_length] at go6
        cases go6
        exact .inl ⟨W1.stops H6 f6, hi1, t6, _, B6, go⟩
  · have hi2 : i = ds.length := by omega
    subst hi2
    rw [List.drop_length] at go
    cases go
    refine .inl ⟨W.stops H2 f2, q _ _ (x1.trans B.x) B.g ⟨Dd, rfl, ?_⟩⟩
    rcases B.ex with ⟨xs, a, b⟩ | ⟨a, b⟩
    · exact .inl ⟨xs, .inl a, b⟩
    · exact .inr ⟨a, .inl b⟩
theorem xd_dc2 {kx vx ta ia tb ib : Expr} {ca cb : List Expr} {scp : Scope} {ps : Pos} {ow : List (Str × Nat)} (own1 : List Nat) {it it1 : Evi} {g g1 : Tg} {cond cond1 : Evb} {fk fx : Ev} (hu : X.A.units + 64 < cLine) (hc : X.calm = true) (hN : X.N.Nodup) (hi : XI X ta ia it) (ok : BlkOk X.N X.env.scope scp ow) (hv : ∀ i ∈ own1, i ∈ ow.map (·.2))
    (hg : ∀ (s : Shared) (H : Hp) (C : Addr) (cl : List (Str × Addr)) (fp : List Addr), XG (X.blk s H scp (compEnvC scp cl C X.env) fp) ta g) (hT : TgIn g (ow.map (·.2)))
    (ht : ∀ (s : Shared) (H : Hp) (C : Addr) (cl : List (Str × Addr)) (fp : List Addr), PTs (X.blk s H scp (compEnvC scp cl C X.env) fp) ca (tXB (pk X) cond))
    (hi1 : ∀ (s : Shared) (H : Hp) (C : Addr) (cl : List (Str × Addr)) (fp : List Addr), XI (X.blk s H scp (compEnvC scp cl C X.env) fp) tb ib it1)
    (hg1 : ∀ (s : Shared) (H : Hp) (C : Addr) (cl : List (Str × Addr)) (fp : List Addr), XG (X.blk s H scp (compEnvC scp cl C X.env) fp) tb g1) (hT1 : TgIn g1 own1)
    (ht1 : ∀ (s : Shared) (H : Hp) (C : Addr) (cl : List (Str × Addr)) (fp : List Addr), PTs (X.blk s H scp (compEnvC scp cl C X.env) fp) cb (tXB (pk X) cond1))
    (hk : ∀ (s : Shared) (H : Hp) (C : Addr) (cl : List (Str × Addr)) (fp : List Addr), XE (X.blk s H scp (compEnvC scp cl C X.env) fp) kx fk)
    (hx : ∀ (s : Shared) (H : Hp) (C : Addr) (cl : List (Str × Addr)) (fp : List Addr), XE (X.blk s H scp (compEnvC scp cl C X.env) fp) vx fx)
    (hs : ∀ z, foldedSetIterable ia X.env z = pure z := by intro _; rfl) (hs1 : ∀ ev z, foldedSetIterable ib ev z = pure z := by intro _ _; rfl) :
    XD X (.DictComp kx vx [⟨ta, ia, ca, 0⟩, ⟨tb, ib, cb, 0⟩] scp ps) (dc2D it (ow.map (·.2)) g cond it1 own1 g1 cond1 fk fx) :=
  peImp (pe_dc2 (tp := putX (pk X) fk fx) hc hN hi ok hv hg ht hi1 hg1 ht1 (fun s H C cl fp D => pp_of hu (fun _ _ z => z) (hk s H C cl fp) (hx s H C cl fp)) hs hs1) fun σ H Q hq => dc2_imp hT hT1 hq
end
end DL

set_option Elab.async false
set_option linter.all false
set_option maxRecDepth 100000
/-! DL14: sorted(..); sum of a tuple. -/
namespace DL
open PySem PySem.Spec L2
open PyProof.Rows hiding St

open PySem.W in
/-- what can be sorted here -/
def SortOk (ds : List D) : Prop := AllAlike ds ∧ Sortable ds ∧ ds.length ≤ sizeLine ∧ ∀ d ∈ ds, d.plain = true ∧ d.depth ≤ 30
def sortL (ds : List D) : List D := ds.mergeSort (PySem.W.dataLe false (fun d => d))
theorem sortL_mem {ds : List D} {d : D} : d ∈ sortL ds ↔ d ∈ ds := List.mem_mergeSort
section
variable {X : Cx} {e a b c : Expr} {es rest : List Expr} {pos : Pos}
/-- v stands for d -/
def Std (E : Pk) (H : Hp) (v : Value) (d : D) : Prop := ∃ x, RelV x v ∧ Rp E H x d
theorem each_vals {E : Pk} {H : Hp} {vs : List Value} {ds : List D} (h : PySem.W.EachIs (Std E H) vs ds) : ∃ xs, Vals xs vs ∧ RpA E H xs ds := by
  induction h with
  | nil => exact ⟨[], .nil, .nil⟩
  | cons h _ ih =>
    obtain ⟨x, h1, h2⟩ := h
    obtain ⟨xs, h3, h4⟩ := ih
    exact ⟨x :: xs, .cons h1 h3, .cons h2 h4⟩
theorem each_of {E : Pk} {H : Hp} : ∀ {xs : List V} {ds : List D} {vs : List Value}, RpA E H xs ds → Vals xs vs → PySem.W.EachIs (Std E H) vs ds
  | _, _, _, .nil, r => by cases r; exact .nil
  | _, _, _, .cons h t, r => by
    cases r with
    | cons r1 r2 => exact .cons ⟨_, r1, h⟩ (each_of t r2)
theorem each_reads {pn : List (Addr × Obj)} {sg : St} {hp : Hp} {s : Shared} (I : L2.Inv X pn sg hp s) {vs : List Value} {ds : List D} (h : PySem.W.EachIs (Std (pk X) hp) vs ds) (k : ∀ d ∈ ds, d.plain = true) : PySem.W.EachIs (fun v d => ∃ as, Reads s.heap v d as) vs ds := by
  induction h with
  | nil => exact .nil
  | cons h _ ih =>
    obtain ⟨x, h1, h2⟩ := h
    exact .cons (Dp.reads I _ x _ (h2.dp (k _ List.mem_cons_self)) h1) (ih fun d hd => k d (List.mem_cons_of_mem _ hd))
mutual
theorem reads_lt {h : Heap} : ∀ (d : D) (v : Value) (as : List Addr), d.plain = true → Reads h v d as → ∀ b ∈ as, b < h.objs.size
  | .none, _, _, _, r, b, hb => by cases r; cases hb
  | .bool _, _, _, _, r, b, hb => by cases r; cases hb
  | .int _, _, _, _, r, b, hb => by cases r; cases hb
  | .str _, _, _, _, r, b, hb => by cases r; cases hb
  | .list ds, _, _, p, r, b, hb => by
    cases r with
    | list h1 h2 h3 h4 =>
      rcases List.mem_cons.mp hb with z | z
      · rw [z]; exact Heap.lt_size h1
      · exact readsA_lt ds _ _ (by simpa [PyData.plain] using p) h4 b z
  | .tuple ds, _, _, p, r, b, hb => by
    cases r with
    | tuple h1 h2 h3 h4 => exact readsA_lt ds _ _ (by simpa [PyData.plain] using p) h4 b hb
  | .dict ds, _, _, p, r, b, hb => nomatch p
theorem readsA_lt {h : Heap} : ∀ (ds : List D) (vs : List Value) (as : List Addr), PyData.plainAll ds = true → ReadsAll h vs ds as → ∀ b ∈ as, b < h.objs.size
  | [], _, _, _, r, b, hb => by cases r; cases hb
  | d :: ds, _, _, p, r, b, hb => by
    rw [PyData.plainAll, Bool.and_eq_true] at p
    cases r with
    | cons h1 h2 =>
      rcases List.mem_append.mp hb with z | z
      · exact reads_lt d _ _ p.1 h1 b z
      · exact readsA_lt ds _ _ p.2 h2 b z
end
theorem each_len {α β : Type} {R : α → β → Prop} {vs : List α} {ds : List β} (h : PySem.W.EachIs R vs ds) : vs.length = ds.length := by
  induction h with
  | nil => rfl
  | cons _ _ ih => rw [List.length_cons, List.length_cons, ih]
theorem sort_vals {pn : List (Addr × Obj)} {sg : St} {hp : Hp} {s : Shared} {out : List Value} {ds : List D} {a : Addr} {h' : Heap} {n : Nat} (I : L2.Inv X pn sg hp s) (hz : ds.length ≤ sizeLine) (h : PySem.W.EachIs (Std (pk X) hp) out (sortL ds)) (ha : s.heap.objs.size ≤ a) (old : ∀ b o, s.heap.get? b = some o → h'.get? b = some o) (new : h'.get? a = some (seqObj "list" out.toArray n)) :
    ∃ xs, L2.Inv X pn sg (upd hp a (.lst xs)) { s with heap := h' } ∧ RpA (pk X) hp xs (sortL ds) := by
  obtain ⟨xs, h1, h2⟩ := each_vals h
  have hl : xs.length ≤ sizeLine := by
    rw [h2.length]
    unfold sortL
    rw [List.length_mergeSort]
    exact hz
  exact ⟨xs, I.laid (t' := s.toks) old ha ⟨hl, out, n, h1, new⟩, h2⟩
theorem sort_hu (hu : X.A.units + 64 < cLine) {ds : List D} (h : ∀ d ∈ ds, d.plain = true ∧ d.depth ≤ 30) : ∀ d, d ∈ ds → X.A.units + 2 + d.depth < cLine := fun d hd => by
  have := (h d hd).2
  omega
theorem map_id' (ds : List D) : ds.map (fun d => d) = ds := List.map_id ds
/-- sorted(list) -/
theorem rc_sortL (hu : X.A.units + 64 < cLine) : CallR X (.builtin "sorted") (fun vs H Q => ∃ v ds, vs = [v] ∧ Rn (pk X) H v (.list ds) ∧ SortOk ds ∧ ∀ xs p, RpA (pk X) H xs (sortL ds) → H p = none → Q (.ref p) (upd H p (.lst xs))) := by
  intro pn s sg hp vs us Q iv r h
  obtain ⟨v, ds, rfl, rn, ok, q⟩ := h
  obtain ⟨u, rfl, rx⟩ := vals1 r
  obtain ⟨l, ys, rfl, sq, rr⟩ := rn_sql rn
  cases rx
  obtain ⟨its, rv, hl, _⟩ := iv.list sq
  have ev := each_of rr rv
  refine PySem.W.sorted_data (enc := fun d : D => d) (bs := ds) hl.isList ev (each_reads iv ev fun d hd => (ok.2.2.2 d hd).1) (by rw [map_id']; exact ok.1) (by rw [map_id']; exact ok.2.1) ok.2.2.1 (sort_hu hu ok.2.2.2) fun out ho eo => ?_
  obtain ⟨c, hc⟩ := sortedAll_at s.heap its out.toArray
  obtain ⟨xs, I2, r2⟩ := sort_vals iv ok.2.2.1 eo (Nat.le_succ _) (fun b o hb => sortedAll_old hb) hc
  exact ⟨.ref _, _, I2, rfl, q xs _ r2 (iv.hok.fresh (Nat.le_succ _))⟩
theorem rpT_each {E : Pk} {H : Hp} : ∀ {xs : List (NestedKey × Addr × Value)} {ds : List (D × D)}, RpT E H xs ds → PySem.W.EachIs (Std E H) (xs.map fun y => .ref y.2.1) (ds.map (·.1))
  | _, _, .nil => .nil
  | _, _, .cons (b := b) hk _ _ r => .cons ⟨.ref b, rfl, hk⟩ (rpT_each r)
/-- sorted(dict) -/
theorem rc_sortD (hu : X.A.units + 64 < cLine) (hc : X.calm = true) : CallR X (.builtin "sorted") (fun vs H Q => ∃ v ds, vs = [v] ∧ Rdd (pk X) H v ds ∧ SortOk (ds.map (·.1)) ∧ ∀ xs p, RpA (pk X) H xs (sortL (ds.map (·.1))) → H p = none → Q (.ref p) (upd H p (.lst xs))) := by
  intro pn s sg hp vs us Q iv r h
  obtain ⟨v, ds, rfl, rd, ok, q⟩ := h
  obtain ⟨u, rfl, rx⟩ := vals1 r
  obtain ⟨d, xs, rfl, rfl, rT, lo, hl, hm⟩ := rdd_at iv rd rx
  obtain ⟨o, es, ep, k1, k2, k3, k4, _, _⟩ := hm
  have hsz : es.size = xs.length := size_of_entries k4
  refine PySem.Calls.call_function_entry kind_sorted plain_sorted entry_sorted (args_sorted1 _) ?_
  unfold Builtin.«sorted»
  refine wpAny_bind (m := checkCount "sorted" 1 1 _) (wpAny_pure ?_)
  refine wpAny_bind (PySem.W.kdu_collect (A := X.A.in1) (PySem.KdlSrc.rawDict (es := es) (ep := ep) lo) (iv.ok.hd hc) ⟨o, k1, k2, k3⟩ (by rw [hsz]; exact hl) fun h' tk acc old items => ?_)
  have I1 : L2.Inv X pn sg hp { s with heap := h', toks := tk } := iv.kept (t' := tk) old
  have hacc : acc.toList = xs.map fun y => Value.ref y.2.1 := by
    refine List.ext_getElem? fun i => ?_
    rw [Array.getElem?_toList, List.getElem?_map]
    by_cases hi : i < xs.length
    · have hi2 : i < acc.size := by rw [items.1, hsz]; exact hi
      obtain ⟨hi3, e⟩ := items.2 i acc[i] (Array.getElem?_eq_getElem hi2)
      have z := entry_at k4 i
      rw [List.getElem?_eq_getElem hi, Array.getElem?_eq_getElem hi3] at z
      have z := Option.some.inj z
      rw [Array.getElem?_eq_getElem hi2, e, z, List.getElem?_eq_getElem hi]
      rfl
    · have hi2 : ¬ i < acc.size := by rw [items.1, hsz]; exact hi
      rw [Array.getElem?_eq_none (Nat.le_of_not_lt hi2), List.getElem?_eq_none (Nat.le_of_not_lt hi)]
      rfl
  have ev := rpT_each rT
  rw [← hacc] at ev
  have er := each_reads I1 ev fun d hd => (ok.2.2.2 d hd).1
  refine wpAny_bind (wpAny_newList ?_ (by rw [each_len ev]; exact ok.2.2.1))
  have ho : (h'.push { cls := .type "list", data := .seq acc.toList.toArray }).get? h'.objs.size = some (seqObj "list" acc.toList.toArray 0) := Heap.get?_push_size _ rfl
  refine wpAny_bind (wpAny_holding (PySem.W.list_sort_data (s := { s with heap := h'.push { cls := .type "list", data := .seq acc.toList.toArray }, toks := tk }) (A := X.A.in1) (enc := fun d : D => d) (bs := ds.map (·.1)) (R := Std (pk X) hp) ho ev ?_ (by rw [map_id']; exact ok.1) (by rw [map_id']; exact ok.2.1) ok.2.2.1 (fun b hb => by have := (ok.2.2.2 b hb).2; rw [Around.in1_units]; omega) fun out hout eo => ?_))
  · refine (PySem.W.each_mem er).mono fun v d ⟨⟨as, r⟩, hd⟩ => ⟨as, Reads.keeps (fun b o z => Heap.get?_push_of_some _ z) r, fun z => ?_⟩
    exact absurd (reads_lt d v as ((ok.2.2.2 d hd).1) r _ z) (Nat.lt_irrefl _)
  · refine wpAny_pure ⟨_, rfl, ?_⟩
    obtain ⟨c, hcc⟩ := sortedHeap_at (vs := acc.toList) (out := out.toArray) ho
    obtain ⟨ws, I2, r2⟩ := sort_vals (a := h'.objs.size) (n := c) I1 ok.2.2.1 eo (Nat.le_refl _) (fun b ob z => (sortedHeap_old (Nat.ne_of_lt (Heap.lt_size z)) (by rw [size_push']; exact Nat.lt_succ_of_lt (Heap.lt_size z))).trans (Heap.get?_push_of_some _ z)) hcc
    exact ⟨.ref _, _, I2, rfl, q ws _ r2 (I1.hok.fresh (Nat.le_refl _))⟩
open Classical in
noncomputable def sortD : D → Option D
  | .list ds => if SortOk ds then some (.list (sortL ds)) else none
  | _ => none
open Classical in
noncomputable def sortDd (fd : Evd) : Ev := fun Γ t => fd Γ t >>= fun p => if SortOk (p.1.map (·.1)) then some (.list (sortL (p.1.map (·.1))), p.2) else none
theorem b1_sorted (hu : X.A.units + 64 < cLine) : B1 X (.builtin "sorted") sortD := ⟨_, rc_sortL hu, fun vs H Q h => by
  obtain ⟨v, dv, d, rfl, r, hg, q⟩ := h
  cases dv with
  | list ds =>
    simp only [sortD] at hg
    split at hg
    · rename_i ok
      cases hg
      exact ⟨v, ds, rfl, r, ok, fun xs p rx hp => frzK_list fun o => q _ _ (frzNew hp) (rp_newList hp rx)⟩
    · cases hg
  | _ => cases hg⟩
theorem xe_sortD {p : Pos} {fd : Evd} (hu : X.A.units + 64 < cLine) (hc : X.calm = true) (hg : Gl X "sorted") (hm : X.mg "sorted" = none) (ha : XD X a fd) (hv : bootBuiltins "sorted" = some (.builtin "sorted") := by rfl) (hs : starEach [a] X.env = (false, eval a X.env) :: starEach [] X.env := by rfl) : XE X (.Call (.Name "sorted" p) [a] [] pos) (sortDd fd) :=
  peImp (peFreeze (pe_callB (rc_sortD hu hc) hg hm hv (pa_cons ha pa_nil hs) (by decide) (by decide) hs)) fun σ H Q h => by
    obtain ⟨tp, H0, t, Γ, d', t', S, hf, q⟩ := h
    obtain ⟨⟨ds, t1⟩, e1, hf⟩ := bindO hf
    split at hf
    · rename_i ok
      cases hf
      exact ⟨tp, H0, t, Γ, _, _, S, e1, fun v H1 x1 g1 r1 => ⟨v, ds, rfl, r1, ok, fun xs p rx hp => frzK_list fun o => q _ _ (x1.trans (Ex.ofSame (frzNew hp))) (g1.same (frzNew hp)) (rp_newList hp rx)⟩⟩
    · cases hf
end
end DL

set_option Elab.async false
set_option linter.all false
set_option maxRecDepth 100000
/-! DL15: order of data, sums of tuples, a module's tuples, the tape's def and the law's own. -/
namespace DL
open PySem PySem.Spec L2
open PyProof.Rows hiding St

section
variable {X : Cx} {e a b c : Expr} {es rest : List Expr} {pos : Pos}
/-! ### order -/
def isNoneD : D → Bool
  | .none => true
  | _ => false
theorem not_noneD {d : D} (h : isNoneD d = false) : d ≠ .none := fun z => by rw [z] at h; cases h
def ordOk (x y : D) : Bool := okD x && okD y && PySem.W.alike x y && !isNoneD x
def ltA (x y : D) : Option D := if ordOk x y then some (.bool (PySem.W.dataLt x y)) else none
def leA (x y : D) : Option D := if ordOk x y then some (.bool (!PySem.W.dataLt y x)) else none
theorem ord_ok {pn : List (Addr × Obj)} {sg : St} {hp : Hp} {s : Shared} {x y : V} {v u : Value} {dx dy : D} (iv : L2.Inv X pn sg hp s) (r1 : Rp (pk X) hp x dx) (r2 : Rp (pk X) hp y dy) (rx : RelV x v) (ry : RelV y u) (h : ordOk dx dy = true) (hu : X.A.units + 64 < cLine) :
    (∃ as, Reads s.heap v dx as) ∧ (∃ bs, Reads s.heap u dy bs) ∧ PySem.W.alike dx dy = true ∧ dx ≠ .none ∧ X.A.units + min dx.depth dy.depth < cLine := by
  rw [ordOk, Bool.and_eq_true, Bool.and_eq_true, Bool.and_eq_true] at h
  refine ⟨rp_reads iv r1 rx h.1.1.1, rp_reads iv r2 ry h.1.1.2, h.1.2, not_noneD (by cases hz : isNoneD dx with | true => rw [hz] at h; exact absurd h.2 (by decide) | false => rfl), ?_⟩
  have := (okD_plain h.1.1.1).2
  have := Nat.min_le_left dx.depth dy.depth
  omega
theorem op_ltA (hu : X.A.units + 64 < cLine) : OpR X (compareOp .Lt) (rD (pk X) ltA) := by
  intro pn s sg hp x y v u Q iv rx ry h
  obtain ⟨dx, dy, d, r1, r2, hg, q⟩ := h
  unfold ltA at hg
  split at hg
  · rename_i hs
    cases hg
    obtain ⟨⟨as, w1⟩, ⟨bs, w2⟩, h1, h2, h3⟩ := ord_ok iv r1 r2 rx ry hs hu
    exact PySem.W.lt_data w1 w2 h1 h2 h3 ⟨.bl _, hp, iv, rfl, q _ _ (Same.refl _) (.bl _)⟩
  · cases hg
theorem op_leA (hu : X.A.units + 64 < cLine) : OpR X (compareOp .LtE) (rD (pk X) leA) := by
  intro pn s sg hp x y v u Q iv rx ry h
  obtain ⟨dx, dy, d, r1, r2, hg, q⟩ := h
  unfold leA at hg
  split at hg
  · rename_i hs
    cases hg
    obtain ⟨⟨as, w1⟩, ⟨bs, w2⟩, h1, h2, h3⟩ := ord_ok iv r1 r2 rx ry hs hu
    exact PySem.W.le_data w1 w2 h1 h2 h3 ⟨.bl _, hp, iv, rfl, q _ _ (Same.refl _) (.bl _)⟩
  · cases hg
/-! ### sum of a tuple -/
def sumT : D → Option D
  | .tuple ds => (intsOf ds).map fun ns => .int ns.sum
  | _ => none
theorem rc_sumT (hc : X.calm = true) : CallR X (.builtin "sum") (fun vs H Q => ∃ (v : V) (ns : List Int), vs = [v] ∧ Rp (pk X) H v (.tuple (ns.map .int)) ∧ Q (.int ns.sum) H) := by
  intro pn s sg hp vs us Q iv r h
  obtain ⟨v, ns, rfl, rp, q⟩ := h
  obtain ⟨u, rfl, rx⟩ := vals1 r
  cases rp with
  | tup sq rr =>
    have e := rr.ints
    subst e
    cases rx
    obtain ⟨its, rv, ht, hz⟩ := iv.tuple sq
    have hi := rv.ints
    obtain ⟨xs, hx⟩ := hi.allInts.items
    have hn : numsOf its.toArray.toList = ns := by rw [show its.toArray.toList = its from rfl, hi.numsOf]
    obtain ⟨oo, h1, h2, h3⟩ := id ht
    have hl : s.heap.IsTuple _ its.toArray := ⟨oo, h1, h2, h3⟩
    rw [hx] at hl hn
    rw [nums_intItems] at hn
    refine PySem.W.ktm_sumG (iv.ok.hd hc) hl fun h' tk t' old => ?_
    rw [preSum_eq, List.take_of_length_le (by simp), hn]
    exact ⟨.int _, hp, iv.kept old, ⟨_, rfl⟩, q⟩
theorem b1_sumT (hc : X.calm = true) : B1 X (.builtin "sum") sumT := ⟨_, rc_sumT hc, fun vs H Q h => by
  obtain ⟨v, dv, d, rfl, r, hg, q⟩ := h
  cases dv with
  | tuple ds =>
    simp only [sumT, Option.map_eq_some_iff] at hg
    obtain ⟨ns, h1, rfl⟩ := hg
    have e := intsOf_map h1
    subst e
    exact ⟨v, ns, rfl, rn_rp r (fun _ z => by cases z), .inl (q _ H (Same.refl H) (.int _))⟩
  | _ => cases hg⟩
/-! ### a module's own data -/
/-- a global that reads as d for ever -/
structure GlD (E : Pk) (mg : Str → Option Value) (x : Str) (d : D) : Prop where
  ex : ∃ v u, mg x = some u ∧ RelV v u ∧ ∀ H, Rp E H v d
theorem xe_gd {x : Str} {d : D} (g : GlD (pk X) X.mg x d) (hg : Gl X x) (hdb : (x == ("__debug__" : Str)) = false := by decide) : XE X (.Name x pos) (vC d) := by
  obtain ⟨v, u, h1, h2, h3⟩ := g.ex
  exact xe_glob hg h1 h2 h3 hdb

/-! ### the tape's def: .. ; return {"cells": cells, "at": 0, "left": 0, "seed": seed, "salt": 0} -/
def tapeR (i j : Nat) : Env' → Option Tape := fun Γ => match Γ[i]?, Γ[j]? with
  | some (.fz (.list ds)), some (.fz (.int s)) => (intsOf ds).map fun ns => ⟨ns, 0, 0, s, 0⟩
  | _, _ => none
def tXT (E : Pk) (f : Env' → Tape → Option Tape) : TS := fun Dn σ H => ∃ H0 t Γ t', Sok E H0 none t H σ Γ ∧ f Γ t = some t' ∧ ∀ τ H', Ex none H0 H' → H0 τ = none → GOk E H' (some τ) t' → Dn.rt (.ref τ) H'
theorem xt_ret (i j : Nat) {x y k1 k2 k3 k4 k5 : Str} {n1 n2 n3 n4 n5 n6 n7 n8 : Nat} {p1 p2 p3 p4 p5 p6 p7 p8 p9 p10 p11 : Pos} (h1 : k1 = "cells" := by rfl) (h2 : k2 = "at" := by rfl) (h3 : k3 = "left" := by rfl) (h4 : k4 = "seed" := by rfl) (h5 : k5 = "salt" := by rfl)
    (hN : X.N[i]? = some x := by rfl) (hv : Vis X.env.scope x := by first | exact Or.inl rfl | exact Or.inr (Or.inl rfl) | exact Or.inr (Or.inr rfl)) (hd : (x == ("__debug__" : Str)) = false := by decide) (hcd : (x == ("__classdict__" : Str)) = false := by decide)
    (hN2 : X.N[j]? = some y := by rfl) (hv2 : Vis X.env.scope y := by first | exact Or.inl rfl | exact Or.inr (Or.inl rfl) | exact Or.inr (Or.inr rfl)) (hd2 : (y == ("__debug__" : Str)) = false := by decide) (hcd2 : (y == ("__classdict__" : Str)) = false := by decide) :
    PS X (.Return (some (.Dict [some (.Constant (.str k1) n1 p1), some (.Constant (.str k2) n2 p2), some (.Constant (.str k3) n3 p3), some (.Constant (.str k4) n4 p4), some (.Constant (.str k5) n5 p5)]
      [.Name x p6, .Constant (.int 0) n6 p7, .Constant (.int 0) n7 p8, .Name y p9, .Constant (.int 0) n8 p10] p11)) pos) (tXT (pk X) fun Γ _ => tapeR i j Γ) := by
  subst h1 h2 h3 h4 h5
  refine psImp (ps_ret (pe_disp (pps_cons pe_str (pe_var hN hv hd hcd) (pps_cons pe_str pe_int (pps_cons pe_str pe_int (pps_cons pe_str (pe_var hN2 hv2 hd2 hcd2) (pps_cons pe_str pe_int pps_nil))))) rfl rfl (by exact fun z => nomatch z) (show 5 ≤ 15 by decide))) fun Dn σ H h => ?_
  obtain ⟨H0, t, Γ, t', S, hf, q⟩ := h
  have hf : tapeR i j Γ = some t' := hf
  unfold tapeR at hf
  split at hf
  · rename_i ds s hi hj
    simp only [Option.map_eq_some_iff] at hf
    obtain ⟨ns, h1, rfl⟩ := hf
    have e := intsOf_map h1
    subst e
    obtain ⟨v, e1, r1⟩ := S.has i _ hi
    obtain ⟨u, e2, r2⟩ := S.has j _ hj
    cases r2
    cases r1 with
    | @lst c xs _ l r =>
      have e3 := r.ints
      subst e3
      refine fun p hp => ⟨_, e1, ⟨_, e2, ?_⟩⟩
      have sm := same_upd (o := .dK []) hp
      have n0 : H0 p = none := S.ex.free hp (fun z => nomatch z)
      refine ⟨upd_same, [(.inr "cells", .ref c), (.inr "at", .int 0), (.inr "left", .int 0), (.inr "seed", .int s), (.inr "salt", .int 0)], rfl, (show 5 ≤ 15 by decide), q p _ ?_ n0 fun a z => ?_⟩
      · exact upd_ex (upd_ex S.ex n0) n0
      · cases z
        exact ⟨c, by rw [upd_same]; rfl, l.fz (by rw [upd_upd]; exact sameFz (same_upd hp))⟩
  · cases hf
end
end DL

set_option Elab.async false
set_option linter.all false
set_option maxRecDepth 100000
/-! DL16: the tape's def, the law's first statement, the end. -/
namespace DL
open PySem PySem.Spec L2
open PyProof.Rows hiding St

/-- a def that makes the tape -/
def spTape (E : Pk) (F : List D → Option Tape) : Sp := fun vs H Q _ => ∃ ds t, RpA E H vs ds ∧ F ds = some t ∧ ∀ τ H', Same H H' → H τ = none → GOk E H' (some τ) t → Q (.ref τ) H'
def fnTape (n N : Nat) (f : Env' → Tape → Option Tape) : List D → Option Tape := fun ds => if ds.length = n then f (ds.map .fz ++ List.replicate (N - n) .no) tape0 else none
def sThenT (f : Es) (g : Env' → Tape → Option Tape) : Env' → Tape → Option Tape := fun Γ t => f Γ t >>= fun r => match r with
  | .nx Γ' t' => g Γ' t'
  | _ => none
section
variable {X : Cx} {st : Stmt} {rest : List Stmt}
theorem xt_one {f : Env' → Tape → Option Tape} (h : PS X st (tXT (pk X) f)) : PSs X [st] (tXT (pk X) f) := pss_one h
theorem xt_cons {f : Es} {g : Env' → Tape → Option Tape} (h1 : XS X st f) (h2 : PSs X rest (tXT (pk X) g)) : PSs X (st :: rest) (tXT (pk X) (sThenT f g)) := pssImp (pss_cons h1 h2) fun Dn σ H h => by
  obtain ⟨H0, t, Γ, t', S, hf, q⟩ := h
  obtain ⟨r1, e1, hf⟩ := bindO hf
  refine ⟨none, H0, t, Γ, r1, S, e1, ?_⟩
  cases r1 with
  | nx Γ1 t1 => exact fun σ1 H1 f1 S1 => ⟨H0, t1, Γ1, t', S1, hf, q⟩
  | rt d t1 => cases hf
  | bk Γ1 t1 => cases hf
  | ct Γ1 t1 => cases hf
end
section
variable {P : Program} {w : World} {K : PySem.W.Frag} {mg : Str → Option Value} {base : Heap}
theorem def_okTape {x qual : Str} {st : Stmt} {f : Addr} {fd : FuncData} {N ps : List Str} {k : Nat} {g : Env' → Tape → Option Tape} (F : Fun K x qual st f fd) (S : FnScope N ps (defScope st)) (hm : mg x = some (.ref f)) (hb : Binds K fd ps [])
    (h : ∀ (X : Cx), (∃ cdv A outer s H E, X = (cxOf CX0 P w K mg base N qual (defScope st) f cdv A outer s H E).nox) → Room k X.A → PSs X (defBody st) (tXT (pk X) g)) : DefOk P w K mg base x (k + 1) (spTape ⟨P, w, K⟩ (fnTape ps.length N.length g)) := by
  refine ⟨f, fd, ps, F.ok S (fun vs H Q E q => ?_) (fun cdv A outer s H vs Q E hr q => ?_), hm, F.kp, hb⟩
  · obtain ⟨ds, t, r, e, _⟩ := q
    unfold fnTape at e
    split at e
    · rename_i hl
      rw [r.length, hl]
    · cases e
  · obtain ⟨ds, t, r, e, q⟩ := q
    unfold fnTape at e
    split at e
    · rename_i hl
      exact ⟨_, h _ ⟨cdv, A, outer, s, H, E, rfl⟩ hr, H, tape0, _, t, sok_start r hl, e, fun τ H' x n g => q τ H' x.same n g⟩
    · cases e
end
/-- no object is written here yet -/
def quietG (Γ : Env') : Bool := Γ.all fun s => match s with
  | .mu _ => false
  | .tp => false
  | _ => true
def sTape (F : List D → Option Tape) (i : Nat) (a : Eva) (g : Es) : Es := fun Γ t => if quietG Γ then a Γ t >>= fun p => F p.1 >>= fun t1 => g (Γ.set i .tp) t1 >>= fun r => match r with
  | .rt d _ => some (.rt d p.2)
  | _ => none
  else none
section
variable {X : Cx} {e : Expr} {es : List Expr} {rest : List Stmt} {pos : Pos}
theorem sok_tape {E : Pk} {H0 H H2 : Hp} {tp : Option Addr} {t t1 : Tape} {σ : St} {Γ : Env'} {τ : Addr} {i : Nat} (S : Sok E H0 tp t H σ Γ) (hq : quietG Γ = true) (x : Ex tp H H2) (g : GOk E H2 (some τ) t1) : Sok E H2 (some τ) t1 H2 (σ.set i (some (.ref τ))) (Γ.set i .tp) := by
  have hno : ∀ s ∈ Γ, (∀ d, s ≠ .mu d) ∧ s ≠ .tp := fun s hs => by
    have z := List.all_eq_true.mp hq s hs
    cases s with
    | mu d => cases z
    | tp => cases z
    | no => exact ⟨(fun _ z => nomatch z), (fun z => nomatch z)⟩
    | fz d => exact ⟨(fun _ z => nomatch z), (fun z => nomatch z)⟩
  refine ⟨Ex.refl _ _, g, fun a z => ?_, by rw [List.length_set, List.length_set, S.len], fun j s e => ?_, fun j k d e' a hjk h1 h2 h3 h4 => ?_⟩
  · cases z
    obtain ⟨c, hc, _⟩ := g τ rfl
    rw [hc]
    exact fun z => nomatch z
  · by_cases hj : i = j
    · subst hj
      have hl : i < Γ.length := by
        have := (List.getElem?_eq_some_iff.mp e).1
        rwa [List.length_set] at this
      rw [List.getElem?_set_self hl] at e
      cases e
      rw [List.getElem?_set_self (by rw [S.len]; exact hl)]
      exact ⟨τ, rfl, rfl⟩
    · rw [List.getElem?_set_ne hj] at e
      rw [List.getElem?_set_ne hj]
      have hs := S.has j s e
      obtain ⟨n1, n2⟩ := hno s (List.mem_of_getElem? e)
      cases s with
      | no => trivial
      | mu d => exact absurd rfl (n1 d)
      | tp => exact absurd rfl n2
      | fz d =>
        obtain ⟨v, q1, q2⟩ := hs
        exact ⟨v, q1, q2.fz (x.fz S.g)⟩
  · by_cases hj : i = j
    · subst hj
      have hl : i < Γ.length := by
        have := (List.getElem?_eq_some_iff.mp h1).1
        rwa [List.length_set] at this
      rw [List.getElem?_set_self hl] at h1
      cases h1
    · rw [List.getElem?_set_ne hj] at h1
      exact (hno _ (List.mem_of_getElem? h1)).1 d rfl
/-- tape = _law_tape(script); .. -/
theorem xss_tape {k : Nat} {x y : Str} {p py cpos : Pos} (i : Nat) {F : List D → Option Tape} {a : Eva} {g : Es} (hN : X.N.Nodup) (hF : DefOk X.prog X.w X.K X.mg X.base x k (spTape (pk X) F)) (hr : Room k X.A) (hg : Gl X x) (ha : XA X (e :: es) a) (hrest : XSs X rest g)
    (hi : X.N[i]? = some y := by rfl) (hx : Loc X.env.scope y := by first | exact Or.inl rfl | exact Or.inr rfl) (hs : swapsWith (.Call (.Name x p) (e :: es) [] cpos) (some (.Name y py)) pos.line X.env = pure false := by rfl)
    (hf : X.fn y = true ∨ X.env.scope.names.lookup y = some .local := by first | exact .inl rfl | exact .inr rfl | assumption) (hdb : (x == ("__debug__" : Str)) = false := by decide)
    (he : starEach (e :: es) X.env = (false, eval e X.env) :: starEach es X.env := by rfl) (hpl : (backTo cpos (starEach es X.env)).any (·.1) = false := by rfl) : XSs X (.Assign [.Name y py] (.Call (.Name x p) (e :: es) [] cpos) pos :: rest) (sTape F i a g) := by
  obtain ⟨f, fd, ps, hfn, hm, hk, hb⟩ := hF.ex
  refine pssImp (pss_cons (ps_set hN hi hx (pe_call hfn hr hg hm hk hb .nil pass0 ha hdb he hpl) hs hf) hrest) fun Dn σ H h => ?_
  obtain ⟨tp, H0, t, Γ, r, S, hf, q⟩ := h
  unfold sTape at hf
  split at hf
  · rename_i hq
    obtain ⟨⟨ds, t1⟩, e1, hf⟩ := bindO hf
    obtain ⟨t2, e2, hf⟩ := bindO hf
    obtain ⟨r3, e3, hf⟩ := bindO hf
    cases r3 with
    | rt d t3 =>
      cases hf
      refine ⟨tp, H0, t, Γ, ds, t1, S, e1, fun vs H1 x1 g1 r1 => ?_⟩
      show spTape (pk X) F (vs ++ []) H1 _ _
      rw [List.append_nil]
      refine ⟨ds, t2, r1, e2, fun τ H2 s2 hn g2 => ?_⟩
      have n1 : ∀ b o, H1 b = some o → b ≠ τ := fun b o z y => by rw [y, hn] at z; cases z
      have S2 : Sok (pk X) H2 (some τ) t2 H2 (σ.set i (some (.ref τ))) (Γ.set i .tp) := sok_tape (S.step x1 g1) hq (x1 |> fun _ => Ex.ofSame s2) g2
      refine ⟨some τ, H2, t2, _, _, S2, e3, fun v H3 x3 g3 r3 => q v H3 (fun b o hb z => ?_) (fun b z => ?_) r3⟩
      · have z1 := x1 b o hb (S.ex b o hb z)
        exact x3 b o (fun y => n1 b o z1 (Option.some.inj y).symm) (s2 b o z1)
      · obtain ⟨c, k1, k2⟩ := g1 b z
        exact ⟨c, x3 b _ (fun y => n1 b _ k1 (Option.some.inj y).symm) (s2 _ _ k1), k2.fz ((sameFz s2).trans (x3.fz g2))⟩
    | nx _ _ => cases hf
    | bk _ _ => cases hf
    | ct _ _ => cases hf
  · cases hf
end
section
variable {P : Program} {w : World} {K : PySem.W.Frag}
/-- the law's promise where its def keeps its own -/
theorem law_end {F : List D → Option D} {H : Hp} {a : Addr} {ns : List Int} (ho : Only H) (hs : SqL K H a (ns.map V.int)) (hF : F [.list (ns.map .int)] = some (.bool true)) : spD ⟨P, w, K⟩ F [.ref a] H (fun v _ => v = .bl true) (fun _ _ _ => False) := by
  have l : LsF K H a (ns.map V.int) := by
    rcases hs with h | h
    · rcases h with h | ⟨o, h⟩
      · rcases ho a with z | ⟨o, xs, z⟩
        · rw [h] at z; cases z
        · rw [h] at z; cases z
      · exact .of h
    · exact .inr h
  exact ⟨[.list (ns.map .int)], .bool true, .cons (.lst l (RpA.ofInts ns)) .nil, hF, fun v H' _ r => by cases r; rfl⟩
end
end DL

set_option Elab.async false
set_option linter.all false
set_option maxRecDepth 100000
/-! DL17: rules that ask what the value is: places, lengths, membership, what is walked, sums, order. -/
namespace DL
open PySem PySem.Spec L2
open PyProof.Rows hiding St

section
variable {X : Cx} {e a b c : Expr} {es rest : List Expr} {pos : Pos}
theorem peOr {t1 t2 u : TE} (h1 : PE X e t1) (h2 : PE X e t2) (i : ∀ σ H Q, u σ H Q → t1 σ H Q ∨ t2 σ H Q) : PE X e u := ⟨fun pn s sg hp Q iv q => (i _ _ _ q).elim (h1.run pn s sg hp Q iv) (h2.run pn s sg hp Q iv)⟩
theorem piOr {tg : Expr} {t1 t2 u : TI} (h1 : PI X tg e t1) (h2 : PI X tg e t2) (i : ∀ σ H Q, u σ H Q → t1 σ H Q ∨ t2 σ H Q) : PI X tg e u := ⟨fun pn s sg hp Q iv q => (i _ _ _ q).elim (h1.run pn s sg hp Q iv) (h2.run pn s sg hp Q iv)⟩
/-- f where c holds of the place, else g -/
def eIf (c : Env' → Tape → Bool) (f g : Ev) : Ev := fun Γ t => bif c Γ t then f Γ t else g Γ t
theorem xe_eIf {c : Env' → Tape → Bool} {f g : Ev} (h1 : XE X e f) (h2 : XE X e g) : XE X e (eIf c f g) := peOr h1 h2 fun σ H Q h => by
  obtain ⟨tp, H0, t, Γ, d, t', S, hf, q⟩ := h
  unfold eIf at hf
  cases hc : c Γ t with
  | true => rw [hc] at hf; exact .inl ⟨tp, H0, t, Γ, d, t', S, hf, q⟩
  | false => rw [hc] at hf; exact .inr ⟨tp, H0, t, Γ, d, t', S, hf, q⟩
def iIf (c : Env' → Tape → Bool) (f g : Evi) : Evi := fun Γ t => bif c Γ t then f Γ t else g Γ t
theorem xi_iIf {tg : Expr} {c : Env' → Tape → Bool} {f g : Evi} (h1 : XI X tg e f) (h2 : XI X tg e g) : XI X tg e (iIf c f g) := piOr h1 h2 fun σ H Q h => by
  obtain ⟨tp, H0, t, Γ, d, t', S, hf, q⟩ := h
  unfold iIf at hf
  cases hc : c Γ t with
  | true => rw [hc] at hf; exact .inl ⟨tp, H0, t, Γ, d, t', S, hf, q⟩
  | false => rw [hc] at hf; exact .inr ⟨tp, H0, t, Γ, d, t', S, hf, q⟩
/-- the value is a dict -/
def isDc (f : Ev) : Env' → Tape → Bool := fun Γ t => match f Γ t with
  | some (.dict _, _) => true
  | _ => false
def isTp (f : Ev) : Env' → Tape → Bool := fun Γ t => match f Γ t with
  | some (.tuple _, _) => true
  | _ => false
abbrev ixU (f g : Ev) : Ev := eIf (isDc f) (dIx (dTo f) g) (binD ixD f g)
theorem xe_ixU {f g : Ev} (hu : X.A.units + 64 < cLine) (ha : XE X a f) (hb : XE X b g) (hs : PlainIx b := by exact fun _ _ => rfl) (hs2 : NoSl b := by exact fun _ _ => rfl) : XE X (.Subscript a b pos) (ixU f g) := xe_eIf (xe_dix hu (xd_of ha) hb hs2) (xe_ix (xr_of ha) hb hs)
abbrev lenU (f : Ev) : Ev := eIf (isDc f) (dLen (dTo f)) (unD lenD f)
theorem xe_lenU {p : Pos} {f : Ev} (hc : X.calm = true) (hg : Gl X "len") (hm : X.mg "len" = none) (ha : XE X a f) (hs : starEach [a] X.env = (false, eval a X.env) :: starEach [] X.env := by rfl) : XE X (.Call (.Name "len" p) [a] [] pos) (lenU f) := xe_eIf (xe_dlen hc hg hm (xd_of ha) rfl hs) (xe_b1 b1_len hg hm rfl (xr_of ha) (by decide) (by decide) hs)
abbrev sumU (f : Ev) : Ev := eIf (isTp f) (unD sumT f) (unD sumD f)
theorem xe_sumU {p : Pos} {f : Ev} (hc : X.calm = true) (hg : Gl X "sum") (hm : X.mg "sum" = none) (ha : XR X a f) (hs : starEach [a] X.env = (false, eval a X.env) :: starEach [] X.env := by rfl) : XE X (.Call (.Name "sum" p) [a] [] pos) (sumU f) := xe_eIf (xe_b1 (b1_sumT hc) hg hm rfl ha (by decide) (by decide) hs) (xe_b1 (b1_sum hc) hg hm rfl ha (by decide) (by decide) hs)
abbrev iU (f : Ev) : Evi := iIf (isDc f) (iKeysD f) (iSeq f)
theorem xi_U {tg : Expr} {f : Ev} (ha : XE X a f) : XI X tg a (iU f) := xi_iIf (xi_keysD ha) (xi_seq ha)
/-- k in d, for d a dict -/
def inDc (f g : Ev) : Env' → Tape → Bool := fun Γ t => match f Γ t with
  | some (_, t1) => isDc g Γ t1
  | none => false
abbrev inU (f g : Ev) : Ev := eIf (inDc f g) (dIn f (dTo g)) (binD inD f g)
abbrev ninU (f g : Ev) : Ev := eIf (inDc f g) (dNin f (dTo g)) (binD ninD f g)
theorem tIn_eq {f : Ev} {fd : Evd} : tInD id (pk X) f fd = tX (pk X) (dIn f fd) := rfl
theorem tNin_eq {f : Ev} {fd : Evd} : tInD not (pk X) f fd = tX (pk X) (dNin f fd) := rfl
theorem xe_inU {f g : Ev} (hu : X.A.units + 64 < cLine) (ha : XE X a f) (hb : XE X b g) (hm : behindInMarks .In b = false := by first | rfl | exact nomark _) : XE X (.Compare a [.In] [b] pos) (inU f g) := xe_eIf (pe_cmp (pc_in hu ha (xd_of hb)) hm) (xe_cmp (op_inP hu) ha hb hm)
theorem xe_ninU {f g : Ev} (hu : X.A.units + 64 < cLine) (ha : XE X a f) (hb : XE X b g) (hm : behindInMarks .NotIn b = false := by first | rfl | exact nomark _) : XE X (.Compare a [.NotIn] [b] pos) (ninU f g) := xe_eIf (pe_cmp (pc_nin hu ha (xd_of hb)) hm) (xe_cmp (op_ninP hu) ha hb hm)
/-! ### the same as tests -/
theorem ptOr {t1 t2 u : TT} (h1 : PT X e t1) (h2 : PT X e t2) (i : ∀ σ H Q, u σ H Q → t1 σ H Q ∨ t2 σ H Q) : PT X e u := ⟨fun pn s sg hp Q iv q => (i _ _ _ q).elim (h1.run pn s sg hp Q iv) (h2.run pn s sg hp Q iv)⟩
theorem xt_eIf {c : Env' → Tape → Bool} {f g : Ev} (h1 : XT X e (tst f)) (h2 : XT X e (tst g)) : XT X e (tst (eIf c f g)) := ptOr h1 h2 fun σ H Q h => by
  obtain ⟨tp, H0, t, Γ, k, t', S, hf, q⟩ := h
  have hf := tst_inv hf
  unfold eIf at hf
  have back : ∀ {f : Ev}, f Γ t = some (.bool k, t') → tst f Γ t = some (k, t') := fun {f} z => by unfold tst; rw [z]; rfl
  cases hc : c Γ t with
  | true => rw [hc] at hf; exact .inl ⟨tp, H0, t, Γ, k, t', S, back hf, q⟩
  | false => rw [hc] at hf; exact .inr ⟨tp, H0, t, Γ, k, t', S, back hf, q⟩
theorem pc_test {op : CmpOp} {f : Ev} (h : PC X op a b (tX (pk X) f)) (hm : behindInMarks op b = false) : XT X (.Compare a [op] [b] pos) (tst f) := ptImp (pt_cmp h hm) fun σ H Q q => toB q
theorem xt_inU {f g : Ev} (hu : X.A.units + 64 < cLine) (ha : XE X a f) (hb : XE X b g) (hm : behindInMarks .In b = false := by first | rfl | exact nomark _) : XT X (.Compare a [.In] [b] pos) (tst (inU f g)) := xt_eIf (pc_test (pc_in hu ha (xd_of hb)) hm) (xt_cmp (op_inP hu) ha hb hm)
theorem xt_ninU {f g : Ev} (hu : X.A.units + 64 < cLine) (ha : XE X a f) (hb : XE X b g) (hm : behindInMarks .NotIn b = false := by first | rfl | exact nomark _) : XT X (.Compare a [.NotIn] [b] pos) (tst (ninU f g)) := xt_eIf (pc_test (pc_nin hu ha (xd_of hb)) hm) (xt_cmp (op_ninP hu) ha hb hm)
end
end DL

set_option Elab.async false
set_option linter.all false
set_option maxRecDepth 100000
/-! DL18: where a def stands. -/
namespace DL
open PySem PySem.Spec L2
open PyProof.Rows hiding St
structure DefAt (K : PySem.W.Frag) (mg : Str → Option Value) (x : Str) (st : Stmt) (ps : List Str) : Prop where
  ex : ∃ f fd, Fun K x x st f fd ∧ mg x = some (.ref f) ∧ Binds K fd ps []
theorem defAt_mk {K : PySem.W.Frag} {mg : Str → Option Value} {h : Heap} (KX : K.In h) (G : h.Ns mainGlobals mg) {x : Str} {st : Stmt} {ps : List Str} {f : Addr} {oc : Value} {od an : Option Addr} {osl : Array (Option Value)} {kV doc pm cdv ct : Value}
    (a : PySem.W.nsIn K mainGlobals x = some (some (.ref f))) (l : K.lookup f = some ⟨oc, od, .func (PySem.W.fnOf x x (defArgs st) (defBody st) (defScope st) .none kV doc pm an cdv ct), osl⟩) (c : PySem.W.codeIn K cdv x = true) (k : PySem.W.keepIn K (.ref f) = true)
    (hb : ∀ (kV doc pm : Value) (an : Option Addr) (cdv ct : Value) (us : List Value), us.length = ps.length → bindArgs (PySem.W.fnOf x x (defArgs st) (defBody st) (defScope st) .none kV doc pm an cdv ct) ⟨us, []⟩ = pure (ps.zip us)) : DefAt K mg x st ps := by
  have F := fun_mk (st := st) l c k
  exact ⟨f, _, F, PySem.W.mg_of KX G a, F.binds hb⟩
/-- a global that is no object -/
theorem glD_of {E : Pk} {K : PySem.W.Frag} {mg : Str → Option Value} {h : Heap} (KX : K.In h) (G : h.Ns mainGlobals mg) {x : Str} {u : Value} {v : V} {d : D} (a : PySem.W.nsIn K mainGlobals x = some (some u)) (r : RelV v u) (hd : ∀ H, Rp E H v d) : GlD E mg x d := ⟨v, u, PySem.W.mg_of KX G a, r, hd⟩
/-- data that the written part holds -/
def kData (K : PySem.W.Frag) : Nat → Value → D → Bool
  | _, .none, .none => true
  | _, .bool b, .bool c => b == c
  | _, .int i _, .int j => decide (i = j)
  | _, .str x _, .str y => decide (x = y)
  | n + 1, .ref a, .tuple ds => match K.lookup a with
    | some ⟨c, _, .seq vs _, _⟩ => (c == .type "tuple") && decide (vs.size ≤ sizeLine) && kAll K n vs.toList ds
    | _ => false
  | n + 1, .ref a, .list ds => match K.lookup a with
    | some ⟨c, dd, .seq vs _, _⟩ => (c == .type "list") && dd.isNone && decide (vs.size ≤ sizeLine) && kAll K n vs.toList ds
    | _ => false
  | _, _, _ => false
where kAll (K : PySem.W.Frag) (n : Nat) : List Value → List D → Bool
  | [], [] => true
  | v :: vs, d :: ds => kData K n v d && kAll K n vs ds
  | _, _ => false
mutual
theorem kData_ok {P : Program} {w : World} {K : PySem.W.Frag} : ∀ (n : Nat) (u : Value) (d : D), kData K n u d = true → ∃ v, RelV v u ∧ ∀ H, Rp ⟨P, w, K⟩ H v d := fun n u d h => by
  unfold kData at h
  split at h
  · exact ⟨.non, rfl, fun _ => .non⟩
  · rename_i b c
    have := eq_of_beq h
    subst this
    exact ⟨.bl b, rfl, fun _ => .bl b⟩
  · have := of_decide_eq_true h
    subst this
    exact ⟨.int _, ⟨_, rfl⟩, fun _ => .int _⟩
  · have := of_decide_eq_true h
    subst this
    exact ⟨.str _, ⟨_, rfl⟩, fun _ => .str _⟩
  · rename_i m a ds
    split at h
    · rename_i c dd vs k sl hk
      rw [Bool.and_eq_true, Bool.and_eq_true, decide_eq_true_eq] at h
      obtain ⟨xs, r, hx⟩ := kAll_ok (P := P) (w := w) m vs.toList ds h.2
      exact ⟨.ref a, rfl, fun H => .tup (.inr ⟨_, vs, k, hk, eq_of_beq h.1.1, rfl, h.1.2, r⟩) (hx H)⟩
    · cases h
  · rename_i m a ds
    split at h
    · rename_i c dd vs k sl hk
      rw [Bool.and_eq_true, Bool.and_eq_true, Bool.and_eq_true, decide_eq_true_eq, Option.isNone_iff_eq_none] at h
      obtain ⟨xs, r, hx⟩ := kAll_ok (P := P) (w := w) m vs.toList ds h.2
      exact ⟨.ref a, rfl, fun H => .lst (.inr ⟨_, vs, k, hk, eq_of_beq h.1.1.1, h.1.1.2, rfl, h.1.2, r⟩) (hx H)⟩
    · cases h
  · cases h
theorem kAll_ok {P : Program} {w : World} {K : PySem.W.Frag} : ∀ (n : Nat) (us : List Value) (ds : List D), kData.kAll K n us ds = true → ∃ xs, Vals xs us ∧ ∀ H, RpA ⟨P, w, K⟩ H xs ds := fun n us ds h => by
  unfold kData.kAll at h
  split at h
  · exact ⟨[], .nil, fun _ => .nil⟩
  · rename_i v vs d ds
    rw [Bool.and_eq_true] at h
    obtain ⟨x, r, hx⟩ := kData_ok (P := P) (w := w) n v d h.1
    obtain ⟨xs, rs, hxs⟩ := kAll_ok (P := P) (w := w) n vs ds h.2
    exact ⟨x :: xs, .cons r rs, fun H => .cons (hx H) (hxs H)⟩
  · cases h
end
theorem glD_k {P : Program} {w : World} {K : PySem.W.Frag} {mg : Str → Option Value} {h : Heap} (KX : K.In h) (G : h.Ns mainGlobals mg) {x : Str} {u : Value} {d : D} (a : PySem.W.nsIn K mainGlobals x = some (some u)) (n : Nat) (hd : kData K n u d = true) : GlD ⟨P, w, K⟩ mg x d := by
  obtain ⟨v, r, hv⟩ := kData_ok (P := P) (w := w) n u d hd
  exact glD_of KX G a r hv
/-- flat data -/
def flat1 : Value → D → Bool
  | .none, .none => true
  | .bool b, .bool c => b == c
  | .int i _, .int j => decide (i = j)
  | .str x _, .str y => decide (x = y)
  | _, _ => false
def flatA : List Value → List D → Bool
  | [], [] => true
  | v :: vs, d :: ds => flat1 v d && flatA vs ds
  | _, _ => false
theorem flat1_ok {E : Pk} {u : Value} {d : D} (h : flat1 u d = true) : ∃ v, RelV v u ∧ ∀ H, Rp E H v d := by
  unfold flat1 at h
  split at h
  · exact ⟨.non, rfl, fun _ => .non⟩
  · rename_i b c
    have := eq_of_beq h
    subst this
    exact ⟨.bl b, rfl, fun _ => .bl b⟩
  · have := of_decide_eq_true h
    subst this
    exact ⟨.int _, ⟨_, rfl⟩, fun _ => .int _⟩
  · have := of_decide_eq_true h
    subst this
    exact ⟨.str _, ⟨_, rfl⟩, fun _ => .str _⟩
  · cases h
theorem flatA_ok {E : Pk} : ∀ (us : List Value) (ds : List D), flatA us ds = true → ∃ xs, Vals xs us ∧ ∀ H, RpA E H xs ds
  | [], [], _ => ⟨[], .nil, fun _ => .nil⟩
  | v :: vs, d :: ds, h => by
    rw [flatA, Bool.and_eq_true] at h
    obtain ⟨x, r, hx⟩ := flat1_ok (E := E) h.1
    obtain ⟨xs, rs, hxs⟩ := flatA_ok vs ds h.2
    exact ⟨x :: xs, .cons r rs, fun H => .cons (hx H) (hxs H)⟩
  | [], _ :: _, h => by cases h
  | _ :: _, [], h => by cases h
theorem glD_flat {E : Pk} {K : PySem.W.Frag} {mg : Str → Option Value} {h : Heap} (KX : K.In h) (G : h.Ns mainGlobals mg) {x : Str} {u : Value} {d : D} (a : PySem.W.nsIn K mainGlobals x = some (some u)) (f : flat1 u d = true) : GlD E mg x d := by
  obtain ⟨v, r, hv⟩ := flat1_ok (E := E) f
  exact glD_of KX G a r hv
theorem glD_tup {P : Program} {w : World} {K : PySem.W.Frag} {mg : Str → Option Value} {h : Heap} (KX : K.In h) (G : h.Ns mainGlobals mg) {x : Str} {p : Addr} {c : Value} {dd : Option Addr} {vs : Array Value} {n : Nat} {sl : Array (Option Value)} {ds : List D}
    (a : PySem.W.nsIn K mainGlobals x = some (some (.ref p))) (l : K.lookup p = some ⟨c, dd, .seq vs n, sl⟩) (hc : c = .type "tuple") (hz : vs.size ≤ 1000) (f : flatA vs.toList ds = true) : GlD ⟨P, w, K⟩ mg x (.tuple ds) := by
  obtain ⟨xs, r, hx⟩ := flatA_ok (E := ⟨P, w, K⟩) vs.toList ds f
  exact glD_of KX G a (v := .ref p) rfl fun H => .tup (.inr ⟨_, vs, n, l, hc, rfl, Nat.le_trans hz (by decide), r⟩) (hx H)
/-- what the law's program gives -/
theorem walk_law {l : PySem.W.OpenLaw} {q : Program} {loose : List Str} {XP : (Str → Option Value) → Heap → Prop} {YP : World → Heap → Prop} {d : DefRec} {K : Params → PySem.W.Frag} {F : List D → Option D} {k : Nat} (hn : l.most = some 63) (hdf : d.params.defaults = []) (hr : Room k callerA)
    (hY : ∀ (w : World) (h : Heap), YP w h → (K w.params).In h)
    (hfn : ∀ (w : World) (mg : Str → Option Value) (fa : Addr) (h : Heap), (K w.params).In h → h.Ns mainGlobals mg → mg d.name = some (.ref fa) →
      ∃ fd : FuncData, (∀ (s : Shared) (u : Value), BindsTo s fd ⟨[u], []⟩ [("script", u)]) ∧ ∀ base : Heap, (K w.params).In base → base.Ns mainGlobals mg → FnOk l.prog w (K w.params) mg base CX0 k fa fd ["script"] (spD ⟨l.prog, w, K w.params⟩ F))
    (hF : ∀ ns : List Int, ns.length ≤ 63 → F [.list (ns.map .int)] = some (.bool true)) :
    PySem.W.WalkO q loose XP YP l.row.toRowW d [] (fun f vs => PySem.call f vs) :=
  L2.walk_of (n := 63) (k := k) (x := "script") (CX := fun _ => CX0) (sp := fun w => spD ⟨l.prog, w, K w.params⟩ F) hn (by decide) hdf hr hY hfn (fun _ _ _ ns hl ho hS => law_end ho hS (hF ns hl)) fun _ _ _ _ _ z => z
theorem law_fd {K : PySem.W.Frag} {st : Stmt} {f : Addr} {fd : FuncData} (F : Fun K "law" "law" st f fd) (hb : ∀ (kV doc pm : Value) (an : Option Addr) (cdv ct : Value) (u : Value), bindArgs (PySem.W.fnOf "law" "law" (defArgs st) (defBody st) (defScope st) .none kV doc pm an cdv ct) ⟨[u], []⟩ = pure [(("script" : Str), u)]) : ∀ (s : Shared) (u : Value), BindsTo s fd ⟨[u], []⟩ [("script", u)] := by
  obtain ⟨oc, od, kV, doc, pm, an, cdv, ct, osl, rfl, lk, hcd⟩ := F.ex
  exact fun s u => .of_eq (hb kV doc pm an cdv ct u)
end DL

set_option Elab.async false
set_option linter.all false
set_option maxRecDepth 100000
/-! DL19: plain facts: what a draw gives. -/
namespace DL
open PySem PySem.Spec L2
open PyProof.Rows hiding St

/-- the body of the laws' draw -/
def takeB : Es := (sSeq (sIf (andB (tst (binD eqD (vTape 0 "left") (vC (.int 0)))) (tst (binD ltD (vTape 0 "at") (unD lenD (vTape 0 "cells")))))
  (sSeq (sTset 0 "left" (binD ixD (vTape 0 "cells") (vTape 0 "at")))
  (sTset 0 "at" (binD addD (vTape 0 "at") (vC (.int 1)))))
  sSkip)
  (sSeq (sIf (tst (binD gtD (vTape 0 "left") (vC (.int 0))))
  (sSeq (sSet 3 (binD modD (unD intD (vTape 0 "left")) (vVar 1)))
  (sSeq (sTset 0 "left" (binD divD (vTape 0 "left") (vVar 1)))
  (sRet (vVar 3))))
  sSkip)
  (sSeq (sTset 0 "salt" (binD addD (vTape 0 "salt") (vC (.int 1))))
  (sSeq (sSet 2 (binD modD (unD intD (binD addD (binD mulD (vTape 0 "seed") (vC (.int 48271))) (binD mulD (vTape 0 "salt") (vC (.int 69621))))) (vC (.int 2147483647))))
  (sSeq (sSet 2 (binD modD (unD intD (binD addD (binD addD (binD mulD (vVar 2) (vVar 2)) (binD mulD (vTape 0 "salt") (vC (.int 40692)))) (vC (.int 12345)))) (vC (.int 2147483399))))
  (sRet (binD modD (unD intD (vVar 2)) (vVar 1))))))))
/-- a tape as the laws make it -/
structure TpOk (t : Tape) : Prop where
  cells : ∀ c ∈ t.cells, 0 ≤ c
  left : 0 ≤ t.left
  at' : 0 ≤ t.at'
theorem seq_nx {f g : Es} {Γ Γ' : Env'} {t t' : Tape} (h : f Γ t = some (.nx Γ' t')) : sSeq f g Γ t = g Γ' t' := by
  unfold sSeq
  rw [h]
  rfl
theorem seq_rt {f g : Es} {Γ : Env'} {t t' : Tape} {d : D} (h : f Γ t = some (.rt d t')) : sSeq f g Γ t = some (.rt d t') := by
  unfold sSeq
  rw [h]
  rfl
theorem for_nx {g : Tg} {body : Es} {d : D} {ds : List D} {Γ Γ' : Env'} {t t' : Tape} {l : List (Nat × D)} (h1 : g d = some l) (h2 : body (setG Γ l) t = some (.nx Γ' t')) : forL g body (d :: ds) Γ t = forL g body ds Γ' t' := by
  rw [forL, h1]
  simp only [Option.bind_eq_bind, Option.bind_some]
  rw [h2]
  rfl
theorem for_ct {g : Tg} {body : Es} {d : D} {ds : List D} {Γ Γ' : Env'} {t t' : Tape} {l : List (Nat × D)} (h1 : g d = some l) (h2 : body (setG Γ l) t = some (.ct Γ' t')) : forL g body (d :: ds) Γ t = forL g body ds Γ' t' := by
  rw [forL, h1]
  simp only [Option.bind_eq_bind, Option.bind_some]
  rw [h2]
  rfl
theorem for_rt {g : Tg} {body : Es} {d x : D} {ds : List D} {Γ : Env'} {t t' : Tape} {l : List (Nat × D)} (h1 : g d = some l) (h2 : body (setG Γ l) t = some (.rt x t')) : forL g body (d :: ds) Γ t = some (.rt x t') := by
  rw [forL, h1]
  simp only [Option.bind_eq_bind, Option.bind_some]
  rw [h2]
  rfl
theorem sFor_of {it : Evi} {g : Tg} {body : Es} {Γ : Env'} {t t' : Tape} {ds : List D} {r : Option Res} (h1 : it Γ t = some (ds, t')) (h2 : forL g body ds Γ t' = r) : sFor it g body Γ t = r := by
  unfold sFor
  rw [h1]
  exact h2
theorem set_of' {i : Nat} {f : Ev} {Γ : Env'} {t t' : Tape} {d : D} (h : f Γ t = some (d, t')) : sSet i f Γ t = some (.nx (Γ.set i (.fz d)) t') := by
  unfold sSet
  rw [h]
  rfl
theorem ret_of {f : Ev} {Γ : Env'} {t t' : Tape} {d : D} (h : f Γ t = some (d, t')) : sRet f Γ t = some (.rt d t') := by
  unfold sRet
  rw [h]
  rfl
theorem app_of {i : Nat} {f : Ev} {Γ : Env'} {t t' : Tape} {d : D} {ds : List D} (h : f Γ t = some (d, t')) (hi : Γ[i]? = some (.mu (.list ds))) (hz : ds.length < sizeLine) : sApp i f Γ t = some (.nx (Γ.set i (.mu (.list (ds ++ [d])))) t') := by
  unfold sApp
  rw [h]
  simp only [Option.bind_eq_bind, Option.bind_some, hi, if_pos hz]
theorem if_t {c : Evb} {f g : Es} {Γ : Env'} {t t' : Tape} {r : Option Res} (h : c Γ t = some (true, t')) (h2 : f Γ t' = r) : sIf c f g Γ t = r := by
  unfold sIf
  rw [h]
  exact h2
theorem if_f {c : Evb} {f g : Es} {Γ : Env'} {t t' : Tape} {r : Option Res} (h : c Γ t = some (false, t')) (h2 : g Γ t' = r) : sIf c f g Γ t = r := by
  unfold sIf
  rw [h]
  exact h2
theorem tst_of {f : Ev} {Γ : Env'} {t t' : Tape} {b : Bool} (h : f Γ t = some (.bool b, t')) : tst f Γ t = some (b, t') := by
  unfold tst
  rw [h]
  rfl
theorem bin_of {g : D → D → Option D} {f h : Ev} {Γ : Env'} {t t1 t2 : Tape} {x y z : D} (h1 : f Γ t = some (x, t1)) (h2 : h Γ t1 = some (y, t2)) (h3 : g x y = some z) : binD g f h Γ t = some (z, t2) := by
  unfold binD
  rw [h1]
  simp only [Option.bind_eq_bind, Option.bind_some]
  rw [h2]
  simp only [Option.bind_some]
  rw [h3]
  rfl
theorem un_of {g : D → Option D} {f : Ev} {Γ : Env'} {t t1 : Tape} {x z : D} (h1 : f Γ t = some (x, t1)) (h3 : g x = some z) : unD g f Γ t = some (z, t1) := by
  unfold unD
  rw [h1]
  simp only [Option.bind_eq_bind, Option.bind_some]
  rw [h3]
  rfl
theorem var_of {i : Nat} {Γ : Env'} {t : Tape} {d : D} (h : Γ[i]? = some (.fz d)) : vVar i Γ t = some (d, t) := by
  unfold vVar
  rw [h]
theorem call_of {F : List D → Option D} {g : Eva} {Γ : Env'} {t t1 : Tape} {ds : List D} {d : D} (h1 : g Γ t = some (ds, t1)) (h2 : F ds = some d) : callD F g Γ t = some (d, t1) := by
  unfold callD
  rw [h1]
  simp only [Option.bind_eq_bind, Option.bind_some]
  rw [h2]
  rfl
theorem callT_of {F : List D → Tape → Option (D × Tape)} {i : Nat} {g : Eva} {Γ : Env'} {t t1 : Tape} {ds : List D} {r : D × Tape} (hi : Γ[i]? = some .tp) (h1 : g Γ t = some (ds, t1)) (h2 : F ds t1 = some r) : callT F i g Γ t = some r := by
  unfold callT
  rw [hi]
  simp only
  rw [h1]
  exact h2
theorem cons_of {f : Ev} {g : Eva} {Γ : Env'} {t t1 t2 : Tape} {d : D} {ds : List D} (h1 : f Γ t = some (d, t1)) (h2 : g Γ t1 = some (ds, t2)) : aCons f g Γ t = some (d :: ds, t2) := by
  unfold aCons
  rw [h1]
  simp only [Option.bind_eq_bind, Option.bind_some]
  rw [h2]
  rfl
theorem tup_of {g : Eva} {Γ : Env'} {t t1 : Tape} {ds : List D} (h : g Γ t = some (ds, t1)) (hz : ds.length ≤ 1000) : vTup g Γ t = some (.tuple ds, t1) := by
  unfold vTup
  rw [h]
  exact if_pos hz
theorem lst_of {g : Eva} {Γ : Env'} {t t1 : Tape} {ds : List D} (h : g Γ t = some (ds, t1)) (hz : ds.length ≤ 1000) : vLst g Γ t = some (.list ds, t1) := by
  unfold vLst
  rw [h]
  exact if_pos hz
theorem lc_of {it : Evi} {own : List Nat} {tg : Tg} {cond : Evb} {elt : Ev} {Γ : Env'} {t t1 t2 : Tape} {ds out : List D} (h1 : it Γ t = some (ds, t1)) (hz : ds.length < sizeLine) (h2 : lcLoop tg cond elt (wipeG Γ own) ds t1 = some (out, t2)) : lcD it own tg cond elt Γ t = some (.list out, t2) := by
  unfold lcD
  rw [h1]
  simp only [Option.bind_eq_bind, Option.bind_some, if_pos hz]
  rw [h2]
  rfl
theorem lc2_of {it it1 : Evi} {own own1 : List Nat} {tg tg1 : Tg} {cond cond1 : Evb} {elt : Ev} {Γ : Env'} {t t1 t2 : Tape} {ds out : List D} (h1 : it Γ t = some (ds, t1)) (h2 : lc2Loop tg cond it1 own1 tg1 cond1 elt (wipeG Γ own) ds t1 = some (out, t2)) (hz : out.length ≤ sizeLine) : lc2D it own tg cond it1 own1 tg1 cond1 elt Γ t = some (.list out, t2) := by
  unfold lc2D
  rw [h1]
  simp only [Option.bind_eq_bind, Option.bind_some]
  rw [h2]
  exact if_pos hz
theorem lcL_cons {tg : Tg} {elt : Ev} {g : Env'} {d x : D} {ds xs : List D} {t t1 t2 : Tape} {l : List (Nat × D)} (h1 : tg d = some l) (h2 : elt (setG g l) t = some (x, t1)) (h3 : lcLoop tg bYes elt g ds t1 = some (xs, t2)) : lcLoop tg bYes elt g (d :: ds) t = some (x :: xs, t2) := by
  rw [lcLoop, h1]
  simp only [Option.bind_eq_bind, Option.bind_some, bYes, if_true]
  rw [h2]
  simp only [Option.bind_some]
  rw [h3]
  rfl
theorem seq_of {f : Ev} {Γ : Env'} {t t1 : Tape} {d : D} {ds : List D} (h : f Γ t = some (d, t1)) (h2 : seqD d = some ds) : iSeq f Γ t = some (ds, t1) := by
  unfold iSeq
  rw [h]
  simp only [Option.bind_eq_bind, Option.bind_some]
  rw [h2]
  rfl
theorem tgt_of {g : Tg} {f : Ev} {Γ : Env'} {t t1 : Tape} {d : D} {l : List (Nat × D)} (h : f Γ t = some (d, t1)) (h2 : g d = some l) : sTgt g f Γ t = some (.nx (setG Γ l) t1) := by
  unfold sTgt
  rw [h]
  simp only [Option.bind_eq_bind, Option.bind_some]
  rw [h2]
  rfl
theorem par_of {is : List Nat} {f : Eva} {Γ : Env'} {t t1 : Tape} {ds : List D} (h : f Γ t = some (ds, t1)) (hl : ds.length = is.length) : sPar is f Γ t = some (.nx (setG Γ (is.zip ds)) t1) := by
  unfold sPar
  rw [h]
  exact if_pos hl
theorem fnD_rt {n N : Nat} {body : Es} {ds : List D} {d : D} {t : Tape} (hl : ds.length = n) (h : body (ds.map .fz ++ List.replicate (N - n) .no) tape0 = some (.rt d t)) : fnD n N body ds = some d := by
  unfold fnD
  rw [if_pos hl, h]
  rfl
theorem range_of {Γ : Env'} {t t' : Tape} {f : Ev} {j : Int} (h : f Γ t = some (.int j, t')) (hs : smallR j = true) : iRng1 f Γ t = some (rngI 0 j, t') := by
  unfold iRng1
  rw [h]
  exact if_pos hs
theorem small_r {j : Int} (h : 0 ≤ j) (h2 : j ≤ 1000000) : smallR j = true := by
  unfold smallR
  rw [Bool.and_eq_true, decide_eq_true_eq, decide_eq_true_eq]
  omega
theorem range_n (n : Nat) (hn : n ≤ 1000) {Γ : Env'} {t : Tape} {f : Ev} (h : f Γ t = some (.int n, t)) : iRng1 f Γ t = some (rngI 0 n, t) := range_of h (small_r (by omega) (by omega))
theorem add_tup {i j : List D} (h : i.length + j.length ≤ sizeLine) : addD (.tuple i) (.tuple j) = some (.tuple (i ++ j)) := if_pos h
theorem add_lst {i j : List D} (h : i.length + j.length ≤ sizeLine) : addD (.list i) (.list j) = some (.list (i ++ j)) := if_pos h
theorem okD_int (i : Int) : okD (.int i) = true := rfl
theorem eqD_int (i j : Int) : eqD (.int i) (.int j) = some (.bool (decide (i = j))) := by
  unfold eqD
  rw [okD_int, okD_int]
  simp only [PyData.eqv]
  rfl
theorem neD_int (i j : Int) : neD (.int i) (.int j) = some (.bool (!decide (i = j))) := by
  unfold neD
  rw [okD_int, okD_int]
  simp only [PyData.eqv]
  rfl
theorem mul_l {i j : Int} (h : smallI i = true) : mulD (.int i) (.int j) = some (.int (i * j)) := if_pos (by rw [h]; rfl)
theorem mul_r {i j : Int} (h : smallI j = true) : mulD (.int i) (.int j) = some (.int (i * j)) := if_pos (by rw [h, Bool.or_true])
theorem small_of {i : Int} (h : -18446744073709551616 < i) (h2 : i < 18446744073709551616) : smallI i = true := by
  unfold smallI
  rw [Bool.and_eq_true, decide_eq_true_eq, decide_eq_true_eq]
  exact ⟨h, h2⟩
theorem mod_pos {i j : Int} (h : 0 < j) : modD (.int i) (.int j) = some (.int (i % j)) := if_pos h
theorem div_pos {i j : Int} (h : 0 < j) (h2 : j < 1073741824) : divD (.int i) (.int j) = some (.int (i / j)) := if_pos (by
  rw [Bool.and_eq_true, decide_eq_true_eq, decide_eq_true_eq]
  exact ⟨h, h2⟩)
theorem tg_seed (t : Tape) : tget "seed" t = some (.int t.seed) := rfl
theorem tg_salt (t : Tape) : tget "salt" t = some (.int t.salt) := rfl
theorem tg_left (t : Tape) : tget "left" t = some (.int t.left) := rfl
theorem tg_at (t : Tape) : tget "at" t = some (.int t.at') := rfl
theorem tg_cells (t : Tape) : tget "cells" t = some (.list (t.cells.map .int)) := rfl
/-- the second half of a draw: what stands in left is told -/
def takeC : Es := (sSeq (sIf (tst (binD gtD (vTape 0 "left") (vC (.int 0))))
  (sSeq (sSet 3 (binD modD (unD intD (vTape 0 "left")) (vVar 1)))
  (sSeq (sTset 0 "left" (binD divD (vTape 0 "left") (vVar 1)))
  (sRet (vVar 3))))
  sSkip)
  (sSeq (sTset 0 "salt" (binD addD (vTape 0 "salt") (vC (.int 1))))
  (sSeq (sSet 2 (binD modD (unD intD (binD addD (binD mulD (vTape 0 "seed") (vC (.int 48271))) (binD mulD (vTape 0 "salt") (vC (.int 69621))))) (vC (.int 2147483647))))
  (sSeq (sSet 2 (binD modD (unD intD (binD addD (binD addD (binD mulD (vVar 2) (vVar 2)) (binD mulD (vTape 0 "salt") (vC (.int 40692)))) (vC (.int 12345)))) (vC (.int 2147483399))))
  (sRet (binD modD (unD intD (vVar 2)) (vVar 1)))))))
theorem takeC_ok {n : Int} (hn : 0 < n) (hn2 : n < 1073741824) {t : Tape} (h : TpOk t) : ∃ v t', takeC [.tp, .fz (.int n), .no, .no] t = some (.rt (.int v) t') ∧ 0 ≤ v ∧ v < n ∧ TpOk t' := by
  by_cases hl : 0 < t.left
  · refine ⟨t.left % n, { t with left := t.left / n }, ?_, Int.emod_nonneg _ (by omega), Int.emod_lt_of_pos _ hn, ⟨h.cells, Int.ediv_nonneg h.left (by omega), h.at'⟩⟩
    unfold takeC
    refine seq_rt ?_
    have e1 : tst (binD gtD (vTape 0 "left") (vC (.int 0))) [.tp, .fz (.int n), .no, .no] t = some (true, t) := by
      show some (decide (0 < t.left), t) = _
      rw [decide_eq_true hl]
    unfold sIf
    rw [e1]
    show sSeq _ _ _ t = _
    have e2 : modD (.int t.left) (.int n) = some (.int (t.left % n)) := mod_pos hn
    have e3 : divD (.int t.left) (.int n) = some (.int (t.left / n)) := div_pos hn hn2
    refine (seq_nx (Γ' := [.tp, .fz (.int n), .no, .fz (.int (t.left % n))]) (t' := t) ?_).trans ?_
    · show (modD (.int t.left) (.int n) >>= fun z => some (z, t)) >>= _ = _
      rw [e2]
      rfl
    · refine (seq_nx (Γ' := [.tp, .fz (.int n), .no, .fz (.int (t.left % n))]) (t' := { t with left := t.left / n }) ?_).trans ?_
      · show (divD (.int t.left) (.int n) >>= fun z => some (z, t)) >>= _ = _
        rw [e3]
        rfl
      · rfl
  · have e1 : tst (binD gtD (vTape 0 "left") (vC (.int 0))) [.tp, .fz (.int n), .no, .no] t = some (false, t) := by
      show some (decide (0 < t.left), t) = _
      rw [decide_eq_false hl]
    unfold takeC
    refine ⟨_, { t with salt := t.salt + 1 }, (seq_nx (Γ' := [.tp, .fz (.int n), .no, .no]) (t' := t) ?_).trans ?_, Int.emod_nonneg ((((t.seed * 48271 + (t.salt + 1) * 69621) % 2147483647) * ((t.seed * 48271 + (t.salt + 1) * 69621) % 2147483647) + (t.salt + 1) * 40692 + 12345) % 2147483399) (by omega), Int.emod_lt_of_pos _ hn, ⟨h.cells, h.left, h.at'⟩⟩
    · unfold sIf
      rw [e1]
      rfl
    · refine (seq_nx (Γ' := [.tp, .fz (.int n), .no, .no]) (t' := { t with salt := t.salt + 1 }) rfl).trans ?_
      have m1 : mulD (.int t.seed) (.int 48271) = some (.int (t.seed * 48271)) := mul_r rfl
      have m2 : mulD (.int (t.salt + 1)) (.int 69621) = some (.int ((t.salt + 1) * 69621)) := mul_r rfl
      have m3 : mulD (.int (t.salt + 1)) (.int 40692) = some (.int ((t.salt + 1) * 40692)) := mul_r rfl
      generalize hm : (t.seed * 48271 + (t.salt + 1) * 69621) % 2147483647 = mm
      have b1 : 0 ≤ mm := by rw [← hm]; exact Int.emod_nonneg _ (by decide)
      have b2 : mm < 2147483647 := by rw [← hm]; exact Int.emod_lt_of_pos _ (by decide)
      have m4 : mulD (.int mm) (.int mm) = some (.int (mm * mm)) := mul_l (small_of (by omega) (by omega))
      have hu : ({ t with salt := t.salt + 1 } : Tape).seed = t.seed := rfl
      refine (seq_nx (Γ' := [.tp, .fz (.int n), .fz (.int mm), .no]) (t' := { t with salt := t.salt + 1 }) ?_).trans ?_
      · simp [sSet, binD, unD, vTape, vC, tg_seed, tg_salt, m1, m2, addD, intD, mod_pos, hm]
      · refine (seq_nx (Γ' := [.tp, .fz (.int n), .fz (.int ((mm * mm + (t.salt + 1) * 40692 + 12345) % 2147483399)), .no]) (t' := { t with salt := t.salt + 1 }) ?_).trans ?_
        · simp [sSet, binD, unD, vTape, vC, vVar, tg_salt, m4, m3, addD, intD, mod_pos]
        · simp [sRet, binD, unD, vVar, intD, mod_pos hn]
theorem ix_list {ds : List D} {i : Int} {k : Nat} {d : D} (hi : i = k) (h : ds[k]? = some d) : ixD (.list ds) (.int i) = some d := by
  subst hi
  exact atI_nat h
theorem ix_tup {ds : List D} {i : Int} {k : Nat} {d : D} (hi : i = k) (h : ds[k]? = some d) : ixD (.tuple ds) (.int i) = some d := by
  subst hi
  exact atI_nat h
theorem take_ok {n : Int} (hn : 0 < n) (hn2 : n < 1073741824) {t : Tape} (h : TpOk t) : ∃ v t', fnT 2 4 takeB [.int n] t = some (.int v, t') ∧ 0 ≤ v ∧ v < n ∧ TpOk t' := by
  have key : ∃ t1, (sIf (andB (tst (binD eqD (vTape 0 "left") (vC (.int 0)))) (tst (binD ltD (vTape 0 "at") (unD lenD (vTape 0 "cells")))))
      (sSeq (sTset 0 "left" (binD ixD (vTape 0 "cells") (vTape 0 "at")))
      (sTset 0 "at" (binD addD (vTape 0 "at") (vC (.int 1)))))
      sSkip) [.tp, .fz (.int n), .no, .no] t = some (.nx [.tp, .fz (.int n), .no, .no] t1) ∧ TpOk t1 := by
    by_cases c1 : t.left = 0
    · by_cases c2 : t.at' < t.cells.length
      · obtain ⟨k, hk⟩ := Int.eq_ofNat_of_zero_le h.at'
        have hk2 : k < t.cells.length := by omega
        refine ⟨⟨t.cells, t.at' + 1, t.cells[k], t.seed, t.salt⟩, ?_, ⟨h.cells, h.cells _ (List.getElem_mem hk2), by have := h.at'; show (0 : Int) ≤ t.at' + 1; omega⟩⟩
        have hi : ixD (.list (t.cells.map .int)) (.int t.at') = some (.int t.cells[k]) := ix_list hk (by rw [List.getElem?_map, List.getElem?_eq_getElem hk2]; rfl)
        have e1 : (andB (tst (binD eqD (vTape 0 "left") (vC (.int 0)))) (tst (binD ltD (vTape 0 "at") (unD lenD (vTape 0 "cells"))))) [.tp, .fz (.int n), .no, .no] t = some (true, t) := by
          simp [andB, tst, binD, unD, vTape, vC, tg_left, tg_at, tg_cells, eqD_int, c1, lenD, ltD, cmpI, c2]
        unfold sIf
        rw [e1]
        show sSeq _ _ _ t = _
        refine (seq_nx (Γ' := [.tp, .fz (.int n), .no, .no]) (t' := { t with left := t.cells[k] }) ?_).trans ?_
        · simp [sTset, binD, vTape, tg_cells, tg_at, hi]
          rfl
        · rfl
      · refine ⟨t, ?_, h⟩
        have e1 : (andB (tst (binD eqD (vTape 0 "left") (vC (.int 0)))) (tst (binD ltD (vTape 0 "at") (unD lenD (vTape 0 "cells"))))) [.tp, .fz (.int n), .no, .no] t = some (false, t) := by
          simp [andB, tst, binD, unD, vTape, vC, tg_left, tg_at, tg_cells, eqD_int, c1, lenD, ltD, cmpI, c2]
        unfold sIf
        rw [e1]
        rfl
    · refine ⟨t, ?_, h⟩
      have e1 : (andB (tst (binD eqD (vTape 0 "left") (vC (.int 0)))) (tst (binD ltD (vTape 0 "at") (unD lenD (vTape 0 "cells"))))) [.tp, .fz (.int n), .no, .no] t = some (false, t) := by
        simp [andB, tst, binD, unD, vTape, vC, tg_left, tg_at, tg_cells, eqD_int, c1, lenD, ltD, cmpI]
      unfold sIf
      rw [e1]
      rfl
  obtain ⟨t1, k1, k2⟩ := key
  obtain ⟨v, t', h1, h2, h3, h4⟩ := takeC_ok hn hn2 k2
  refine ⟨v, t', ?_, h2, h3, h4⟩
  have e : takeB [.tp, .fz (.int n), .no, .no] t = some (.rt (.int v) t') := (seq_nx k1).trans h1
  show (takeB [.tp, .fz (.int n), .no, .no] t >>= _) = _
  rw [e]
  rfl
/-- the body of the tape's def -/
def tapeB : Env' → Tape → Option Tape := (sThenT (sSet 1 (lcD (iSeq (vVar 0)) [3] (gNm 3) bYes (unD absD (unD intD (vVar 3)))))
  (sThenT (sSet 2 (vC (.int 7)))
  (sThenT (sFor (iSeq (vVar 1)) (gNm 3)
  (sSet 2 (binD modD (unD intD (binD addD (binD mulD (vVar 2) (vC (.int 31))) (vVar 3))) (vC (.int 2147483647)))))
  (fun Γ _ => tapeR 1 2 Γ))))
theorem abs_loop (g : Env') (hg : g.length = 4) (t : Tape) : ∀ ns : List Int, lcLoop (gNm 3) bYes (unD absD (unD intD (vVar 3))) g (ns.map .int) t = some (ns.map fun n => .int (if n < 0 then -n else n), t)
  | [] => rfl
  | n :: ns => by
    have h3 : (g.set 3 (.fz (.int n)))[3]? = some (.fz (.int n)) := List.getElem?_set_self (by omega)
    simp [lcLoop, gNm, bYes, unD, vVar, setG, h3, intD, absD, abs_loop g hg t ns]
theorem seed_loop (t : Tape) (a c : Slot) : ∀ (ns : List Int) (b : Int) (d : Slot), ∃ b' d', forL (gNm 3) (sSet 2 (binD modD (unD intD (binD addD (binD mulD (vVar 2) (vC (.int 31))) (vVar 3))) (vC (.int 2147483647)))) (ns.map .int) [a, c, .fz (.int b), d] t = some (.nx [a, c, .fz (.int b'), d'] t)
  | [], b, d => ⟨b, d, rfl⟩
  | n :: ns, b, d => by
    obtain ⟨b', d', h⟩ := seed_loop t a c ns ((b * 31 + n) % 2147483647) (.fz (.int n))
    have m1 : mulD (.int b) (.int 31) = some (.int (b * 31)) := mul_r rfl
    refine ⟨b', d', ?_⟩
    simp [forL, gNm, setG, sSet, binD, unD, vVar, vC, m1, addD, intD, mod_pos, h]
theorem tape_ok {ns : List Int} (hl : ns.length ≤ 1000) : ∃ t, fnTape 1 4 tapeB [.list (ns.map .int)] = some t ∧ TpOk t := by
  obtain ⟨b', d', h⟩ := seed_loop tape0 (.fz (.list (ns.map .int))) (.fz (.list (ns.map fun n => .int (if n < 0 then -n else n)))) (ns.map fun n => if n < 0 then -n else n) 7 .no
  refine ⟨⟨ns.map fun n => if n < 0 then -n else n, 0, 0, b', 0⟩, ?_, ⟨fun c hc => ?_, Int.le_refl _, Int.le_refl _⟩⟩
  · have hz : (ns.map PyData.int).length < sizeLine := by rw [List.length_map]; exact Nat.lt_of_le_of_lt hl (by decide)
    have e1 : sSet 1 (lcD (iSeq (vVar 0)) [3] (gNm 3) bYes (unD absD (unD intD (vVar 3)))) [.fz (.list (ns.map .int)), .no, .no, .no] tape0 = some (.nx [.fz (.list (ns.map .int)), .fz (.list (ns.map fun n => .int (if n < 0 then -n else n))), .no, .no] tape0) := by
      have l := abs_loop [.fz (.list (ns.map .int)), .no, .no, .no] rfl tape0 ns
      have e : lcD (iSeq (vVar 0)) [3] (gNm 3) bYes (unD absD (unD intD (vVar 3))) [.fz (.list (ns.map .int)), .no, .no, .no] tape0 = some (.list (ns.map fun n => .int (if n < 0 then -n else n)), tape0) := by
        show (if (ns.map PyData.int).length < sizeLine then _ else _) = _
        rw [if_pos hz]
        show (lcLoop (gNm 3) bYes (unD absD (unD intD (vVar 3))) [.fz (.list (ns.map .int)), .no, .no, .no] (ns.map .int) tape0 >>= _) = _
        rw [l]
        rfl
      unfold sSet
      rw [e]
      rfl
    show tapeB [.fz (.list (ns.map .int)), .no, .no, .no] tape0 = _
    unfold tapeB sThenT
    rw [e1]
    show (forL (gNm 3) _ (ns.map fun n => .int (if n < 0 then -n else n)) [.fz (.list (ns.map .int)), .fz (.list (ns.map fun n => .int (if n < 0 then -n else n))), .fz (.int 7), .no] tape0 >>= _) = _
    rw [List.map_map] at h
    have h' := h
    rw [show (ns.map fun n => PyData.int (if n < 0 then -n else n)) = (ns.map (PyData.int ∘ fun n => if n < 0 then -n else n)) from rfl]
    rw [show (ns.map fun n => PyData.int (if n < 0 then -n else n)) = (ns.map (PyData.int ∘ fun n => if n < 0 then -n else n)) from rfl] at h'
    rw [h']
    show tapeR 1 2 [.fz (.list (ns.map .int)), .fz (.list (ns.map (PyData.int ∘ fun n => if n < 0 then -n else n))), .fz (.int b'), d'] = _
    show ((intsOf (ns.map (PyData.int ∘ fun n => if n < 0 then -n else n))).map _) = _
    rw [← List.map_map, intsOf_of]
    rfl
  · obtain ⟨n, _, rfl⟩ := List.mem_map.mp hc
    split
    · omega
    · omega
end DL

set_option Elab.async false
set_option linter.all false
set_option maxRecDepth 100000
set_option maxHeartbeats 4000000
namespace K38
open PySem PySem.Spec L2 DL
open PyProof.Rows hiding St
noncomputable section
def topS (i : Nat) : Stmt := PySem.Challenge.pw_nogapsleft_k38_whole_areas_of_golden_tri.main.body.getD i (.Pass ⟨0, 0, 0, 0⟩)
def k_KINDS : D := (.tuple [(.str "sharp"), (.str "flat")])
def k_MOST_DEEP : D := (.int 6)

/-! _law_tape -/
abbrev s__law_tape : Stmt := topS 20
abbrev N__law_tape : List Str := ["script", "cells", "seed", "cell"]
theorem sc__law_tape : FnScope N__law_tape ["script"] (defScope s__law_tape) := ⟨rfl, rfl, rfl, by decide +kernel, rfl, by decide +kernel, by decide +kernel⟩
def b__law_tape : Env' → Tape → Option Tape := (sThenT (sSet 1 (lcD (iSeq (vVar 0)) [3] (gNm 3) bYes (unD absD (unD intD (vVar 3)))))
  (sThenT (sSet 2 (vC (.int 7)))
  (sThenT (sFor (iSeq (vVar 1)) (gNm 3)
  (sSet 2 (binD modD (unD intD (binD addD (binD mulD (vVar 2) (vC (.int 31))) (vVar 3))) (vC (.int 2147483647)))))
  (fun Γ _ => tapeR 1 2 Γ))))
def F__law_tape : List D → Option Tape := fnTape 1 4 b__law_tape

/-! turned -/
abbrev s_turned : Stmt := topS 8
abbrev N_turned : List Str := ["point", "many", "_", "a", "b", "c", "d"]
theorem sc_turned : FnScope N_turned ["point", "many"] (defScope s_turned) := ⟨rfl, rfl, rfl, by decide +kernel, rfl, by decide +kernel, by decide +kernel⟩
def b_turned : Es := (sSeq (sFor (iRng1 (binD modD (vVar 1) (vC (.int 10)))) (gNm 2)
  (sSeq (sTgt (gTp 4 (gsCons (gNm 3) (gsCons (gNm 4) (gsCons (gNm 5) (gsCons (gNm 6) gsNil))))) (vVar 0))
  (sSet 0 (vTup (aCons (unD negD (vVar 6)) (aCons (binD addD (vVar 3) (vVar 6)) (aCons (binD subD (vVar 4) (vVar 6)) (aCons (binD addD (vVar 5) (vVar 6)) aNil))))))))
  (sRet (vVar 0)))
def F_turned : List D → Option D := fnD 2 7 b_turned

/-! first_wheel -/
abbrev s_first_wheel : Stmt := topS 11
abbrev N_first_wheel : List Str := ["found", "k", "sides"]
theorem sc_first_wheel : FnScope N_first_wheel [] (defScope s_first_wheel) := ⟨rfl, rfl, rfl, by decide +kernel, rfl, by decide +kernel, by decide +kernel⟩
def b_first_wheel : Es := (sSeq (sMu 0 (vLst aNil))
  (sSeq (sFor (iRng1 (vC (.int 10))) (gNm 1)
  (sSeq (sSet 2 (vTup (aCons (callD F_turned (aCons (vTup (aCons (vC (.int 1)) (aCons (vC (.int 0)) (aCons (vC (.int 0)) (aCons (vC (.int 0)) aNil))))) (aCons (vVar 1) aNil))) (aCons (callD F_turned (aCons (vTup (aCons (vC (.int 1)) (aCons (vC (.int 0)) (aCons (vC (.int 0)) (aCons (vC (.int 0)) aNil))))) (aCons (binD addD (vVar 1) (vC (.int 1))) aNil))) aNil))))
  (sApp 0 (binD addD (vTup (aCons (vC (.str "sharp")) (aCons (vTup (aCons (vC (.int 0)) (aCons (vC (.int 0)) (aCons (vC (.int 0)) (aCons (vC (.int 0)) aNil))))) aNil))) (ifE (tst (binD eqD (binD modD (vVar 1) (vC (.int 2))) (vC (.int 0)))) (vVar 2) (unD revD (vVar 2)))))))
  (sRet (unD tupD (vMu 0)))))
def F_first_wheel : List D → Option D := fnD 0 3 b_first_wheel

/-! plus -/
abbrev s_plus : Stmt := topS 6
abbrev N_plus : List Str := ["one", "other", "a", "b"]
theorem sc_plus : FnScope N_plus ["one", "other"] (defScope s_plus) := ⟨rfl, rfl, rfl, by decide +kernel, rfl, by decide +kernel, by decide +kernel⟩
def b_plus : Es := (sRet (unD tupD (lcD (iZip (vVar 0) (vVar 1)) [2, 3] (gTp 2 (gsCons (gNm 2) (gsCons (gNm 3) gsNil))) bYes (binD addD (vVar 2) (vVar 3)))))
def F_plus : List D → Option D := fnD 2 4 b_plus

/-! _law_longer -/
abbrev s__law_longer : Stmt := topS 25
abbrev N__law_longer : List Str := ["point"]
theorem sc__law_longer : FnScope N__law_longer ["point"] (defScope s__law_longer) := ⟨rfl, rfl, rfl, by decide +kernel, rfl, by decide +kernel, by decide +kernel⟩
def b__law_longer : Es := (sRet (callD F_plus (aCons (callD F_turned (aCons (vVar 0) (aCons (vC (.int 1)) aNil))) (aCons (callD F_turned (aCons (vVar 0) (aCons (vC (.int 9)) aNil))) aNil))))
def F__law_longer : List D → Option D := fnD 1 1 b__law_longer

/-! _law_bent -/
abbrev s__law_bent : Stmt := topS 26
abbrev N__law_bent : List Str := ["triangles", "many", "by", "is_great", "found", "kind", "top", "one", "other", "row", "point"]
theorem sc__law_bent : FnScope N__law_bent ["triangles", "many", "by", "is_great"] (defScope s__law_bent) := ⟨rfl, rfl, rfl, by decide +kernel, rfl, by decide +kernel, by decide +kernel⟩
def b__law_bent : Es := (sSeq (sMu 4 (vLst aNil))
  (sSeq (sFor (iSeq (vVar 0)) (gTp 4 (gsCons (gNm 5) (gsCons (gNm 6) (gsCons (gNm 7) (gsCons (gNm 8) gsNil)))))
  (sSeq (sSet 9 (lcD (iSeq (vTup (aCons (vVar 6) (aCons (vVar 7) (aCons (vVar 8) aNil))))) [10] (gNm 10) bYes (callD F_turned (aCons (vVar 10) (aCons (vVar 1) aNil)))))
  (sSeq (sSet 9 (lcD (iSeq (vVar 9)) [10] (gNm 10) bYes (ifE (tru (vVar 3)) (callD F__law_longer (aCons (vVar 10) aNil)) (vVar 10))))
  (sApp 4 (binD addD (vTup (aCons (vVar 5) aNil)) (unD tupD (lcD (iSeq (vVar 9)) [10] (gNm 10) bYes (callD F_plus (aCons (vVar 10) (aCons (vVar 2) aNil))))))))))
  (sRet (unD tupD (vMu 4)))))
def F__law_bent : List D → Option D := fnD 4 11 b__law_bent

/-! minus -/
abbrev s_minus : Stmt := topS 7
abbrev N_minus : List Str := ["one", "other", "a", "b"]
theorem sc_minus : FnScope N_minus ["one", "other"] (defScope s_minus) := ⟨rfl, rfl, rfl, by decide +kernel, rfl, by decide +kernel, by decide +kernel⟩
def b_minus : Es := (sRet (unD tupD (lcD (iZip (vVar 0) (vVar 1)) [2, 3] (gTp 2 (gsCons (gNm 2) (gsCons (gNm 3) gsNil))) bYes (binD subD (vVar 2) (vVar 3)))))
def F_minus : List D → Option D := fnD 2 4 b_minus

/-! shorter -/
abbrev s_shorter : Stmt := topS 9
abbrev N_shorter : List Str := ["point", "longer"]
theorem sc_shorter : FnScope N_shorter ["point"] (defScope s_shorter) := ⟨rfl, rfl, rfl, by decide +kernel, rfl, by decide +kernel, by decide +kernel⟩
def b_shorter : Es := (sSeq (sSet 1 (callD F_plus (aCons (callD F_turned (aCons (vVar 0) (aCons (vC (.int 1)) aNil))) (aCons (callD F_turned (aCons (vVar 0) (aCons (vC (.int 9)) aNil))) aNil))))
  (sRet (callD F_minus (aCons (vVar 1) (aCons (vVar 0) aNil)))))
def F_shorter : List D → Option D := fnD 1 2 b_shorter

/-! cut -/
abbrev s_cut : Stmt := topS 12
abbrev N_cut : List Str := ["triangle", "first", "second", "kind", "top", "one", "other", "middle"]
theorem sc_cut : FnScope N_cut ["triangle"] (defScope s_cut) := ⟨rfl, rfl, rfl, by decide +kernel, rfl, by decide +kernel, by decide +kernel⟩
def b_cut : Es := (sSeq (sTgt (gTp 4 (gsCons (gNm 3) (gsCons (gNm 4) (gsCons (gNm 5) (gsCons (gNm 6) gsNil))))) (vVar 0))
  (sSeq (sIf (tst (binD eqD (vVar 3) (vC (.str "sharp"))))
  (sSeq (sSet 7 (callD F_plus (aCons (vVar 4) (aCons (callD F_shorter (aCons (callD F_minus (aCons (vVar 5) (aCons (vVar 4) aNil))) aNil)) aNil))))
  (sRet (vTup (aCons (vTup (aCons (vC (.str "sharp")) (aCons (vVar 6) (aCons (vVar 7) (aCons (vVar 5) aNil))))) (aCons (vTup (aCons (vC (.str "flat")) (aCons (vVar 7) (aCons (vVar 6) (aCons (vVar 4) aNil))))) aNil)))))
  sSkip)
  (sSeq (sSet 1 (callD F_plus (aCons (vVar 5) (aCons (callD F_shorter (aCons (callD F_minus (aCons (vVar 4) (aCons (vVar 5) aNil))) aNil)) aNil))))
  (sSeq (sSet 2 (callD F_plus (aCons (vVar 5) (aCons (callD F_shorter (aCons (callD F_minus (aCons (vVar 6) (aCons (vVar 5) aNil))) aNil)) aNil))))
  (sRet (vTup (aCons (vTup (aCons (vC (.str "flat")) (aCons (vVar 2) (aCons (vVar 6) (aCons (vVar 4) aNil))))) (aCons (vTup (aCons (vC (.str "flat")) (aCons (vVar 1) (aCons (vVar 2) (aCons (vVar 5) aNil))))) (aCons (vTup (aCons (vC (.str "sharp")) (aCons (vVar 2) (aCons (vVar 1) (aCons (vVar 4) aNil))))) aNil)))))))))
def F_cut : List D → Option D := fnD 1 8 b_cut

/-! deeper -/
abbrev s_deeper : Stmt := topS 13
abbrev N_deeper : List Str := ["triangles", "many", "now", "_", "triangle", "part"]
theorem sc_deeper : FnScope N_deeper ["triangles", "many"] (defScope s_deeper) := ⟨rfl, rfl, rfl, by decide +kernel, rfl, by decide +kernel, by decide +kernel⟩
def b_deeper : Es := (sSeq (sIf (orB (notB (tst (chD leD leD (vC (.int 0)) (vVar 1) (vC k_MOST_DEEP)))) (notB (tru (unD allD (lcD (iSeq (vVar 0)) [4] (gNm 4) bYes (inU (binD ixD (vVar 4) (vC (.int 0))) (vC k_KINDS)))))))
  sNever
  sSkip)
  (sSeq (sSet 2 (unD tupD (vVar 0)))
  (sSeq (sFor (iRng1 (vVar 1)) (gNm 3)
  (sSet 2 (unD tupD (lc2D (iSeq (vVar 2)) [4, 5] (gNm 4) bYes (iSeq (callD F_cut (aCons (vVar 4) aNil))) [5] (gNm 5) bYes (vVar 5)))))
  (sRet (vVar 2)))))
def F_deeper : List D → Option D := fnD 2 6 b_deeper

/-! _law_take -/
abbrev s__law_take : Stmt := topS 21
abbrev N__law_take : List Str := ["tape", "many", "mixed", "drawn"]
theorem sc__law_take : FnScope N__law_take ["tape", "many"] (defScope s__law_take) := ⟨rfl, rfl, rfl, by decide +kernel, rfl, by decide +kernel, by decide +kernel⟩
def b__law_take : Es := (sSeq (sIf (andB (tst (binD eqD (vTape 0 "left") (vC (.int 0)))) (tst (binD ltD (vTape 0 "at") (unD lenD (vTape 0 "cells")))))
  (sSeq (sTset 0 "left" (binD ixD (vTape 0 "cells") (vTape 0 "at")))
  (sTset 0 "at" (binD addD (vTape 0 "at") (vC (.int 1)))))
  sSkip)
  (sSeq (sIf (tst (binD gtD (vTape 0 "left") (vC (.int 0))))
  (sSeq (sSet 3 (binD modD (unD intD (vTape 0 "left")) (vVar 1)))
  (sSeq (sTset 0 "left" (binD divD (vTape 0 "left") (vVar 1)))
  (sRet (vVar 3))))
  sSkip)
  (sSeq (sTset 0 "salt" (binD addD (vTape 0 "salt") (vC (.int 1))))
  (sSeq (sSet 2 (binD modD (unD intD (binD addD (binD mulD (vTape 0 "seed") (vC (.int 48271))) (binD mulD (vTape 0 "salt") (vC (.int 69621))))) (vC (.int 2147483647))))
  (sSeq (sSet 2 (binD modD (unD intD (binD addD (binD addD (binD mulD (vVar 2) (vVar 2)) (binD mulD (vTape 0 "salt") (vC (.int 40692)))) (vC (.int 12345)))) (vC (.int 2147483399))))
  (sRet (binD modD (unD intD (vVar 2)) (vVar 1))))))))
def F__law_take : List D → Tape → Option (D × Tape) := fnT 2 4 b__law_take

/-! kind_counts -/
abbrev s_kind_counts : Stmt := topS 14
abbrev N_kind_counts : List Str := ["triangles", "sharp", "triangle"]
theorem sc_kind_counts : FnScope N_kind_counts ["triangles"] (defScope s_kind_counts) := ⟨rfl, rfl, rfl, by decide +kernel, rfl, by decide +kernel, by decide +kernel⟩
def b_kind_counts : Es := (sSeq (sSet 1 (unD lenD (lcD (iSeq (vVar 0)) [2] (gNm 2) (tst (binD eqD (binD ixD (vVar 2) (vC (.int 0))) (vC (.str "sharp")))) (vC (.int 1)))))
  (sRet (vTup (aCons (vVar 1) (aCons (binD subD (unD lenD (vVar 0)) (vVar 1)) aNil)))))
def F_kind_counts : List D → Option D := fnD 1 3 b_kind_counts

/-! side_counts -/
abbrev s_side_counts : Stmt := topS 16
abbrev N_side_counts : List Str := ["triangles", "found", "_", "top", "one", "other", "a", "b", "side"]
theorem sc_side_counts : FnScope N_side_counts ["triangles"] (defScope s_side_counts) := ⟨rfl, rfl, rfl, by decide +kernel, rfl, by decide +kernel, by decide +kernel⟩
def b_side_counts : Es := (sSeq (sMu 1 (vC (.dict [])))
  (sSeq (sFor (iSeq (vVar 0)) (gTp 4 (gsCons (gNm 2) (gsCons (gNm 3) (gsCons (gNm 4) (gsCons (gNm 5) gsNil)))))
  (sFor (iSeq (vTup (aCons (vTup (aCons (vVar 3) (aCons (vVar 4) aNil))) (aCons (vTup (aCons (vVar 4) (aCons (vVar 5) aNil))) (aCons (vTup (aCons (vVar 5) (aCons (vVar 3) aNil))) aNil))))) (gTp 2 (gsCons (gNm 6) (gsCons (gNm 7) gsNil)))
  (sSeq (sSet 8 (ifE (tst (binD ltA (vVar 6) (vVar 7))) (vTup (aCons (vVar 6) (aCons (vVar 7) aNil))) (vTup (aCons (vVar 7) (aCons (vVar 6) aNil)))))
  (sDput 1 (vVar 8) (binD addD (dGet2 (dMu 1) (vVar 8) (vC (.int 0))) (vC (.int 1)))))))
  (sRetMu 1)))
def F_side_counts : List D → Option D := fnD 1 9 b_side_counts

/-! points_of -/
abbrev s_points_of : Stmt := topS 18
abbrev N_points_of : List Str := ["triangles", "triangle", "point"]
theorem sc_points_of : FnScope N_points_of ["triangles"] (defScope s_points_of) := ⟨rfl, rfl, rfl, by decide +kernel, rfl, by decide +kernel, by decide +kernel⟩
def b_points_of : Es := (sRet (unD tupD (sortDd (dc2D (iSeq (vVar 0)) [1, 2] (gNm 1) bYes (iSeq (sliceD (vVar 1) (oSome (vC (.int 1))) oNone)) [2] (gNm 2) bYes (vVar 2) (vC (.bool true))))))
def F_points_of : List D → Option D := fnD 1 3 b_points_of

/-! _law_euler -/
abbrev s__law_euler : Stmt := topS 28
abbrev N__law_euler : List Str := ["triangles", "sides", "side"]
theorem sc__law_euler : FnScope N__law_euler ["triangles"] (defScope s__law_euler) := ⟨rfl, rfl, rfl, by decide +kernel, rfl, by decide +kernel, by decide +kernel⟩
def b__law_euler : Es := (sSeq (sSet 1 (callD F_side_counts (aCons (vVar 0) aNil)))
  (sSeq (sIf (orB (tst (binD neD (unD sumD (lcD (iKeysD (vVar 1)) [2] (gNm 2) bYes (dIx (dTo (vVar 1)) (vVar 2)))) (binD mulD (vC (.int 3)) (unD lenD (vVar 0))))) (tru (unD anyD (lcD (iKeysD (vVar 1)) [2] (gNm 2) bYes (notV (chD leD leD (vC (.int 1)) (dIx (dTo (vVar 1)) (vVar 2)) (vC (.int 2))))))))
  (sRet (vC (.bool false)))
  sSkip)
  (sRet (binD eqD (binD addD (binD subD (unD lenD (callD F_points_of (aCons (vVar 0) aNil))) (dLen (dTo (vVar 1)))) (unD lenD (vVar 0))) (vC (.int 1))))))
def F__law_euler : List D → Option D := fnD 1 3 b__law_euler

/-! _law_cross -/
abbrev s__law_cross : Stmt := topS 22
abbrev N__law_cross : List Str := ["u", "v", "i", "p", "q", "j", "told"]
theorem sc__law_cross : FnScope N__law_cross ["u", "v"] (defScope s__law_cross) := ⟨rfl, rfl, rfl, by decide +kernel, rfl, by decide +kernel, by decide +kernel⟩
def b__law_cross : Es := (sSeq (sTgt (gTp 2 (gsCons (gNm 3) (gsCons (gNm 4) gsNil))) (vTup (aCons (vC (.int 0)) (aCons (vC (.int 0)) aNil))))
  (sSeq (sFor (iRng1 (vC (.int 4))) (gNm 2)
  (sFor (iRng1 (vC (.int 4))) (gNm 5)
  (sSeq (sSet 6 (binD mulD (binD ixD (vVar 0) (vVar 2)) (binD ixD (vVar 1) (vVar 5))))
  (sIf (tst (inU (binD subD (vVar 5) (vVar 2)) (vTup (aCons (vC (.int 1)) (aCons (binD subD (vC (.int 0)) (vC (.int 1))) aNil)))))
  (sSet 3 (binD addD (vVar 3) (binD mulD (vVar 6) (binD subD (vVar 5) (vVar 2)))))
  (sIf (tst (binD neD (vVar 5) (vVar 2)))
  (sSet 4 (binD addD (vVar 4) (ifE (tst (binD gtD (vVar 5) (vVar 2))) (vVar 6) (binD subD (vC (.int 0)) (vVar 6)))))
  sSkip)))))
  (sRet (vTup (aCons (vVar 3) (aCons (vVar 4) aNil))))))
def F__law_cross : List D → Option D := fnD 2 7 b__law_cross

/-! _law_area -/
abbrev s__law_area : Stmt := topS 23
abbrev N__law_area : List Str := ["triangle", "is_below", "top", "one", "other", "u", "v", "p", "q", "a", "b", "k"]
theorem sc__law_area : FnScope N__law_area ["triangle"] (defScope s__law_area) := ⟨rfl, rfl, rfl, by decide +kernel, rfl, by decide +kernel, by decide +kernel⟩
def b__law_area : Es := (sSeq (sTgt (gTp 3 (gsCons (gNm 2) (gsCons (gNm 3) (gsCons (gNm 4) gsNil)))) (vTup (aCons (binD ixD (vVar 0) (vC (.int 1))) (aCons (binD ixD (vVar 0) (vC (.int 2))) (aCons (binD ixD (vVar 0) (vC (.int 3))) aNil)))))
  (sSeq (sPar [5, 6] (aCons (lcD (iRng1 (vC (.int 4))) [11] (gNm 11) bYes (binD subD (binD ixD (vVar 3) (vVar 11)) (binD ixD (vVar 2) (vVar 11)))) (aCons (lcD (iRng1 (vC (.int 4))) [11] (gNm 11) bYes (binD subD (binD ixD (vVar 4) (vVar 11)) (binD ixD (vVar 2) (vVar 11)))) aNil)))
  (sSeq (sTgt (gTp 2 (gsCons (gNm 7) (gsCons (gNm 8) gsNil))) (callD F__law_cross (aCons (vVar 5) (aCons (vVar 6) aNil))))
  (sSeq (sPar [9, 10] (aCons (binD addD (binD mulD (vC (.int 2)) (vVar 7)) (vVar 8)) (aCons (vVar 8) aNil)))
  (sSeq (sIf (andB (tst (binD geD (vVar 9) (vC (.int 0)))) (tst (binD geD (vVar 10) (vC (.int 0)))))
  (sRet (vTup (aCons (vVar 7) (aCons (vVar 8) aNil))))
  sSkip)
  (sSeq (sIf (andB (tst (binD leD (vVar 9) (vC (.int 0)))) (tst (binD leD (vVar 10) (vC (.int 0)))))
  (sRet (vTup (aCons (binD subD (vC (.int 0)) (vVar 7)) (aCons (binD subD (vC (.int 0)) (vVar 8)) aNil))))
  sSkip)
  (sSeq (sSet 1 (ifE (tst (binD ltD (vVar 10) (vC (.int 0)))) (binD ltD (binD mulD (vVar 9) (vVar 9)) (binD mulD (binD mulD (vC (.int 5)) (vVar 10)) (vVar 10))) (binD gtD (binD mulD (vVar 9) (vVar 9)) (binD mulD (binD mulD (vC (.int 5)) (vVar 10)) (vVar 10)))))
  (sRet (ifE (tru (vVar 1)) (vTup (aCons (binD subD (vC (.int 0)) (vVar 7)) (aCons (binD subD (vC (.int 0)) (vVar 8)) aNil))) (vTup (aCons (vVar 7) (aCons (vVar 8) aNil))))))))))))
def F__law_area : List D → Option D := fnD 1 12 b__law_area

/-! _law_areas -/
abbrev s__law_areas : Stmt := topS 24
abbrev N__law_areas : List Str := ["triangles", "told", "triangle", "p", "q"]
theorem sc__law_areas : FnScope N__law_areas ["triangles"] (defScope s__law_areas) := ⟨rfl, rfl, rfl, by decide +kernel, rfl, by decide +kernel, by decide +kernel⟩
def b__law_areas : Es := (sSeq (sSet 1 (lcD (iSeq (vVar 0)) [2] (gNm 2) bYes (callD F__law_area (aCons (vVar 2) aNil))))
  (sRet (vTup (aCons (unD sumD (lcD (iSeq (vVar 1)) [3, 4] (gTp 2 (gsCons (gNm 3) (gsCons (gNm 4) gsNil))) bYes (vVar 3))) (aCons (unD sumD (lcD (iSeq (vVar 1)) [3, 4] (gTp 2 (gsCons (gNm 3) (gsCons (gNm 4) gsNil))) bYes (vVar 4))) aNil)))))
def F__law_areas : List D → Option D := fnD 1 5 b__law_areas

/-! counts_of_cut -/
abbrev s_counts_of_cut : Stmt := topS 15
abbrev N_counts_of_cut : List Str := ["sharp", "flat", "many", "_"]
theorem sc_counts_of_cut : FnScope N_counts_of_cut ["sharp", "flat", "many"] (defScope s_counts_of_cut) := ⟨rfl, rfl, rfl, by decide +kernel, rfl, by decide +kernel, by decide +kernel⟩
def b_counts_of_cut : Es := (sSeq (sIf (notB (tst (chD leD leD (vC (.int 0)) (vVar 2) (vC (.int 60)))))
  sNever
  sSkip)
  (sSeq (sFor (iRng1 (vVar 2)) (gNm 3)
  (sPar [0, 1] (aCons (binD addD (vVar 0) (vVar 1)) (aCons (binD addD (vVar 0) (binD mulD (vC (.int 2)) (vVar 1))) aNil))))
  (sRet (vTup (aCons (vVar 0) (aCons (vVar 1) aNil))))))
def F_counts_of_cut : List D → Option D := fnD 3 4 b_counts_of_cut

/-! size_of -/
abbrev s_size_of : Stmt := topS 10
abbrev N_size_of : List Str := ["point", "one", "last", "a", "b", "c", "d", "near", "far"]
theorem sc_size_of : FnScope N_size_of ["point"] (defScope s_size_of) := ⟨rfl, rfl, rfl, by decide +kernel, rfl, by decide +kernel, by decide +kernel⟩
def b_size_of : Es := (sSeq (sTgt (gTp 4 (gsCons (gNm 3) (gsCons (gNm 4) (gsCons (gNm 5) (gsCons (gNm 6) gsNil))))) (vVar 0))
  (sSeq (sSet 1 (binD addD (binD addD (binD addD (binD mulD (vVar 3) (vVar 3)) (binD mulD (vVar 4) (vVar 4))) (binD mulD (vVar 5) (vVar 5))) (binD mulD (vVar 6) (vVar 6))))
  (sSeq (sPar [7, 8] (aCons (binD addD (binD addD (binD mulD (vVar 3) (vVar 4)) (binD mulD (vVar 4) (vVar 5))) (binD mulD (vVar 5) (vVar 6))) (aCons (binD addD (binD mulD (vVar 3) (vVar 5)) (binD mulD (vVar 4) (vVar 6))) aNil)))
  (sSeq (sSet 2 (binD mulD (vVar 3) (vVar 6)))
  (sRet (vTup (aCons (binD addD (binD subD (vVar 1) (vVar 8)) (vVar 2)) (aCons (binD subD (binD addD (vVar 7) (vVar 8)) (vVar 2)) aNil))))))))
def F_size_of : List D → Option D := fnD 1 9 b_size_of

/-! is_true_kind -/
abbrev s_is_true_kind : Stmt := topS 17
abbrev N_is_true_kind : List Str := ["triangle", "kind", "top", "one", "other", "first", "second", "third", "small", "great", "p", "q"]
theorem sc_is_true_kind : FnScope N_is_true_kind ["triangle"] (defScope s_is_true_kind) := ⟨rfl, rfl, rfl, by decide +kernel, rfl, by decide +kernel, by decide +kernel⟩
def b_is_true_kind : Es := (sSeq (sTgt (gTp 4 (gsCons (gNm 1) (gsCons (gNm 2) (gsCons (gNm 3) (gsCons (gNm 4) gsNil))))) (vVar 0))
  (sSeq (sPar [5, 6, 7] (aCons (callD F_size_of (aCons (callD F_minus (aCons (vVar 3) (aCons (vVar 2) aNil))) aNil)) (aCons (callD F_size_of (aCons (callD F_minus (aCons (vVar 4) (aCons (vVar 2) aNil))) aNil)) (aCons (callD F_size_of (aCons (callD F_minus (aCons (vVar 3) (aCons (vVar 4) aNil))) aNil)) aNil))))
  (sSeq (sIf (orB (tst (binD neD (vVar 5) (vVar 6))) (tst (binD eqD (vVar 5) (vTup (aCons (vC (.int 0)) (aCons (vC (.int 0)) aNil))))))
  (sRet (vC (.bool false)))
  sSkip)
  (sSeq (sTgt (gTp 2 (gsCons (gNm 8) (gsCons (gNm 9) gsNil))) (ifE (tst (binD eqD (vVar 1) (vC (.str "sharp")))) (vTup (aCons (vVar 7) (aCons (vVar 5) aNil))) (vTup (aCons (vVar 5) (aCons (vVar 7) aNil)))))
  (sSeq (sTgt (gTp 2 (gsCons (gNm 10) (gsCons (gNm 11) gsNil))) (vVar 8))
  (sRet (binD eqD (vVar 9) (vTup (aCons (binD addD (vVar 10) (vVar 11)) (aCons (binD addD (vVar 10) (binD mulD (vC (.int 2)) (vVar 11))) aNil))))))))))
def F_is_true_kind : List D → Option D := fnD 1 12 b_is_true_kind

/-! _law_area_right -/
abbrev s__law_area_right : Stmt := topS 27
abbrev N__law_area_right : List Str := ["triangle", "parts", "p", "q"]
theorem sc__law_area_right : FnScope N__law_area_right ["triangle"] (defScope s__law_area_right) := ⟨rfl, rfl, rfl, by decide +kernel, rfl, by decide +kernel, by decide +kernel⟩
def b__law_area_right : Es := (sSeq (sIf (tst (binD isntB (callD F_is_true_kind (aCons (vVar 0) aNil)) (vC (.bool true))))
  (sRet (vC (.bool false)))
  sSkip)
  (sSeq (sTgt (gTp 2 (gsCons (gNm 2) (gsCons (gNm 3) gsNil))) (callD F_size_of (aCons (callD F_minus (aCons (binD ixD (vVar 0) (vC (.int 2))) (aCons (binD ixD (vVar 0) (vC (.int 1))) aNil))) aNil)))
  (sSeq (sIf (tst (binD neD (callD F__law_area (aCons (vVar 0) aNil)) (ifE (tst (binD eqD (binD ixD (vVar 0) (vC (.int 0))) (vC (.str "sharp")))) (vTup (aCons (vVar 2) (aCons (vVar 3) aNil))) (vTup (aCons (vVar 3) (aCons (binD addD (vVar 2) (vVar 3)) aNil))))))
  (sRet (vC (.bool false)))
  sSkip)
  (sSeq (sSet 1 (callD F_cut (aCons (vVar 0) aNil)))
  (sSeq (sIf (orB (tst (binD neD (unD lenD (vVar 1)) (ifE (tst (binD eqD (binD ixD (vVar 0) (vC (.int 0))) (vC (.str "sharp")))) (vC (.int 2)) (vC (.int 3))))) (tst (binD neD (callD F__law_areas (aCons (vVar 1) aNil)) (callD F__law_area (aCons (vVar 0) aNil)))))
  (sRet (vC (.bool false)))
  sSkip)
  (sRet (andV (binD eqD (callD F_shorter (aCons (callD F__law_longer (aCons (binD ixD (vVar 0) (vC (.int 1))) aNil)) aNil)) (binD ixD (vVar 0) (vC (.int 1)))) (binD eqD (callD F__law_longer (aCons (callD F_shorter (aCons (binD ixD (vVar 0) (vC (.int 2))) aNil)) aNil)) (binD ixD (vVar 0) (vC (.int 2)))))))))))
def F__law_area_right : List D → Option D := fnD 1 4 b__law_area_right

/-! law -/
abbrev s_law : Stmt := topS 29
abbrev N_law : List Str := ["script", "tape", "wheel", "many", "rows", "by", "told", "spot", "start", "part", "turns", "is_great", "first", "second", "sharp", "flat", "k", "triangle"]
theorem sc_law : FnScope N_law ["script"] (defScope s_law) := ⟨rfl, rfl, rfl, by decide +kernel, rfl, by decide +kernel, by decide +kernel⟩
def b_law : Es := (sTape F__law_tape 1 (aCons (vVar 0) aNil) ((sSeq (sSet 2 (callD F_first_wheel aNil))
  (sSeq (sSet 3 (binD addD (vC (.int 1)) (callT F__law_take 1 (aCons (vC (.int 4)) aNil))))
  (sSeq (sSet 4 (unD tupD (lcD (iRng1 (vVar 3)) [16] (gNm 16) bYes (binD ixD (vVar 2) (callT F__law_take 1 (aCons (vC (.int 10)) aNil))))))
  (sSeq (sPar [10, 11] (aCons (callT F__law_take 1 (aCons (vC (.int 10)) aNil)) (aCons (binD eqD (callT F__law_take 1 (aCons (vC (.int 2)) aNil)) (vC (.int 0))) aNil)))
  (sSeq (sSet 5 (unD tupD (lcD (iRng1 (vC (.int 4))) [16] (gNm 16) bYes (binD subD (callT F__law_take 1 (aCons (vC (.int 2001)) aNil)) (vC (.int 1000))))))
  (sSeq (sSet 4 (callD F__law_bent (aCons (vVar 4) (aCons (callT F__law_take 1 (aCons (vC (.int 10)) aNil)) (aCons (vTup (aCons (vC (.int 0)) (aCons (vC (.int 0)) (aCons (vC (.int 0)) (aCons (vC (.int 0)) aNil))))) (aCons (binD eqD (callT F__law_take 1 (aCons (vC (.int 2)) aNil)) (vC (.int 0))) aNil))))))
  (sSeq (sSet 4 (callD F_deeper (aCons (vVar 4) (aCons (callT F__law_take 1 (aCons (vC (.int 3)) aNil)) aNil))))
  (sSeq (sIf (tru (unD anyD (lcD (iSeq (vVar 4)) [17] (gNm 17) bYes (binD isntB (callD F__law_area_right (aCons (vVar 17) aNil)) (vC (.bool true))))))
  (sRet (vC (.bool false)))
  sSkip)
  (sSeq (sPar [12, 13] (aCons (callT F__law_take 1 (aCons (vC (.int 3)) aNil)) (aCons (callT F__law_take 1 (aCons (vC (.int 2)) aNil)) aNil)))
  (sSeq (sSet 6 (callD F_deeper (aCons (vVar 4) (aCons (vVar 12) aNil))))
  (sSeq (sIf (tst (binD neD (callD F_deeper (aCons (callD F__law_bent (aCons (vVar 4) (aCons (vVar 10) (aCons (vVar 5) (aCons (vVar 11) aNil))))) (aCons (vVar 12) aNil))) (callD F__law_bent (aCons (vVar 6) (aCons (vVar 10) (aCons (vVar 5) (aCons (vVar 11) aNil)))))))
  (sRet (vC (.bool false)))
  sSkip)
  (sSeq (sIf (orB (tst (binD neD (callD F_deeper (aCons (vVar 6) (aCons (vVar 13) aNil))) (callD F_deeper (aCons (vVar 4) (aCons (binD addD (vVar 12) (vVar 13)) aNil))))) (tst (binD neD (callD F__law_areas (aCons (vVar 6) aNil)) (callD F__law_areas (aCons (vVar 4) aNil)))))
  (sRet (vC (.bool false)))
  sSkip)
  (sSeq (sSet 7 (callT F__law_take 1 (aCons (binD addD (unD lenD (vVar 4)) (vC (.int 1))) aNil)))
  (sSeq (sIf (tst (binD neD (binD addD (callD F_deeper (aCons (sliceD (vVar 4) oNone (oSome (vVar 7))) (aCons (vVar 12) aNil))) (callD F_deeper (aCons (sliceD (vVar 4) (oSome (vVar 7)) oNone) (aCons (vVar 12) aNil)))) (vVar 6)))
  (sRet (vC (.bool false)))
  sSkip)
  (sSeq (sTgt (gTp 2 (gsCons (gNm 14) (gsCons (gNm 15) gsNil))) (callD F_kind_counts (aCons (vVar 4) aNil)))
  (sSeq (sIf (orB (tst (binD neD (callD F_kind_counts (aCons (vVar 6) aNil)) (callD F_counts_of_cut (aCons (vVar 14) (aCons (vVar 15) (aCons (vVar 12) aNil)))))) (tst (binD neD (binD addD (vVar 14) (vVar 15)) (unD lenD (vVar 4)))))
  (sRet (vC (.bool false)))
  sSkip)
  (sSeq (sIf (orB (tst (binD neD (vLst (aCons (unD lenD (vVar 6)) aNil)) (vLst (aCons (sumU (callD F_counts_of_cut (aCons (vVar 14) (aCons (vVar 15) (aCons (vVar 12) aNil))))) aNil)))) (tst (binD neD (callD F_points_of (aCons (binD addD (vVar 4) (vVar 4)) aNil)) (callD F_points_of (aCons (vVar 4) aNil)))))
  (sRet (vC (.bool false)))
  sSkip)
  (sSeq (sSet 8 (callT F__law_take 1 (aCons (vC (.int 10)) aNil)))
  (sSeq (sSet 9 (sliceD (vVar 2) (oSome (vVar 8)) (oSome (binD addD (binD addD (vVar 8) (vC (.int 1))) (callT F__law_take 1 (aCons (binD subD (vC (.int 10)) (vVar 8)) aNil))))))
  (sSeq (sIf (orB (notB (tru (callD F__law_euler (aCons (callD F_deeper (aCons (vVar 9) (aCons (binD addD (vVar 12) (vVar 13)) aNil))) aNil)))) (notB (tru (callD F__law_euler (aCons (callD F_deeper (aCons (sliceD (vVar 4) oNone (oSome (vC (.int 1)))) (aCons (vVar 12) aNil))) aNil)))))
  (sRet (vC (.bool false)))
  sSkip)
  (sRet (callD F__law_euler (aCons (callD F_deeper (aCons (callD F__law_bent (aCons (vVar 2) (aCons (vVar 10) (aCons (vVar 5) (aCons (vVar 11) aNil))))) (aCons (vVar 13) aNil))) aNil)))))))))))))))))))))))))
def F_law : List D → Option D := fnD 1 18 b_law

/-- what the program left of these names -/
structure Hy (P : Program) (w : World) (K : PySem.W.Frag) (mg : Str → Option Value) : Prop where
  nb_abs : mg "abs" = none
  nb_all : mg "all" = none
  nb_any : mg "any" = none
  nb_int : mg "int" = none
  nb_len : mg "len" = none
  nb_range : mg "range" = none
  nb_sorted : mg "sorted" = none
  nb_sum : mg "sum" = none
  nb_tuple : mg "tuple" = none
  nb_zip : mg "zip" = none
  g_KINDS : GlD ⟨P, w, K⟩ mg "KINDS" k_KINDS
  g_MOST_DEEP : GlD ⟨P, w, K⟩ mg "MOST_DEEP" k_MOST_DEEP
  a__law_tape : DefAt K mg "_law_tape" s__law_tape ["script"]
  a_turned : DefAt K mg "turned" s_turned ["point", "many"]
  a_first_wheel : DefAt K mg "first_wheel" s_first_wheel []
  a_plus : DefAt K mg "plus" s_plus ["one", "other"]
  a__law_longer : DefAt K mg "_law_longer" s__law_longer ["point"]
  a__law_bent : DefAt K mg "_law_bent" s__law_bent ["triangles", "many", "by", "is_great"]
  a_minus : DefAt K mg "minus" s_minus ["one", "other"]
  a_shorter : DefAt K mg "shorter" s_shorter ["point"]
  a_cut : DefAt K mg "cut" s_cut ["triangle"]
  a_deeper : DefAt K mg "deeper" s_deeper ["triangles", "many"]
  a__law_take : DefAt K mg "_law_take" s__law_take ["tape", "many"]
  a_kind_counts : DefAt K mg "kind_counts" s_kind_counts ["triangles"]
  a_side_counts : DefAt K mg "side_counts" s_side_counts ["triangles"]
  a_points_of : DefAt K mg "points_of" s_points_of ["triangles"]
  a__law_euler : DefAt K mg "_law_euler" s__law_euler ["triangles"]
  a__law_cross : DefAt K mg "_law_cross" s__law_cross ["u", "v"]
  a__law_area : DefAt K mg "_law_area" s__law_area ["triangle"]
  a__law_areas : DefAt K mg "_law_areas" s__law_areas ["triangles"]
  a_counts_of_cut : DefAt K mg "counts_of_cut" s_counts_of_cut ["sharp", "flat", "many"]
  a_size_of : DefAt K mg "size_of" s_size_of ["point"]
  a_is_true_kind : DefAt K mg "is_true_kind" s_is_true_kind ["triangle"]
  a__law_area_right : DefAt K mg "_law_area_right" s__law_area_right ["triangle"]
  a_law : DefAt K mg "law" s_law ["script"]
section
variable {P : Program} {w : World} {K : PySem.W.Frag} {mg : Str → Option Value} {base : Heap}
theorem d__law_tape (hy : Hy P w K mg) : DefOk P w K mg base "_law_tape" 1 (spTape ⟨P, w, K⟩ F__law_tape) := by
  obtain ⟨f, fd, hf, hm, hb⟩ := hy.a__law_tape.ex
  refine def_okTape (k := 0) hf sc__law_tape hm hb fun X hX hr => ?_
  obtain ⟨cdv, A, outer, s, H, E, rfl⟩ := hX
  have hu := hr.units
  exact (xt_cons (by exact (xs_setLc (own := [("cell", 3)]) 1 (by rfl) (by exact sc__law_tape.nd) (by exact (xi_seq (by exact (xe_var 0)))) (by exact BlkOk.mk (N := N__law_tape) (sc := defScope s__law_tape) (own := [("cell", 3)]) (by rfl) (by decide +kernel) (by decide +kernel) (by decide +kernel) (by decide +kernel)) (fun _ _ _ _ _ => (by exact (xg_name 3 (by exact sc__law_tape.nd)))) (tgIn_nm (by decide)) (fun _ _ _ _ _ => (by exact xts_nil)) (fun _ _ _ _ _ => (by exact (xe_b1 b1_abs (by rfl) (by exact hy.nb_abs) (by rfl) (by exact (xr_of (by exact (xe_t1 b1_int (by rfl) (by exact hy.nb_int) (by rfl) (by exact (xr_of (by exact (xe_var 3))))))))))) (by exact sw_true (by rfl) (by rfl) (by rfl) (by rfl))))
  (xt_cons (by exact (xs_set 2 (by exact sc__law_tape.nd) (by exact xe_int)))
  (xt_cons (by exact (xs_for (by exact PassesOwn.never) (by rfl) (by exact (xi_seq (by exact (xe_var 1)))) (by exact (xg_name 3 (by exact sc__law_tape.nd)))
  (by exact (xss_one (by exact (xs_set 2 (by exact sc__law_tape.nd) (by exact (xe_bin op_modD (by exact (xe_t1 b1_int (by rfl) (by exact hy.nb_int) (by rfl) (by exact (xr_of (by exact (xe_bin op_addD (by exact (xe_bin op_mulD (by exact (xe_var 2)) (by exact xe_int))) (by exact (xe_var 3)))))))) (by exact xe_int)))))))))
  (xt_one (xt_ret 1 2)))))
theorem d_turned (hy : Hy P w K mg) : DefOk P w K mg base "turned" 1 (spD ⟨P, w, K⟩ F_turned) := by
  obtain ⟨f, fd, hf, hm, hb⟩ := hy.a_turned.ex
  refine def_ok (k := 0) hf sc_turned hm hb fun X hX hr => ?_
  obtain ⟨cdv, A, outer, s, H, E, rfl⟩ := hX
  have hu := hr.units
  exact (by exact (xss_cons (by exact (xs_for (by exact PassesOwn.never) (by rfl) (by exact (xi_range1 (by rfl) (by exact hy.nb_range) (by exact (xe_bin op_modD (by exact (xe_var 1)) (by exact xe_int))))) (by exact (xg_name 2 (by exact sc_turned.nd)))
  (by exact (xss_cons (by exact (xs_tgt (by exact (xe_var 0)) (by exact (xg_tup (by rfl) (xgs_cons (by exact (xg_name 3 (by exact sc_turned.nd))) (xgs_cons (by exact (xg_name 4 (by exact sc_turned.nd))) (xgs_cons (by exact (xg_name 5 (by exact sc_turned.nd))) (xgs_cons (by exact (xg_name 6 (by exact sc_turned.nd))) xgs_nil))))))))
  (by exact (xss_one (by exact (xs_set 0 (by exact sc_turned.nd) (by exact (xe_tup (by exact (xa_cons (by exact (xe_neg (by exact (xe_var 6)))) (by exact (xa_cons (by exact (xe_bin op_addD (by exact (xe_var 3)) (by exact (xe_var 6)))) (by exact (xa_cons (by exact (xe_bin op_subD (by exact (xe_var 4)) (by exact (xe_var 6)))) (by exact (xa_cons (by exact (xe_bin op_addD (by exact (xe_var 5)) (by exact (xe_var 6)))) (by exact xa_nil)))))))))))))))))))
  (by exact (xss_one (by exact (xs_ret (by exact (xe_var 0))))))))
theorem d_first_wheel (hy : Hy P w K mg) (h_turned : DefOk P w K mg base "turned" 1 (spD ⟨P, w, K⟩ F_turned)) : DefOk P w K mg base "first_wheel" 2 (spD ⟨P, w, K⟩ F_first_wheel) := by
  obtain ⟨f, fd, hf, hm, hb⟩ := hy.a_first_wheel.ex
  refine def_ok (k := 1) hf sc_first_wheel hm hb fun X hX hr => ?_
  obtain ⟨cdv, A, outer, s, H, E, rfl⟩ := hX
  have hu := hr.units
  exact (by exact (xss_cons (by exact (xs_mu 0 (by exact sc_first_wheel.nd) (xm_lst (by exact xa_nil))))
  (by exact (xss_cons (by exact (xs_for (by exact PassesOwn.never) (by rfl) (by exact (xi_range1 (by rfl) (by exact hy.nb_range) (by exact xe_int))) (by exact (xg_name 1 (by exact sc_first_wheel.nd)))
  (by exact (xss_cons (by exact (xs_set 2 (by exact sc_first_wheel.nd) (by exact (xe_tup (by exact (xa_cons (by exact (xe_call (by exact h_turned) (by exact hr.mono (by decide)) (by rfl) (by exact (xa_cons (by exact (xe_tup (by exact (xa_cons (by exact xe_int) (by exact (xa_cons (by exact xe_int) (by exact (xa_cons (by exact xe_int) (by exact (xa_cons (by exact xe_int) (by exact xa_nil))))))))))) (by exact (xa_cons (by exact (xe_var 1)) (by exact xa_nil))))))) (by exact (xa_cons (by exact (xe_call (by exact h_turned) (by exact hr.mono (by decide)) (by rfl) (by exact (xa_cons (by exact (xe_tup (by exact (xa_cons (by exact xe_int) (by exact (xa_cons (by exact xe_int) (by exact (xa_cons (by exact xe_int) (by exact (xa_cons (by exact xe_int) (by exact xa_nil))))))))))) (by exact (xa_cons (by exact (xe_bin op_addD (by exact (xe_var 1)) (by exact xe_int))) (by exact xa_nil))))))) (by exact xa_nil)))))))))
  (by exact (xss_one (by exact (xs_app 0 (by exact (xe_bin op_addD (by exact (xe_tup (by exact (xa_cons (by exact xe_str) (by exact (xa_cons (by exact (xe_tup (by exact (xa_cons (by exact xe_int) (by exact (xa_cons (by exact xe_int) (by exact (xa_cons (by exact xe_int) (by exact (xa_cons (by exact xe_int) (by exact xa_nil))))))))))) (by exact xa_nil))))))) (by exact (xe_if (by exact (xt_cmp (op_eqP hu) (by exact (xe_bin op_modD (by exact (xe_var 1)) (by exact xe_int))) (by exact xe_int))) (by exact (xe_var 2)) (by exact (xe_rev (by exact (xe_var 2))))))))))))))))
  (by exact (xss_one (by exact (xs_ret (by exact (xe_t1 b1_tuple (by rfl) (by exact hy.nb_tuple) (by rfl) (by exact (xr_mu 0))))))))))))
theorem d_plus (hy : Hy P w K mg) : DefOk P w K mg base "plus" 1 (spD ⟨P, w, K⟩ F_plus) := by
  obtain ⟨f, fd, hf, hm, hb⟩ := hy.a_plus.ex
  refine def_ok (k := 0) hf sc_plus hm hb fun X hX hr => ?_
  obtain ⟨cdv, A, outer, s, H, E, rfl⟩ := hX
  have hu := hr.units
  exact (by exact (xss_one (by exact (xs_ret (by exact (xe_t1 b1_tuple (by rfl) (by exact hy.nb_tuple) (by rfl) (by exact (xr_of (by exact (xe_lc (own := [("a", 2), ("b", 3)]) (by rfl) (by exact sc_plus.nd) (by exact (xi_zip (by rfl) (by exact hy.nb_zip) (by exact (xe_var 0)) (by exact (xe_var 1)))) (by exact BlkOk.mk (N := N_plus) (sc := defScope s_plus) (own := [("a", 2), ("b", 3)]) (by rfl) (by decide +kernel) (by decide +kernel) (by decide +kernel) (by decide +kernel)) (fun _ _ _ _ _ => (by exact (xg_tup (by rfl) (xgs_cons (by exact (xg_name 2 (by exact sc_plus.nd))) (xgs_cons (by exact (xg_name 3 (by exact sc_plus.nd))) xgs_nil))))) (tgIn_tp (tgsIn_cons (tgIn_nm (by decide)) (tgsIn_cons (tgIn_nm (by decide)) tgsIn_nil))) (fun _ _ _ _ _ => (by exact xts_nil)) (fun _ _ _ _ _ => (by exact (xe_bin op_addD (by exact (xe_var 2)) (by exact (xe_var 3)))))))))))))))
theorem d__law_longer (hy : Hy P w K mg) (h_plus : DefOk P w K mg base "plus" 1 (spD ⟨P, w, K⟩ F_plus)) (h_turned : DefOk P w K mg base "turned" 1 (spD ⟨P, w, K⟩ F_turned)) : DefOk P w K mg base "_law_longer" 2 (spD ⟨P, w, K⟩ F__law_longer) := by
  obtain ⟨f, fd, hf, hm, hb⟩ := hy.a__law_longer.ex
  refine def_ok (k := 1) hf sc__law_longer hm hb fun X hX hr => ?_
  obtain ⟨cdv, A, outer, s, H, E, rfl⟩ := hX
  have hu := hr.units
  exact (by exact (xss_one (by exact (xs_ret (by exact (xe_call (by exact h_plus) (by exact hr.mono (by decide)) (by rfl) (by exact (xa_cons (by exact (xe_call (by exact h_turned) (by exact hr.mono (by decide)) (by rfl) (by exact (xa_cons (by exact (xe_var 0)) (by exact (xa_cons (by exact xe_int) (by exact xa_nil))))))) (by exact (xa_cons (by exact (xe_call (by exact h_turned) (by exact hr.mono (by decide)) (by rfl) (by exact (xa_cons (by exact (xe_var 0)) (by exact (xa_cons (by exact xe_int) (by exact xa_nil))))))) (by exact xa_nil)))))))))))
theorem d__law_bent (hy : Hy P w K mg) (h_turned : DefOk P w K mg base "turned" 1 (spD ⟨P, w, K⟩ F_turned)) (h__law_longer : DefOk P w K mg base "_law_longer" 2 (spD ⟨P, w, K⟩ F__law_longer)) (h_plus : DefOk P w K mg base "plus" 1 (spD ⟨P, w, K⟩ F_plus)) : DefOk P w K mg base "_law_bent" 3 (spD ⟨P, w, K⟩ F__law_bent) := by
  obtain ⟨f, fd, hf, hm, hb⟩ := hy.a__law_bent.ex
  refine def_ok (k := 2) hf sc__law_bent hm hb fun X hX hr => ?_
  obtain ⟨cdv, A, outer, s, H, E, rfl⟩ := hX
  have hu := hr.units
  exact (by exact (xss_cons (by exact (xs_mu 4 (by exact sc__law_bent.nd) (xm_lst (by exact xa_nil))))
  (by exact (xss_cons (by exact (xs_for (by exact PassesOwn.never) (by rfl) (by exact (xi_seq (by exact (xe_var 0)))) (by exact (xg_tup (by rfl) (xgs_cons (by exact (xg_name 5 (by exact sc__law_bent.nd))) (xgs_cons (by exact (xg_name 6 (by exact sc__law_bent.nd))) (xgs_cons (by exact (xg_name 7 (by exact sc__law_bent.nd))) (xgs_cons (by exact (xg_name 8 (by exact sc__law_bent.nd))) xgs_nil))))))
  (by exact (xss_cons (by exact (xs_setLc (own := [("point", 10)]) 9 (by rfl) (by exact sc__law_bent.nd) (by exact (xi_seq (by exact (xe_tup (by exact (xa_cons (by exact (xe_var 6)) (by exact (xa_cons (by exact (xe_var 7)) (by exact (xa_cons (by exact (xe_var 8)) (by exact xa_nil))))))))))) (by exact BlkOk.mk (N := N__law_bent) (sc := defScope s__law_bent) (own := [("point", 10)]) (by rfl) (by decide +kernel) (by decide +kernel) (by decide +kernel) (by decide +kernel)) (fun _ _ _ _ _ => (by exact (xg_name 10 (by exact sc__law_bent.nd)))) (tgIn_nm (by decide)) (fun _ _ _ _ _ => (by exact xts_nil)) (fun _ _ _ _ _ => (by exact (xe_call (by exact h_turned) (by exact hr.mono (by decide)) (by rfl) (by exact (xa_cons (by exact (xe_var 10)) (by exact (xa_cons (by exact (xe_var 1)) (by exact xa_nil)))))))) (by exact sw_true (by rfl) (by rfl) (by rfl) (by rfl))))
  (by exact (xss_cons (by exact (xs_setLc (own := [("point", 10)]) 9 (by rfl) (by exact sc__law_bent.nd) (by exact (xi_seq (by exact (xe_var 9)))) (by exact BlkOk.mk (N := N__law_bent) (sc := defScope s__law_bent) (own := [("point", 10)]) (by rfl) (by decide +kernel) (by decide +kernel) (by decide +kernel) (by decide +kernel)) (fun _ _ _ _ _ => (by exact (xg_name 10 (by exact sc__law_bent.nd)))) (tgIn_nm (by decide)) (fun _ _ _ _ _ => (by exact xts_nil)) (fun _ _ _ _ _ => (by exact (xe_if (by exact (xt_tru (by exact (xe_var 3)))) (by exact (xe_call (by exact h__law_longer) (by exact hr.mono (by decide)) (by rfl) (by exact (xa_cons (by exact (xe_var 10)) (by exact xa_nil))))) (by exact (xe_var 10))))) (by exact sw_true (by rfl) (by rfl) (by rfl) (by rfl))))
  (by exact (xss_one (by exact (xs_app 4 (by exact (xe_bin op_addD (by exact (xe_tup (by exact (xa_cons (by exact (xe_var 5)) (by exact xa_nil))))) (by exact (xe_t1 b1_tuple (by rfl) (by exact hy.nb_tuple) (by rfl) (by exact (xr_of (by exact (xe_lc (own := [("point", 10)]) (by rfl) (by exact sc__law_bent.nd) (by exact (xi_seq (by exact (xe_var 9)))) (by exact BlkOk.mk (N := N__law_bent) (sc := defScope s__law_bent) (own := [("point", 10)]) (by rfl) (by decide +kernel) (by decide +kernel) (by decide +kernel) (by decide +kernel)) (fun _ _ _ _ _ => (by exact (xg_name 10 (by exact sc__law_bent.nd)))) (tgIn_nm (by decide)) (fun _ _ _ _ _ => (by exact xts_nil)) (fun _ _ _ _ _ => (by exact (xe_call (by exact h_plus) (by exact hr.mono (by decide)) (by rfl) (by exact (xa_cons (by exact (xe_var 10)) (by exact (xa_cons (by exact (xe_var 2)) (by exact xa_nil))))))))))))))))))))))))))
  (by exact (xss_one (by exact (xs_ret (by exact (xe_t1 b1_tuple (by rfl) (by exact hy.nb_tuple) (by rfl) (by exact (xr_mu 4))))))))))))
theorem d_minus (hy : Hy P w K mg) : DefOk P w K mg base "minus" 1 (spD ⟨P, w, K⟩ F_minus) := by
  obtain ⟨f, fd, hf, hm, hb⟩ := hy.a_minus.ex
  refine def_ok (k := 0) hf sc_minus hm hb fun X hX hr => ?_
  obtain ⟨cdv, A, outer, s, H, E, rfl⟩ := hX
  have hu := hr.units
  exact (by exact (xss_one (by exact (xs_ret (by exact (xe_t1 b1_tuple (by rfl) (by exact hy.nb_tuple) (by rfl) (by exact (xr_of (by exact (xe_lc (own := [("a", 2), ("b", 3)]) (by rfl) (by exact sc_minus.nd) (by exact (xi_zip (by rfl) (by exact hy.nb_zip) (by exact (xe_var 0)) (by exact (xe_var 1)))) (by exact BlkOk.mk (N := N_minus) (sc := defScope s_minus) (own := [("a", 2), ("b", 3)]) (by rfl) (by decide +kernel) (by decide +kernel) (by decide +kernel) (by decide +kernel)) (fun _ _ _ _ _ => (by exact (xg_tup (by rfl) (xgs_cons (by exact (xg_name 2 (by exact sc_minus.nd))) (xgs_cons (by exact (xg_name 3 (by exact sc_minus.nd))) xgs_nil))))) (tgIn_tp (tgsIn_cons (tgIn_nm (by decide)) (tgsIn_cons (tgIn_nm (by decide)) tgsIn_nil))) (fun _ _ _ _ _ => (by exact xts_nil)) (fun _ _ _ _ _ => (by exact (xe_bin op_subD (by exact (xe_var 2)) (by exact (xe_var 3)))))))))))))))
theorem d_shorter (hy : Hy P w K mg) (h_plus : DefOk P w K mg base "plus" 1 (spD ⟨P, w, K⟩ F_plus)) (h_turned : DefOk P w K mg base "turned" 1 (spD ⟨P, w, K⟩ F_turned)) (h_minus : DefOk P w K mg base "minus" 1 (spD ⟨P, w, K⟩ F_minus)) : DefOk P w K mg base "shorter" 2 (spD ⟨P, w, K⟩ F_shorter) := by
  obtain ⟨f, fd, hf, hm, hb⟩ := hy.a_shorter.ex
  refine def_ok (k := 1) hf sc_shorter hm hb fun X hX hr => ?_
  obtain ⟨cdv, A, outer, s, H, E, rfl⟩ := hX
  have hu := hr.units
  exact (by exact (xss_cons (by exact (xs_set 1 (by exact sc_shorter.nd) (by exact (xe_call (by exact h_plus) (by exact hr.mono (by decide)) (by rfl) (by exact (xa_cons (by exact (xe_call (by exact h_turned) (by exact hr.mono (by decide)) (by rfl) (by exact (xa_cons (by exact (xe_var 0)) (by exact (xa_cons (by exact xe_int) (by exact xa_nil))))))) (by exact (xa_cons (by exact (xe_call (by exact h_turned) (by exact hr.mono (by decide)) (by rfl) (by exact (xa_cons (by exact (xe_var 0)) (by exact (xa_cons (by exact xe_int) (by exact xa_nil))))))) (by exact xa_nil)))))))))
  (by exact (xss_one (by exact (xs_ret (by exact (xe_call (by exact h_minus) (by exact hr.mono (by decide)) (by rfl) (by exact (xa_cons (by exact (xe_var 1)) (by exact (xa_cons (by exact (xe_var 0)) (by exact xa_nil)))))))))))))
theorem d_cut (hy : Hy P w K mg) (h_plus : DefOk P w K mg base "plus" 1 (spD ⟨P, w, K⟩ F_plus)) (h_shorter : DefOk P w K mg base "shorter" 2 (spD ⟨P, w, K⟩ F_shorter)) (h_minus : DefOk P w K mg base "minus" 1 (spD ⟨P, w, K⟩ F_minus)) : DefOk P w K mg base "cut" 3 (spD ⟨P, w, K⟩ F_cut) := by
  obtain ⟨f, fd, hf, hm, hb⟩ := hy.a_cut.ex
  refine def_ok (k := 2) hf sc_cut hm hb fun X hX hr => ?_
  obtain ⟨cdv, A, outer, s, H, E, rfl⟩ := hX
  have hu := hr.units
  exact (by exact (xss_cons (by exact (xs_tgt (by exact (xe_var 0)) (by exact (xg_tup (by rfl) (xgs_cons (by exact (xg_name 3 (by exact sc_cut.nd))) (xgs_cons (by exact (xg_name 4 (by exact sc_cut.nd))) (xgs_cons (by exact (xg_name 5 (by exact sc_cut.nd))) (xgs_cons (by exact (xg_name 6 (by exact sc_cut.nd))) xgs_nil))))))))
  (by exact (xss_cons (by exact (xs_if (by exact (xt_cmp (op_eqP hu) (by exact (xe_var 3)) (by exact xe_str)))
  (by exact (xss_cons (by exact (xs_set 7 (by exact sc_cut.nd) (by exact (xe_call (by exact h_plus) (by exact hr.mono (by decide)) (by rfl) (by exact (xa_cons (by exact (xe_var 4)) (by exact (xa_cons (by exact (xe_call (by exact h_shorter) (by exact hr.mono (by decide)) (by rfl) (by exact (xa_cons (by exact (xe_call (by exact h_minus) (by exact hr.mono (by decide)) (by rfl) (by exact (xa_cons (by exact (xe_var 5)) (by exact (xa_cons (by exact (xe_var 4)) (by exact xa_nil))))))) (by exact xa_nil))))) (by exact xa_nil)))))))))
  (by exact (xss_one (by exact (xs_ret (by exact (xe_tup (by exact (xa_cons (by exact (xe_tup (by exact (xa_cons (by exact xe_str) (by exact (xa_cons (by exact (xe_var 6)) (by exact (xa_cons (by exact (xe_var 7)) (by exact (xa_cons (by exact (xe_var 5)) (by exact xa_nil))))))))))) (by exact (xa_cons (by exact (xe_tup (by exact (xa_cons (by exact xe_str) (by exact (xa_cons (by exact (xe_var 7)) (by exact (xa_cons (by exact (xe_var 6)) (by exact (xa_cons (by exact (xe_var 4)) (by exact xa_nil))))))))))) (by exact xa_nil)))))))))))))
  (by exact xss_nil)))
  (by exact (xss_cons (by exact (xs_set 1 (by exact sc_cut.nd) (by exact (xe_call (by exact h_plus) (by exact hr.mono (by decide)) (by rfl) (by exact (xa_cons (by exact (xe_var 5)) (by exact (xa_cons (by exact (xe_call (by exact h_shorter) (by exact hr.mono (by decide)) (by rfl) (by exact (xa_cons (by exact (xe_call (by exact h_minus) (by exact hr.mono (by decide)) (by rfl) (by exact (xa_cons (by exact (xe_var 4)) (by exact (xa_cons (by exact (xe_var 5)) (by exact xa_nil))))))) (by exact xa_nil))))) (by exact xa_nil)))))))))
  (by exact (xss_cons (by exact (xs_set 2 (by exact sc_cut.nd) (by exact (xe_call (by exact h_plus) (by exact hr.mono (by decide)) (by rfl) (by exact (xa_cons (by exact (xe_var 5)) (by exact (xa_cons (by exact (xe_call (by exact h_shorter) (by exact hr.mono (by decide)) (by rfl) (by exact (xa_cons (by exact (xe_call (by exact h_minus) (by exact hr.mono (by decide)) (by rfl) (by exact (xa_cons (by exact (xe_var 6)) (by exact (xa_cons (by exact (xe_var 5)) (by exact xa_nil))))))) (by exact xa_nil))))) (by exact xa_nil)))))))))
  (by exact (xss_one (by exact (xs_ret (by exact (xe_tup (by exact (xa_cons (by exact (xe_tup (by exact (xa_cons (by exact xe_str) (by exact (xa_cons (by exact (xe_var 2)) (by exact (xa_cons (by exact (xe_var 6)) (by exact (xa_cons (by exact (xe_var 4)) (by exact xa_nil))))))))))) (by exact (xa_cons (by exact (xe_tup (by exact (xa_cons (by exact xe_str) (by exact (xa_cons (by exact (xe_var 1)) (by exact (xa_cons (by exact (xe_var 2)) (by exact (xa_cons (by exact (xe_var 5)) (by exact xa_nil))))))))))) (by exact (xa_cons (by exact (xe_tup (by exact (xa_cons (by exact xe_str) (by exact (xa_cons (by exact (xe_var 2)) (by exact (xa_cons (by exact (xe_var 1)) (by exact (xa_cons (by exact (xe_var 4)) (by exact xa_nil))))))))))) (by exact xa_nil)))))))))))))))))))))
theorem d_deeper (hy : Hy P w K mg) (h_cut : DefOk P w K mg base "cut" 3 (spD ⟨P, w, K⟩ F_cut)) : DefOk P w K mg base "deeper" 4 (spD ⟨P, w, K⟩ F_deeper) := by
  obtain ⟨f, fd, hf, hm, hb⟩ := hy.a_deeper.ex
  refine def_ok (k := 3) hf sc_deeper hm hb fun X hX hr => ?_
  obtain ⟨cdv, A, outer, s, H, E, rfl⟩ := hX
  have hu := hr.units
  exact (by exact (xss_cons (by exact (xs_if (by exact (xt_bool (xw_or (by exact (xt_not (by exact (xt_chain op_leD op_leD (by exact xe_int) (by exact (xe_var 1)) (by exact (xe_gd (by exact hy.g_MOST_DEEP) (by rfl))))))) (xw_or1 (by exact (xt_not (by exact (xt_tru (by exact (xe_b1 (b1_all (by rfl)) (by rfl) (by exact hy.nb_all) (by rfl) (by exact (xr_of (by exact (xe_lc (own := [("triangle", 4)]) (by rfl) (by exact sc_deeper.nd) (by exact (xi_seq (by exact (xe_var 0)))) (by exact BlkOk.mk (N := N_deeper) (sc := defScope s_deeper) (own := [("triangle", 4)]) (by rfl) (by decide +kernel) (by decide +kernel) (by decide +kernel) (by decide +kernel)) (fun _ _ _ _ _ => (by exact (xg_name 4 (by exact sc_deeper.nd)))) (tgIn_nm (by decide)) (fun _ _ _ _ _ => (by exact xts_nil)) (fun _ _ _ _ _ => (by exact (xe_inU (by exact hu) (by exact (xe_ix (xr_of (by exact (xe_var 4))) (by exact xe_int))) (by exact (xe_gd (by exact hy.g_KINDS) (by rfl))))))))))))))))))))
  (by exact (xss_one (by exact xs_never)))
  (by exact xss_nil)))
  (by exact (xss_cons (by exact (xs_set 2 (by exact sc_deeper.nd) (by exact (xe_t1 b1_tuple (by rfl) (by exact hy.nb_tuple) (by rfl) (by exact (xr_of (by exact (xe_var 0))))))))
  (by exact (xss_cons (by exact (xs_for (by exact PassesOwn.never) (by rfl) (by exact (xi_range1 (by rfl) (by exact hy.nb_range) (by exact (xe_var 1)))) (by exact (xg_name 3 (by exact sc_deeper.nd)))
  (by exact (xss_one (by exact (xs_set 2 (by exact sc_deeper.nd) (by exact (xe_t1 b1_tuple (by rfl) (by exact hy.nb_tuple) (by rfl) (by exact (xr_of (by exact (xe_lc2 (own := [("triangle", 4), ("part", 5)]) [5] (by rfl) (by exact sc_deeper.nd) (by exact (xi_seq (by exact (xe_var 2)))) (by exact BlkOk.mk (N := N_deeper) (sc := defScope s_deeper) (own := [("triangle", 4), ("part", 5)]) (by rfl) (by decide +kernel) (by decide +kernel) (by decide +kernel) (by decide +kernel)) (by decide) (fun _ _ _ _ _ => (by exact (xg_name 4 (by exact sc_deeper.nd)))) (tgIn_nm (by decide)) (fun _ _ _ _ _ => (by exact xts_nil)) (fun _ _ _ _ _ => (by exact (xi_seq (by exact (xe_call (by exact h_cut) (by exact hr.mono (by decide)) (by rfl) (by exact (xa_cons (by exact (xe_var 4)) (by exact xa_nil)))))))) (fun _ _ _ _ _ => (by exact (xg_name 5 (by exact sc_deeper.nd)))) (tgIn_nm (by decide)) (fun _ _ _ _ _ => (by exact xts_nil)) (fun _ _ _ _ _ => (by exact (xe_var 5)))))))))))))))
  (by exact (xss_one (by exact (xs_ret (by exact (xe_var 2))))))))))))
theorem d__law_take (hy : Hy P w K mg) : DefOk P w K mg base "_law_take" 1 (spT ⟨P, w, K⟩ F__law_take) := by
  obtain ⟨f, fd, hf, hm, hb⟩ := hy.a__law_take.ex
  refine def_okT (k := 0) hf sc__law_take hm hb fun X hX hr => ?_
  obtain ⟨cdv, A, outer, s, H, E, rfl⟩ := hX
  have hu := hr.units
  exact (by exact (xss_cons (by exact (xs_if (by exact (xt_bool (xw_and (by exact (xt_cmp (op_eqP hu) (by exact (xe_tape 0 (by exact hu))) (by exact xe_int))) (xw_and1 (by exact (xt_cmp op_ltD (by exact (xe_tape 0 (by exact hu))) (by exact (xe_b1 b1_len (by rfl) (by exact hy.nb_len) (by rfl) (xr_of (by exact (xe_tape 0 (by exact hu))))))))))))
  (by exact (xss_cons (by exact (xs_tset 0 (by exact hu) (by exact (xe_ix (xr_of (by exact (xe_tape 0 (by exact hu)))) (by exact (xe_tape 0 (by exact hu)))))))
  (by exact (xss_one (by exact (xs_tset 0 (by exact hu) (by exact (xe_bin op_addD (by exact (xe_tape 0 (by exact hu))) (by exact xe_int)))))))))
  (by exact xss_nil)))
  (by exact (xss_cons (by exact (xs_if (by exact (xt_cmp op_gtD (by exact (xe_tape 0 (by exact hu))) (by exact xe_int)))
  (by exact (xss_cons (by exact (xs_set 3 (by exact sc__law_take.nd) (by exact (xe_bin op_modD (by exact (xe_t1 b1_int (by rfl) (by exact hy.nb_int) (by rfl) (by exact (xr_of (by exact (xe_tape 0 (by exact hu))))))) (by exact (xe_var 1))))))
  (by exact (xss_cons (by exact (xs_tset 0 (by exact hu) (by exact (xe_bin op_divD (by exact (xe_tape 0 (by exact hu))) (by exact (xe_var 1))))))
  (by exact (xss_one (by exact (xs_ret (by exact (xe_var 3))))))))))
  (by exact xss_nil)))
  (by exact (xss_cons (by exact (xs_tset 0 (by exact hu) (by exact (xe_bin op_addD (by exact (xe_tape 0 (by exact hu))) (by exact xe_int)))))
  (by exact (xss_cons (by exact (xs_set 2 (by exact sc__law_take.nd) (by exact (xe_bin op_modD (by exact (xe_t1 b1_int (by rfl) (by exact hy.nb_int) (by rfl) (by exact (xr_of (by exact (xe_bin op_addD (by exact (xe_bin op_mulD (by exact (xe_tape 0 (by exact hu))) (by exact xe_int))) (by exact (xe_bin op_mulD (by exact (xe_tape 0 (by exact hu))) (by exact xe_int))))))))) (by exact xe_int)))))
  (by exact (xss_cons (by exact (xs_set 2 (by exact sc__law_take.nd) (by exact (xe_bin op_modD (by exact (xe_t1 b1_int (by rfl) (by exact hy.nb_int) (by rfl) (by exact (xr_of (by exact (xe_bin op_addD (by exact (xe_bin op_addD (by exact (xe_bin op_mulD (by exact (xe_var 2)) (by exact (xe_var 2)))) (by exact (xe_bin op_mulD (by exact (xe_tape 0 (by exact hu))) (by exact xe_int))))) (by exact xe_int))))))) (by exact xe_int)))))
  (by exact (xss_one (by exact (xs_ret (by exact (xe_bin op_modD (by exact (xe_t1 b1_int (by rfl) (by exact hy.nb_int) (by rfl) (by exact (xr_of (by exact (xe_var 2)))))) (by exact (xe_var 1))))))))))))))))))
theorem d_kind_counts (hy : Hy P w K mg) : DefOk P w K mg base "kind_counts" 1 (spD ⟨P, w, K⟩ F_kind_counts) := by
  obtain ⟨f, fd, hf, hm, hb⟩ := hy.a_kind_counts.ex
  refine def_ok (k := 0) hf sc_kind_counts hm hb fun X hX hr => ?_
  obtain ⟨cdv, A, outer, s, H, E, rfl⟩ := hX
  have hu := hr.units
  exact (by exact (xss_cons (by exact (xs_set 1 (by exact sc_kind_counts.nd) (by exact (xe_b1 b1_len (by rfl) (by exact hy.nb_len) (by rfl) (xr_of (by exact (xe_lc (own := [("triangle", 2)]) (by rfl) (by exact sc_kind_counts.nd) (by exact (xi_seq (by exact (xe_var 0)))) (by exact BlkOk.mk (N := N_kind_counts) (sc := defScope s_kind_counts) (own := [("triangle", 2)]) (by rfl) (by decide +kernel) (by decide +kernel) (by decide +kernel) (by decide +kernel)) (fun _ _ _ _ _ => (by exact (xg_name 2 (by exact sc_kind_counts.nd)))) (tgIn_nm (by decide)) (fun _ _ _ _ _ => (by exact (xts_one (by exact (xt_cmp (op_eqP hu) (by exact (xe_ix (xr_of (by exact (xe_var 2))) (by exact xe_int))) (by exact xe_str)))))) (fun _ _ _ _ _ => (by exact xe_int)))))))))
  (by exact (xss_one (by exact (xs_ret (by exact (xe_tup (by exact (xa_cons (by exact (xe_var 1)) (by exact (xa_cons (by exact (xe_bin op_subD (by exact (xe_b1 b1_len (by rfl) (by exact hy.nb_len) (by rfl) (xr_of (by exact (xe_var 0))))) (by exact (xe_var 1)))) (by exact xa_nil)))))))))))))
theorem d_side_counts (hy : Hy P w K mg) : DefOk P w K mg base "side_counts" 1 (spD ⟨P, w, K⟩ F_side_counts) := by
  obtain ⟨f, fd, hf, hm, hb⟩ := hy.a_side_counts.ex
  refine def_ok (k := 0) hf sc_side_counts hm hb fun X hX hr => ?_
  obtain ⟨cdv, A, outer, s, H, E, rfl⟩ := hX
  have hu := hr.units
  exact (by exact (xss_cons (by exact (xs_mu 1 (by exact sc_side_counts.nd) xm_dict))
  (by exact (xss_cons (by exact (xs_for (by exact PassesOwn.never) (by rfl) (by exact (xi_seq (by exact (xe_var 0)))) (by exact (xg_tup (by rfl) (xgs_cons (by exact (xg_name 2 (by exact sc_side_counts.nd))) (xgs_cons (by exact (xg_name 3 (by exact sc_side_counts.nd))) (xgs_cons (by exact (xg_name 4 (by exact sc_side_counts.nd))) (xgs_cons (by exact (xg_name 5 (by exact sc_side_counts.nd))) xgs_nil))))))
  (by exact (xss_one (by exact (xs_for (by exact PassesOwn.never) (by rfl) (by exact (xi_seq (by exact (xe_tup (by exact (xa_cons (by exact (xe_tup (by exact (xa_cons (by exact (xe_var 3)) (by exact (xa_cons (by exact (xe_var 4)) (by exact xa_nil))))))) (by exact (xa_cons (by exact (xe_tup (by exact (xa_cons (by exact (xe_var 4)) (by exact (xa_cons (by exact (xe_var 5)) (by exact xa_nil))))))) (by exact (xa_cons (by exact (xe_tup (by exact (xa_cons (by exact (xe_var 5)) (by exact (xa_cons (by exact (xe_var 3)) (by exact xa_nil))))))) (by exact xa_nil))))))))))) (by exact (xg_tup (by rfl) (xgs_cons (by exact (xg_name 6 (by exact sc_side_counts.nd))) (xgs_cons (by exact (xg_name 7 (by exact sc_side_counts.nd))) xgs_nil))))
  (by exact (xss_cons (by exact (xs_set 8 (by exact sc_side_counts.nd) (by exact (xe_if (by exact (xt_cmp (op_ltA hu) (by exact (xe_var 6)) (by exact (xe_var 7)))) (by exact (xe_tup (by exact (xa_cons (by exact (xe_var 6)) (by exact (xa_cons (by exact (xe_var 7)) (by exact xa_nil))))))) (by exact (xe_tup (by exact (xa_cons (by exact (xe_var 7)) (by exact (xa_cons (by exact (xe_var 6)) (by exact xa_nil)))))))))))
  (by exact (xss_one (by exact (xs_dput 1 (by exact hu) (by exact (xe_var 8)) (by exact (xe_bin op_addD (by exact (xe_dget2 (by exact hu) (by exact (xd_mu 1)) (by exact (xe_var 8)) (by exact xe_int) ⟨(by rfl), (by rfl), (by rfl), (by rfl)⟩)) (by exact xe_int)))))))))))))))
  (by exact (xss_one (by exact (xs_retMu 1))))))))
theorem d_points_of (hy : Hy P w K mg) : DefOk P w K mg base "points_of" 1 (spD ⟨P, w, K⟩ F_points_of) := by
  obtain ⟨f, fd, hf, hm, hb⟩ := hy.a_points_of.ex
  refine def_ok (k := 0) hf sc_points_of hm hb fun X hX hr => ?_
  obtain ⟨cdv, A, outer, s, H, E, rfl⟩ := hX
  have hu := hr.units
  exact (by exact (xss_one (by exact (xs_ret (by exact (xe_t1 b1_tuple (by rfl) (by exact hy.nb_tuple) (by rfl) (by exact (xr_of (by exact (xe_sortD (by exact hu) (by rfl) (by rfl) (by exact hy.nb_sorted) (by exact (xd_dc2 (ow := [("triangle", 1), ("point", 2)]) [2] (by exact hu) (by rfl) (by exact sc_points_of.nd) (by exact (xi_seq (by exact (xe_var 0)))) (by exact BlkOk.mk (N := N_points_of) (sc := defScope s_points_of) (own := [("triangle", 1), ("point", 2)]) (by rfl) (by decide +kernel) (by decide +kernel) (by decide +kernel) (by decide +kernel)) (by decide) (fun _ _ _ _ _ => (by exact (xg_name 1 (by exact sc_points_of.nd)))) (tgIn_nm (by decide)) (fun _ _ _ _ _ => (by exact xts_nil)) (fun _ _ _ _ _ => (by exact (xi_seq (by exact (xe_slice (by exact (xr_of (by exact (xe_var 1)))) (xo_some (by exact xe_int)) xo_none))))) (fun _ _ _ _ _ => (by exact (xg_name 2 (by exact sc_points_of.nd)))) (tgIn_nm (by decide)) (fun _ _ _ _ _ => (by exact xts_nil)) (fun _ _ _ _ _ => (by exact (xe_var 2))) (fun _ _ _ _ _ => (by exact xe_bl))))))))))))))
theorem d__law_euler (hy : Hy P w K mg) (h_side_counts : DefOk P w K mg base "side_counts" 1 (spD ⟨P, w, K⟩ F_side_counts)) (h_points_of : DefOk P w K mg base "points_of" 1 (spD ⟨P, w, K⟩ F_points_of)) : DefOk P w K mg base "_law_euler" 2 (spD ⟨P, w, K⟩ F__law_euler) := by
  obtain ⟨f, fd, hf, hm, hb⟩ := hy.a__law_euler.ex
  refine def_ok (k := 1) hf sc__law_euler hm hb fun X hX hr => ?_
  obtain ⟨cdv, A, outer, s, H, E, rfl⟩ := hX
  have hu := hr.units
  exact (by exact (xss_cons (by exact (xs_set 1 (by exact sc__law_euler.nd) (by exact (xe_call (by exact h_side_counts) (by exact hr.mono (by decide)) (by rfl) (by exact (xa_cons (by exact (xe_var 0)) (by exact xa_nil)))))))
  (by exact (xss_cons (by exact (xs_if (by exact (xt_bool (xw_or (by exact (xt_cmp (op_neP hu) (by exact (xe_b1 (b1_sum (by rfl)) (by rfl) (by exact hy.nb_sum) (by rfl) (by exact (xr_of (by exact (xe_lc (own := [("side", 2)]) (by rfl) (by exact sc__law_euler.nd) (by exact (xi_keysD (by exact (xe_var 1)))) (by exact BlkOk.mk (N := N__law_euler) (sc := defScope s__law_euler) (own := [("side", 2)]) (by rfl) (by decide +kernel) (by decide +kernel) (by decide +kernel) (by decide +kernel)) (fun _ _ _ _ _ => (by exact (xg_name 2 (by exact sc__law_euler.nd)))) (tgIn_nm (by decide)) (fun _ _ _ _ _ => (by exact xts_nil)) (fun _ _ _ _ _ => (by exact (xe_dix (by exact hu) (xd_of (by exact (xe_var 1))) (by exact (xe_var 2))))))))))) (by exact (xe_bin op_mulD (by exact xe_int) (by exact (xe_b1 b1_len (by rfl) (by exact hy.nb_len) (by rfl) (xr_of (by exact (xe_var 0))))))))) (xw_or1 (by exact (xt_tru (by exact (xe_b1 (b1_any (by rfl)) (by rfl) (by exact hy.nb_any) (by rfl) (by exact (xr_of (by exact (xe_lc (own := [("side", 2)]) (by rfl) (by exact sc__law_euler.nd) (by exact (xi_keysD (by exact (xe_var 1)))) (by exact BlkOk.mk (N := N__law_euler) (sc := defScope s__law_euler) (own := [("side", 2)]) (by rfl) (by decide +kernel) (by decide +kernel) (by decide +kernel) (by decide +kernel)) (fun _ _ _ _ _ => (by exact (xg_name 2 (by exact sc__law_euler.nd)))) (tgIn_nm (by decide)) (fun _ _ _ _ _ => (by exact xts_nil)) (fun _ _ _ _ _ => (by exact (xe_not (by exact (xe_chain op_leD op_leD (by exact xe_int) (by exact (xe_dix (by exact hu) (xd_of (by exact (xe_var 1))) (by exact (xe_var 2)))) (by exact xe_int))))))))))))))))))
  (by exact (xss_one (by exact (xs_ret (by exact xe_bl)))))
  (by exact xss_nil)))
  (by exact (xss_one (by exact (xs_ret (by exact (xe_cmp (op_eqP hu) (by exact (xe_bin op_addD (by exact (xe_bin op_subD (by exact (xe_b1 b1_len (by rfl) (by exact hy.nb_len) (by rfl) (xr_of (by exact (xe_call (by exact h_points_of) (by exact hr.mono (by decide)) (by rfl) (by exact (xa_cons (by exact (xe_var 0)) (by exact xa_nil)))))))) (by exact (xe_dlen (by rfl) (by rfl) (by exact hy.nb_len) (xd_of (by exact (xe_var 1))))))) (by exact (xe_b1 b1_len (by rfl) (by exact hy.nb_len) (by rfl) (xr_of (by exact (xe_var 0))))))) (by exact xe_int)))))))))))
theorem d__law_cross (hy : Hy P w K mg) : DefOk P w K mg base "_law_cross" 1 (spD ⟨P, w, K⟩ F__law_cross) := by
  obtain ⟨f, fd, hf, hm, hb⟩ := hy.a__law_cross.ex
  refine def_ok (k := 0) hf sc__law_cross hm hb fun X hX hr => ?_
  obtain ⟨cdv, A, outer, s, H, E, rfl⟩ := hX
  have hu := hr.units
  exact (by exact (xss_cons (by exact (xs_tgt (by exact (xe_tup (by exact (xa_cons (by exact xe_int) (by exact (xa_cons (by exact xe_int) (by exact xa_nil))))))) (by exact (xg_tup (by rfl) (xgs_cons (by exact (xg_name 3 (by exact sc__law_cross.nd))) (xgs_cons (by exact (xg_name 4 (by exact sc__law_cross.nd))) xgs_nil))))))
  (by exact (xss_cons (by exact (xs_for (by exact PassesOwn.never) (by rfl) (by exact (xi_range1 (by rfl) (by exact hy.nb_range) (by exact xe_int))) (by exact (xg_name 2 (by exact sc__law_cross.nd)))
  (by exact (xss_one (by exact (xs_for (by exact PassesOwn.never) (by rfl) (by exact (xi_range1 (by rfl) (by exact hy.nb_range) (by exact xe_int))) (by exact (xg_name 5 (by exact sc__law_cross.nd)))
  (by exact (xss_cons (by exact (xs_set 6 (by exact sc__law_cross.nd) (by exact (xe_bin op_mulD (by exact (xe_ix (xr_of (by exact (xe_var 0))) (by exact (xe_var 2)))) (by exact (xe_ix (xr_of (by exact (xe_var 1))) (by exact (xe_var 5))))))))
  (by exact (xss_one (by exact (xs_if (by exact (xt_inU (by exact hu) (by exact (xe_bin op_subD (by exact (xe_var 5)) (by exact (xe_var 2)))) (by exact (xe_tup (by exact (xa_cons (by exact xe_int) (by exact (xa_cons (by exact (xe_bin op_subD (by exact xe_int) (by exact xe_int))) (by exact xa_nil)))))))))
  (by exact (xss_one (by exact (xs_set 3 (by exact sc__law_cross.nd) (by exact (xe_bin op_addD (by exact (xe_var 3)) (by exact (xe_bin op_mulD (by exact (xe_var 6)) (by exact (xe_bin op_subD (by exact (xe_var 5)) (by exact (xe_var 2))))))))))))
  (by exact (xss_one (by exact (xs_if (by exact (xt_cmp (op_neP hu) (by exact (xe_var 5)) (by exact (xe_var 2))))
  (by exact (xss_one (by exact (xs_set 4 (by exact sc__law_cross.nd) (by exact (xe_bin op_addD (by exact (xe_var 4)) (by exact (xe_if (by exact (xt_cmp op_gtD (by exact (xe_var 5)) (by exact (xe_var 2)))) (by exact (xe_var 6)) (by exact (xe_bin op_subD (by exact xe_int) (by exact (xe_var 6))))))))))))
  (by exact xss_nil)))))))))))))))))
  (by exact (xss_one (by exact (xs_ret (by exact (xe_tup (by exact (xa_cons (by exact (xe_var 3)) (by exact (xa_cons (by exact (xe_var 4)) (by exact xa_nil)))))))))))))))
theorem d__law_area (hy : Hy P w K mg) (h__law_cross : DefOk P w K mg base "_law_cross" 1 (spD ⟨P, w, K⟩ F__law_cross)) : DefOk P w K mg base "_law_area" 2 (spD ⟨P, w, K⟩ F__law_area) := by
  obtain ⟨f, fd, hf, hm, hb⟩ := hy.a__law_area.ex
  refine def_ok (k := 1) hf sc__law_area hm hb fun X hX hr => ?_
  obtain ⟨cdv, A, outer, s, H, E, rfl⟩ := hX
  have hu := hr.units
  exact (by exact (xss_cons (by exact (xs_tgt (by exact (xe_tup (by exact (xa_cons (by exact (xe_ix (xr_of (by exact (xe_var 0))) (by exact xe_int))) (by exact (xa_cons (by exact (xe_ix (xr_of (by exact (xe_var 0))) (by exact xe_int))) (by exact (xa_cons (by exact (xe_ix (xr_of (by exact (xe_var 0))) (by exact xe_int))) (by exact xa_nil))))))))) (by exact (xg_tup (by rfl) (xgs_cons (by exact (xg_name 2 (by exact sc__law_area.nd))) (xgs_cons (by exact (xg_name 3 (by exact sc__law_area.nd))) (xgs_cons (by exact (xg_name 4 (by exact sc__law_area.nd))) xgs_nil)))))))
  (by exact (xss_cons (by exact (xs_par2 5 6 (by rfl) (by exact sc__law_area.nd) (by exact (xa_cons (by exact (xe_lc (own := [("k", 11)]) (by rfl) (by exact sc__law_area.nd) (by exact (xi_range1 (by rfl) (by exact hy.nb_range) (by exact xe_int))) (by exact BlkOk.mk (N := N__law_area) (sc := defScope s__law_area) (own := [("k", 11)]) (by rfl) (by decide +kernel) (by decide +kernel) (by decide +kernel) (by decide +kernel)) (fun _ _ _ _ _ => (by exact (xg_name 11 (by exact sc__law_area.nd)))) (tgIn_nm (by decide)) (fun _ _ _ _ _ => (by exact xts_nil)) (fun _ _ _ _ _ => (by exact (xe_bin op_subD (by exact (xe_ix (xr_of (by exact (xe_var 3))) (by exact (xe_var 11)))) (by exact (xe_ix (xr_of (by exact (xe_var 2))) (by exact (xe_var 11))))))))) (by exact (xa_cons (by exact (xe_lc (own := [("k", 11)]) (by rfl) (by exact sc__law_area.nd) (by exact (xi_range1 (by rfl) (by exact hy.nb_range) (by exact xe_int))) (by exact BlkOk.mk (N := N__law_area) (sc := defScope s__law_area) (own := [("k", 11)]) (by rfl) (by decide +kernel) (by decide +kernel) (by decide +kernel) (by decide +kernel)) (fun _ _ _ _ _ => (by exact (xg_name 11 (by exact sc__law_area.nd)))) (tgIn_nm (by decide)) (fun _ _ _ _ _ => (by exact xts_nil)) (fun _ _ _ _ _ => (by exact (xe_bin op_subD (by exact (xe_ix (xr_of (by exact (xe_var 4))) (by exact (xe_var 11)))) (by exact (xe_ix (xr_of (by exact (xe_var 2))) (by exact (xe_var 11))))))))) (by exact xa_nil)))))))
  (by exact (xss_cons (by exact (xs_tgt (by exact (xe_call (by exact h__law_cross) (by exact hr.mono (by decide)) (by rfl) (by exact (xa_cons (by exact (xe_var 5)) (by exact (xa_cons (by exact (xe_var 6)) (by exact xa_nil))))))) (by exact (xg_tup (by rfl) (xgs_cons (by exact (xg_name 7 (by exact sc__law_area.nd))) (xgs_cons (by exact (xg_name 8 (by exact sc__law_area.nd))) xgs_nil))))))
  (by exact (xss_cons (by exact (xs_par2 9 10 (by rfl) (by exact sc__law_area.nd) (by exact (xa_cons (by exact (xe_bin op_addD (by exact (xe_bin op_mulD (by exact xe_int) (by exact (xe_var 7)))) (by exact (xe_var 8)))) (by exact (xa_cons (by exact (xe_var 8)) (by exact xa_nil)))))))
  (by exact (xss_cons (by exact (xs_if (by exact (xt_bool (xw_and (by exact (xt_cmp op_geD (by exact (xe_var 9)) (by exact xe_int))) (xw_and1 (by exact (xt_cmp op_geD (by exact (xe_var 10)) (by exact xe_int)))))))
  (by exact (xss_one (by exact (xs_ret (by exact (xe_tup (by exact (xa_cons (by exact (xe_var 7)) (by exact (xa_cons (by exact (xe_var 8)) (by exact xa_nil)))))))))))
  (by exact xss_nil)))
  (by exact (xss_cons (by exact (xs_if (by exact (xt_bool (xw_and (by exact (xt_cmp op_leD (by exact (xe_var 9)) (by exact xe_int))) (xw_and1 (by exact (xt_cmp op_leD (by exact (xe_var 10)) (by exact xe_int)))))))
  (by exact (xss_one (by exact (xs_ret (by exact (xe_tup (by exact (xa_cons (by exact (xe_bin op_subD (by exact xe_int) (by exact (xe_var 7)))) (by exact (xa_cons (by exact (xe_bin op_subD (by exact xe_int) (by exact (xe_var 8)))) (by exact xa_nil)))))))))))
  (by exact xss_nil)))
  (by exact (xss_cons (by exact (xs_set 1 (by exact sc__law_area.nd) (by exact (xe_if (by exact (xt_cmp op_ltD (by exact (xe_var 10)) (by exact xe_int))) (by exact (xe_cmp op_ltD (by exact (xe_bin op_mulD (by exact (xe_var 9)) (by exact (xe_var 9)))) (by exact (xe_bin op_mulD (by exact (xe_bin op_mulD (by exact xe_int) (by exact (xe_var 10)))) (by exact (xe_var 10)))))) (by exact (xe_cmp op_gtD (by exact (xe_bin op_mulD (by exact (xe_var 9)) (by exact (xe_var 9)))) (by exact (xe_bin op_mulD (by exact (xe_bin op_mulD (by exact xe_int) (by exact (xe_var 10)))) (by exact (xe_var 10))))))))))
  (by exact (xss_one (by exact (xs_ret (by exact (xe_if (by exact (xt_tru (by exact (xe_var 1)))) (by exact (xe_tup (by exact (xa_cons (by exact (xe_bin op_subD (by exact xe_int) (by exact (xe_var 7)))) (by exact (xa_cons (by exact (xe_bin op_subD (by exact xe_int) (by exact (xe_var 8)))) (by exact xa_nil))))))) (by exact (xe_tup (by exact (xa_cons (by exact (xe_var 7)) (by exact (xa_cons (by exact (xe_var 8)) (by exact xa_nil)))))))))))))))))))))))))))
theorem d__law_areas (hy : Hy P w K mg) (h__law_area : DefOk P w K mg base "_law_area" 2 (spD ⟨P, w, K⟩ F__law_area)) : DefOk P w K mg base "_law_areas" 3 (spD ⟨P, w, K⟩ F__law_areas) := by
  obtain ⟨f, fd, hf, hm, hb⟩ := hy.a__law_areas.ex
  refine def_ok (k := 2) hf sc__law_areas hm hb fun X hX hr => ?_
  obtain ⟨cdv, A, outer, s, H, E, rfl⟩ := hX
  have hu := hr.units
  exact (by exact (xss_cons (by exact (xs_setLc (own := [("triangle", 2)]) 1 (by rfl) (by exact sc__law_areas.nd) (by exact (xi_seq (by exact (xe_var 0)))) (by exact BlkOk.mk (N := N__law_areas) (sc := defScope s__law_areas) (own := [("triangle", 2)]) (by rfl) (by decide +kernel) (by decide +kernel) (by decide +kernel) (by decide +kernel)) (fun _ _ _ _ _ => (by exact (xg_name 2 (by exact sc__law_areas.nd)))) (tgIn_nm (by decide)) (fun _ _ _ _ _ => (by exact xts_nil)) (fun _ _ _ _ _ => (by exact (xe_call (by exact h__law_area) (by exact hr.mono (by decide)) (by rfl) (by exact (xa_cons (by exact (xe_var 2)) (by exact xa_nil)))))) (by exact sw_true (by rfl) (by rfl) (by rfl) (by rfl))))
  (by exact (xss_one (by exact (xs_ret (by exact (xe_tup (by exact (xa_cons (by exact (xe_b1 (b1_sum (by rfl)) (by rfl) (by exact hy.nb_sum) (by rfl) (by exact (xr_of (by exact (xe_lc (own := [("p", 3), ("q", 4)]) (by rfl) (by exact sc__law_areas.nd) (by exact (xi_seq (by exact (xe_var 1)))) (by exact BlkOk.mk (N := N__law_areas) (sc := defScope s__law_areas) (own := [("p", 3), ("q", 4)]) (by rfl) (by decide +kernel) (by decide +kernel) (by decide +kernel) (by decide +kernel)) (fun _ _ _ _ _ => (by exact (xg_tup (by rfl) (xgs_cons (by exact (xg_name 3 (by exact sc__law_areas.nd))) (xgs_cons (by exact (xg_name 4 (by exact sc__law_areas.nd))) xgs_nil))))) (tgIn_tp (tgsIn_cons (tgIn_nm (by decide)) (tgsIn_cons (tgIn_nm (by decide)) tgsIn_nil))) (fun _ _ _ _ _ => (by exact xts_nil)) (fun _ _ _ _ _ => (by exact (xe_var 3))))))))) (by exact (xa_cons (by exact (xe_b1 (b1_sum (by rfl)) (by rfl) (by exact hy.nb_sum) (by rfl) (by exact (xr_of (by exact (xe_lc (own := [("p", 3), ("q", 4)]) (by rfl) (by exact sc__law_areas.nd) (by exact (xi_seq (by exact (xe_var 1)))) (by exact BlkOk.mk (N := N__law_areas) (sc := defScope s__law_areas) (own := [("p", 3), ("q", 4)]) (by rfl) (by decide +kernel) (by decide +kernel) (by decide +kernel) (by decide +kernel)) (fun _ _ _ _ _ => (by exact (xg_tup (by rfl) (xgs_cons (by exact (xg_name 3 (by exact sc__law_areas.nd))) (xgs_cons (by exact (xg_name 4 (by exact sc__law_areas.nd))) xgs_nil))))) (tgIn_tp (tgsIn_cons (tgIn_nm (by decide)) (tgsIn_cons (tgIn_nm (by decide)) tgsIn_nil))) (fun _ _ _ _ _ => (by exact xts_nil)) (fun _ _ _ _ _ => (by exact (xe_var 4))))))))) (by exact xa_nil)))))))))))))
theorem d_counts_of_cut (hy : Hy P w K mg) : DefOk P w K mg base "counts_of_cut" 1 (spD ⟨P, w, K⟩ F_counts_of_cut) := by
  obtain ⟨f, fd, hf, hm, hb⟩ := hy.a_counts_of_cut.ex
  refine def_ok (k := 0) hf sc_counts_of_cut hm hb fun X hX hr => ?_
  obtain ⟨cdv, A, outer, s, H, E, rfl⟩ := hX
  have hu := hr.units
  exact (by exact (xss_cons (by exact (xs_if (by exact (xt_not (by exact (xt_chain op_leD op_leD (by exact xe_int) (by exact (xe_var 2)) (by exact xe_int)))))
  (by exact (xss_one (by exact xs_never)))
  (by exact xss_nil)))
  (by exact (xss_cons (by exact (xs_for (by exact PassesOwn.never) (by rfl) (by exact (xi_range1 (by rfl) (by exact hy.nb_range) (by exact (xe_var 2)))) (by exact (xg_name 3 (by exact sc_counts_of_cut.nd)))
  (by exact (xss_one (by exact (xs_par2 0 1 (by rfl) (by exact sc_counts_of_cut.nd) (by exact (xa_cons (by exact (xe_bin op_addD (by exact (xe_var 0)) (by exact (xe_var 1)))) (by exact (xa_cons (by exact (xe_bin op_addD (by exact (xe_var 0)) (by exact (xe_bin op_mulD (by exact xe_int) (by exact (xe_var 1)))))) (by exact xa_nil)))))))))))
  (by exact (xss_one (by exact (xs_ret (by exact (xe_tup (by exact (xa_cons (by exact (xe_var 0)) (by exact (xa_cons (by exact (xe_var 1)) (by exact xa_nil)))))))))))))))
theorem d_size_of (hy : Hy P w K mg) : DefOk P w K mg base "size_of" 1 (spD ⟨P, w, K⟩ F_size_of) := by
  obtain ⟨f, fd, hf, hm, hb⟩ := hy.a_size_of.ex
  refine def_ok (k := 0) hf sc_size_of hm hb fun X hX hr => ?_
  obtain ⟨cdv, A, outer, s, H, E, rfl⟩ := hX
  have hu := hr.units
  exact (by exact (xss_cons (by exact (xs_tgt (by exact (xe_var 0)) (by exact (xg_tup (by rfl) (xgs_cons (by exact (xg_name 3 (by exact sc_size_of.nd))) (xgs_cons (by exact (xg_name 4 (by exact sc_size_of.nd))) (xgs_cons (by exact (xg_name 5 (by exact sc_size_of.nd))) (xgs_cons (by exact (xg_name 6 (by exact sc_size_of.nd))) xgs_nil))))))))
  (by exact (xss_cons (by exact (xs_set 1 (by exact sc_size_of.nd) (by exact (xe_bin op_addD (by exact (xe_bin op_addD (by exact (xe_bin op_addD (by exact (xe_bin op_mulD (by exact (xe_var 3)) (by exact (xe_var 3)))) (by exact (xe_bin op_mulD (by exact (xe_var 4)) (by exact (xe_var 4)))))) (by exact (xe_bin op_mulD (by exact (xe_var 5)) (by exact (xe_var 5)))))) (by exact (xe_bin op_mulD (by exact (xe_var 6)) (by exact (xe_var 6))))))))
  (by exact (xss_cons (by exact (xs_par2 7 8 (by rfl) (by exact sc_size_of.nd) (by exact (xa_cons (by exact (xe_bin op_addD (by exact (xe_bin op_addD (by exact (xe_bin op_mulD (by exact (xe_var 3)) (by exact (xe_var 4)))) (by exact (xe_bin op_mulD (by exact (xe_var 4)) (by exact (xe_var 5)))))) (by exact (xe_bin op_mulD (by exact (xe_var 5)) (by exact (xe_var 6)))))) (by exact (xa_cons (by exact (xe_bin op_addD (by exact (xe_bin op_mulD (by exact (xe_var 3)) (by exact (xe_var 5)))) (by exact (xe_bin op_mulD (by exact (xe_var 4)) (by exact (xe_var 6)))))) (by exact xa_nil)))))))
  (by exact (xss_cons (by exact (xs_set 2 (by exact sc_size_of.nd) (by exact (xe_bin op_mulD (by exact (xe_var 3)) (by exact (xe_var 6))))))
  (by exact (xss_one (by exact (xs_ret (by exact (xe_tup (by exact (xa_cons (by exact (xe_bin op_addD (by exact (xe_bin op_subD (by exact (xe_var 1)) (by exact (xe_var 8)))) (by exact (xe_var 2)))) (by exact (xa_cons (by exact (xe_bin op_subD (by exact (xe_bin op_addD (by exact (xe_var 7)) (by exact (xe_var 8)))) (by exact (xe_var 2)))) (by exact xa_nil)))))))))))))))))))
theorem d_is_true_kind (hy : Hy P w K mg) (h_size_of : DefOk P w K mg base "size_of" 1 (spD ⟨P, w, K⟩ F_size_of)) (h_minus : DefOk P w K mg base "minus" 1 (spD ⟨P, w, K⟩ F_minus)) : DefOk P w K mg base "is_true_kind" 2 (spD ⟨P, w, K⟩ F_is_true_kind) := by
  obtain ⟨f, fd, hf, hm, hb⟩ := hy.a_is_true_kind.ex
  refine def_ok (k := 1) hf sc_is_true_kind hm hb fun X hX hr => ?_
  obtain ⟨cdv, A, outer, s, H, E, rfl⟩ := hX
  have hu := hr.units
  exact (by exact (xss_cons (by exact (xs_tgt (by exact (xe_var 0)) (by exact (xg_tup (by rfl) (xgs_cons (by exact (xg_name 1 (by exact sc_is_true_kind.nd))) (xgs_cons (by exact (xg_name 2 (by exact sc_is_true_kind.nd))) (xgs_cons (by exact (xg_name 3 (by exact sc_is_true_kind.nd))) (xgs_cons (by exact (xg_name 4 (by exact sc_is_true_kind.nd))) xgs_nil))))))))
  (by exact (xss_cons (by exact (xs_par3 5 6 7 (by rfl) (by exact sc_is_true_kind.nd) (by exact (xa_cons (by exact (xe_call (by exact h_size_of) (by exact hr.mono (by decide)) (by rfl) (by exact (xa_cons (by exact (xe_call (by exact h_minus) (by exact hr.mono (by decide)) (by rfl) (by exact (xa_cons (by exact (xe_var 3)) (by exact (xa_cons (by exact (xe_var 2)) (by exact xa_nil))))))) (by exact xa_nil))))) (by exact (xa_cons (by exact (xe_call (by exact h_size_of) (by exact hr.mono (by decide)) (by rfl) (by exact (xa_cons (by exact (xe_call (by exact h_minus) (by exact hr.mono (by decide)) (by rfl) (by exact (xa_cons (by exact (xe_var 4)) (by exact (xa_cons (by exact (xe_var 2)) (by exact xa_nil))))))) (by exact xa_nil))))) (by exact (xa_cons (by exact (xe_call (by exact h_size_of) (by exact hr.mono (by decide)) (by rfl) (by exact (xa_cons (by exact (xe_call (by exact h_minus) (by exact hr.mono (by decide)) (by rfl) (by exact (xa_cons (by exact (xe_var 3)) (by exact (xa_cons (by exact (xe_var 4)) (by exact xa_nil))))))) (by exact xa_nil))))) (by exact xa_nil)))))))))
  (by exact (xss_cons (by exact (xs_if (by exact (xt_bool (xw_or (by exact (xt_cmp (op_neP hu) (by exact (xe_var 5)) (by exact (xe_var 6)))) (xw_or1 (by exact (xt_cmp (op_eqP hu) (by exact (xe_var 5)) (by exact (xe_tup (by exact (xa_cons (by exact xe_int) (by exact (xa_cons (by exact xe_int) (by exact xa_nil)))))))))))))
  (by exact (xss_one (by exact (xs_ret (by exact xe_bl)))))
  (by exact xss_nil)))
  (by exact (xss_cons (by exact (xs_tgt (by exact (xe_if (by exact (xt_cmp (op_eqP hu) (by exact (xe_var 1)) (by exact xe_str))) (by exact (xe_tup (by exact (xa_cons (by exact (xe_var 7)) (by exact (xa_cons (by exact (xe_var 5)) (by exact xa_nil))))))) (by exact (xe_tup (by exact (xa_cons (by exact (xe_var 5)) (by exact (xa_cons (by exact (xe_var 7)) (by exact xa_nil))))))))) (by exact (xg_tup (by rfl) (xgs_cons (by exact (xg_name 8 (by exact sc_is_true_kind.nd))) (xgs_cons (by exact (xg_name 9 (by exact sc_is_true_kind.nd))) xgs_nil))))))
  (by exact (xss_cons (by exact (xs_tgt (by exact (xe_var 8)) (by exact (xg_tup (by rfl) (xgs_cons (by exact (xg_name 10 (by exact sc_is_true_kind.nd))) (xgs_cons (by exact (xg_name 11 (by exact sc_is_true_kind.nd))) xgs_nil))))))
  (by exact (xss_one (by exact (xs_ret (by exact (xe_cmp (op_eqP hu) (by exact (xe_var 9)) (by exact (xe_tup (by exact (xa_cons (by exact (xe_bin op_addD (by exact (xe_var 10)) (by exact (xe_var 11)))) (by exact (xa_cons (by exact (xe_bin op_addD (by exact (xe_var 10)) (by exact (xe_bin op_mulD (by exact xe_int) (by exact (xe_var 11)))))) (by exact xa_nil)))))))))))))))))))))))
theorem d__law_area_right (hy : Hy P w K mg) (h_is_true_kind : DefOk P w K mg base "is_true_kind" 2 (spD ⟨P, w, K⟩ F_is_true_kind)) (h_size_of : DefOk P w K mg base "size_of" 1 (spD ⟨P, w, K⟩ F_size_of)) (h_minus : DefOk P w K mg base "minus" 1 (spD ⟨P, w, K⟩ F_minus)) (h__law_area : DefOk P w K mg base "_law_area" 2 (spD ⟨P, w, K⟩ F__law_area)) (h_cut : DefOk P w K mg base "cut" 3 (spD ⟨P, w, K⟩ F_cut)) (h__law_areas : DefOk P w K mg base "_law_areas" 3 (spD ⟨P, w, K⟩ F__law_areas)) (h_shorter : DefOk P w K mg base "shorter" 2 (spD ⟨P, w, K⟩ F_shorter)) (h__law_longer : DefOk P w K mg base "_law_longer" 2 (spD ⟨P, w, K⟩ F__law_longer)) : DefOk P w K mg base "_law_area_right" 4 (spD ⟨P, w, K⟩ F__law_area_right) := by
  obtain ⟨f, fd, hf, hm, hb⟩ := hy.a__law_area_right.ex
  refine def_ok (k := 3) hf sc__law_area_right hm hb fun X hX hr => ?_
  obtain ⟨cdv, A, outer, s, H, E, rfl⟩ := hX
  have hu := hr.units
  exact (by exact (xss_cons (by exact (xs_if (by exact (xt_cmp op_isntD (by exact (xe_call (by exact h_is_true_kind) (by exact hr.mono (by decide)) (by rfl) (by exact (xa_cons (by exact (xe_var 0)) (by exact xa_nil))))) (by exact xe_bl)))
  (by exact (xss_one (by exact (xs_ret (by exact xe_bl)))))
  (by exact xss_nil)))
  (by exact (xss_cons (by exact (xs_tgt (by exact (xe_call (by exact h_size_of) (by exact hr.mono (by decide)) (by rfl) (by exact (xa_cons (by exact (xe_call (by exact h_minus) (by exact hr.mono (by decide)) (by rfl) (by exact (xa_cons (by exact (xe_ix (xr_of (by exact (xe_var 0))) (by exact xe_int))) (by exact (xa_cons (by exact (xe_ix (xr_of (by exact (xe_var 0))) (by exact xe_int))) (by exact xa_nil))))))) (by exact xa_nil))))) (by exact (xg_tup (by rfl) (xgs_cons (by exact (xg_name 2 (by exact sc__law_area_right.nd))) (xgs_cons (by exact (xg_name 3 (by exact sc__law_area_right.nd))) xgs_nil))))))
  (by exact (xss_cons (by exact (xs_if (by exact (xt_cmp (op_neP hu) (by exact (xe_call (by exact h__law_area) (by exact hr.mono (by decide)) (by rfl) (by exact (xa_cons (by exact (xe_var 0)) (by exact xa_nil))))) (by exact (xe_if (by exact (xt_cmp (op_eqP hu) (by exact (xe_ix (xr_of (by exact (xe_var 0))) (by exact xe_int))) (by exact xe_str))) (by exact (xe_tup (by exact (xa_cons (by exact (xe_var 2)) (by exact (xa_cons (by exact (xe_var 3)) (by exact xa_nil))))))) (by exact (xe_tup (by exact (xa_cons (by exact (xe_var 3)) (by exact (xa_cons (by exact (xe_bin op_addD (by exact (xe_var 2)) (by exact (xe_var 3)))) (by exact xa_nil)))))))))))
  (by exact (xss_one (by exact (xs_ret (by exact xe_bl)))))
  (by exact xss_nil)))
  (by exact (xss_cons (by exact (xs_set 1 (by exact sc__law_area_right.nd) (by exact (xe_call (by exact h_cut) (by exact hr.mono (by decide)) (by rfl) (by exact (xa_cons (by exact (xe_var 0)) (by exact xa_nil)))))))
  (by exact (xss_cons (by exact (xs_if (by exact (xt_bool (xw_or (by exact (xt_cmp (op_neP hu) (by exact (xe_b1 b1_len (by rfl) (by exact hy.nb_len) (by rfl) (xr_of (by exact (xe_var 1))))) (by exact (xe_if (by exact (xt_cmp (op_eqP hu) (by exact (xe_ix (xr_of (by exact (xe_var 0))) (by exact xe_int))) (by exact xe_str))) (by exact xe_int) (by exact xe_int))))) (xw_or1 (by exact (xt_cmp (op_neP hu) (by exact (xe_call (by exact h__law_areas) (by exact hr.mono (by decide)) (by rfl) (by exact (xa_cons (by exact (xe_var 1)) (by exact xa_nil))))) (by exact (xe_call (by exact h__law_area) (by exact hr.mono (by decide)) (by rfl) (by exact (xa_cons (by exact (xe_var 0)) (by exact xa_nil)))))))))))
  (by exact (xss_one (by exact (xs_ret (by exact xe_bl)))))
  (by exact xss_nil)))
  (by exact (xss_one (by exact (xs_ret (by exact (xe_and (by exact (xe_cmp (op_eqP hu) (by exact (xe_call (by exact h_shorter) (by exact hr.mono (by decide)) (by rfl) (by exact (xa_cons (by exact (xe_call (by exact h__law_longer) (by exact hr.mono (by decide)) (by rfl) (by exact (xa_cons (by exact (xe_ix (xr_of (by exact (xe_var 0))) (by exact xe_int))) (by exact xa_nil))))) (by exact xa_nil))))) (by exact (xe_ix (xr_of (by exact (xe_var 0))) (by exact xe_int))))) (xe_one (by exact (xe_cmp (op_eqP hu) (by exact (xe_call (by exact h__law_longer) (by exact hr.mono (by decide)) (by rfl) (by exact (xa_cons (by exact (xe_call (by exact h_shorter) (by exact hr.mono (by decide)) (by rfl) (by exact (xa_cons (by exact (xe_ix (xr_of (by exact (xe_var 0))) (by exact xe_int))) (by exact xa_nil))))) (by exact xa_nil))))) (by exact (xe_ix (xr_of (by exact (xe_var 0))) (by exact xe_int))))))))))))))))))))))
theorem d_law (hy : Hy P w K mg) (h_first_wheel : DefOk P w K mg base "first_wheel" 2 (spD ⟨P, w, K⟩ F_first_wheel)) (h__law_take : DefOk P w K mg base "_law_take" 1 (spT ⟨P, w, K⟩ F__law_take)) (h__law_bent : DefOk P w K mg base "_law_bent" 3 (spD ⟨P, w, K⟩ F__law_bent)) (h_deeper : DefOk P w K mg base "deeper" 4 (spD ⟨P, w, K⟩ F_deeper)) (h__law_area_right : DefOk P w K mg base "_law_area_right" 4 (spD ⟨P, w, K⟩ F__law_area_right)) (h__law_areas : DefOk P w K mg base "_law_areas" 3 (spD ⟨P, w, K⟩ F__law_areas)) (h_kind_counts : DefOk P w K mg base "kind_counts" 1 (spD ⟨P, w, K⟩ F_kind_counts)) (h_counts_of_cut : DefOk P w K mg base "counts_of_cut" 1 (spD ⟨P, w, K⟩ F_counts_of_cut)) (h_points_of : DefOk P w K mg base "points_of" 1 (spD ⟨P, w, K⟩ F_points_of)) (h__law_euler : DefOk P w K mg base "_law_euler" 2 (spD ⟨P, w, K⟩ F__law_euler)) (h__law_tape : DefOk P w K mg base "_law_tape" 1 (spTape ⟨P, w, K⟩ F__law_tape)) {f : Addr} {fd : FuncData} (hf : Fun K "law" "law" s_law f fd) : FnOk P w K mg base CX0 5 f fd ["script"] (spD ⟨P, w, K⟩ F_law) := by
  refine def_fn (k := 4) hf sc_law fun X hX hr => ?_
  obtain ⟨cdv, A, outer, s, H, E, rfl⟩ := hX
  have hu := hr.units
  exact (by exact (xss_tape 1 (by exact sc_law.nd) (by exact h__law_tape) (by exact hr.mono (by decide)) (by rfl) (by exact (xa_cons (by exact (xe_var 0)) (by exact xa_nil))) (by exact (xss_cons (by exact (xs_set 2 (by exact sc_law.nd) (by exact (xe_call0 (by exact h_first_wheel) (by exact hr.mono (by decide)) (by rfl)))))
  (by exact (xss_cons (by exact (xs_set 3 (by exact sc_law.nd) (by exact (xe_bin op_addD (by exact xe_int) (by exact (xe_callT 1 (by exact h__law_take) (by exact hr.mono (by decide)) (by rfl) (by exact (xa_cons (by exact xe_int) (by exact xa_nil)))))))))
  (by exact (xss_cons (by exact (xs_set 4 (by exact sc_law.nd) (by exact (xe_t1 b1_tuple (by rfl) (by exact hy.nb_tuple) (by rfl) (by exact (xr_of (by exact (xe_lc (own := [("k", 16)]) (by rfl) (by exact sc_law.nd) (by exact (xi_range1 (by rfl) (by exact hy.nb_range) (by exact (xe_var 3)))) (by exact BlkOk.mk (N := N_law) (sc := defScope s_law) (own := [("k", 16)]) (by rfl) (by decide +kernel) (by decide +kernel) (by decide +kernel) (by decide +kernel)) (fun _ _ _ _ _ => (by exact (xg_name 16 (by exact sc_law.nd)))) (tgIn_nm (by decide)) (fun _ _ _ _ _ => (by exact xts_nil)) (fun _ _ _ _ _ => (by exact (xe_ix (xr_of (by exact (xe_var 2))) (by exact (xe_callT 1 (by exact h__law_take) (by exact hr.mono (by decide)) (by rfl) (by exact (xa_cons (by exact xe_int) (by exact xa_nil))))))))))))))))
  (by exact (xss_cons (by exact (xs_par2 10 11 (by rfl) (by exact sc_law.nd) (by exact (xa_cons (by exact (xe_callT 1 (by exact h__law_take) (by exact hr.mono (by decide)) (by rfl) (by exact (xa_cons (by exact xe_int) (by exact xa_nil))))) (by exact (xa_cons (by exact (xe_cmp (op_eqP hu) (by exact (xe_callT 1 (by exact h__law_take) (by exact hr.mono (by decide)) (by rfl) (by exact (xa_cons (by exact xe_int) (by exact xa_nil))))) (by exact xe_int))) (by exact xa_nil)))))))
  (by exact (xss_cons (by exact (xs_set 5 (by exact sc_law.nd) (by exact (xe_t1 b1_tuple (by rfl) (by exact hy.nb_tuple) (by rfl) (by exact (xr_of (by exact (xe_lc (own := [("k", 16)]) (by rfl) (by exact sc_law.nd) (by exact (xi_range1 (by rfl) (by exact hy.nb_range) (by exact xe_int))) (by exact BlkOk.mk (N := N_law) (sc := defScope s_law) (own := [("k", 16)]) (by rfl) (by decide +kernel) (by decide +kernel) (by decide +kernel) (by decide +kernel)) (fun _ _ _ _ _ => (by exact (xg_name 16 (by exact sc_law.nd)))) (tgIn_nm (by decide)) (fun _ _ _ _ _ => (by exact xts_nil)) (fun _ _ _ _ _ => (by exact (xe_bin op_subD (by exact (xe_callT 1 (by exact h__law_take) (by exact hr.mono (by decide)) (by rfl) (by exact (xa_cons (by exact xe_int) (by exact xa_nil))))) (by exact xe_int))))))))))))
  (by exact (xss_cons (by exact (xs_set 4 (by exact sc_law.nd) (by exact (xe_call (by exact h__law_bent) (by exact hr.mono (by decide)) (by rfl) (by exact (xa_cons (by exact (xe_var 4)) (by exact (xa_cons (by exact (xe_callT 1 (by exact h__law_take) (by exact hr.mono (by decide)) (by rfl) (by exact (xa_cons (by exact xe_int) (by exact xa_nil))))) (by exact (xa_cons (by exact (xe_tup (by exact (xa_cons (by exact xe_int) (by exact (xa_cons (by exact xe_int) (by exact (xa_cons (by exact xe_int) (by exact (xa_cons (by exact xe_int) (by exact xa_nil))))))))))) (by exact (xa_cons (by exact (xe_cmp (op_eqP hu) (by exact (xe_callT 1 (by exact h__law_take) (by exact hr.mono (by decide)) (by rfl) (by exact (xa_cons (by exact xe_int) (by exact xa_nil))))) (by exact xe_int))) (by exact xa_nil)))))))))))))
  (by exact (xss_cons (by exact (xs_set 4 (by exact sc_law.nd) (by exact (xe_call (by exact h_deeper) (by exact hr.mono (by decide)) (by rfl) (by exact (xa_cons (by exact (xe_var 4)) (by exact (xa_cons (by exact (xe_callT 1 (by exact h__law_take) (by exact hr.mono (by decide)) (by rfl) (by exact (xa_cons (by exact xe_int) (by exact xa_nil))))) (by exact xa_nil)))))))))
  (by exact (xss_cons (by exact (xs_if (by exact (xt_tru (by exact (xe_b1 (b1_any (by rfl)) (by rfl) (by exact hy.nb_any) (by rfl) (by exact (xr_of (by exact (xe_lc (own := [("triangle", 17)]) (by rfl) (by exact sc_law.nd) (by exact (xi_seq (by exact (xe_var 4)))) (by exact BlkOk.mk (N := N_law) (sc := defScope s_law) (own := [("triangle", 17)]) (by rfl) (by decide +kernel) (by decide +kernel) (by decide +kernel) (by decide +kernel)) (fun _ _ _ _ _ => (by exact (xg_name 17 (by exact sc_law.nd)))) (tgIn_nm (by decide)) (fun _ _ _ _ _ => (by exact xts_nil)) (fun _ _ _ _ _ => (by exact (xe_cmp op_isntD (by exact (xe_call (by exact h__law_area_right) (by exact hr.mono (by decide)) (by rfl) (by exact (xa_cons (by exact (xe_var 17)) (by exact xa_nil))))) (by exact xe_bl))))))))))))
  (by exact (xss_one (by exact (xs_ret (by exact xe_bl)))))
  (by exact xss_nil)))
  (by exact (xss_cons (by exact (xs_par2 12 13 (by rfl) (by exact sc_law.nd) (by exact (xa_cons (by exact (xe_callT 1 (by exact h__law_take) (by exact hr.mono (by decide)) (by rfl) (by exact (xa_cons (by exact xe_int) (by exact xa_nil))))) (by exact (xa_cons (by exact (xe_callT 1 (by exact h__law_take) (by exact hr.mono (by decide)) (by rfl) (by exact (xa_cons (by exact xe_int) (by exact xa_nil))))) (by exact xa_nil)))))))
  (by exact (xss_cons (by exact (xs_set 6 (by exact sc_law.nd) (by exact (xe_call (by exact h_deeper) (by exact hr.mono (by decide)) (by rfl) (by exact (xa_cons (by exact (xe_var 4)) (by exact (xa_cons (by exact (xe_var 12)) (by exact xa_nil)))))))))
  (by exact (xss_cons (by exact (xs_if (by exact (xt_cmp (op_neP hu) (by exact (xe_call (by exact h_deeper) (by exact hr.mono (by decide)) (by rfl) (by exact (xa_cons (by exact (xe_call (by exact h__law_bent) (by exact hr.mono (by decide)) (by rfl) (by exact (xa_cons (by exact (xe_var 4)) (by exact (xa_cons (by exact (xe_var 10)) (by exact (xa_cons (by exact (xe_var 5)) (by exact (xa_cons (by exact (xe_var 11)) (by exact xa_nil))))))))))) (by exact (xa_cons (by exact (xe_var 12)) (by exact xa_nil))))))) (by exact (xe_call (by exact h__law_bent) (by exact hr.mono (by decide)) (by rfl) (by exact (xa_cons (by exact (xe_var 6)) (by exact (xa_cons (by exact (xe_var 10)) (by exact (xa_cons (by exact (xe_var 5)) (by exact (xa_cons (by exact (xe_var 11)) (by exact xa_nil)))))))))))))
  (by exact (xss_one (by exact (xs_ret (by exact xe_bl)))))
  (by exact xss_nil)))
  (by exact (xss_cons (by exact (xs_if (by exact (xt_bool (xw_or (by exact (xt_cmp (op_neP hu) (by exact (xe_call (by exact h_deeper) (by exact hr.mono (by decide)) (by rfl) (by exact (xa_cons (by exact (xe_var 6)) (by exact (xa_cons (by exact (xe_var 13)) (by exact xa_nil))))))) (by exact (xe_call (by exact h_deeper) (by exact hr.mono (by decide)) (by rfl) (by exact (xa_cons (by exact (xe_var 4)) (by exact (xa_cons (by exact (xe_bin op_addD (by exact (xe_var 12)) (by exact (xe_var 13)))) (by exact xa_nil))))))))) (xw_or1 (by exact (xt_cmp (op_neP hu) (by exact (xe_call (by exact h__law_areas) (by exact hr.mono (by decide)) (by rfl) (by exact (xa_cons (by exact (xe_var 6)) (by exact xa_nil))))) (by exact (xe_call (by exact h__law_areas) (by exact hr.mono (by decide)) (by rfl) (by exact (xa_cons (by exact (xe_var 4)) (by exact xa_nil)))))))))))
  (by exact (xss_one (by exact (xs_ret (by exact xe_bl)))))
  (by exact xss_nil)))
  (by exact (xss_cons (by exact (xs_set 7 (by exact sc_law.nd) (by exact (xe_callT 1 (by exact h__law_take) (by exact hr.mono (by decide)) (by rfl) (by exact (xa_cons (by exact (xe_bin op_addD (by exact (xe_b1 b1_len (by rfl) (by exact hy.nb_len) (by rfl) (xr_of (by exact (xe_var 4))))) (by exact xe_int))) (by exact xa_nil)))))))
  (by exact (xss_cons (by exact (xs_if (by exact (xt_cmp (op_neP hu) (by exact (xe_bin op_addD (by exact (xe_call (by exact h_deeper) (by exact hr.mono (by decide)) (by rfl) (by exact (xa_cons (by exact (xe_slice (by exact (xr_of (by exact (xe_var 4)))) xo_none (xo_some (by exact (xe_var 7))))) (by exact (xa_cons (by exact (xe_var 12)) (by exact xa_nil))))))) (by exact (xe_call (by exact h_deeper) (by exact hr.mono (by decide)) (by rfl) (by exact (xa_cons (by exact (xe_slice (by exact (xr_of (by exact (xe_var 4)))) (xo_some (by exact (xe_var 7))) xo_none)) (by exact (xa_cons (by exact (xe_var 12)) (by exact xa_nil))))))))) (by exact (xe_var 6))))
  (by exact (xss_one (by exact (xs_ret (by exact xe_bl)))))
  (by exact xss_nil)))
  (by exact (xss_cons (by exact (xs_tgt (by exact (xe_call (by exact h_kind_counts) (by exact hr.mono (by decide)) (by rfl) (by exact (xa_cons (by exact (xe_var 4)) (by exact xa_nil))))) (by exact (xg_tup (by rfl) (xgs_cons (by exact (xg_name 14 (by exact sc_law.nd))) (xgs_cons (by exact (xg_name 15 (by exact sc_law.nd))) xgs_nil))))))
  (by exact (xss_cons (by exact (xs_if (by exact (xt_bool (xw_or (by exact (xt_cmp (op_neP hu) (by exact (xe_call (by exact h_kind_counts) (by exact hr.mono (by decide)) (by rfl) (by exact (xa_cons (by exact (xe_var 6)) (by exact xa_nil))))) (by exact (xe_call (by exact h_counts_of_cut) (by exact hr.mono (by decide)) (by rfl) (by exact (xa_cons (by exact (xe_var 14)) (by exact (xa_cons (by exact (xe_var 15)) (by exact (xa_cons (by exact (xe_var 12)) (by exact xa_nil))))))))))) (xw_or1 (by exact (xt_cmp (op_neP hu) (by exact (xe_bin op_addD (by exact (xe_var 14)) (by exact (xe_var 15)))) (by exact (xe_b1 b1_len (by rfl) (by exact hy.nb_len) (by rfl) (xr_of (by exact (xe_var 4)))))))))))
  (by exact (xss_one (by exact (xs_ret (by exact xe_bl)))))
  (by exact xss_nil)))
  (by exact (xss_cons (by exact (xs_if (by exact (xt_bool (xw_or (by exact (xt_cmp (op_neP hu) (by exact (xe_lst (by exact (xa_cons (by exact (xe_b1 b1_len (by rfl) (by exact hy.nb_len) (by rfl) (xr_of (by exact (xe_var 6))))) (by exact xa_nil))))) (by exact (xe_lst (by exact (xa_cons (by exact (xe_sumU (by rfl) (by rfl) (by exact hy.nb_sum) (by exact (xr_of (by exact (xe_call (by exact h_counts_of_cut) (by exact hr.mono (by decide)) (by rfl) (by exact (xa_cons (by exact (xe_var 14)) (by exact (xa_cons (by exact (xe_var 15)) (by exact (xa_cons (by exact (xe_var 12)) (by exact xa_nil))))))))))))) (by exact xa_nil))))))) (xw_or1 (by exact (xt_cmp (op_neP hu) (by exact (xe_call (by exact h_points_of) (by exact hr.mono (by decide)) (by rfl) (by exact (xa_cons (by exact (xe_bin op_addD (by exact (xe_var 4)) (by exact (xe_var 4)))) (by exact xa_nil))))) (by exact (xe_call (by exact h_points_of) (by exact hr.mono (by decide)) (by rfl) (by exact (xa_cons (by exact (xe_var 4)) (by exact xa_nil)))))))))))
  (by exact (xss_one (by exact (xs_ret (by exact xe_bl)))))
  (by exact xss_nil)))
  (by exact (xss_cons (by exact (xs_set 8 (by exact sc_law.nd) (by exact (xe_callT 1 (by exact h__law_take) (by exact hr.mono (by decide)) (by rfl) (by exact (xa_cons (by exact xe_int) (by exact xa_nil)))))))
  (by exact (xss_cons (by exact (xs_set 9 (by exact sc_law.nd) (by exact (xe_slice (by exact (xr_of (by exact (xe_var 2)))) (xo_some (by exact (xe_var 8))) (xo_some (by exact (xe_bin op_addD (by exact (xe_bin op_addD (by exact (xe_var 8)) (by exact xe_int))) (by exact (xe_callT 1 (by exact h__law_take) (by exact hr.mono (by decide)) (by rfl) (by exact (xa_cons (by exact (xe_bin op_subD (by exact xe_int) (by exact (xe_var 8)))) (by exact xa_nil))))))))))))
  (by exact (xss_cons (by exact (xs_if (by exact (xt_bool (xw_or (by exact (xt_not (by exact (xt_tru (by exact (xe_call (by exact h__law_euler) (by exact hr.mono (by decide)) (by rfl) (by exact (xa_cons (by exact (xe_call (by exact h_deeper) (by exact hr.mono (by decide)) (by rfl) (by exact (xa_cons (by exact (xe_var 9)) (by exact (xa_cons (by exact (xe_bin op_addD (by exact (xe_var 12)) (by exact (xe_var 13)))) (by exact xa_nil))))))) (by exact xa_nil))))))))) (xw_or1 (by exact (xt_not (by exact (xt_tru (by exact (xe_call (by exact h__law_euler) (by exact hr.mono (by decide)) (by rfl) (by exact (xa_cons (by exact (xe_call (by exact h_deeper) (by exact hr.mono (by decide)) (by rfl) (by exact (xa_cons (by exact (xe_slice (by exact (xr_of (by exact (xe_var 4)))) xo_none (xo_some (by exact xe_int)))) (by exact (xa_cons (by exact (xe_var 12)) (by exact xa_nil))))))) (by exact xa_nil)))))))))))))
  (by exact (xss_one (by exact (xs_ret (by exact xe_bl)))))
  (by exact xss_nil)))
  (by exact (xss_one (by exact (xs_ret (by exact (xe_call (by exact h__law_euler) (by exact hr.mono (by decide)) (by rfl) (by exact (xa_cons (by exact (xe_call (by exact h_deeper) (by exact hr.mono (by decide)) (by rfl) (by exact (xa_cons (by exact (xe_call (by exact h__law_bent) (by exact hr.mono (by decide)) (by rfl) (by exact (xa_cons (by exact (xe_var 2)) (by exact (xa_cons (by exact (xe_var 10)) (by exact (xa_cons (by exact (xe_var 5)) (by exact (xa_cons (by exact (xe_var 11)) (by exact xa_nil))))))))))) (by exact (xa_cons (by exact (xe_var 13)) (by exact xa_nil))))))) (by exact xa_nil)))))))))))))))))))))))))))))))))))))))))))))))))))
theorem d_all (hy : Hy P w K mg) {f : Addr} {fd : FuncData} (hf : Fun K "law" "law" s_law f fd) : FnOk P w K mg base CX0 5 f fd ["script"] (spD ⟨P, w, K⟩ F_law) := by
  have h__law_tape := d__law_tape (base := base) hy
  have h_turned := d_turned (base := base) hy
  have h_first_wheel := d_first_wheel (base := base) hy h_turned
  have h_plus := d_plus (base := base) hy
  have h__law_longer := d__law_longer (base := base) hy h_plus h_turned
  have h__law_bent := d__law_bent (base := base) hy h_turned h__law_longer h_plus
  have h_minus := d_minus (base := base) hy
  have h_shorter := d_shorter (base := base) hy h_plus h_turned h_minus
  have h_cut := d_cut (base := base) hy h_plus h_shorter h_minus
  have h_deeper := d_deeper (base := base) hy h_cut
  have h__law_take := d__law_take (base := base) hy
  have h_kind_counts := d_kind_counts (base := base) hy
  have h_side_counts := d_side_counts (base := base) hy
  have h_points_of := d_points_of (base := base) hy
  have h__law_euler := d__law_euler (base := base) hy h_side_counts h_points_of
  have h__law_cross := d__law_cross (base := base) hy
  have h__law_area := d__law_area (base := base) hy h__law_cross
  have h__law_areas := d__law_areas (base := base) hy h__law_area
  have h_counts_of_cut := d_counts_of_cut (base := base) hy
  have h_size_of := d_size_of (base := base) hy
  have h_is_true_kind := d_is_true_kind (base := base) hy h_size_of h_minus
  have h__law_area_right := d__law_area_right (base := base) hy h_is_true_kind h_size_of h_minus h__law_area h_cut h__law_areas h_shorter h__law_longer
  exact d_law hy h_first_wheel h__law_take h__law_bent h_deeper h__law_area_right h__law_areas h_kind_counts h_counts_of_cut h_points_of h__law_euler h__law_tape hf
end
theorem all_mk {P : Program} {w : World} {K : PySem.W.Frag} {h : Heap} {mg : Str → Option Value} {fa : Addr} (KX : K.In h) (G : h.Ns mainGlobals mg) (hfa : mg "law" = some (.ref fa))
    {p_KINDS : Addr} {c_KINDS : Value} {dd_KINDS : Option Addr} {vs_KINDS : Array Value} {m_KINDS : Nat} {sl_KINDS : Array (Option Value)}
    {u_MOST_DEEP : Value}
    {f__law_tape : Addr} {oc__law_tape : Value} {od__law_tape an__law_tape : Option Addr} {osl__law_tape : Array (Option Value)} {kV__law_tape doc__law_tape pm__law_tape cdv__law_tape ct__law_tape : Value}
    {f_turned : Addr} {oc_turned : Value} {od_turned an_turned : Option Addr} {osl_turned : Array (Option Value)} {kV_turned doc_turned pm_turned cdv_turned ct_turned : Value}
    {f_first_wheel : Addr} {oc_first_wheel : Value} {od_first_wheel an_first_wheel : Option Addr} {osl_first_wheel : Array (Option Value)} {kV_first_wheel doc_first_wheel pm_first_wheel cdv_first_wheel ct_first_wheel : Value}
    {f_plus : Addr} {oc_plus : Value} {od_plus an_plus : Option Addr} {osl_plus : Array (Option Value)} {kV_plus doc_plus pm_plus cdv_plus ct_plus : Value}
    {f__law_longer : Addr} {oc__law_longer : Value} {od__law_longer an__law_longer : Option Addr} {osl__law_longer : Array (Option Value)} {kV__law_longer doc__law_longer pm__law_longer cdv__law_longer ct__law_longer : Value}
    {f__law_bent : Addr} {oc__law_bent : Value} {od__law_bent an__law_bent : Option Addr} {osl__law_bent : Array (Option Value)} {kV__law_bent doc__law_bent pm__law_bent cdv__law_bent ct__law_bent : Value}
    {f_minus : Addr} {oc_minus : Value} {od_minus an_minus : Option Addr} {osl_minus : Array (Option Value)} {kV_minus doc_minus pm_minus cdv_minus ct_minus : Value}
    {f_shorter : Addr} {oc_shorter : Value} {od_shorter an_shorter : Option Addr} {osl_shorter : Array (Option Value)} {kV_shorter doc_shorter pm_shorter cdv_shorter ct_shorter : Value}
    {f_cut : Addr} {oc_cut : Value} {od_cut an_cut : Option Addr} {osl_cut : Array (Option Value)} {kV_cut doc_cut pm_cut cdv_cut ct_cut : Value}
    {f_deeper : Addr} {oc_deeper : Value} {od_deeper an_deeper : Option Addr} {osl_deeper : Array (Option Value)} {kV_deeper doc_deeper pm_deeper cdv_deeper ct_deeper : Value}
    {f__law_take : Addr} {oc__law_take : Value} {od__law_take an__law_take : Option Addr} {osl__law_take : Array (Option Value)} {kV__law_take doc__law_take pm__law_take cdv__law_take ct__law_take : Value}
    {f_kind_counts : Addr} {oc_kind_counts : Value} {od_kind_counts an_kind_counts : Option Addr} {osl_kind_counts : Array (Option Value)} {kV_kind_counts doc_kind_counts pm_kind_counts cdv_kind_counts ct_kind_counts : Value}
    {f_side_counts : Addr} {oc_side_counts : Value} {od_side_counts an_side_counts : Option Addr} {osl_side_counts : Array (Option Value)} {kV_side_counts doc_side_counts pm_side_counts cdv_side_counts ct_side_counts : Value}
    {f_points_of : Addr} {oc_points_of : Value} {od_points_of an_points_of : Option Addr} {osl_points_of : Array (Option Value)} {kV_points_of doc_points_of pm_points_of cdv_points_of ct_points_of : Value}
    {f__law_euler : Addr} {oc__law_euler : Value} {od__law_euler an__law_euler : Option Addr} {osl__law_euler : Array (Option Value)} {kV__law_euler doc__law_euler pm__law_euler cdv__law_euler ct__law_euler : Value}
    {f__law_cross : Addr} {oc__law_cross : Value} {od__law_cross an__law_cross : Option Addr} {osl__law_cross : Array (Option Value)} {kV__law_cross doc__law_cross pm__law_cross cdv__law_cross ct__law_cross : Value}
    {f__law_area : Addr} {oc__law_area : Value} {od__law_area an__law_area : Option Addr} {osl__law_area : Array (Option Value)} {kV__law_area doc__law_area pm__law_area cdv__law_area ct__law_area : Value}
    {f__law_areas : Addr} {oc__law_areas : Value} {od__law_areas an__law_areas : Option Addr} {osl__law_areas : Array (Option Value)} {kV__law_areas doc__law_areas pm__law_areas cdv__law_areas ct__law_areas : Value}
    {f_counts_of_cut : Addr} {oc_counts_of_cut : Value} {od_counts_of_cut an_counts_of_cut : Option Addr} {osl_counts_of_cut : Array (Option Value)} {kV_counts_of_cut doc_counts_of_cut pm_counts_of_cut cdv_counts_of_cut ct_counts_of_cut : Value}
    {f_size_of : Addr} {oc_size_of : Value} {od_size_of an_size_of : Option Addr} {osl_size_of : Array (Option Value)} {kV_size_of doc_size_of pm_size_of cdv_size_of ct_size_of : Value}
    {f_is_true_kind : Addr} {oc_is_true_kind : Value} {od_is_true_kind an_is_true_kind : Option Addr} {osl_is_true_kind : Array (Option Value)} {kV_is_true_kind doc_is_true_kind pm_is_true_kind cdv_is_true_kind ct_is_true_kind : Value}
    {f__law_area_right : Addr} {oc__law_area_right : Value} {od__law_area_right an__law_area_right : Option Addr} {osl__law_area_right : Array (Option Value)} {kV__law_area_right doc__law_area_right pm__law_area_right cdv__law_area_right ct__law_area_right : Value}
    {f_law : Addr} {oc_law : Value} {od_law an_law : Option Addr} {osl_law : Array (Option Value)} {kV_law doc_law pm_law cdv_law ct_law : Value}
    (n_abs : PySem.W.nsIn K mainGlobals "abs" = some none)
    (n_all : PySem.W.nsIn K mainGlobals "all" = some none)
    (n_any : PySem.W.nsIn K mainGlobals "any" = some none)
    (n_int : PySem.W.nsIn K mainGlobals "int" = some none)
    (n_len : PySem.W.nsIn K mainGlobals "len" = some none)
    (n_range : PySem.W.nsIn K mainGlobals "range" = some none)
    (n_sorted : PySem.W.nsIn K mainGlobals "sorted" = some none)
    (n_sum : PySem.W.nsIn K mainGlobals "sum" = some none)
    (n_tuple : PySem.W.nsIn K mainGlobals "tuple" = some none)
    (n_zip : PySem.W.nsIn K mainGlobals "zip" = some none)
    (a_KINDS : PySem.W.nsIn K mainGlobals "KINDS" = some (some (.ref p_KINDS)))
    (l_KINDS : K.lookup p_KINDS = some ⟨c_KINDS, dd_KINDS, .seq vs_KINDS m_KINDS, sl_KINDS⟩)
    (t_KINDS : c_KINDS = .type "tuple")
    (z_KINDS : vs_KINDS.size ≤ 1000)
    (f_KINDS : flatA vs_KINDS.toList [(.str "sharp"), (.str "flat")] = true)
    (a_MOST_DEEP : PySem.W.nsIn K mainGlobals "MOST_DEEP" = some (some u_MOST_DEEP))
    (f_MOST_DEEP : flat1 u_MOST_DEEP k_MOST_DEEP = true)
    (a__law_tape : PySem.W.nsIn K mainGlobals "_law_tape" = some (some (.ref f__law_tape)))
    (l__law_tape : K.lookup f__law_tape = some ⟨oc__law_tape, od__law_tape, .func (PySem.W.fnOf "_law_tape" "_law_tape" (defArgs s__law_tape) (defBody s__law_tape) (defScope s__law_tape) .none kV__law_tape doc__law_tape pm__law_tape an__law_tape cdv__law_tape ct__law_tape), osl__law_tape⟩)
    (c__law_tape : PySem.W.codeIn K cdv__law_tape "_law_tape" = true)
    (k__law_tape : PySem.W.keepIn K (.ref f__law_tape) = true)
    (a_turned : PySem.W.nsIn K mainGlobals "turned" = some (some (.ref f_turned)))
    (l_turned : K.lookup f_turned = some ⟨oc_turned, od_turned, .func (PySem.W.fnOf "turned" "turned" (defArgs s_turned) (defBody s_turned) (defScope s_turned) .none kV_turned doc_turned pm_turned an_turned cdv_turned ct_turned), osl_turned⟩)
    (c_turned : PySem.W.codeIn K cdv_turned "turned" = true)
    (k_turned : PySem.W.keepIn K (.ref f_turned) = true)
    (a_first_wheel : PySem.W.nsIn K mainGlobals "first_wheel" = some (some (.ref f_first_wheel)))
    (l_first_wheel : K.lookup f_first_wheel = some ⟨oc_first_wheel, od_first_wheel, .func (PySem.W.fnOf "first_wheel" "first_wheel" (defArgs s_first_wheel) (defBody s_first_wheel) (defScope s_first_wheel) .none kV_first_wheel doc_first_wheel pm_first_wheel an_first_wheel cdv_first_wheel ct_first_wheel), osl_first_wheel⟩)
    (c_first_wheel : PySem.W.codeIn K cdv_first_wheel "first_wheel" = true)
    (k_first_wheel : PySem.W.keepIn K (.ref f_first_wheel) = true)
    (a_plus : PySem.W.nsIn K mainGlobals "plus" = some (some (.ref f_plus)))
    (l_plus : K.lookup f_plus = some ⟨oc_plus, od_plus, .func (PySem.W.fnOf "plus" "plus" (defArgs s_plus) (defBody s_plus) (defScope s_plus) .none kV_plus doc_plus pm_plus an_plus cdv_plus ct_plus), osl_plus⟩)
    (c_plus : PySem.W.codeIn K cdv_plus "plus" = true)
    (k_plus : PySem.W.keepIn K (.ref f_plus) = true)
    (a__law_longer : PySem.W.nsIn K mainGlobals "_law_longer" = some (some (.ref f__law_longer)))
    (l__law_longer : K.lookup f__law_longer = some ⟨oc__law_longer, od__law_longer, .func (PySem.W.fnOf "_law_longer" "_law_longer" (defArgs s__law_longer) (defBody s__law_longer) (defScope s__law_longer) .none kV__law_longer doc__law_longer pm__law_longer an__law_longer cdv__law_longer ct__law_longer), osl__law_longer⟩)
    (c__law_longer : PySem.W.codeIn K cdv__law_longer "_law_longer" = true)
    (k__law_longer : PySem.W.keepIn K (.ref f__law_longer) = true)
    (a__law_bent : PySem.W.nsIn K mainGlobals "_law_bent" = some (some (.ref f__law_bent)))
    (l__law_bent : K.lookup f__law_bent = some ⟨oc__law_bent, od__law_bent, .func (PySem.W.fnOf "_law_bent" "_law_bent" (defArgs s__law_bent) (defBody s__law_bent) (defScope s__law_bent) .none kV__law_bent doc__law_bent pm__law_bent an__law_bent cdv__law_bent ct__law_bent), osl__law_bent⟩)
    (c__law_bent : PySem.W.codeIn K cdv__law_bent "_law_bent" = true)
    (k__law_bent : PySem.W.keepIn K (.ref f__law_bent) = true)
    (a_minus : PySem.W.nsIn K mainGlobals "minus" = some (some (.ref f_minus)))
    (l_minus : K.lookup f_minus = some ⟨oc_minus, od_minus, .func (PySem.W.fnOf "minus" "minus" (defArgs s_minus) (defBody s_minus) (defScope s_minus) .none kV_minus doc_minus pm_minus an_minus cdv_minus ct_minus), osl_minus⟩)
    (c_minus : PySem.W.codeIn K cdv_minus "minus" = true)
    (k_minus : PySem.W.keepIn K (.ref f_minus) = true)
    (a_shorter : PySem.W.nsIn K mainGlobals "shorter" = some (some (.ref f_shorter)))
    (l_shorter : K.lookup f_shorter = some ⟨oc_shorter, od_shorter, .func (PySem.W.fnOf "shorter" "shorter" (defArgs s_shorter) (defBody s_shorter) (defScope s_shorter) .none kV_shorter doc_shorter pm_shorter an_shorter cdv_shorter ct_shorter), osl_shorter⟩)
    (c_shorter : PySem.W.codeIn K cdv_shorter "shorter" = true)
    (k_shorter : PySem.W.keepIn K (.ref f_shorter) = true)
    (a_cut : PySem.W.nsIn K mainGlobals "cut" = some (some (.ref f_cut)))
    (l_cut : K.lookup f_cut = some ⟨oc_cut, od_cut, .func (PySem.W.fnOf "cut" "cut" (defArgs s_cut) (defBody s_cut) (defScope s_cut) .none kV_cut doc_cut pm_cut an_cut cdv_cut ct_cut), osl_cut⟩)
    (c_cut : PySem.W.codeIn K cdv_cut "cut" = true)
    (k_cut : PySem.W.keepIn K (.ref f_cut) = true)
    (a_deeper : PySem.W.nsIn K mainGlobals "deeper" = some (some (.ref f_deeper)))
    (l_deeper : K.lookup f_deeper = some ⟨oc_deeper, od_deeper, .func (PySem.W.fnOf "deeper" "deeper" (defArgs s_deeper) (defBody s_deeper) (defScope s_deeper) .none kV_deeper doc_deeper pm_deeper an_deeper cdv_deeper ct_deeper), osl_deeper⟩)
    (c_deeper : PySem.W.codeIn K cdv_deeper "deeper" = true)
    (k_deeper : PySem.W.keepIn K (.ref f_deeper) = true)
    (a__law_take : PySem.W.nsIn K mainGlobals "_law_take" = some (some (.ref f__law_take)))
    (l__law_take : K.lookup f__law_take = some ⟨oc__law_take, od__law_take, .func (PySem.W.fnOf "_law_take" "_law_take" (defArgs s__law_take) (defBody s__law_take) (defScope s__law_take) .none kV__law_take doc__law_take pm__law_take an__law_take cdv__law_take ct__law_take), osl__law_take⟩)
    (c__law_take : PySem.W.codeIn K cdv__law_take "_law_take" = true)
    (k__law_take : PySem.W.keepIn K (.ref f__law_take) = true)
    (a_kind_counts : PySem.W.nsIn K mainGlobals "kind_counts" = some (some (.ref f_kind_counts)))
    (l_kind_counts : K.lookup f_kind_counts = some ⟨oc_kind_counts, od_kind_counts, .func (PySem.W.fnOf "kind_counts" "kind_counts" (defArgs s_kind_counts) (defBody s_kind_counts) (defScope s_kind_counts) .none kV_kind_counts doc_kind_counts pm_kind_counts an_kind_counts cdv_kind_counts ct_kind_counts), osl_kind_counts⟩)
    (c_kind_counts : PySem.W.codeIn K cdv_kind_counts "kind_counts" = true)
    (k_kind_counts : PySem.W.keepIn K (.ref f_kind_counts) = true)
    (a_side_counts : PySem.W.nsIn K mainGlobals "side_counts" = some (some (.ref f_side_counts)))
    (l_side_counts : K.lookup f_side_counts = some ⟨oc_side_counts, od_side_counts, .func (PySem.W.fnOf "side_counts" "side_counts" (defArgs s_side_counts) (defBody s_side_counts) (defScope s_side_counts) .none kV_side_counts doc_side_counts pm_side_counts an_side_counts cdv_side_counts ct_side_counts), osl_side_counts⟩)
    (c_side_counts : PySem.W.codeIn K cdv_side_counts "side_counts" = true)
    (k_side_counts : PySem.W.keepIn K (.ref f_side_counts) = true)
    (a_points_of : PySem.W.nsIn K mainGlobals "points_of" = some (some (.ref f_points_of)))
    (l_points_of : K.lookup f_points_of = some ⟨oc_points_of, od_points_of, .func (PySem.W.fnOf "points_of" "points_of" (defArgs s_points_of) (defBody s_points_of) (defScope s_points_of) .none kV_points_of doc_points_of pm_points_of an_points_of cdv_points_of ct_points_of), osl_points_of⟩)
    (c_points_of : PySem.W.codeIn K cdv_points_of "points_of" = true)
    (k_points_of : PySem.W.keepIn K (.ref f_points_of) = true)
    (a__law_euler : PySem.W.nsIn K mainGlobals "_law_euler" = some (some (.ref f__law_euler)))
    (l__law_euler : K.lookup f__law_euler = some ⟨oc__law_euler, od__law_euler, .func (PySem.W.fnOf "_law_euler" "_law_euler" (defArgs s__law_euler) (defBody s__law_euler) (defScope s__law_euler) .none kV__law_euler doc__law_euler pm__law_euler an__law_euler cdv__law_euler ct__law_euler), osl__law_euler⟩)
    (c__law_euler : PySem.W.codeIn K cdv__law_euler "_law_euler" = true)
    (k__law_euler : PySem.W.keepIn K (.ref f__law_euler) = true)
    (a__law_cross : PySem.W.nsIn K mainGlobals "_law_cross" = some (some (.ref f__law_cross)))
    (l__law_cross : K.lookup f__law_cross = some ⟨oc__law_cross, od__law_cross, .func (PySem.W.fnOf "_law_cross" "_law_cross" (defArgs s__law_cross) (defBody s__law_cross) (defScope s__law_cross) .none kV__law_cross doc__law_cross pm__law_cross an__law_cross cdv__law_cross ct__law_cross), osl__law_cross⟩)
    (c__law_cross : PySem.W.codeIn K cdv__law_cross "_law_cross" = true)
    (k__law_cross : PySem.W.keepIn K (.ref f__law_cross) = true)
    (a__law_area : PySem.W.nsIn K mainGlobals "_law_area" = some (some (.ref f__law_area)))
    (l__law_area : K.lookup f__law_area = some ⟨oc__law_area, od__law_area, .func (PySem.W.fnOf "_law_area" "_law_area" (defArgs s__law_area) (defBody s__law_area) (defScope s__law_area) .none kV__law_area doc__law_area pm__law_area an__law_area cdv__law_area ct__law_area), osl__law_area⟩)
    (c__law_area : PySem.W.codeIn K cdv__law_area "_law_area" = true)
    (k__law_area : PySem.W.keepIn K (.ref f__law_area) = true)
    (a__law_areas : PySem.W.nsIn K mainGlobals "_law_areas" = some (some (.ref f__law_areas)))
    (l__law_areas : K.lookup f__law_areas = some ⟨oc__law_areas, od__law_areas, .func (PySem.W.fnOf "_law_areas" "_law_areas" (defArgs s__law_areas) (defBody s__law_areas) (defScope s__law_areas) .none kV__law_areas doc__law_areas pm__law_areas an__law_areas cdv__law_areas ct__law_areas), osl__law_areas⟩)
    (c__law_areas : PySem.W.codeIn K cdv__law_areas "_law_areas" = true)
    (k__law_areas : PySem.W.keepIn K (.ref f__law_areas) = true)
    (a_counts_of_cut : PySem.W.nsIn K mainGlobals "counts_of_cut" = some (some (.ref f_counts_of_cut)))
    (l_counts_of_cut : K.lookup f_counts_of_cut = some ⟨oc_counts_of_cut, od_counts_of_cut, .func (PySem.W.fnOf "counts_of_cut" "counts_of_cut" (defArgs s_counts_of_cut) (defBody s_counts_of_cut) (defScope s_counts_of_cut) .none kV_counts_of_cut doc_counts_of_cut pm_counts_of_cut an_counts_of_cut cdv_counts_of_cut ct_counts_of_cut), osl_counts_of_cut⟩)
    (c_counts_of_cut : PySem.W.codeIn K cdv_counts_of_cut "counts_of_cut" = true)
    (k_counts_of_cut : PySem.W.keepIn K (.ref f_counts_of_cut) = true)
    (a_size_of : PySem.W.nsIn K mainGlobals "size_of" = some (some (.ref f_size_of)))
    (l_size_of : K.lookup f_size_of = some ⟨oc_size_of, od_size_of, .func (PySem.W.fnOf "size_of" "size_of" (defArgs s_size_of) (defBody s_size_of) (defScope s_size_of) .none kV_size_of doc_size_of pm_size_of an_size_of cdv_size_of ct_size_of), osl_size_of⟩)
    (c_size_of : PySem.W.codeIn K cdv_size_of "size_of" = true)
    (k_size_of : PySem.W.keepIn K (.ref f_size_of) = true)
    (a_is_true_kind : PySem.W.nsIn K mainGlobals "is_true_kind" = some (some (.ref f_is_true_kind)))
    (l_is_true_kind : K.lookup f_is_true_kind = some ⟨oc_is_true_kind, od_is_true_kind, .func (PySem.W.fnOf "is_true_kind" "is_true_kind" (defArgs s_is_true_kind) (defBody s_is_true_kind) (defScope s_is_true_kind) .none kV_is_true_kind doc_is_true_kind pm_is_true_kind an_is_true_kind cdv_is_true_kind ct_is_true_kind), osl_is_true_kind⟩)
    (c_is_true_kind : PySem.W.codeIn K cdv_is_true_kind "is_true_kind" = true)
    (k_is_true_kind : PySem.W.keepIn K (.ref f_is_true_kind) = true)
    (a__law_area_right : PySem.W.nsIn K mainGlobals "_law_area_right" = some (some (.ref f__law_area_right)))
    (l__law_area_right : K.lookup f__law_area_right = some ⟨oc__law_area_right, od__law_area_right, .func (PySem.W.fnOf "_law_area_right" "_law_area_right" (defArgs s__law_area_right) (defBody s__law_area_right) (defScope s__law_area_right) .none kV__law_area_right doc__law_area_right pm__law_area_right an__law_area_right cdv__law_area_right ct__law_area_right), osl__law_area_right⟩)
    (c__law_area_right : PySem.W.codeIn K cdv__law_area_right "_law_area_right" = true)
    (k__law_area_right : PySem.W.keepIn K (.ref f__law_area_right) = true)
    (a_law : PySem.W.nsIn K mainGlobals "law" = some (some (.ref f_law)))
    (l_law : K.lookup f_law = some ⟨oc_law, od_law, .func (PySem.W.fnOf "law" "law" (defArgs s_law) (defBody s_law) (defScope s_law) .none kV_law doc_law pm_law an_law cdv_law ct_law), osl_law⟩)
    (c_law : PySem.W.codeIn K cdv_law "law" = true)
    (k_law : PySem.W.keepIn K (.ref f_law) = true)
    : ∃ fd : FuncData, (∀ (s : Shared) (u : Value), BindsTo s fd ⟨[u], []⟩ [("script", u)]) ∧ ∀ base : Heap, K.In base → base.Ns mainGlobals mg → FnOk P w K mg base CX0 5 fa fd ["script"] (spD ⟨P, w, K⟩ F_law) := by
  have hy : Hy P w K mg := ⟨PySem.W.mg_none_of KX G n_abs,
    PySem.W.mg_none_of KX G n_all,
    PySem.W.mg_none_of KX G n_any,
    PySem.W.mg_none_of KX G n_int,
    PySem.W.mg_none_of KX G n_len,
    PySem.W.mg_none_of KX G n_range,
    PySem.W.mg_none_of KX G n_sorted,
    PySem.W.mg_none_of KX G n_sum,
    PySem.W.mg_none_of KX G n_tuple,
    PySem.W.mg_none_of KX G n_zip,
    glD_tup KX G a_KINDS l_KINDS t_KINDS z_KINDS f_KINDS,
    glD_flat KX G a_MOST_DEEP f_MOST_DEEP,
    defAt_mk KX G a__law_tape l__law_tape c__law_tape k__law_tape (fun _ _ _ _ _ _ us hl => match us, hl with | [_], _ => rfl),
    defAt_mk KX G a_turned l_turned c_turned k_turned (fun _ _ _ _ _ _ us hl => match us, hl with | [_, _], _ => rfl),
    defAt_mk KX G a_first_wheel l_first_wheel c_first_wheel k_first_wheel (fun _ _ _ _ _ _ us hl => match us, hl with | [], _ => rfl),
    defAt_mk KX G a_plus l_plus c_plus k_plus (fun _ _ _ _ _ _ us hl => match us, hl with | [_, _], _ => rfl),
    defAt_mk KX G a__law_longer l__law_longer c__law_longer k__law_longer (fun _ _ _ _ _ _ us hl => match us, hl with | [_], _ => rfl),
    defAt_mk KX G a__law_bent l__law_bent c__law_bent k__law_bent (fun _ _ _ _ _ _ us hl => match us, hl with | [_, _, _, _], _ => rfl),
    defAt_mk KX G a_minus l_minus c_minus k_minus (fun _ _ _ _ _ _ us hl => match us, hl with | [_, _], _ => rfl),
    defAt_mk KX G a_shorter l_shorter c_shorter k_shorter (fun _ _ _ _ _ _ us hl => match us, hl with | [_], _ => rfl),
    defAt_mk KX G a_cut l_cut c_cut k_cut (fun _ _ _ _ _ _ us hl => match us, hl with | [_], _ => rfl),
    defAt_mk KX G a_deeper l_deeper c_deeper k_deeper (fun _ _ _ _ _ _ us hl => match us, hl with | [_, _], _ => rfl),
    defAt_mk KX G a__law_take l__law_take c__law_take k__law_take (fun _ _ _ _ _ _ us hl => match us, hl with | [_, _], _ => rfl),
    defAt_mk KX G a_kind_counts l_kind_counts c_kind_counts k_kind_counts (fun _ _ _ _ _ _ us hl => match us, hl with | [_], _ => rfl),
    defAt_mk KX G a_side_counts l_side_counts c_side_counts k_side_counts (fun _ _ _ _ _ _ us hl => match us, hl with | [_], _ => rfl),
    defAt_mk KX G a_points_of l_points_of c_points_of k_points_of (fun _ _ _ _ _ _ us hl => match us, hl with | [_], _ => rfl),
    defAt_mk KX G a__law_euler l__law_euler c__law_euler k__law_euler (fun _ _ _ _ _ _ us hl => match us, hl with | [_], _ => rfl),
    defAt_mk KX G a__law_cross l__law_cross c__law_cross k__law_cross (fun _ _ _ _ _ _ us hl => match us, hl with | [_, _], _ => rfl),
    defAt_mk KX G a__law_area l__law_area c__law_area k__law_area (fun _ _ _ _ _ _ us hl => match us, hl with | [_], _ => rfl),
    defAt_mk KX G a__law_areas l__law_areas c__law_areas k__law_areas (fun _ _ _ _ _ _ us hl => match us, hl with | [_], _ => rfl),
    defAt_mk KX G a_counts_of_cut l_counts_of_cut c_counts_of_cut k_counts_of_cut (fun _ _ _ _ _ _ us hl => match us, hl with | [_, _, _], _ => rfl),
    defAt_mk KX G a_size_of l_size_of c_size_of k_size_of (fun _ _ _ _ _ _ us hl => match us, hl with | [_], _ => rfl),
    defAt_mk KX G a_is_true_kind l_is_true_kind c_is_true_kind k_is_true_kind (fun _ _ _ _ _ _ us hl => match us, hl with | [_], _ => rfl),
    defAt_mk KX G a__law_area_right l__law_area_right c__law_area_right k__law_area_right (fun _ _ _ _ _ _ us hl => match us, hl with | [_], _ => rfl),
    defAt_mk KX G a_law l_law c_law k_law (fun _ _ _ _ _ _ us hl => match us, hl with | [_], _ => rfl)⟩
  have e := hfa.symm.trans (PySem.W.mg_of KX G a_law)
  cases e
  have F := fun_mk (st := s_law) l_law c_law k_law
  exact ⟨_, law_fd F (fun _ _ _ _ _ _ _ => rfl), fun base _ _ => d_all (base := base) hy F⟩
end
end K38

set_option Elab.async false
set_option linter.all false
set_option maxRecDepth 100000
set_option maxHeartbeats 4000000
/-! K38M1: what the defs compute. -/
namespace K38
open PySem DL
structure Pt where
  a : Int
  b : Int
  c : Int
  d : Int
deriving DecidableEq
abbrev pt (p : Pt) : D := .tuple [.int p.a, .int p.b, .int p.c, .int p.d]
def Pt.add (p q : Pt) : Pt := ⟨p.a + q.a, p.b + q.b, p.c + q.c, p.d + q.d⟩
def Pt.sub (p q : Pt) : Pt := ⟨p.a - q.a, p.b - q.b, p.c - q.c, p.d - q.d⟩
def Pt.rot (p : Pt) : Pt := ⟨-p.d, p.a + p.d, p.b - p.d, p.c + p.d⟩
def Pt.turn : Nat → Pt → Pt
  | 0, p => p
  | n + 1, p => Pt.turn n p.rot
def Pt.longer (p : Pt) : Pt := (p.turn 1).add (p.turn 9)
def Pt.shorter (p : Pt) : Pt := p.longer.sub p
theorem sz4 : 4 < sizeLine := by decide
theorem F_plus_ok (p q : Pt) : F_plus [pt p, pt q] = some (pt (p.add q)) := by
  simp [F_plus, b_plus, fnD, sSeq, sIf, sSet, sRet, sTgt, sPar, sSkip, sMu, sApp, sRetMu, sFor, forL, andB, orB, notB, tst, tru, truD, binD, unD, vVar, vMu, vC, vTup, vLst, aNil, aCons, callD, ifE, iSeq, seqD, iZip, zipT, lcD, lcLoop, wipeG, setG, gNm, gTp, gsCons, gsNil, bYes, tupD, lenD, addD, subD, negD, intD, eqD_int, neD_int, chD, List.replicate, sz4, Pt.add]
theorem F_minus_ok (p q : Pt) : F_minus [pt p, pt q] = some (pt (p.sub q)) := by
  simp [F_minus, b_minus, fnD, sSeq, sIf, sSet, sRet, sTgt, sPar, sSkip, sMu, sApp, sRetMu, sFor, forL, andB, orB, notB, tst, tru, truD, binD, unD, vVar, vMu, vC, vTup, vLst, aNil, aCons, callD, ifE, iSeq, seqD, iZip, zipT, lcD, lcLoop, wipeG, setG, gNm, gTp, gsCons, gsNil, bYes, tupD, lenD, addD, subD, negD, intD, eqD_int, neD_int, chD, List.replicate, sz4, Pt.sub]
theorem turn_loop (t : Tape) (m : Slot) : ∀ (ds : List D) (p : Pt) (s a b c d : Slot), ∃ s' a' b' c' d', forL (gNm 2)
  (sSeq (sTgt (gTp 4 (gsCons (gNm 3) (gsCons (gNm 4) (gsCons (gNm 5) (gsCons (gNm 6) gsNil))))) (vVar 0))
  (sSet 0 (vTup (aCons (unD negD (vVar 6)) (aCons (binD addD (vVar 3) (vVar 6)) (aCons (binD subD (vVar 4) (vVar 6)) (aCons (binD addD (vVar 5) (vVar 6)) aNil))))))) ds [.fz (pt p), m, s, a, b, c, d] t = some (.nx [.fz (pt (p.turn ds.length)), m, s', a', b', c', d'] t)
  | [], p, s, a, b, c, d => ⟨s, a, b, c, d, rfl⟩
  | x :: ds, p, s, a, b, c, d => by
    obtain ⟨s', a', b', c', d', h⟩ := turn_loop t m ds p.rot (.fz x) (.fz (.int p.a)) (.fz (.int p.b)) (.fz (.int p.c)) (.fz (.int p.d))
    refine ⟨s', a', b', c', d', ?_⟩
    have e : (PyData.tuple [PyData.int (-p.d), PyData.int (p.a + p.d), PyData.int (p.b - p.d), PyData.int (p.c + p.d)]) = pt p.rot := rfl
    simp [fnD, sSeq, sIf, sSet, sRet, sTgt, sPar, sSkip, sMu, sApp, sRetMu, sFor, forL, andB, orB, notB, tst, tru, truD, binD, unD, vVar, vMu, vC, vTup, vLst, aNil, aCons, callD, ifE, iSeq, seqD, iZip, zipT, lcD, lcLoop, wipeG, setG, gNm, gTp, gsCons, gsNil, bYes, tupD, lenD, addD, subD, negD, intD, eqD_int, neD_int, chD, List.replicate, e] at h ⊢
    exact h
theorem F_turned_ok (p : Pt) (m : Int) : F_turned [pt p, .int m] = some (pt (p.turn (m % 10).toNat)) := by
  obtain ⟨s', a', b', c', d', h⟩ := turn_loop tape0 (.fz (.int m)) (rngI 0 (m % 10)) p .no .no .no .no .no
  rw [rngI_length] at h
  have hs : smallR (m % 10) = true := by
    unfold smallR
    rw [Bool.and_eq_true, decide_eq_true_eq, decide_eq_true_eq]
    omega
  have hm : modD (.int m) (.int 10) = some (.int (m % 10)) := mod_pos (by decide)
  show ((b_turned [.fz (pt p), .fz (.int m), .no, .no, .no, .no, .no] tape0) >>= _) = _
  have e : b_turned [.fz (pt p), .fz (.int m), .no, .no, .no, .no, .no] tape0 = some (.rt (pt (p.turn (m % 10).toNat)) tape0) := by
    unfold b_turned
    refine (seq_nx (Γ' := [.fz (pt (p.turn (m % 10).toNat)), .fz (.int m), s', a', b', c', d']) (t' := tape0) ?_).trans rfl
    have hi : iRng1 (binD modD (vVar 1) (vC (.int 10))) [.fz (pt p), .fz (.int m), .no, .no, .no, .no, .no] tape0 = some (rngI 0 (m % 10), tape0) := by
      simp [iRng1, binD, vVar, vC, hm, hs]
    unfold sFor
    rw [hi]
    rw [show m % 10 - 0 = m % 10 by omega] at h
    exact h
  rw [e]
  rfl
theorem F_longer_ok (p : Pt) : F__law_longer [pt p] = some (pt p.longer) := by
  have h1 : F_turned [pt p, .int 1] = some (pt (p.turn 1)) := F_turned_ok p 1
  have h9 : F_turned [pt p, .int 9] = some (pt (p.turn 9)) := F_turned_ok p 9
  have h := F_plus_ok (p.turn 1) (p.turn 9)
  simp [F__law_longer, b__law_longer, fnD, sRet, callD, aCons, aNil, vVar, vC, h1, h9, h, Pt.longer]
theorem F_shorter_ok (p : Pt) : F_shorter [pt p] = some (pt p.shorter) := by
  have h1 : F_turned [pt p, .int 1] = some (pt (p.turn 1)) := F_turned_ok p 1
  have h9 : F_turned [pt p, .int 9] = some (pt (p.turn 9)) := F_turned_ok p 9
  have h := F_plus_ok (p.turn 1) (p.turn 9)
  have h2 := F_minus_ok p.longer p
  rw [Pt.longer] at h2
  simp [F_shorter, b_shorter, fnD, sSeq, sSet, sRet, callD, aCons, aNil, vVar, vC, h1, h9, h, h2, Pt.shorter, Pt.longer]
/-! ### triangles -/
structure Tr where
  s : Bool
  x : Pt
  y : Pt
  z : Pt
deriving DecidableEq
def kd (b : Bool) : D := .str (if b then "sharp" else "flat")
abbrev td (T : Tr) : D := .tuple [kd T.s, pt T.x, pt T.y, pt T.z]
abbrev tds (L : List Tr) : D := .tuple (L.map td)
theorem eq_kd (b : Bool) : eqD (kd b) (.str "sharp") = some (.bool b) := by cases b <;> rfl
def cutL (T : Tr) : List Tr :=
  if T.s then
    let m := T.x.add (T.y.sub T.x).shorter
    [⟨true, T.z, m, T.y⟩, ⟨false, m, T.z, T.x⟩]
  else
    let f := T.y.add (T.x.sub T.y).shorter
    let g := T.y.add (T.z.sub T.y).shorter
    [⟨false, g, T.z, T.x⟩, ⟨false, f, g, T.y⟩, ⟨true, g, f, T.x⟩]
theorem F_cut_ok (T : Tr) : F_cut [td T] = some (tds (cutL T)) := by
  obtain ⟨s, x, y, z⟩ := T
  have e : eqD (kd s) (.str "sharp") = some (.bool s) := eq_kd s
  cases s with
  | true =>
    simp [F_cut, b_cut, fnD, sSeq, sIf, sSet, sRet, sTgt, sPar, sSkip, sMu, sApp, sRetMu, sFor, forL, andB, orB, notB, tst, tru, truD, binD, unD, vVar, vMu, vC, vTup, vLst, aNil, aCons, callD, ifE, iSeq, seqD, iZip, zipT, lcD, lcLoop, wipeG, setG, gNm, gTp, gsCons, gsNil, bYes, tupD, lenD, addD, subD, negD, intD, eqD_int, neD_int, chD, List.replicate, e, F_minus_ok, F_shorter_ok, F_plus_ok, cutL]
    exact ⟨rfl, rfl⟩
  | false =>
    simp [F_cut, b_cut, fnD, sSeq, sIf, sSet, sRet, sTgt, sPar, sSkip, sMu, sApp, sRetMu, sFor, forL, andB, orB, notB, tst, tru, truD, binD, unD, vVar, vMu, vC, vTup, vLst, aNil, aCons, callD, ifE, iSeq, seqD, iZip, zipT, lcD, lcLoop, wipeG, setG, gNm, gTp, gsCons, gsNil, bYes, tupD, lenD, addD, subD, negD, intD, eqD_int, neD_int, chD, List.replicate, e, F_minus_ok, F_shorter_ok, F_plus_ok, cutL]
    exact ⟨rfl, rfl⟩
/-! ### rounds -/
def deep : Nat → List Tr → List Tr
  | 0, L => L
  | n + 1, L => deep n (L.flatMap cutL)
theorem cutL_len (T : Tr) : (cutL T).length ≤ 3 := by
  unfold cutL
  split
  · exact (by decide : 2 ≤ 3)
  · exact Nat.le_refl 3
theorem flat_len (L : List Tr) : (L.flatMap cutL).length ≤ 3 * L.length := by
  induction L with
  | nil => exact Nat.le_refl _
  | cons T L ih =>
    rw [List.flatMap_cons, List.length_append, List.length_cons]
    have := cutL_len T
    omega
theorem deep_len : ∀ (n : Nat) (L : List Tr), (deep n L).length ≤ 3 ^ n * L.length
  | 0, L => by simp [deep]
  | n + 1, L => by
    have h1 := deep_len n (L.flatMap cutL)
    have h2 := flat_len L
    have h3 : 3 ^ n * (L.flatMap cutL).length ≤ 3 ^ n * (3 * L.length) := Nat.mul_le_mul_left _ h2
    rw [deep, Nat.pow_succ, Nat.mul_assoc]
    exact Nat.le_trans h1 h3
theorem in_kinds (b : Bool) : inD (kd b) k_KINDS = some (.bool true) := by cases b <;> rfl
theorem all_kinds (g : Env') (hg : g.length = 6) (t : Tape) : ∀ L : List Tr, lcLoop (gNm 4) bYes (inU (binD ixD (vVar 4) (vC (.int 0))) (vC k_KINDS)) g (L.map td) t = some (L.map fun _ => .bool true, t)
  | [] => rfl
  | T :: L => by
    have h4 : (g.set 4 (.fz (td T)))[4]? = some (.fz (td T)) := List.getElem?_set_self (by omega)
    have hx : ixD (td T) (.int 0) = some (kd T.s) := rfl
    have hk : k_KINDS = .tuple [.str "sharp", .str "flat"] := rfl
    have ih := all_kinds g hg t L
    simp [fnD, sSeq, sIf, sSet, sRet, sTgt, sPar, sSkip, sMu, sApp, sRetMu, sFor, forL, andB, orB, notB, tst, tru, truD, binD, unD, vVar, vMu, vC, vTup, vLst, aNil, aCons, callD, ifE, iSeq, seqD, iZip, zipT, lcD, lcLoop, wipeG, setG, gNm, gTp, gsCons, gsNil, bYes, tupD, lenD, addD, subD, negD, intD, eqD_int, neD_int, chD, List.replicate, inU, eIf, inDc, isDc, h4, hx, in_kinds] at ih ⊢
    rw [hk] at ih ⊢
    simp at ih ⊢
    rw [← hk] at ih ⊢
    simp [in_kinds, ih]
end K38

set_option Elab.async false
set_option linter.all false
set_option maxRecDepth 100000
set_option maxHeartbeats 4000000
/-! K38M2: rounds, counts, bent ones. -/
namespace K38
open PySem DL
theorem same_loop (i : Nat) (g : Env') (hg : i < g.length) (t : Tape) : ∀ xs : List D, lcLoop (gNm i) bYes (vVar i) g xs t = some (xs, t)
  | [] => rfl
  | x :: xs => by
    have h : (g.set i (.fz x))[i]? = some (.fz x) := List.getElem?_set_self hg
    have ih := same_loop i g hg t xs
    simp [fnD, sSeq, sIf, sSet, sRet, sTgt, sPar, sSkip, sMu, sApp, sRetMu, sFor, forL, andB, orB, notB, tst, tru, truD, binD, unD, vVar, vMu, vC, vTup, vLst, aNil, aCons, callD, ifE, iSeq, seqD, iZip, zipT, lcD, lcLoop, wipeG, setG, gNm, gTp, gsCons, gsNil, bYes, tupD, lenD, addD, subD, negD, intD, eqD_int, neD_int, chD, List.replicate, h] at ih ⊢
    simp [ih]
theorem cut_loop (g : Env') (hg : g.length = 6) (t : Tape) : ∀ L : List Tr, lc2Loop (gNm 4) bYes (iSeq (callD F_cut (aCons (vVar 4) aNil))) [5] (gNm 5) bYes (vVar 5) g (L.map td) t = some ((L.flatMap cutL).map td, t)
  | [] => rfl
  | T :: L => by
    have h : (g.set 4 (.fz (td T)))[4]? = some (.fz (td T)) := List.getElem?_set_self (by omega)
    have ih := cut_loop g hg t L
    have h2 := F_cut_ok T
    have h3 := same_loop 5 (wipeG (setG g [(4, td T)]) [5]) (by simp [wipeG, setG]; omega) t ((cutL T).map td)
    simp [lc2Loop, fnD, sSeq, sIf, sSet, sRet, sTgt, sPar, sSkip, sMu, sApp, sRetMu, sFor, forL, andB, orB, notB, tst, tru, truD, binD, unD, vVar, vMu, vC, vTup, vLst, aNil, aCons, callD, ifE, iSeq, seqD, iZip, zipT, lcD, lcLoop, wipeG, setG, gNm, gTp, gsCons, gsNil, bYes, tupD, lenD, addD, subD, negD, intD, eqD_int, neD_int, chD, List.replicate, h, h2] at ih h3 ⊢
    simp [h3, ih]
theorem rounds (t : Tape) (a b e f : Slot) : ∀ (ds : List D) (L : List Tr) (s : Slot), 3 ^ ds.length * L.length ≤ sizeLine → ∃ s', forL (gNm 3)
  (sSet 2 (unD tupD (lc2D (iSeq (vVar 2)) [4, 5] (gNm 4) bYes (iSeq (callD F_cut (aCons (vVar 4) aNil))) [5] (gNm 5) bYes (vVar 5)))) ds [a, b, .fz (tds L), s, e, f] t = some (.nx [a, b, .fz (tds (deep ds.length L)), s', e, f] t)
  | [], L, s, _ => ⟨s, rfl⟩
  | x :: ds, L, s, hz => by
    have hl := flat_len L
    rw [List.length_cons, Nat.pow_succ, Nat.mul_assoc] at hz
    have hz2 : 3 ^ ds.length * (L.flatMap cutL).length ≤ sizeLine := Nat.le_trans (Nat.mul_le_mul_left _ hl) hz
    have hz3 : (L.flatMap cutL).length ≤ sizeLine := by
      refine Nat.le_trans ?_ hz2
      exact Nat.le_mul_of_pos_left _ (Nat.pos_of_ne_zero (by simp))
    obtain ⟨s', h⟩ := rounds t a b e f ds (L.flatMap cutL) (.fz x) hz2
    have hc := cut_loop (wipeG [a, b, .fz (tds L), .fz x, e, f] [4, 5]) rfl t L
    refine ⟨s', ?_⟩
    have e1 : sSet 2 (unD tupD (lc2D (iSeq (vVar 2)) [4, 5] (gNm 4) bYes (iSeq (callD F_cut (aCons (vVar 4) aNil))) [5] (gNm 5) bYes (vVar 5))) [a, b, .fz (tds L), .fz x, e, f] t = some (.nx [a, b, .fz (tds (L.flatMap cutL)), .fz x, e, f] t) := by
      have e2 : lc2D (iSeq (vVar 2)) [4, 5] (gNm 4) bYes (iSeq (callD F_cut (aCons (vVar 4) aNil))) [5] (gNm 5) bYes (vVar 5) [a, b, .fz (tds L), .fz x, e, f] t = some (.list ((L.flatMap cutL).map td), t) := by
        unfold lc2D
        show (lc2Loop _ _ _ _ _ _ _ (wipeG [a, b, .fz (tds L), .fz x, e, f] [4, 5]) (L.map td) t >>= _) = _
        rw [hc]
        exact if_pos (by rw [List.length_map]; exact hz3)
      unfold sSet unD
      rw [e2]
      rfl
    show (sSet 2 _ [a, b, .fz (tds L), .fz x, e, f] t >>= _) = _
    rw [e1]
    exact h
theorem dp_c1 (L : List Tr) (n : Nat) (hn : n ≤ 6) : tst (chD leD leD (vC (.int 0)) (vVar 1) (vC k_MOST_DEEP)) [.fz (tds L), .fz (.int n), .no, .no, .no, .no] tape0 = some (true, tape0) := by
  have h0 : (0 : Int) ≤ n := by omega
  have h6 : (n : Int) ≤ 6 := by omega
  simp [tst, chD, vC, vVar, k_MOST_DEEP, leD, cmpI, h0, h6]
theorem bls_true : ∀ M : List Tr, blsOf (M.map fun _ => PyData.bool true) = some (M.map fun _ => true)
  | [] => rfl
  | T :: M => by
    have ih := bls_true M
    simp [blsOf] at ih ⊢
    exact ih
theorem dp_c2 (L : List Tr) (n : Nat) (hz : L.length < sizeLine) : unD allD (lcD (iSeq (vVar 0)) [4] (gNm 4) bYes (inU (binD ixD (vVar 4) (vC (.int 0))) (vC k_KINDS))) [.fz (tds L), .fz (.int n), .no, .no, .no, .no] tape0 = some (.bool true, tape0) := by
  have ha := all_kinds (wipeG [.fz (tds L), .fz (.int n), .no, .no, .no, .no] [4]) rfl tape0 L
  have c3 : lcD (iSeq (vVar 0)) [4] (gNm 4) bYes (inU (binD ixD (vVar 4) (vC (.int 0))) (vC k_KINDS)) [.fz (tds L), .fz (.int n), .no, .no, .no, .no] tape0 = some (.list (L.map fun _ => .bool true), tape0) := by
    unfold lcD
    have hi : iSeq (vVar 0) [.fz (tds L), .fz (.int n), .no, .no, .no, .no] tape0 = some (L.map td, tape0) := rfl
    rw [hi]
    simp only [Option.bind_eq_bind, Option.bind_some, List.length_map, if_pos hz]
    rw [ha]
    rfl
  unfold unD
  rw [c3]
  simp only [Option.bind_eq_bind, Option.bind_some, allD]
  rw [bls_true]
  simp
theorem F_deeper_ok (L : List Tr) (n : Nat) (hn : n ≤ 6) (hL : L.length ≤ 10000) : F_deeper [tds L, .int n] = some (tds (deep n L)) := by
  have hb : 3 ^ n * L.length ≤ sizeLine := by
    have h1 : 3 ^ n ≤ 3 ^ 6 := Nat.pow_le_pow_right (by decide) hn
    have h2 : 3 ^ n * L.length ≤ 3 ^ 6 * 10000 := Nat.mul_le_mul h1 hL
    rw [PySem.sizeLine_eq]
    omega
  have hz : L.length < sizeLine := by rw [PySem.sizeLine_eq]; omega
  have e : (rngI 0 (n : Int)).length = n := by rw [rngI_length]; omega
  obtain ⟨s', h⟩ := rounds tape0 (.fz (tds L)) (.fz (.int n)) .no .no (rngI 0 n) L .no (by rw [e]; exact hb)
  rw [e] at h
  refine fnD_rt rfl (t := tape0) ?_
  unfold b_deeper
  refine (seq_nx (Γ' := [.fz (tds L), .fz (.int n), .no, .no, .no, .no]) (t' := tape0) ?_).trans ?_
  · have c1 := dp_c1 L n hn
    have c2 := dp_c2 L n hz
    unfold sIf
    simp [orB, notB, tru, c1, c2, truD, sSkip]
  · refine (seq_nx (Γ' := [.fz (tds L), .fz (.int n), .fz (tds L), .no, .no, .no]) (t' := tape0) rfl).trans ?_
    refine (seq_nx (Γ' := [.fz (tds L), .fz (.int n), .fz (tds (deep n L)), s', .no, .no]) (t' := tape0) ?_).trans rfl
    unfold sFor
    rw [range_n n (by omega) (f := vVar 1) (Γ := [.fz (tds L), .fz (.int n), .fz (tds L), .no, .no, .no]) (t := tape0) rfl]
    exact h
/-! ### kinds -/
def sharps (L : List Tr) : Nat := (L.filter fun T => T.s).length
theorem kc_loop (g : Env') (hg : g.length = 3) (t : Tape) : ∀ L : List Tr, ∃ xs : List D, xs.length = sharps L ∧ lcLoop (gNm 2) (tst (binD eqD (binD ixD (vVar 2) (vC (.int 0))) (vC (.str "sharp")))) (vC (.int 1)) g (L.map td) t = some (xs, t)
  | [] => ⟨[], rfl, rfl⟩
  | T :: L => by
    obtain ⟨xs, h1, h2⟩ := kc_loop g hg t L
    have h4 : (g.set 2 (.fz (td T)))[2]? = some (.fz (td T)) := List.getElem?_set_self (by omega)
    have hx : ixD (td T) (.int 0) = some (kd T.s) := rfl
    have e := eq_kd T.s
    cases hs : T.s with
    | true =>
      rw [hs] at e hx
      refine ⟨.int 1 :: xs, by simp [sharps, hs]; exact h1, ?_⟩
      simp [fnD, sSeq, sIf, sSet, sRet, sTgt, sPar, sSkip, sMu, sApp, sRetMu, sFor, forL, andB, orB, notB, tst, tru, truD, binD, unD, vVar, vMu, vC, vTup, vLst, aNil, aCons, callD, ifE, iSeq, seqD, iZip, zipT, lcD, lcLoop, wipeG, setG, gNm, gTp, gsCons, gsNil, bYes, tupD, lenD, addD, subD, negD, intD, eqD_int, neD_int, chD, List.replicate, h4, hx, e] at h2 ⊢
      simp [h2]
    | false =>
      rw [hs] at e hx
      refine ⟨xs, by simp [sharps, hs]; exact h1, ?_⟩
      simp [fnD, sSeq, sIf, sSet, sRet, sTgt, sPar, sSkip, sMu, sApp, sRetMu, sFor, forL, andB, orB, notB, tst, tru, truD, binD, unD, vVar, vMu, vC, vTup, vLst, aNil, aCons, callD, ifE, iSeq, seqD, iZip, zipT, lcD, lcLoop, wipeG, setG, gNm, gTp, gsCons, gsNil, bYes, tupD, lenD, addD, subD, negD, intD, eqD_int, neD_int, chD, List.replicate, h4, hx, e] at h2 ⊢
      simp [h2]
theorem F_kinds_ok (L : List Tr) (hL : L.length < sizeLine) : F_kind_counts [tds L] = some (.tuple [.int (sharps L), .int (L.length - sharps L)]) := by
  obtain ⟨xs, h1, h2⟩ := kc_loop [.fz (tds L), .no, .no] rfl tape0 L
  refine fnD_rt rfl (t := tape0) ?_
  show b_kind_counts [.fz (tds L), .no, .no] tape0 = _
  unfold b_kind_counts
  refine (seq_nx (Γ' := [.fz (tds L), .fz (.int (sharps L)), .no]) (t' := tape0) ?_).trans ?_
  · have e : lcD (iSeq (vVar 0)) [2] (gNm 2) (tst (binD eqD (binD ixD (vVar 2) (vC (.int 0))) (vC (.str "sharp")))) (vC (.int 1)) [.fz (tds L), .no, .no] tape0 = some (.list xs, tape0) := by
      unfold lcD
      have hi : iSeq (vVar 0) [.fz (tds L), .no, .no] tape0 = some (L.map td, tape0) := rfl
      rw [hi]
      simp only [Option.bind_eq_bind, Option.bind_some, List.length_map, if_pos hL]
      show (lcLoop _ _ _ [.fz (tds L), .no, .no] _ _ >>= _) = _
      rw [h2]
      rfl
    unfold sSet unD
    rw [e]
    simp only [Option.bind_eq_bind, Option.bind_some, lenD, h1]
    rfl
  · simp [fnD, sSeq, sIf, sSet, sRet, sTgt, sPar, sSkip, sMu, sApp, sRetMu, sFor, forL, andB, orB, notB, tst, tru, truD, binD, unD, vVar, vMu, vC, vTup, vLst, aNil, aCons, callD, ifE, iSeq, seqD, iZip, zipT, lcD, lcLoop, wipeG, setG, gNm, gTp, gsCons, gsNil, bYes, tupD, lenD, addD, subD, negD, intD, eqD_int, neD_int, chD, List.replicate]
/-! ### counts of a cut -/
def cc : Nat → Int × Int → Int × Int
  | 0, p => p
  | n + 1, p => cc n (p.1 + p.2, p.1 + 2 * p.2)
theorem cc_loop (t : Tape) (m : Slot) : ∀ (ds : List D) (p : Int × Int) (s : Slot), ∃ s', forL (gNm 3) (sPar [0, 1] (aCons (binD addD (vVar 0) (vVar 1)) (aCons (binD addD (vVar 0) (binD mulD (vC (.int 2)) (vVar 1))) aNil))) ds [.fz (.int p.1), .fz (.int p.2), m, s] t = some (.nx [.fz (.int (cc ds.length p).1), .fz (.int (cc ds.length p).2), m, s'] t)
  | [], p, s => ⟨s, rfl⟩
  | x :: ds, p, s => by
    obtain ⟨s', h⟩ := cc_loop t m ds (p.1 + p.2, p.1 + 2 * p.2) (.fz x)
    have m1 : mulD (.int 2) (.int p.2) = some (.int (2 * p.2)) := mul_l rfl
    refine ⟨s', ?_⟩
    simp [fnD, sSeq, sIf, sSet, sRet, sTgt, sPar, sSkip, sMu, sApp, sRetMu, sFor, forL, andB, orB, notB, tst, tru, truD, binD, unD, vVar, vMu, vC, vTup, vLst, aNil, aCons, callD, ifE, iSeq, seqD, iZip, zipT, lcD, lcLoop, wipeG, setG, gNm, gTp, gsCons, gsNil, bYes, tupD, lenD, addD, subD, negD, intD, eqD_int, neD_int, chD, List.replicate, m1] at h ⊢
    exact h
theorem F_cc_ok (a b : Int) (n : Nat) (hn : n ≤ 60) : F_counts_of_cut [.int a, .int b, .int n] = some (.tuple [.int (cc n (a, b)).1, .int (cc n (a, b)).2]) := by
  have e : (rngI 0 (n : Int)).length = n := by rw [rngI_length]; omega
  obtain ⟨s', h⟩ := cc_loop tape0 (.fz (.int n)) (rngI 0 n) (a, b) .no
  rw [e] at h
  have h0 : (0 : Int) ≤ n := by omega
  have h6 : (n : Int) ≤ 60 := by omega
  have c1 : tst (chD leD leD (vC (.int 0)) (vVar 2) (vC (.int 60))) [.fz (.int a), .fz (.int b), .fz (.int n), .no] tape0 = some (true, tape0) := by
    simp [tst, chD, vC, vVar, leD, cmpI, h0, h6]
  refine fnD_rt rfl (t := tape0) ?_
  show b_counts_of_cut [.fz (.int a), .fz (.int b), .fz (.int n), .no] tape0 = _
  unfold b_counts_of_cut
  refine (seq_nx (Γ' := [.fz (.int a), .fz (.int b), .fz (.int n), .no]) (t' := tape0) ?_).trans ?_
  · unfold sIf
    simp [notB, c1, sSkip]
  · refine (seq_nx (Γ' := [.fz (.int (cc n (a, b)).1), .fz (.int (cc n (a, b)).2), .fz (.int n), s']) (t' := tape0) ?_).trans ?_
    · unfold sFor
      rw [range_n n (by omega) (f := vVar 2) (Γ := [.fz (.int a), .fz (.int b), .fz (.int n), .no]) (t := tape0) rfl]
      exact h
    · simp [fnD, sSeq, sIf, sSet, sRet, sTgt, sPar, sSkip, sMu, sApp, sRetMu, sFor, forL, andB, orB, notB, tst, tru, truD, binD, unD, vVar, vMu, vC, vTup, vLst, aNil, aCons, callD, ifE, iSeq, seqD, iZip, zipT, lcD, lcLoop, wipeG, setG, gNm, gTp, gsCons, gsNil, bYes, tupD, lenD, addD, subD, negD, intD, eqD_int, neD_int, chD, List.replicate]
end K38

set_option Elab.async false
set_option linter.all false
set_option maxRecDepth 100000
set_option maxHeartbeats 4000000
/-! K38M3: the wheel, bent ones; maps that cuts follow. -/
namespace K38
open PySem DL
def o0 : Pt := ⟨0, 0, 0, 0⟩
def u1 : Pt := ⟨1, 0, 0, 0⟩
def wedge (k : Nat) : Tr := if k % 2 = 0 then ⟨true, o0, u1.turn (k % 10), u1.turn ((k + 1) % 10)⟩ else ⟨true, o0, u1.turn ((k + 1) % 10), u1.turn (k % 10)⟩
def W : List Tr := (List.range 10).map wedge
def wS : Es := sSet 2 (vTup (aCons (callD F_turned (aCons (vTup (aCons (vC (.int 1)) (aCons (vC (.int 0)) (aCons (vC (.int 0)) (aCons (vC (.int 0)) aNil))))) (aCons (vVar 1) aNil))) (aCons (callD F_turned (aCons (vTup (aCons (vC (.int 1)) (aCons (vC (.int 0)) (aCons (vC (.int 0)) (aCons (vC (.int 0)) aNil))))) (aCons (binD addD (vVar 1) (vC (.int 1))) aNil))) aNil)))
def wE : Ev := binD addD (vTup (aCons (vC (.str "sharp")) (aCons (vTup (aCons (vC (.int 0)) (aCons (vC (.int 0)) (aCons (vC (.int 0)) (aCons (vC (.int 0)) aNil))))) aNil))) (ifE (tst (binD eqD (binD modD (vVar 1) (vC (.int 2))) (vC (.int 0)))) (vVar 2) (unD revD (vVar 2)))
theorem wheel_loop (t : Tape) (ks : List Nat) : ∀ (acc : List D) (s r : Slot), acc.length + ks.length ≤ 1000 → ∃ s' r', forL (gNm 1)
  (sSeq wS (sApp 0 wE)) (ks.map fun (k : Nat) => .int (k : Int)) [.mu (.list acc), s, r] t = some (.nx [.mu (.list (acc ++ (ks.map wedge).map td)), s', r'] t) := by
  induction ks with
  | nil => exact fun acc s r _ => ⟨s, r, by simp [forL]⟩
  | cons k ks ih =>
    intro acc s r hz
    have hz2 : (acc ++ [td (wedge k)]).length + ks.length ≤ 1000 := by rw [List.length_append, List.length_singleton]; rw [List.length_cons] at hz; omega
    have hs4 : 4 ≤ sizeLine := by rw [PySem.sizeLine_eq]; decide
    have hac : acc.length < sizeLine := by rw [PySem.sizeLine_eq]; rw [List.length_cons] at hz; omega
    have e1 := F_turned_ok u1 (k : Int)
    have e2 := F_turned_ok u1 ((k : Int) + 1)
    have n1 : ((k : Int) % 10).toNat = k % 10 := by omega
    have n2 : (((k : Int) + 1) % 10).toNat = (k + 1) % 10 := by omega
    rw [n1] at e1
    rw [n2] at e2
    have hu : pt u1 = .tuple [.int 1, .int 0, .int 0, .int 0] := rfl
    rw [hu] at e1 e2
    have hm : modD (.int (k : Int)) (.int 2) = some (.int ((k : Int) % 2)) := mod_pos (by decide)
    have step : ∀ (x y : Pt), td (wedge k) = .tuple [.str "sharp", pt o0, pt x, pt y] → ∀ (s1 : D), wE [.mu (.list acc), .fz (.int k), .fz s1] t = some (.tuple [.str "sharp", pt o0, pt x, pt y], t) →
        wS [.mu (.list acc), .fz (.int k), r] t = some (.nx [.mu (.list acc), .fz (.int k), .fz s1] t) →
        ∃ s' r', forL (gNm 1) (sSeq wS (sApp 0 wE)) ((k :: ks).map fun (k : Nat) => .int (k : Int)) [.mu (.list acc), s, r] t = some (.nx [.mu (.list (acc ++ ((k :: ks).map wedge).map td)), s', r'] t) := by
      intro x y hw s1 q1 q2
      obtain ⟨s', r', h⟩ := ih (acc ++ [td (wedge k)]) (.fz (.int k)) (.fz s1) hz2
      refine ⟨s', r', ?_⟩
      have q3 : sApp 0 wE [.mu (.list acc), .fz (.int k), .fz s1] t = some (.nx [.mu (.list (acc ++ [td (wedge k)])), .fz (.int k), .fz s1] t) := by
        unfold sApp
        rw [q1, hw]
        exact if_pos hac
      have q4 := (seq_nx (g := sApp 0 wE) q2).trans q3
      rw [List.map_cons, List.map_cons, List.map_cons]
      rw [show acc ++ td (wedge k) :: List.map td (List.map wedge ks) = (acc ++ [td (wedge k)]) ++ List.map td (List.map wedge ks) by rw [List.append_assoc]; rfl]
      refine Eq.trans ?_ h
      exact for_nx (l := [(1, .int k)]) rfl q4
    by_cases hk : k % 2 = 0
    · have hk2 : (k : Int) % 2 = 0 := by omega
      refine step (u1.turn (k % 10)) (u1.turn ((k + 1) % 10)) (by unfold wedge; rw [if_pos hk]; rfl) (.tuple [pt (u1.turn (k % 10)), pt (u1.turn ((k + 1) % 10))]) ?_ ?_
      · simp [wE, fnD, sSeq, sIf, sSet, sRet, sTgt, sPar, sSkip, sMu, sApp, sRetMu, sFor, forL, andB, orB, notB, tst, tru, truD, binD, unD, vVar, vMu, vC, vTup, vLst, aNil, aCons, callD, ifE, iSeq, seqD, iZip, zipT, lcD, lcLoop, wipeG, setG, gNm, gTp, gsCons, gsNil, bYes, tupD, lenD, addD, subD, negD, intD, eqD_int, neD_int, chD, List.replicate, hm, hk2, hs4, o0]
      · exact set_of' (tup_of (cons_of (call_of (cons_of (d := .tuple [.int 1, .int 0, .int 0, .int 0]) (tup_of (cons_of rfl (cons_of rfl (cons_of rfl (cons_of rfl rfl)))) (by decide)) (cons_of (d := .int k) rfl rfl)) e1) (cons_of (call_of (cons_of (d := .tuple [.int 1, .int 0, .int 0, .int 0]) (tup_of (cons_of rfl (cons_of rfl (cons_of rfl (cons_of rfl rfl)))) (by decide)) (cons_of (d := .int (k + 1)) (bin_of (x := .int k) (y := .int 1) rfl rfl rfl) rfl)) e2) rfl)) (show 2 ≤ 1000 by decide))
    · have hk2 : ¬ (k : Int) % 2 = 0 := by omega
      refine step (u1.turn ((k + 1) % 10)) (u1.turn (k % 10)) (by unfold wedge; rw [if_neg hk]; rfl) (.tuple [pt (u1.turn (k % 10)), pt (u1.turn ((k + 1) % 10))]) ?_ ?_
      · simp [wE, fnD, sSeq, sIf, sSet, sRet, sTgt, sPar, sSkip, sMu, sApp, sRetMu, sFor, forL, andB, orB, notB, tst, tru, truD, binD, unD, vVar, vMu, vC, vTup, vLst, aNil, aCons, callD, ifE, iSeq, seqD, iZip, zipT, lcD, lcLoop, wipeG, setG, gNm, gTp, gsCons, gsNil, bYes, tupD, lenD, addD, subD, negD, intD, eqD_int, neD_int, chD, List.replicate, hm, hk2, hs4, o0, revD]
      · exact set_of' (tup_of (cons_of (call_of (cons_of (d := .tuple [.int 1, .int 0, .int 0, .int 0]) (tup_of (cons_of rfl (cons_of rfl (cons_of rfl (cons_of rfl rfl)))) (by decide)) (cons_of (d := .int k) rfl rfl)) e1) (cons_of (call_of (cons_of (d := .tuple [.int 1, .int 0, .int 0, .int 0]) (tup_of (cons_of rfl (cons_of rfl (cons_of rfl (cons_of rfl rfl)))) (by decide)) (cons_of (d := .int (k + 1)) (bin_of (x := .int k) (y := .int 1) rfl rfl rfl) rfl)) e2) rfl)) (show 2 ≤ 1000 by decide))
theorem F_wheel_ok : F_first_wheel [] = some (tds W) := by
  obtain ⟨s', r', h⟩ := wheel_loop tape0 (List.range 10) [] .no .no (by decide)
  rw [List.nil_append, show (List.range 10).map wedge = W from rfl] at h
  refine fnD_rt rfl (t := tape0) ?_
  show b_first_wheel [.no, .no, .no] tape0 = _
  unfold b_first_wheel
  refine (seq_nx (Γ' := [.mu (.list []), .no, .no]) (t' := tape0) rfl).trans ?_
  have hr : rngI 0 10 = ((List.range 10).map fun (k : Nat) => PyData.int (k : Int)) := by
    unfold rngI
    exact List.map_congr_left fun k _ => by rw [Int.zero_add]
  have hi : iRng1 (vC (.int 10)) [.mu (.list []), .no, .no] tape0 = some ((List.range 10).map fun (k : Nat) => PyData.int (k : Int), tape0) := by
    rw [← hr]
    exact range_of rfl (small_r (by decide) (by decide))
  exact (seq_nx (sFor_of hi h)).trans (ret_of (un_of (x := .list (W.map td)) rfl rfl))
/-! ### bent -/
def bend (m : Nat) (by' : Pt) (g : Bool) (p : Pt) : Pt := (if g then (p.turn m).longer else p.turn m).add by'
def Tr.map (f : Pt → Pt) (T : Tr) : Tr := ⟨T.s, f T.x, f T.y, f T.z⟩
theorem bent_loop (t : Tape) (a : Slot) (m : Int) (b : Pt) (g : Bool) (L : List Tr) : ∀ (acc : List D) (s5 s6 s7 s8 s9 s10 : Slot), acc.length + L.length ≤ 1000000 → ∃ s5' s6' s7' s8' s9' s10', forL (gTp 4 (gsCons (gNm 5) (gsCons (gNm 6) (gsCons (gNm 7) (gsCons (gNm 8) gsNil)))))
  (sSeq (sSet 9 (lcD (iSeq (vTup (aCons (vVar 6) (aCons (vVar 7) (aCons (vVar 8) aNil))))) [10] (gNm 10) bYes (callD F_turned (aCons (vVar 10) (aCons (vVar 1) aNil)))))
  (sSeq (sSet 9 (lcD (iSeq (vVar 9)) [10] (gNm 10) bYes (ifE (tru (vVar 3)) (callD F__law_longer (aCons (vVar 10) aNil)) (vVar 10))))
  (sApp 4 (binD addD (vTup (aCons (vVar 5) aNil)) (unD tupD (lcD (iSeq (vVar 9)) [10] (gNm 10) bYes (callD F_plus (aCons (vVar 10) (aCons (vVar 2) aNil)))))))))
  (L.map td) [a, .fz (.int m), .fz (pt b), .fz (.bool g), .mu (.list acc), s5, s6, s7, s8, s9, s10] t = some (.nx [a, .fz (.int m), .fz (pt b), .fz (.bool g), .mu (.list (acc ++ (L.map (Tr.map (bend (m % 10).toNat b g))).map td)), s5', s6', s7', s8', s9', s10'] t) := by
  induction L with
  | nil => exact fun acc s5 s6 s7 s8 s9 s10 _ => ⟨s5, s6, s7, s8, s9, s10, by simp [forL]⟩
  | cons T L ih =>
    intro acc s5 s6 s7 s8 s9 s10 hz
    have hz2 : (acc ++ [td (T.map (bend (m % 10).toNat b g))]).length + L.length ≤ 1000000 := by rw [List.length_append, List.length_singleton]; rw [List.length_cons] at hz; omega
    have hs4 : 4 ≤ sizeLine := by rw [PySem.sizeLine_eq]; decide
    have hs3 : 3 < sizeLine := by rw [PySem.sizeLine_eq]; decide
    have hac : acc.length < sizeLine := by rw [PySem.sizeLine_eq]; rw [List.length_cons] at hz; omega
    have three : ∀ (elt : Ev) (Γ : Env') (i : Nat) (it : Evi) (x y z x' y' z' : D), it Γ t = some ([x, y, z], t) → elt (setG (wipeG Γ [i]) [(i, x)]) t = some (x', t) → elt (setG (wipeG Γ [i]) [(i, y)]) t = some (y', t) → elt (setG (wipeG Γ [i]) [(i, z)]) t = some (z', t) → lcD it [i] (gNm i) bYes elt Γ t = some (.list [x', y', z'], t) := fun elt Γ i it x y z x' y' z' h0 h1 h2 h3 => lc_of h0 hs3 (lcL_cons rfl h1 (lcL_cons rfl h2 (lcL_cons rfl h3 rfl)))
    have g1 : ∀ p : Pt, ∃ p', p' = (if g then (p.turn (m % 10).toNat).longer else p.turn (m % 10).toNat) := fun p => ⟨_, rfl⟩
    obtain ⟨x', hx⟩ := g1 T.x
    obtain ⟨y', hy⟩ := g1 T.y
    obtain ⟨z', hz'⟩ := g1 T.z
    have tm : T.map (bend (m % 10).toNat b g) = ⟨T.s, x'.add b, y'.add b, z'.add b⟩ := by rw [hx, hy, hz']; rfl
    have gg : ∀ (Γ : Env') (p p' : Pt), p' = (if g then (p.turn (m % 10).toNat).longer else p.turn (m % 10).toNat) → Γ[3]? = some (.fz (.bool g)) → Γ[10]? = some (.fz (pt (p.turn (m % 10).toNat))) → ifE (tru (vVar 3)) (callD F__law_longer (aCons (vVar 10) aNil)) (vVar 10) Γ t = some (pt p', t) := by
      intro Γ p p' hp h3 h10
      have e0 : tru (vVar 3) Γ t = some (g, t) := by
        unfold tru
        rw [var_of h3]
        rfl
      unfold ifE
      rw [e0]
      subst hp
      cases g with
      | true => exact call_of (cons_of (var_of h10) rfl) (F_longer_ok _)
      | false => exact var_of h10
    obtain ⟨r5, r6, r7, r8, r9, r10, h⟩ := ih (acc ++ [td (T.map (bend (m % 10).toNat b g))]) (.fz (kd T.s)) (.fz (pt T.x)) (.fz (pt T.y)) (.fz (pt T.z)) (.fz (.list [pt x', pt y', pt z'])) s10 hz2
    refine ⟨r5, r6, r7, r8, r9, r10, ?_⟩
    rw [List.map_cons, List.map_cons, List.map_cons]
    rw [show acc ++ td (T.map (bend (m % 10).toNat b g)) :: List.map td (List.map (Tr.map (bend (m % 10).toNat b g)) L) = (acc ++ [td (T.map (bend (m % 10).toNat b g))]) ++ List.map td (List.map (Tr.map (bend (m % 10).toNat b g)) L) by rw [List.append_assoc]; rfl]
    refine Eq.trans ?_ h
    refine for_nx (l := [(5, kd T.s), (6, pt T.x), (7, pt T.y), (8, pt T.z)]) rfl ?_
    refine Eq.trans (seq_nx (set_of' (d := .list [pt (T.x.turn (m % 10).toNat), pt (T.y.turn (m % 10).toNat), pt (T.z.turn (m % 10).toNat)]) (t' := t) ?_)) ?_
    · exact three _ _ 10 _ (pt T.x) (pt T.y) (pt T.z) _ _ _ (seq_of (tup_of (ds := [pt T.x, pt T.y, pt T.z]) (cons_of rfl (cons_of rfl (cons_of rfl rfl))) (show 3 ≤ 1000 by decide)) rfl) (call_of (cons_of rfl (cons_of rfl rfl)) (F_turned_ok _ _)) (call_of (cons_of rfl (cons_of rfl rfl)) (F_turned_ok _ _)) (call_of (cons_of rfl (cons_of rfl rfl)) (F_turned_ok _ _))
    refine Eq.trans (seq_nx (set_of' (d := .list [pt x', pt y', pt z']) (t' := t) ?_)) ?_
    · exact three _ _ 10 _ (pt (T.x.turn (m % 10).toNat)) (pt (T.y.turn (m % 10).toNat)) (pt (T.z.turn (m % 10).toNat)) _ _ _ (seq_of rfl rfl) (gg _ T.x x' hx rfl rfl) (gg _ T.y y' hy rfl rfl) (gg _ T.z z' hz' rfl rfl)
    have add4 : addD (.tuple [kd T.s]) (.tuple [pt (x'.add b), pt (y'.add b), pt (z'.add b)]) = some (.tuple [kd T.s, pt (x'.add b), pt (y'.add b), pt (z'.add b)]) := add_tup (i := [kd T.s]) (j := [pt (x'.add b), pt (y'.add b), pt (z'.add b)]) hs4
    refine Eq.trans (app_of (ds := acc) (d := .tuple [kd T.s, pt (x'.add b), pt (y'.add b), pt (z'.add b)]) (t' := t) ?_ rfl hac) ?_
    · refine bin_of (t1 := t) (x := .tuple [kd T.s]) (tup_of (ds := [kd T.s]) (cons_of rfl rfl) (show 1 ≤ 1000 by decide)) (un_of (x := .list [pt (x'.add b), pt (y'.add b), pt (z'.add b)]) (t1 := t) ?_ rfl) add4
      exact three _ _ 10 _ (pt x') (pt y') (pt z') _ _ _ (seq_of rfl rfl) (call_of (cons_of rfl (cons_of rfl rfl)) (F_plus_ok _ _)) (call_of (cons_of rfl (cons_of rfl rfl)) (F_plus_ok _ _)) (call_of (cons_of rfl (cons_of rfl rfl)) (F_plus_ok _ _))
    rw [tm]
    rfl
theorem F_bent_ok (L : List Tr) (m : Int) (b : Pt) (g : Bool) (hL : L.length ≤ 1000000) : F__law_bent [tds L, .int m, pt b, .bool g] = some (tds (L.map (Tr.map (bend (m % 10).toNat b g)))) := by
  obtain ⟨r5, r6, r7, r8, r9, r10, h⟩ := bent_loop tape0 (.fz (tds L)) m b g L [] .no .no .no .no .no .no (by simpa using hL)
  refine fnD_rt rfl (t := tape0) ?_
  show b__law_bent [.fz (tds L), .fz (.int m), .fz (pt b), .fz (.bool g), .no, .no, .no, .no, .no, .no, .no] tape0 = _
  unfold b__law_bent
  refine (seq_nx (Γ' := [.fz (tds L), .fz (.int m), .fz (pt b), .fz (.bool g), .mu (.list []), .no, .no, .no, .no, .no, .no]) (t' := tape0) rfl).trans ?_
  refine (seq_nx (Γ' := [.fz (tds L), .fz (.int m), .fz (pt b), .fz (.bool g), .mu (.list ([] ++ (L.map (Tr.map (bend (m % 10).toNat b g))).map td)), r5, r6, r7, r8, r9, r10]) (t' := tape0) (sFor_of rfl h)).trans ?_
  exact ret_of (un_of (x := .list (([] : List D) ++ (L.map (Tr.map (bend (m % 10).toNat b g))).map td)) rfl rfl)
end K38

set_option Elab.async false
set_option linter.all false
set_option maxRecDepth 100000
set_option maxHeartbeats 4000000
/-! K38M4: cuts follow the maps. -/
namespace K38
open PySem DL
theorem Pt.eq {p q : Pt} (h1 : p.a = q.a) (h2 : p.b = q.b) (h3 : p.c = q.c) (h4 : p.d = q.d) : p = q := by
  cases p; cases q
  simp only [Pt.mk.injEq]
  exact ⟨h1, h2, h3, h4⟩
theorem rot_add (p q : Pt) : (p.add q).rot = p.rot.add q.rot := by
  apply Pt.eq <;> simp [Pt.add, Pt.rot] <;> omega
theorem rot_sub (p q : Pt) : (p.sub q).rot = p.rot.sub q.rot := by
  apply Pt.eq <;> simp [Pt.sub, Pt.rot] <;> omega
theorem turn_add : ∀ (n : Nat) (p q : Pt), (p.add q).turn n = (p.turn n).add (q.turn n)
  | 0, _, _ => rfl
  | n + 1, p, q => by rw [Pt.turn, rot_add, turn_add n]; rfl
theorem turn_sub : ∀ (n : Nat) (p q : Pt), (p.sub q).turn n = (p.turn n).sub (q.turn n)
  | 0, _, _ => rfl
  | n + 1, p, q => by rw [Pt.turn, rot_sub, turn_sub n]; rfl
theorem turn_rot : ∀ (n : Nat) (p : Pt), p.rot.turn n = (p.turn n).rot
  | 0, _ => rfl
  | n + 1, p => by rw [Pt.turn, turn_rot n, Pt.turn, turn_rot n]
theorem turn_turn : ∀ (m n : Nat) (p : Pt), (p.turn m).turn n = (p.turn n).turn m
  | 0, _, _ => rfl
  | m + 1, n, p => by rw [Pt.turn, turn_turn m n, turn_rot n, Pt.turn, turn_rot m]
theorem add4 (p q r s : Pt) : (p.add q).add (r.add s) = (p.add r).add (q.add s) := by
  apply Pt.eq <;> simp [Pt.add] <;> omega
theorem sub4 (p q r s : Pt) : (p.add q).sub (r.add s) = (p.sub r).add (q.sub s) := by
  apply Pt.eq <;> simp [Pt.add, Pt.sub] <;> omega
theorem longer_add (p q : Pt) : (p.add q).longer = p.longer.add q.longer := by
  unfold Pt.longer
  rw [turn_add, turn_add, add4]
theorem longer_sub (p q : Pt) : (p.sub q).longer = p.longer.sub q.longer := by
  unfold Pt.longer
  rw [turn_sub, turn_sub, sub4]
theorem longer_turn (n : Nat) (p : Pt) : (p.turn n).longer = p.longer.turn n := by
  unfold Pt.longer
  rw [turn_turn n 1, turn_turn n 9, ← turn_add]
theorem shorter_turn (n : Nat) (p : Pt) : (p.turn n).shorter = p.shorter.turn n := by
  unfold Pt.shorter
  rw [longer_turn, ← turn_sub]
theorem shorter_longer (p : Pt) : p.longer.shorter = p.shorter.longer := by
  unfold Pt.shorter
  rw [longer_sub]
/-- maps that keep sums and what is shorter -/
structure Lin (f : Pt → Pt) : Prop where
  add : ∀ p q, f (p.add q) = (f p).add (f q)
  sub : ∀ p q, f (p.sub q) = (f p).sub (f q)
  sh : ∀ p, f p.shorter = (f p).shorter
theorem lin_bend (m : Nat) (g : Bool) : Lin fun p => if g then (p.turn m).longer else p.turn m := by
  cases g with
  | true =>
    refine ⟨fun p q => ?_, fun p q => ?_, fun p => ?_⟩
    · show ((p.add q).turn m).longer = _
      rw [turn_add, longer_add]; rfl
    · show ((p.sub q).turn m).longer = _
      rw [turn_sub, longer_sub]; rfl
    · show (p.shorter.turn m).longer = ((p.turn m).longer).shorter
      rw [shorter_longer, shorter_turn]
  | false => exact ⟨fun p q => turn_add m p q, fun p q => turn_sub m p q, fun p => (shorter_turn m p).symm⟩
theorem aff {f : Pt → Pt} (h : Lin f) (b x y : Pt) : (f (x.add (y.sub x).shorter)).add b = ((f x).add b).add ((((f y).add b).sub ((f x).add b)).shorter) := by
  have e : ((f y).add b).sub ((f x).add b) = f (y.sub x) := by
    rw [h.sub]
    apply Pt.eq <;> simp [Pt.add, Pt.sub] <;> omega
  rw [e, h.add, h.sh]
  apply Pt.eq <;> simp [Pt.add] <;> omega
theorem cut_map {f : Pt → Pt} (h : Lin f) (b : Pt) (T : Tr) : cutL (T.map fun p => (f p).add b) = (cutL T).map (Tr.map fun p => (f p).add b) := by
  obtain ⟨s, x, y, z⟩ := T
  cases s with
  | true =>
    have e := aff h b x y
    simp [cutL, Tr.map, e]
  | false =>
    have e1 := aff h b y x
    have e2 := aff h b y z
    simp [cutL, Tr.map, e1, e2]
theorem deep_map {f : Pt → Pt} (h : Lin f) (b : Pt) : ∀ (n : Nat) (L : List Tr), deep n (L.map (Tr.map fun p => (f p).add b)) = (deep n L).map (Tr.map fun p => (f p).add b)
  | 0, _ => rfl
  | n + 1, L => by
    rw [deep, deep, ← deep_map h b n]
    congr 1
    induction L with
    | nil => rfl
    | cons T L ih => rw [List.map_cons, List.flatMap_cons, List.flatMap_cons, List.map_append, ih, cut_map h]
theorem deep_bend (m : Nat) (b : Pt) (g : Bool) (n : Nat) (L : List Tr) : deep n (L.map (Tr.map (bend m b g))) = (deep n L).map (Tr.map (bend m b g)) := deep_map (lin_bend m g) b n L
theorem deep_append : ∀ (n : Nat) (L M : List Tr), deep n (L ++ M) = deep n L ++ deep n M
  | 0, _, _ => rfl
  | n + 1, L, M => by rw [deep, deep, deep, List.flatMap_append, deep_append n]
theorem deep_deep : ∀ (m n : Nat) (L : List Tr), deep n (deep m L) = deep (m + n) L
  | 0, n, L => by rw [Nat.zero_add]; rfl
  | m + 1, n, L => by rw [deep, deep_deep m n, Nat.succ_add]; rfl
theorem deep_mem : ∀ (n : Nat) {L M : List Tr}, (∀ T ∈ L, T ∈ M) → ∀ T ∈ deep n L, T ∈ deep n M
  | 0, _, _, h => h
  | n + 1, L, M, h => by
    refine deep_mem n fun T hT => ?_
    obtain ⟨S, h1, h2⟩ := List.mem_flatMap.mp hT
    exact List.mem_flatMap.mpr ⟨S, h S h1, h2⟩
/-! ### kinds of parts -/
def flats (L : List Tr) : Nat := L.length - sharps L
theorem sharps_le (L : List Tr) : sharps L ≤ L.length := List.length_filter_le _ _
theorem sharps_app (L M : List Tr) : sharps (L ++ M) = sharps L + sharps M := by
  unfold sharps
  rw [List.filter_append, List.length_append]
theorem cut_kinds (L : List Tr) : ((sharps (L.flatMap cutL) : Int) = sharps L + (L.length - sharps L)) ∧ (((L.flatMap cutL).length : Int) - sharps (L.flatMap cutL) = sharps L + 2 * (L.length - sharps L)) := by
  induction L with
  | nil => exact ⟨rfl, rfl⟩
  | cons T L ih =>
    have e : T :: L = [T] ++ L := rfl
    rw [List.flatMap_cons, sharps_app, List.length_append, e, sharps_app, List.length_append]
    obtain ⟨s, x, y, z⟩ := T
    cases s with
    | true =>
      have h1 : sharps (cutL ⟨true, x, y, z⟩) = 1 := rfl
      have h2 : (cutL ⟨true, x, y, z⟩).length = 2 := rfl
      have h3 : sharps [⟨true, x, y, z⟩] = 1 := rfl
      have h4 : ([⟨true, x, y, z⟩] : List Tr).length = 1 := rfl
      rw [h1, h2, h3, h4]
      omega
    | false =>
      have h1 : sharps (cutL ⟨false, x, y, z⟩) = 1 := rfl
      have h2 : (cutL ⟨false, x, y, z⟩).length = 3 := rfl
      have h3 : sharps [⟨false, x, y, z⟩] = 0 := rfl
      have h4 : ([⟨false, x, y, z⟩] : List Tr).length = 1 := rfl
      rw [h1, h2, h3, h4]
      omega
theorem deep_kinds : ∀ (n : Nat) (L : List Tr), cc n ((sharps L : Int), (L.length : Int) - sharps L) = ((sharps (deep n L) : Int), ((deep n L).length : Int) - sharps (deep n L))
  | 0, _ => rfl
  | n + 1, L => by
    have h := cut_kinds L
    rw [cc, deep, ← deep_kinds n]
    show cc n ((sharps L : Int) + ((L.length : Int) - sharps L), (sharps L : Int) + 2 * ((L.length : Int) - sharps L)) = _
    rw [h.2, h.1]
end K38

set_option Elab.async false
set_option linter.all false
set_option maxRecDepth 100000
set_option maxHeartbeats 4000000
/-! K38M5: counting; points and sides. -/
namespace K38
open PySem DL
/-! ### counting by a relation -/
def bump {ι : Type} (r : ι → ι → Bool) : List (ι × Nat) → ι → List (ι × Nat)
  | [], x => [(x, 1)]
  | (y, n) :: l, x => if r y x then (y, n + 1) :: l else (y, n) :: bump r l x
def cnt {ι : Type} (r : ι → ι → Bool) (l : List (ι × Nat)) (xs : List ι) : List (ι × Nat) := xs.foldl (bump r) l
theorem bump_map {ι κ : Type} {r : ι → ι → Bool} {q : κ → κ → Bool} {f : ι → κ} {x : ι} : ∀ {l : List (ι × Nat)}, (∀ y ∈ l.map (·.1), q (f y) (f x) = r y x) → bump q (l.map fun p => (f p.1, p.2)) (f x) = (bump r l x).map fun p => (f p.1, p.2)
  | [], _ => rfl
  | (y, n) :: l, h => by
    rw [List.map_cons]
    unfold bump
    rw [h y (by simp)]
    cases r y x with
    | true => rfl
    | false =>
      rw [if_neg (by decide), if_neg (by decide), List.map_cons, bump_map fun z hz => h z (by rw [List.map_cons]; exact List.mem_cons_of_mem _ hz)]
theorem bump_keys {ι : Type} {r : ι → ι → Bool} {x : ι} : ∀ {l : List (ι × Nat)} {y : ι}, y ∈ (bump r l x).map (·.1) → y ∈ l.map (·.1) ∨ y = x
  | [], y, h => by
    rw [bump, List.map_cons, List.map_nil, List.mem_singleton] at h
    exact .inr h
  | (z, n) :: l, y, h => by
    unfold bump at h
    cases hr : r z x with
    | true =>
      rw [hr, if_pos rfl, List.map_cons] at h
      exact .inl (by rw [List.map_cons]; exact h)
    | false =>
      rw [hr, if_neg (by decide), List.map_cons] at h
      rcases List.mem_cons.mp h with e | e
      · exact .inl (by rw [List.map_cons, e]; exact List.mem_cons_self)
      · rcases bump_keys e with e | e
        · exact .inl (by rw [List.map_cons]; exact List.mem_cons_of_mem _ e)
        · exact .inr e
theorem cnt_map {ι κ : Type} {r : ι → ι → Bool} {q : κ → κ → Bool} {f : ι → κ} : ∀ (xs : List ι) (l : List (ι × Nat)), (∀ y x, (y ∈ l.map (·.1) ∨ y ∈ xs) → x ∈ xs → q (f y) (f x) = r y x) → cnt q (l.map fun p => (f p.1, p.2)) (xs.map f) = (cnt r l xs).map fun p => (f p.1, p.2)
  | [], _, _ => rfl
  | x :: xs, l, h => by
    show cnt q (bump q (l.map fun p => (f p.1, p.2)) (f x)) (xs.map f) = (cnt r (bump r l x) xs).map _
    rw [bump_map fun y hy => h y x (.inl hy) List.mem_cons_self]
    refine cnt_map xs (bump r l x) fun y z hy hz => h y z ?_ (List.mem_cons_of_mem _ hz)
    rcases hy with hy | hy
    · rcases bump_keys hy with e | e
      · exact .inl e
      · exact .inr (by rw [e]; exact List.mem_cons_self)
    · exact .inr (List.mem_cons_of_mem _ hy)
theorem cnt_len {ι : Type} {r : ι → ι → Bool} : ∀ (xs : List ι) (l : List (ι × Nat)), (cnt r l xs).length ≤ l.length + xs.length
  | [], l => Nat.le_refl _
  | x :: xs, l => by
    have h1 := cnt_len (r := r) xs (bump r l x)
    have h2 : ∀ l : List (ι × Nat), (bump r l x).length ≤ l.length + 1 := by
      intro l
      induction l with
      | nil => exact Nat.le_refl _
      | cons p l ih =>
        obtain ⟨y, n⟩ := p
        unfold bump
        cases r y x with
        | true => exact Nat.le_succ _
        | false => exact Nat.succ_le_succ ih
    have h3 := h2 l
    show (cnt r (bump r l x) xs).length ≤ _
    rw [List.length_cons]
    omega
def tot {ι : Type} (l : List (ι × Nat)) : Nat := (l.map (·.2)).sum
theorem cnt_tot {ι : Type} {r : ι → ι → Bool} : ∀ (xs : List ι) (l : List (ι × Nat)), tot (cnt r l xs) = tot l + xs.length
  | [], l => rfl
  | x :: xs, l => by
    have h1 := cnt_tot (r := r) xs (bump r l x)
    have h2 : ∀ l : List (ι × Nat), tot (bump r l x) = tot l + 1 := by
      intro l
      induction l with
      | nil => rfl
      | cons p l ih =>
        obtain ⟨y, n⟩ := p
        unfold bump
        cases r y x with
        | true => show n + 1 + tot l = n + tot l + 1; omega
        | false => show n + tot (bump r l x) = n + tot l + 1; omega
    show tot (cnt r (bump r l x) xs) = _
    rw [h1, h2, List.length_cons]
    omega
theorem cnt_pos {ι : Type} {r : ι → ι → Bool} : ∀ (xs : List ι) (l : List (ι × Nat)), (∀ p ∈ l, 1 ≤ p.2) → ∀ p ∈ cnt r l xs, 1 ≤ p.2
  | [], l, h => h
  | x :: xs, l, h => by
    refine cnt_pos xs (bump r l x) ?_
    have h2 : ∀ l : List (ι × Nat), (∀ p ∈ l, 1 ≤ p.2) → ∀ p ∈ bump r l x, 1 ≤ p.2 := by
      intro l
      induction l with
      | nil => intro _ p hp; rw [bump, List.mem_singleton] at hp; rw [hp]; exact Nat.le_refl _
      | cons q l ih =>
        obtain ⟨y, n⟩ := q
        intro hl p hp
        unfold bump at hp
        cases hr : r y x with
        | true =>
          rw [hr, if_pos rfl] at hp
          rcases List.mem_cons.mp hp with e | e
          · rw [e]; show 1 ≤ n + 1; omega
          · exact hl p (List.mem_cons_of_mem _ e)
        | false =>
          rw [hr, if_neg (by decide)] at hp
          rcases List.mem_cons.mp hp with e | e
          · rw [e]; exact hl _ List.mem_cons_self
          · exact ih (fun p hp => hl p (List.mem_cons_of_mem _ hp)) p e
    exact h2 l h
/-! ### the law of Euler -/
def sidesOf {α : Type} (t : α × α × α) : List (α × α) := [(t.1, t.2.1), (t.2.1, t.2.2), (t.2.2, t.1)]
def ptsOf {α : Type} (t : α × α × α) : List α := [t.1, t.2.1, t.2.2]
def sameS {α : Type} (e : α → α → Bool) (s t : α × α) : Bool := (e s.1 t.1 && e s.2 t.2) || (e s.1 t.2 && e s.2 t.1)
def euler {α : Type} (e : α → α → Bool) (L : List (α × α × α)) : Bool :=
  let c := cnt (sameS e) [] (L.flatMap sidesOf)
  let p := cnt e [] (L.flatMap ptsOf)
  (c.all fun q => decide (q.2 ≤ 2)) && decide ((p.length : Int) - c.length + L.length = 1)
def m3 {α β : Type} (f : α → β) (t : α × α × α) : β × β × β := (f t.1, f t.2.1, f t.2.2)
theorem euler_map {α β : Type} {e : α → α → Bool} {q : β → β → Bool} {f : α → β} (L : List (α × α × α)) (h : ∀ x y, x ∈ L.flatMap ptsOf → y ∈ L.flatMap ptsOf → q (f x) (f y) = e x y) : euler q (L.map (m3 f)) = euler e L := by
  have h1 : (L.map (m3 f)).flatMap sidesOf = (L.flatMap sidesOf).map fun s => (f s.1, f s.2) := by
    rw [List.flatMap_map, List.map_flatMap]
    rfl
  have h2 : (L.map (m3 f)).flatMap ptsOf = (L.flatMap ptsOf).map f := by
    rw [List.flatMap_map, List.map_flatMap]
    rfl
  have hs : ∀ s ∈ L.flatMap sidesOf, s.1 ∈ L.flatMap ptsOf ∧ s.2 ∈ L.flatMap ptsOf := by
    intro s hs
    obtain ⟨t, ht, h⟩ := List.mem_flatMap.mp hs
    have hp : ∀ x ∈ ptsOf t, x ∈ L.flatMap ptsOf := fun x hx => List.mem_flatMap.mpr ⟨t, ht, hx⟩
    simp only [sidesOf, List.mem_cons, List.not_mem_nil, or_false] at h
    rcases h with h | h | h
    · rw [h]; exact ⟨hp _ (by simp [ptsOf]), hp _ (by simp [ptsOf])⟩
    · rw [h]; exact ⟨hp _ (by simp [ptsOf]), hp _ (by simp [ptsOf])⟩
    · rw [h]; exact ⟨hp _ (by simp [ptsOf]), hp _ (by simp [ptsOf])⟩
  have c1 := cnt_map (r := sameS e) (q := sameS q) (f := fun s : α × α => (f s.1, f s.2)) (L.flatMap sidesOf) [] (fun y x hy hx => by
    have hy : y ∈ L.flatMap sidesOf := by
      rcases hy with hy | hy
      · cases hy
      · exact hy
    obtain ⟨a1, a2⟩ := hs y hy
    obtain ⟨b1, b2⟩ := hs x hx
    unfold sameS
    rw [h _ _ a1 b1, h _ _ a2 b2, h _ _ a1 b2, h _ _ a2 b1])
  have c2 := cnt_map (r := e) (q := q) (f := f) (L.flatMap ptsOf) [] (fun y x hy hx => by
    have hy : y ∈ L.flatMap ptsOf := by
      rcases hy with hy | hy
      · cases hy
      · exact hy
    exact h _ _ hy hx)
  unfold euler
  rw [h1, h2]
  rw [List.map_nil] at c1 c2
  simp only
  rw [c1, c2, List.length_map, List.length_map, List.length_map, List.all_map]
  rfl
end K38

set_option Elab.async false
set_option linter.all false
set_option maxRecDepth 100000
set_option maxHeartbeats 4000000
/-! K38M6: sides and points as the program counts them. -/
namespace K38
open PySem DL
theorem eqv_pt (p q : Pt) : PyData.eqv (pt p) (pt q) = decide (p = q) := by
  simp only [PyData.eqv, PyData.eqvAll, Bool.and_true]
  rw [Bool.eq_iff_iff]
  cases p; cases q
  simp [and_assoc]
theorem eqv_pair (s t : Pt × Pt) : PyData.eqv (.tuple [pt s.1, pt s.2]) (.tuple [pt t.1, pt t.2]) = decide (s = t) := by
  have e : PyData.eqv (.tuple [pt s.1, pt s.2]) (.tuple [pt t.1, pt t.2]) = (PyData.eqv (pt s.1) (pt t.1) && (PyData.eqv (pt s.2) (pt t.2) && true)) := by
    simp only [PyData.eqv, PyData.eqvAll]
  rw [e, eqv_pt, eqv_pt, Bool.eq_iff_iff]
  obtain ⟨a, b⟩ := s
  obtain ⟨c, d⟩ := t
  simp
/-- the order of points -/
def ltP (p q : Pt) : Bool := PySem.W.dataLt (pt p) (pt q)
def ltN (p q : Pt) : Bool := if p.a = q.a then (if p.b = q.b then (if p.c = q.c then decide (p.d < q.d) else decide (p.c < q.c)) else decide (p.b < q.b)) else decide (p.a < q.a)
theorem row_lt (i j : Int) (xs ys : List D) (h : PySem.W.alikeAll xs ys = true) : PySem.W.dataLt (.tuple (.int i :: xs)) (.tuple (.int j :: ys)) = if i = j then PySem.W.dataLt (.tuple xs) (.tuple ys) else decide (i < j) := by
  rw [PySem.W.dataLt_tuple]
  by_cases e : i = j
  · rw [if_pos e, PySem.W.dataLt_all_yes rfl (by rw [e]; simp [PyData.eqv]), ← PySem.W.dataLt_tuple]
  · rw [if_neg e, PySem.W.dataLt_all_no rfl (by simp [PyData.eqv, e]), PySem.W.dataLt_int]
theorem ltP_eq (p q : Pt) : ltP p q = ltN p q := by
  unfold ltP ltN
  rw [row_lt _ _ _ _ rfl, row_lt _ _ _ _ rfl, row_lt _ _ _ _ rfl, row_lt _ _ _ _ rfl]
  have e : PySem.W.dataLt (.tuple []) (.tuple []) = false := by
    rw [PySem.W.dataLt_tuple]
    rfl
  rw [e]
  by_cases h : p.d = q.d
  · simp [h]
  · simp [h]
theorem lt_asym {p q : Pt} (h : ltP p q = true) : ltP q p = false := by
  rw [ltP_eq] at h ⊢
  unfold ltN at h ⊢
  by_cases h1 : p.a = q.a
  · rw [if_pos h1] at h
    rw [if_pos h1.symm]
    by_cases h2 : p.b = q.b
    · rw [if_pos h2] at h
      rw [if_pos h2.symm]
      by_cases h3 : p.c = q.c
      · rw [if_pos h3, decide_eq_true_eq] at h
        rw [if_pos h3.symm, decide_eq_false_iff_not]; omega
      · rw [if_neg h3, decide_eq_true_eq] at h
        rw [if_neg (Ne.symm h3), decide_eq_false_iff_not]; omega
    · rw [if_neg h2, decide_eq_true_eq] at h
      rw [if_neg (Ne.symm h2), decide_eq_false_iff_not]; omega
  · rw [if_neg h1, decide_eq_true_eq] at h
    rw [if_neg (Ne.symm h1), decide_eq_false_iff_not]; omega
theorem lt_tri {p q : Pt} (h : ltP p q = false) (h' : ltP q p = false) : p = q := by
  rw [ltP_eq] at h h'
  unfold ltN at h h'
  by_cases h1 : p.a = q.a
  · rw [if_pos h1] at h
    rw [if_pos h1.symm] at h'
    by_cases h2 : p.b = q.b
    · rw [if_pos h2] at h
      rw [if_pos h2.symm] at h'
      by_cases h3 : p.c = q.c
      · rw [if_pos h3, decide_eq_false_iff_not] at h
        rw [if_pos h3.symm, decide_eq_false_iff_not] at h'
        exact Pt.eq h1 h2 h3 (by omega)
      · rw [if_neg h3, decide_eq_false_iff_not] at h
        rw [if_neg (Ne.symm h3), decide_eq_false_iff_not] at h'
        omega
    · rw [if_neg h2, decide_eq_false_iff_not] at h
      rw [if_neg (Ne.symm h2), decide_eq_false_iff_not] at h'
      omega
  · rw [if_neg h1, decide_eq_false_iff_not] at h
    rw [if_neg (Ne.symm h1), decide_eq_false_iff_not] at h'
    omega
abbrev eqP (p q : Pt) : Bool := decide (p = q)
def nrm (s : Pt × Pt) : Pt × Pt := if ltP s.1 s.2 then s else (s.2, s.1)
theorem nrm_eq (s t : Pt × Pt) : decide (nrm s = nrm t) = sameS eqP s t := by
  obtain ⟨a, b⟩ := s
  obtain ⟨c, d⟩ := t
  rw [Bool.eq_iff_iff, decide_eq_true_eq]
  unfold nrm sameS
  simp only [Bool.or_eq_true, Bool.and_eq_true, decide_eq_true_eq]
  cases h1 : ltP a b with
  | true =>
    cases h2 : ltP c d with
    | true =>
      simp only [if_true, Prod.mk.injEq]
      refine ⟨.inl, fun h => ?_⟩
      rcases h with h | ⟨h, h'⟩
      · exact h
      · subst h h'
        rw [lt_asym h1] at h2
        cases h2
    | false =>
      simp only [if_true, Prod.mk.injEq]
      rw [if_neg (by decide)]
      simp only [Prod.mk.injEq]
      refine ⟨.inr, fun h => ?_⟩
      rcases h with ⟨h, h'⟩ | h
      · subst h h'
        rw [h1] at h2
        cases h2
      · exact h
  | false =>
    cases h2 : ltP c d with
    | true =>
      rw [if_neg (by decide), if_pos rfl]
      simp only [Prod.mk.injEq]
      refine ⟨fun h => .inr ⟨h.2, h.1⟩, fun h => ?_⟩
      rcases h with ⟨h, h'⟩ | h
      · subst h h'
        rw [h1] at h2
        cases h2
      · exact ⟨h.2, h.1⟩
    | false =>
      rw [if_neg (by decide), if_neg (by decide)]
      simp only [Prod.mk.injEq]
      refine ⟨fun h => .inl ⟨h.2, h.1⟩, fun h => ?_⟩
      rcases h with h | ⟨h, h'⟩
      · exact ⟨h.2, h.1⟩
      · subst h h'
        have e := lt_tri h1 h2
        exact ⟨e.symm, e⟩
/-! ### the dict of sides -/
abbrev kS (s : Pt × Pt) : D := .tuple [pt s.1, pt s.2]
def enc (l : List ((Pt × Pt) × Nat)) : List (D × D) := l.map fun p => (kS (nrm p.1), .int p.2)
theorem dput_cons {h : D × D} {ds : List (D × D)} {k v : D} (e : PyData.eqv h.1 k = false) : dPut (h :: ds) k v = h :: dPut ds k v ∧ dFind (h :: ds) k = dFind ds k := by
  have f : dFind (h :: ds) k = dFind ds k := by
    unfold dFind
    rw [List.find?_cons, e]
  refine ⟨?_, f⟩
  unfold dPut
  rw [f]
  cases (dFind ds k).isSome with
  | true =>
    rw [if_pos rfl, if_pos rfl, List.map_cons, e]
    rfl
  | false => rfl
theorem dict_bump (x : Pt × Pt) : ∀ l : List ((Pt × Pt) × Nat), (l.map fun p => nrm p.1).Nodup → ∃ c : Nat, (dFind (enc l) (kS (nrm x))).getD (.int 0) = .int c ∧ dPut (enc l) (kS (nrm x)) (.int (c + 1)) = enc (bump (sameS eqP) l x)
  | [], _ => ⟨0, rfl, rfl⟩
  | (y, n) :: l, hn => by
    have ev : PyData.eqv (kS (nrm y)) (kS (nrm x)) = sameS eqP y x := by rw [eqv_pair, nrm_eq]
    rw [List.map_cons, List.nodup_cons] at hn
    cases hs : sameS eqP y x with
    | true =>
      rw [hs] at ev
      refine ⟨n, ?_, ?_⟩
      · unfold enc dFind
        rw [List.map_cons, List.find?_cons, ev]
        rfl
      · have hf : (dFind (enc ((y, n) :: l)) (kS (nrm x))).isSome = true := by
          unfold enc dFind
          rw [List.map_cons, List.find?_cons, ev]
          rfl
        unfold dPut
        rw [if_pos hf]
        unfold bump
        rw [hs, if_pos rfl]
        unfold enc
        rw [List.map_cons, List.map_cons, List.map_cons, ev]
        refine List.cons_eq_cons.mpr ⟨rfl, ?_⟩
        · rw [List.map_map]
          refine List.map_congr_left fun p hp => ?_
          have hne : nrm p.1 ≠ nrm x := by
            intro e
            have e2 : nrm y = nrm x := of_decide_eq_true ((nrm_eq y x).trans hs)
            exact hn.1 (List.mem_map.mpr ⟨p, hp, e.trans e2.symm⟩)
          show (if PyData.eqv (kS (nrm p.1)) (kS (nrm x)) = true then _ else _) = _
          rw [eqv_pair, decide_eq_false hne]
          rfl
    | false =>
      rw [hs] at ev
      obtain ⟨c, h1, h2⟩ := dict_bump x l hn.2
      obtain ⟨d1, d2⟩ := dput_cons (h := (kS (nrm y), .int n)) (ds := enc l) (v := .int (c + 1)) ev
      refine ⟨c, ?_, ?_⟩
      · show (dFind ((kS (nrm y), .int n) :: enc l) (kS (nrm x))).getD (.int 0) = _
        rw [d2, h1]
      · show dPut ((kS (nrm y), .int n) :: enc l) (kS (nrm x)) _ = _
        have hb : bump (sameS eqP) ((y, n) :: l) x = (y, n) :: bump (sameS eqP) l x := by
          rw [bump, hs]
          rfl
        rw [d1, h2, hb]
        rfl
theorem bump_nodup (x : Pt × Pt) : ∀ l : List ((Pt × Pt) × Nat), (l.map fun p => nrm p.1).Nodup → ((bump (sameS eqP) l x).map fun p => nrm p.1).Nodup
  | [], _ => by simp [bump]
  | (y, n) :: l, hn => by
    unfold bump
    rw [List.map_cons, List.nodup_cons] at hn
    cases hs : sameS eqP y x with
    | true =>
      rw [if_pos rfl, List.map_cons, List.nodup_cons]
      exact hn
    | false =>
      rw [if_neg (by decide), List.map_cons, List.nodup_cons]
      refine ⟨fun h => ?_, bump_nodup x l hn.2⟩
      obtain ⟨p, hp, e⟩ := List.mem_map.mp h
      have hm : p.1 ∈ (bump (sameS eqP) l x).map (·.1) := List.mem_map.mpr ⟨p, hp, rfl⟩
      rcases bump_keys hm with z | z
      · obtain ⟨q, hq, eq⟩ := List.mem_map.mp z
        exact hn.1 (List.mem_map.mpr ⟨q, hq, by rw [eq]; exact e⟩)
      · rw [z] at e
        have := (nrm_eq y x).symm.trans (decide_eq_true e.symm)
        rw [hs] at this
        cases this
end K38

set_option Elab.async false
set_option linter.all false
set_option maxRecDepth 100000
set_option maxHeartbeats 4000000
/-! K38M7: side_counts. -/
namespace K38
open PySem DL
theorem dput_of {i : Nat} {f h : Ev} {Γ : Env'} {t t1 t2 : Tape} {ds : List (D × D)} {k v : D} (h1 : h Γ t = some (v, t1)) (hi : Γ[i]? = some (.mu (.dict ds))) (h2 : f Γ t1 = some (k, t2)) (hk : tKeys ds = true) (ho : (okKey k).isSome = true) (hz : ds.length < sizeLine) : sDput i f h Γ t = some (.nx (Γ.set i (.mu (.dict (dPut ds k v)))) t2) := by
  unfold sDput
  rw [h1]
  simp only [Option.bind_eq_bind, Option.bind_some, hi]
  rw [h2]
  simp only [Option.bind_some, hk, ho, decide_eq_true hz]
  rfl
theorem dmu_of {i : Nat} {Γ : Env'} {t : Tape} {ds : List (D × D)} (hi : Γ[i]? = some (.mu (.dict ds))) (hk : tKeys ds = true) : dMu i Γ t = some (ds, t) := by
  unfold dMu
  rw [hi]
  exact if_pos hk
theorem dget2_of {fd : Evd} {fk fx : Ev} {Γ : Env'} {t t1 t2 t3 : Tape} {ds : List (D × D)} {k x : D} (h1 : fd Γ t = some (ds, t1)) (h2 : fk Γ t1 = some (k, t2)) (h3 : fx Γ t2 = some (x, t3)) (ho : (okKey k).isSome = true) : dGet2 fd fk fx Γ t = some ((dFind ds k).getD x, t3) := by
  unfold dGet2
  rw [h1]
  simp only [Option.bind_eq_bind, Option.bind_some]
  rw [h2]
  simp only [Option.bind_some]
  rw [h3]
  exact if_pos ho
theorem ife_t {c : Evb} {f g : Ev} {Γ : Env'} {t t1 : Tape} {r : Option (D × Tape)} (h : c Γ t = some (true, t1)) (h2 : f Γ t1 = r) : ifE c f g Γ t = r := by
  unfold ifE
  rw [h]
  exact h2
theorem ife_f {c : Evb} {f g : Ev} {Γ : Env'} {t t1 : Tape} {r : Option (D × Tape)} (h : c Γ t = some (false, t1)) (h2 : g Γ t1 = r) : ifE c f g Γ t = r := by
  unfold ifE
  rw [h]
  exact h2
theorem ok_kS (s : Pt × Pt) : (okKey (kS s)).isSome = true := rfl
theorem lt_pt (p q : Pt) : ltA (pt p) (pt q) = some (.bool (ltP p q)) := if_pos rfl
theorem tk_enc (l : List ((Pt × Pt) × Nat)) : tKeys (enc l) = true := by
  unfold tKeys enc
  rw [List.all_map, List.all_eq_true]
  exact fun p _ => rfl
def bodyS : Es := (sSeq (sSet 8 (ifE (tst (binD ltA (vVar 6) (vVar 7))) (vTup (aCons (vVar 6) (aCons (vVar 7) aNil))) (vTup (aCons (vVar 7) (aCons (vVar 6) aNil)))))
  (sDput 1 (vVar 8) (binD addD (dGet2 (dMu 1) (vVar 8) (vC (.int 0))) (vC (.int 1)))))
/-- one side -/
theorem side_step (t : Tape) (s0 s2 s3 s4 s5 s8 : Slot) (x : Pt × Pt) (l : List ((Pt × Pt) × Nat)) (hn : (l.map fun p => nrm p.1).Nodup) (hz : l.length < sizeLine) :
    bodyS [s0, .mu (.dict (enc l)), s2, s3, s4, s5, .fz (pt x.1), .fz (pt x.2), s8] t = some (.nx [s0, .mu (.dict (enc (bump (sameS eqP) l x))), s2, s3, s4, s5, .fz (pt x.1), .fz (pt x.2), .fz (kS (nrm x))] t) := by
  unfold bodyS
  refine Eq.trans (seq_nx (set_of' (d := kS (nrm x)) (t' := t) ?_)) ?_
  · have ht : tst (binD ltA (vVar 6) (vVar 7)) [s0, .mu (.dict (enc l)), s2, s3, s4, s5, .fz (pt x.1), .fz (pt x.2), s8] t = some (ltP x.1 x.2, t) := tst_of (bin_of (var_of rfl) (var_of rfl) (lt_pt _ _))
    cases hl : ltP x.1 x.2 with
    | true =>
      rw [hl] at ht
      refine ife_t ht ?_
      have e : nrm x = x := by unfold nrm; rw [hl, if_pos rfl]
      rw [e]
      exact tup_of (ds := [pt x.1, pt x.2]) (cons_of (var_of rfl) (cons_of (var_of rfl) rfl)) (show 2 ≤ 1000 by decide)
    | false =>
      rw [hl] at ht
      refine ife_f ht ?_
      have e : nrm x = (x.2, x.1) := by unfold nrm; rw [hl, if_neg (by decide)]
      rw [e]
      exact tup_of (ds := [pt x.2, pt x.1]) (cons_of (var_of rfl) (cons_of (var_of rfl) rfl)) (show 2 ≤ 1000 by decide)
  · obtain ⟨c, h1, h2⟩ := dict_bump x l hn
    have hg : dGet2 (dMu 1) (vVar 8) (vC (.int 0)) [s0, .mu (.dict (enc l)), s2, s3, s4, s5, .fz (pt x.1), .fz (pt x.2), .fz (kS (nrm x))] t = some (.int c, t) := by
      have z := dget2_of (fd := dMu 1) (fk := vVar 8) (fx := vC (.int 0)) (Γ := [s0, .mu (.dict (enc l)), s2, s3, s4, s5, .fz (pt x.1), .fz (pt x.2), .fz (kS (nrm x))]) (t := t) (dmu_of rfl (tk_enc l)) (var_of (d := kS (nrm x)) rfl) (x := .int 0) rfl (ok_kS _)
      rw [h1] at z
      exact z
    have z := dput_of (i := 1) (f := vVar 8) (h := binD addD (dGet2 (dMu 1) (vVar 8) (vC (.int 0))) (vC (.int 1))) (Γ := [s0, .mu (.dict (enc l)), s2, s3, s4, s5, .fz (pt x.1), .fz (pt x.2), .fz (kS (nrm x))]) (t := t) (v := .int (c + 1)) (bin_of hg rfl rfl) rfl (var_of (d := kS (nrm x)) rfl) (tk_enc l) (ok_kS _) (by unfold enc; rw [List.length_map]; exact hz)
    rw [h2] at z
    exact z
theorem sides3 (t : Tape) (s0 s2 s3 s4 s5 : Slot) (xs : List (Pt × Pt)) : ∀ (l : List ((Pt × Pt) × Nat)) (s6 s7 s8 : Slot), (l.map fun p => nrm p.1).Nodup → l.length + xs.length < sizeLine → ∃ s6' s7' s8', forL (gTp 2 (gsCons (gNm 6) (gsCons (gNm 7) gsNil))) bodyS (xs.map fun x => .tuple [pt x.1, pt x.2]) [s0, .mu (.dict (enc l)), s2, s3, s4, s5, s6, s7, s8] t = some (.nx [s0, .mu (.dict (enc (cnt (sameS eqP) l xs))), s2, s3, s4, s5, s6', s7', s8'] t) := by
  induction xs with
  | nil => exact fun l s6 s7 s8 _ _ => ⟨s6, s7, s8, rfl⟩
  | cons x xs ih =>
    intro l s6 s7 s8 hn hz
    rw [List.length_cons] at hz
    have hb : (bump (sameS eqP) l x).length ≤ l.length + 1 := cnt_len (r := sameS eqP) [x] l
    obtain ⟨a, b, c, h⟩ := ih (bump (sameS eqP) l x) (.fz (pt x.1)) (.fz (pt x.2)) (.fz (kS (nrm x))) (bump_nodup x l hn) (by omega)
    refine ⟨a, b, c, Eq.trans (for_nx (l := [(6, pt x.1), (7, pt x.2)]) rfl (side_step t s0 s2 s3 s4 s5 s8 x l hn (by omega))) h⟩
def tri3 (T : Tr) : Pt × Pt × Pt := (T.x, T.y, T.z)
theorem cnt_app {ι : Type} (r : ι → ι → Bool) (l : List (ι × Nat)) (xs ys : List ι) : cnt r l (xs ++ ys) = cnt r (cnt r l xs) ys := List.foldl_append
theorem cnt_nodup (xs : List (Pt × Pt)) : ∀ l : List ((Pt × Pt) × Nat), (l.map fun p => nrm p.1).Nodup → ((cnt (sameS eqP) l xs).map fun p => nrm p.1).Nodup := by
  induction xs with
  | nil => exact fun l h => h
  | cons x xs ih => exact fun l h => ih _ (bump_nodup x l h)
def itS : Evi := iSeq (vTup (aCons (vTup (aCons (vVar 3) (aCons (vVar 4) aNil))) (aCons (vTup (aCons (vVar 4) (aCons (vVar 5) aNil))) (aCons (vTup (aCons (vVar 5) (aCons (vVar 3) aNil))) aNil))))
def prD (x : Pt × Pt) : D := .tuple [pt x.1, pt x.2]
theorem itS_ok (t : Tape) (s0 s1 s2 s6 s7 s8 : Slot) (x y z : Pt) : itS [s0, s1, s2, .fz (pt x), .fz (pt y), .fz (pt z), s6, s7, s8] t = some ([prD (x, y), prD (y, z), prD (z, x)], t) := by
  unfold itS
  refine seq_of (d := .tuple [prD (x, y), prD (y, z), prD (z, x)]) ?_ rfl
  have v3 : vVar 3 [s0, s1, s2, .fz (pt x), .fz (pt y), .fz (pt z), s6, s7, s8] t = some (pt x, t) := rfl
  have v4 : vVar 4 [s0, s1, s2, .fz (pt x), .fz (pt y), .fz (pt z), s6, s7, s8] t = some (pt y, t) := rfl
  have v5 : vVar 5 [s0, s1, s2, .fz (pt x), .fz (pt y), .fz (pt z), s6, s7, s8] t = some (pt z, t) := rfl
  have n : ∀ Γ : Env', aNil Γ t = some ([], t) := fun _ => rfl
  have p1 := tup_of (cons_of v3 (cons_of v4 (n _))) (show 2 ≤ 1000 by decide)
  have p2 := tup_of (cons_of v4 (cons_of v5 (n _))) (show 2 ≤ 1000 by decide)
  have p3 := tup_of (cons_of v5 (cons_of v3 (n _))) (show 2 ≤ 1000 by decide)
  exact tup_of (cons_of p1 (cons_of p2 (cons_of p3 (n _)))) (show 3 ≤ 1000 by decide)
theorem pr_map (xs : List (Pt × Pt)) : (xs.map fun x => (PyData.tuple [pt x.1, pt x.2])) = xs.map prD := rfl
theorem tri_step (t : Tape) (s0 s6 s7 s8 k : Slot) (T : Tr) (l : List ((Pt × Pt) × Nat)) (hn : (l.map fun p => nrm p.1).Nodup) (hz : l.length + 3 < sizeLine) : ∃ a6 a7 a8, sFor itS (gTp 2 (gsCons (gNm 6) (gsCons (gNm 7) gsNil))) bodyS [s0, .mu (.dict (enc l)), k, .fz (pt T.x), .fz (pt T.y), .fz (pt T.z), s6, s7, s8] t = some (.nx [s0, .mu (.dict (enc (cnt (sameS eqP) l (sidesOf (tri3 T))))), k, .fz (pt T.x), .fz (pt T.y), .fz (pt T.z), a6, a7, a8] t) := by
  obtain ⟨a6, a7, a8, h1⟩ := sides3 t s0 k (.fz (pt T.x)) (.fz (pt T.y)) (.fz (pt T.z)) (sidesOf (tri3 T)) l s6 s7 s8 hn hz
  rw [pr_map] at h1
  have e : (sidesOf (tri3 T)).map prD = [prD (T.x, T.y), prD (T.y, T.z), prD (T.z, T.x)] := rfl
  rw [e] at h1
  exact ⟨a6, a7, a8, sFor_of (itS_ok t s0 _ k s6 s7 s8 T.x T.y T.z) h1⟩
def bodyT : Es := sFor itS (gTp 2 (gsCons (gNm 6) (gsCons (gNm 7) gsNil))) bodyS
def tgT : Tg := gTp 4 (gsCons (gNm 2) (gsCons (gNm 3) (gsCons (gNm 4) (gsCons (gNm 5) gsNil))))
theorem tgT_ok (T : Tr) : tgT (td T) = some [(2, kd T.s), (3, pt T.x), (4, pt T.y), (5, pt T.z)] := rfl
theorem sides_loop (t : Tape) (s0 : Slot) (L : List Tr) : ∀ (l : List ((Pt × Pt) × Nat)) (s2 s3 s4 s5 s6 s7 s8 : Slot), (l.map fun p => nrm p.1).Nodup → l.length + 3 * L.length < sizeLine → ∃ s2' s3' s4' s5' s6' s7' s8', forL tgT bodyT (L.map td) [s0, .mu (.dict (enc l)), s2, s3, s4, s5, s6, s7, s8] t = some (.nx [s0, .mu (.dict (enc (cnt (sameS eqP) l (L.flatMap fun T => sidesOf (tri3 T))))), s2', s3', s4', s5', s6', s7', s8'] t) := by
  induction L with
  | nil => exact fun l s2 s3 s4 s5 s6 s7 s8 _ _ => ⟨s2, s3, s4, s5, s6, s7, s8, rfl⟩
  | cons T L ih =>
    intro l s2 s3 s4 s5 s6 s7 s8 hn hz
    rw [List.length_cons] at hz
    obtain ⟨a6, a7, a8, h1⟩ := tri_step t s0 s6 s7 s8 (.fz (kd T.s)) T l hn (by omega)
    have hb : (cnt (sameS eqP) l (sidesOf (tri3 T))).length ≤ l.length + 3 := cnt_len (r := sameS eqP) (sidesOf (tri3 T)) l
    obtain ⟨b2, b3, b4, b5, b6, b7, b8, h2⟩ := ih (cnt (sameS eqP) l (sidesOf (tri3 T))) (.fz (kd T.s)) (.fz (pt T.x)) (.fz (pt T.y)) (.fz (pt T.z)) a6 a7 a8 (cnt_nodup _ l hn) (by omega)
    refine ⟨b2, b3, b4, b5, b6, b7, b8, ?_⟩
    rw [List.flatMap_cons, cnt_app, List.map_cons]
    have h3 : bodyT (setG [s0, .mu (.dict (enc l)), s2, s3, s4, s5, s6, s7, s8] [(2, kd T.s), (3, pt T.x), (4, pt T.y), (5, pt T.z)]) t = _ := h1
    exact (for_nx (tgT_ok T) h3).trans h2
def sideL (L : List Tr) : List ((Pt × Pt) × Nat) := cnt (sameS eqP) [] (L.flatMap fun T => sidesOf (tri3 T))
theorem b_sides_eq : b_side_counts = sSeq (sMu 1 (vC (.dict []))) (sSeq (sFor (iSeq (vVar 0)) tgT bodyT) (sRetMu 1)) := rfl
theorem F_sides_ok (L : List Tr) (hL : 3 * L.length < sizeLine) : F_side_counts [tds L] = some (.dict (enc (sideL L))) := by
  obtain ⟨b2, b3, b4, b5, b6, b7, b8, h⟩ := sides_loop tape0 (.fz (tds L)) L [] .no .no .no .no .no .no .no List.nodup_nil (by rw [List.length_nil]; omega)
  refine fnD_rt rfl (t := tape0) ?_
  have e1 : sMu 1 (vC (.dict [])) [.fz (tds L), .no, .no, .no, .no, .no, .no, .no, .no] tape0 = some (.nx [.fz (tds L), .mu (.dict (enc [])), .no, .no, .no, .no, .no, .no, .no] tape0) := rfl
  have e2 : iSeq (vVar 0) [.fz (tds L), .mu (.dict (enc [])), .no, .no, .no, .no, .no, .no, .no] tape0 = some (L.map td, tape0) := rfl
  rw [b_sides_eq]
  have e3 := (seq_nx (g := sRetMu 1) (sFor_of e2 h)).trans (show sRetMu 1 [.fz (tds L), .mu (.dict (enc (sideL L))), b2, b3, b4, b5, b6, b7, b8] tape0 = some (.rt (.dict (enc (sideL L))) tape0) from rfl)
  exact (seq_nx e1).trans e3
end K38

set_option Elab.async false
set_option linter.all false
set_option maxRecDepth 100000
set_option maxHeartbeats 4000000
/-! K38M8: points_of. -/
namespace K38
open PySem DL
def encP (l : List (Pt × Nat)) : List (D × D) := l.map fun p => (pt p.1, .bool true)
theorem ptd_bump (x : Pt) : ∀ l : List (Pt × Nat), dPut (encP l) (pt x) (.bool true) = encP (bump eqP l x)
  | [] => rfl
  | (y, n) :: l => by
    have ev := eqv_pt y x
    cases hs : eqP y x with
    | true =>
      have ev : PyData.eqv (pt y) (pt x) = true := ev.trans hs
      have hf : (dFind (encP ((y, n) :: l)) (pt x)).isSome = true := by
        unfold encP dFind
        rw [List.map_cons, List.find?_cons, ev]
        rfl
      have hb : bump eqP ((y, n) :: l) x = (y, n + 1) :: l := by rw [bump, hs]; rfl
      unfold dPut
      rw [if_pos hf, hb]
      unfold encP
      rw [List.map_cons, List.map_cons, List.map_cons, List.map_map]
      refine List.cons_eq_cons.mpr ⟨?_, List.map_congr_left fun p _ => ?_⟩
      · show (if _ then _ else _) = _
        split <;> rfl
      · show (if _ then _ else _) = _
        split <;> rfl
    | false =>
      have ev : PyData.eqv (pt y) (pt x) = false := ev.trans hs
      have hb : bump eqP ((y, n) :: l) x = (y, n) :: bump eqP l x := by rw [bump, hs]; rfl
      obtain ⟨d1, _⟩ := dput_cons (h := (pt y, .bool true)) (ds := encP l) (v := .bool true) ev
      have ih := ptd_bump x l
      rw [hb]
      show dPut ((pt y, .bool true) :: encP l) (pt x) _ = (pt y, .bool true) :: encP (bump eqP l x)
      rw [d1, ih]
theorem dc1_cons {g : Env'} {t : Tape} {x : D} {ds : List D} {acc : List (D × D)} {r : Option (List (D × D) × Tape)} (hg : g.length = 3) (ho : (okKey x).isSome = true) (hz : acc.length < sizeLine) (h : dcLoop1 (gNm 2) bYes (vVar 2) (vC (.bool true)) g ds (dPut acc x (.bool true)) t = r) : dcLoop1 (gNm 2) bYes (vVar 2) (vC (.bool true)) g (x :: ds) acc t = r := by
  have hv : vVar 2 (setG g [(2, x)]) t = some (x, t) := var_of (List.getElem?_set_self (by omega))
  rw [dcLoop1]
  simp only [gNm, Option.bind_eq_bind, Option.bind_some, bYes, if_true]
  rw [hv]
  simp only [Option.bind_some, vC, ho, decide_eq_true hz, Bool.and_self, if_true]
  exact h
theorem pts1 (g : Env') (hg : g.length = 3) (t : Tape) (xs : List Pt) : ∀ l : List (Pt × Nat), l.length + xs.length ≤ sizeLine → dcLoop1 (gNm 2) bYes (vVar 2) (vC (.bool true)) g (xs.map pt) (encP l) t = some (encP (cnt eqP l xs), t) := by
  induction xs with
  | nil => exact fun l _ => rfl
  | cons x xs ih =>
    intro l hz
    rw [List.length_cons] at hz
    have hb : (bump eqP l x).length ≤ l.length + 1 := cnt_len (r := eqP) [x] l
    rw [List.map_cons]
    refine dc1_cons hg rfl (by unfold encP; rw [List.length_map]; omega) ?_
    rw [ptd_bump]
    exact ih (bump eqP l x) (by omega)
def itP : Evi := iSeq (sliceD (vVar 1) (oSome (vC (.int 1))) oNone)
theorem itP_ok (g : Env') (hg : g.length = 3) (t : Tape) (T : Tr) : itP (setG g [(1, td T)]) t = some ((ptsOf (tri3 T)).map pt, t) := by
  have hv : vVar 1 (setG g [(1, td T)]) t = some (td T, t) := var_of (List.getElem?_set_self (by omega))
  unfold itP iSeq sliceD
  rw [hv]
  rfl
theorem dc2_cons {g : Env'} {t : Tape} {T : Tr} {ds : List D} {acc acc' : List (D × D)} {r : Option (List (D × D) × Tape)} (hg : g.length = 3) (h1 : dcLoop1 (gNm 2) bYes (vVar 2) (vC (.bool true)) (wipeG (setG g [(1, td T)]) [2]) ((ptsOf (tri3 T)).map pt) acc t = some (acc', t)) (h : dcLoop2 (gNm 1) bYes itP [2] (gNm 2) bYes (vVar 2) (vC (.bool true)) g ds acc' t = r) : dcLoop2 (gNm 1) bYes itP [2] (gNm 2) bYes (vVar 2) (vC (.bool true)) g (td T :: ds) acc t = r := by
  have hi := itP_ok g hg t T
  rw [dcLoop2]
  simp only [gNm, Option.bind_eq_bind, Option.bind_some, bYes, if_true]
  rw [hi]
  simp only [Option.bind_some]
  rw [h1]
  exact h
theorem pts2 (g : Env') (hg : g.length = 3) (t : Tape) (L : List Tr) : ∀ l : List (Pt × Nat), l.length + 3 * L.length ≤ sizeLine → dcLoop2 (gNm 1) bYes itP [2] (gNm 2) bYes (vVar 2) (vC (.bool true)) g (L.map td) (encP l) t = some (encP (cnt eqP l (L.flatMap fun T => ptsOf (tri3 T))), t) := by
  induction L with
  | nil => exact fun l _ => rfl
  | cons T L ih =>
    intro l hz
    rw [List.length_cons] at hz
    have hb : (cnt eqP l (ptsOf (tri3 T))).length ≤ l.length + 3 := cnt_len (r := eqP) (ptsOf (tri3 T)) l
    rw [List.map_cons, List.flatMap_cons, cnt_app]
    refine dc2_cons hg (pts1 _ (by simp [wipeG, setG, hg]) t (ptsOf (tri3 T)) l (by show l.length + 3 ≤ sizeLine; omega)) ?_
    exact ih _ (by omega)
def ptL (L : List Tr) : List Pt := (cnt eqP [] (L.flatMap fun T => ptsOf (tri3 T))).map (·.1)
theorem sort_pts (l : List Pt) (hl : l.length ≤ sizeLine) : SortOk (l.map pt) := by
  refine ⟨PySem.W.AllAlike.of fun _ _ => rfl, PySem.W.Sortable.tuples fun p => ⟨_, _, rfl⟩, by rw [List.length_map]; exact hl, fun d hd => ?_⟩
  obtain ⟨p, _, rfl⟩ := List.mem_map.mp hd
  exact ⟨rfl, by simp [PyData.depth, PyData.depthAll]⟩
theorem pts_len : ∀ L : List Tr, (L.flatMap fun T => ptsOf (tri3 T)).length = 3 * L.length
  | [] => rfl
  | T :: L => by
    rw [List.flatMap_cons, List.length_append, pts_len L, List.length_cons]
    show 3 + 3 * L.length = _
    omega
theorem sds_len : ∀ L : List Tr, (L.flatMap fun T => sidesOf (tri3 T)).length = 3 * L.length
  | [] => rfl
  | T :: L => by
    rw [List.flatMap_cons, List.length_append, sds_len L, List.length_cons]
    show 3 + 3 * L.length = _
    omega
theorem b_points_eq : b_points_of = sRet (unD tupD (sortDd (dc2D (iSeq (vVar 0)) [1, 2] (gNm 1) bYes itP [2] (gNm 2) bYes (vVar 2) (vC (.bool true))))) := rfl
theorem F_points_ok (L : List Tr) (hL : 3 * L.length ≤ sizeLine) : F_points_of [tds L] = some (.tuple (sortL ((ptL L).map pt))) := by
  refine fnD_rt rfl (t := tape0) ?_
  show b_points_of [.fz (tds L), .no, .no] tape0 = _
  rw [b_points_eq]
  have h := pts2 [.fz (tds L), .no, .no] rfl tape0 L [] (by rw [List.length_nil]; omega)
  have hd : dc2D (iSeq (vVar 0)) [1, 2] (gNm 1) bYes itP [2] (gNm 2) bYes (vVar 2) (vC (.bool true)) [.fz (tds L), .no, .no] tape0 = some (encP (cnt eqP [] (L.flatMap fun T => ptsOf (tri3 T))), tape0) := by
    have hi : iSeq (vVar 0) [.fz (tds L), .no, .no] tape0 = some (L.map td, tape0) := rfl
    unfold dc2D
    rw [hi]
    exact h
  have hk : (encP (cnt eqP [] (L.flatMap fun T => ptsOf (tri3 T)))).map (·.1) = (ptL L).map pt := by
    unfold encP ptL
    rw [List.map_map, List.map_map]
    rfl
  have hlen : (ptL L).length ≤ sizeLine := by
    have h1 := cnt_len (r := eqP) (L.flatMap fun T => ptsOf (tri3 T)) []
    have h2 := pts_len L
    unfold ptL
    rw [List.length_map]
    rw [List.length_nil] at h1
    omega
  have hs : sortDd (dc2D (iSeq (vVar 0)) [1, 2] (gNm 1) bYes itP [2] (gNm 2) bYes (vVar 2) (vC (.bool true))) [.fz (tds L), .no, .no] tape0 = some (.list (sortL ((ptL L).map pt)), tape0) := by
    unfold sortDd
    rw [hd]
    simp only [Option.bind_eq_bind, Option.bind_some, hk]
    exact if_pos (by rw [hk]; exact sort_pts _ hlen)
  exact ret_of (un_of hs rfl)
end K38

set_option Elab.async false
set_option linter.all false
set_option maxRecDepth 100000
set_option maxHeartbeats 4000000
/-! K38M9: _law_euler. -/
namespace K38
open PySem DL
theorem find_enc (p : (Pt × Pt) × Nat) : ∀ l : List ((Pt × Pt) × Nat), (l.map fun p => nrm p.1).Nodup → p ∈ l → dFind (enc l) (kS (nrm p.1)) = some (.int p.2)
  | [], _, h => by cases h
  | (y, n) :: l, hn, h => by
    rw [List.map_cons, List.nodup_cons] at hn
    by_cases e : nrm y = nrm p.1
    · have ev : PyData.eqv (kS (nrm y)) (kS (nrm p.1)) = true := by rw [eqv_pair]; exact decide_eq_true e
      rcases List.mem_cons.mp h with z | z
      · unfold enc dFind
        rw [List.map_cons, List.find?_cons, ev, z]
        rfl
      · exact absurd (List.mem_map.mpr ⟨p, z, e.symm⟩) hn.1
    · have ev : PyData.eqv (kS (nrm y)) (kS (nrm p.1)) = false := by rw [eqv_pair]; exact decide_eq_false e
      rcases List.mem_cons.mp h with z | z
      · rw [z] at e; exact absurd rfl e
      · show dFind ((kS (nrm y), .int n) :: enc l) (kS (nrm p.1)) = _
        rw [(dput_cons (h := (kS (nrm y), .int n)) (ds := enc l) (v := .none) ev).2]
        exact find_enc p l hn.2 z
def dxE : Ev := dIx (dTo (vVar 1)) (vVar 2)
theorem dxE_ok {Γ : Env'} {t : Tape} {l : List ((Pt × Pt) × Nat)} {p : (Pt × Pt) × Nat} (h1 : Γ[1]? = some (.fz (.dict (enc l)))) (h2 : Γ[2]? = some (.fz (kS (nrm p.1)))) (hn : (l.map fun p => nrm p.1).Nodup) (hp : p ∈ l) : dxE Γ t = some (.int p.2, t) := by
  have e1 : dTo (vVar 1) Γ t = some (enc l, t) := by
    unfold dTo
    rw [var_of h1]
    exact if_pos (tk_enc l)
  unfold dxE dIx
  rw [e1]
  simp only [Option.bind_eq_bind, Option.bind_some]
  rw [var_of h2]
  simp only [Option.bind_some, ok_kS, if_true]
  rw [find_enc p l hn hp]
  rfl
theorem vals_loop (s0 s2 : Slot) (t : Tape) (l : List ((Pt × Pt) × Nat)) (hn : (l.map fun p => nrm p.1).Nodup) : ∀ m : List ((Pt × Pt) × Nat), (∀ p ∈ m, p ∈ l) → lcLoop (gNm 2) bYes dxE [s0, .fz (.dict (enc l)), s2] (m.map fun p => kS (nrm p.1)) t = some (m.map fun p => .int p.2, t)
  | [], _ => rfl
  | p :: m, h => by
    rw [List.map_cons, List.map_cons]
    exact lcL_cons (l := [(2, kS (nrm p.1))]) rfl (dxE_ok (Γ := [s0, .fz (.dict (enc l)), .fz (kS (nrm p.1))]) rfl rfl hn (h p List.mem_cons_self)) (vals_loop s0 s2 t l hn m fun q hq => h q (List.mem_cons_of_mem _ hq))
def twoE : Ev := notV (chD leD leD (vC (.int 1)) dxE (vC (.int 2)))
theorem twoE_ok {Γ : Env'} {t : Tape} {l : List ((Pt × Pt) × Nat)} {p : (Pt × Pt) × Nat} (h1 : Γ[1]? = some (.fz (.dict (enc l)))) (h2 : Γ[2]? = some (.fz (kS (nrm p.1)))) (hn : (l.map fun p => nrm p.1).Nodup) (hp : p ∈ l) (h1p : 1 ≤ p.2) : twoE Γ t = some (.bool (!decide (p.2 ≤ 2)), t) := by
  have e := dxE_ok (t := t) h1 h2 hn hp
  have a : (1 : Int) ≤ (p.2 : Int) := by omega
  have b : decide ((p.2 : Int) ≤ 2) = decide (p.2 ≤ 2) := by
    rw [Bool.eq_iff_iff, decide_eq_true_eq, decide_eq_true_eq]; omega
  unfold twoE notV chD
  simp only [vC, Option.bind_eq_bind, Option.bind_some]
  rw [e]
  simp only [Option.bind_some, leD, cmpI, decide_eq_true a, b]
theorem two_loop (s0 s2 : Slot) (t : Tape) (l : List ((Pt × Pt) × Nat)) (hn : (l.map fun p => nrm p.1).Nodup) : ∀ m : List ((Pt × Pt) × Nat), (∀ p ∈ m, p ∈ l ∧ 1 ≤ p.2) → lcLoop (gNm 2) bYes twoE [s0, .fz (.dict (enc l)), s2] (m.map fun p => kS (nrm p.1)) t = some (m.map fun p => .bool (!decide (p.2 ≤ 2)), t)
  | [], _ => rfl
  | p :: m, h => by
    rw [List.map_cons, List.map_cons]
    exact lcL_cons (l := [(2, kS (nrm p.1))]) rfl (twoE_ok (Γ := [s0, .fz (.dict (enc l)), .fz (kS (nrm p.1))]) rfl rfl hn (h p List.mem_cons_self).1 (h p List.mem_cons_self).2) (two_loop s0 s2 t l hn m fun q hq => h q (List.mem_cons_of_mem _ hq))
theorem b_euler_eq : b__law_euler = sSeq (sSet 1 (callD F_side_counts (aCons (vVar 0) aNil))) (sSeq (sIf (orB (tst (binD neD (unD sumD (lcD (iKeysD (vVar 1)) [2] (gNm 2) bYes dxE)) (binD mulD (vC (.int 3)) (unD lenD (vVar 0))))) (tru (unD anyD (lcD (iKeysD (vVar 1)) [2] (gNm 2) bYes twoE)))) (sRet (vC (.bool false))) sSkip)
  (sRet (binD eqD (binD addD (binD subD (unD lenD (callD F_points_of (aCons (vVar 0) aNil))) (dLen (dTo (vVar 1)))) (unD lenD (vVar 0))) (vC (.int 1))))) := rfl
theorem side_nodup (L : List Tr) : ((sideL L).map fun p => nrm p.1).Nodup := cnt_nodup _ [] List.nodup_nil
theorem side_pos (L : List Tr) : ∀ p ∈ sideL L, 1 ≤ p.2 := cnt_pos _ [] (fun _ h => nomatch h)
theorem side_tot (L : List Tr) : tot (sideL L) = 3 * L.length := by
  have h := cnt_tot (r := sameS eqP) (L.flatMap fun T => sidesOf (tri3 T)) []
  rw [sds_len] at h
  unfold sideL
  rw [h]
  show 0 + 3 * L.length = _
  omega
theorem ints_vals : ∀ l : List ((Pt × Pt) × Nat), intsOf (l.map fun p => PyData.int (p.2 : Int)) = some (l.map fun p => (p.2 : Int))
  | [] => rfl
  | p :: l => by rw [List.map_cons, intsOf, ints_vals l]; rfl
theorem sum_vals : ∀ l : List ((Pt × Pt) × Nat), (l.map fun p => (p.2 : Int)).sum = (tot l : Int)
  | [] => rfl
  | p :: l => by
    rw [List.map_cons, List.sum_cons, sum_vals l]
    show (p.2 : Int) + (tot l : Int) = ((p.2 + tot l : Nat) : Int)
    omega
theorem bls_vals : ∀ l : List ((Pt × Pt) × Nat), blsOf (l.map fun p => PyData.bool (!decide (p.2 ≤ 2))) = some (l.map fun p => !decide (p.2 ≤ 2))
  | [] => rfl
  | p :: l => by rw [List.map_cons, blsOf, bls_vals l]; rfl
theorem any_vals (l : List ((Pt × Pt) × Nat)) : (l.map fun p => !decide (p.2 ≤ 2)).any id = !(l.all fun p => decide (p.2 ≤ 2)) := by
  induction l with
  | nil => rfl
  | cons p l ih =>
    rw [List.map_cons, List.any_cons, ih, List.all_cons]
    cases decide (p.2 ≤ 2) <;> rfl
theorem keys_ok (s0 s2 : Slot) (t : Tape) (l : List ((Pt × Pt) × Nat)) : iKeysD (vVar 1) [s0, .fz (.dict (enc l)), s2] t = some (l.map fun p => kS (nrm p.1), t) := by
  have hv : vVar 1 [s0, .fz (.dict (enc l)), s2] t = some (.dict (enc l), t) := rfl
  unfold iKeysD
  rw [hv]
  simp only [Option.bind_eq_bind, Option.bind_some, tk_enc, if_true]
  unfold enc
  rw [List.map_map]
  rfl
theorem or_of {c d : Evb} {Γ : Env'} {t t1 t2 : Tape} {a b : Bool} (h1 : c Γ t = some (a, t1)) (h2 : a = false → d Γ t1 = some (b, t2)) (ht : a = true → t1 = t2) : orB c d Γ t = some (a || b, t2) := by
  unfold orB
  rw [h1]
  cases a with
  | true => rw [← ht rfl]; rfl
  | false => exact h2 rfl
def eulP (L : List Tr) : Bool := euler eqP (L.map tri3)
theorem F_euler_ok (L : List Tr) (hL : L.length ≤ 100000) : F__law_euler [tds L] = some (.bool (eulP L)) := by
  have hz : 3 * L.length < sizeLine := by rw [PySem.sizeLine_eq]; omega
  have hzl : (sideL L).length < sizeLine := by
    have h := cnt_len (r := sameS eqP) (L.flatMap fun T => sidesOf (tri3 T)) []
    rw [sds_len] at h
    unfold sideL
    rw [List.length_nil] at h
    omega
  have hkl : ((sideL L).map fun p => kS (nrm p.1)).length < sizeLine := by rw [List.length_map]; exact hzl
  refine fnD_rt rfl (t := tape0) ?_
  show b__law_euler [.fz (tds L), .no, .no] tape0 = _
  rw [b_euler_eq]
  have s1 : sSet 1 (callD F_side_counts (aCons (vVar 0) aNil)) [.fz (tds L), .no, .no] tape0 = some (.nx [.fz (tds L), .fz (.dict (enc (sideL L))), .no] tape0) := set_of' (call_of (cons_of (d := tds L) rfl rfl) (F_sides_ok L hz))
  refine (seq_nx s1).trans ?_
  have v1 : lcD (iKeysD (vVar 1)) [2] (gNm 2) bYes dxE [.fz (tds L), .fz (.dict (enc (sideL L))), .no] tape0 = some (.list ((sideL L).map fun p => .int p.2), tape0) := lc_of (keys_ok _ _ _ _) hkl (vals_loop (.fz (tds L)) .no tape0 (sideL L) (side_nodup L) (sideL L) fun _ h => h)
  have v2 : lcD (iKeysD (vVar 1)) [2] (gNm 2) bYes twoE [.fz (tds L), .fz (.dict (enc (sideL L))), .no] tape0 = some (.list ((sideL L).map fun p => .bool (!decide (p.2 ≤ 2))), tape0) := lc_of (keys_ok _ _ _ _) hkl (two_loop (.fz (tds L)) .no tape0 (sideL L) (side_nodup L) (sideL L) fun p h => ⟨h, side_pos L p h⟩)
  have w1 : unD sumD (lcD (iKeysD (vVar 1)) [2] (gNm 2) bYes dxE) [.fz (tds L), .fz (.dict (enc (sideL L))), .no] tape0 = some (.int (3 * L.length : Int), tape0) := by
    refine un_of v1 ?_
    show ((intsOf ((sideL L).map fun p => PyData.int (p.2 : Int))).map fun ns => PyData.int ns.sum) = _
    rw [ints_vals, Option.map_some, sum_vals, side_tot]
    rfl
  have w2 : unD lenD (vVar 0) [.fz (tds L), .fz (.dict (enc (sideL L))), .no] tape0 = some (.int (L.length : Int), tape0) := by
    refine un_of (x := tds L) rfl ?_
    show some (PyData.int ((L.map td).length : Int)) = _
    rw [List.length_map]
  have w3 : unD anyD (lcD (iKeysD (vVar 1)) [2] (gNm 2) bYes twoE) [.fz (tds L), .fz (.dict (enc (sideL L))), .no] tape0 = some (.bool (!(sideL L).all fun p => decide (p.2 ≤ 2)), tape0) := by
    refine un_of v2 ?_
    show ((blsOf ((sideL L).map fun p => PyData.bool (!decide (p.2 ≤ 2)))).map fun ns => PyData.bool (ns.any id)) = _
    rw [bls_vals, Option.map_some, any_vals]
  have c1 : tst (binD neD (unD sumD (lcD (iKeysD (vVar 1)) [2] (gNm 2) bYes dxE)) (binD mulD (vC (.int 3)) (unD lenD (vVar 0)))) [.fz (tds L), .fz (.dict (enc (sideL L))), .no] tape0 = some (false, tape0) := by
    refine tst_of (bin_of w1 (bin_of rfl w2 (mul_l rfl)) ?_)
    rw [neD_int, decide_eq_true rfl]
    rfl
  have c2 : tru (unD anyD (lcD (iKeysD (vVar 1)) [2] (gNm 2) bYes twoE)) [.fz (tds L), .fz (.dict (enc (sideL L))), .no] tape0 = some (!(sideL L).all fun p => decide (p.2 ≤ 2), tape0) := by
    unfold tru
    rw [w3]
    rfl
  have c := or_of c1 (fun _ => c2) (fun z => nomatch z)
  rw [Bool.false_or] at c
  have fm : (L.map tri3).flatMap sidesOf = L.flatMap fun T => sidesOf (tri3 T) := List.flatMap_map ..
  have fp : (L.map tri3).flatMap ptsOf = L.flatMap fun T => ptsOf (tri3 T) := List.flatMap_map ..
  have ee : eulP L = (((sideL L).all fun q => decide (q.2 ≤ 2)) && decide (((ptL L).length : Int) - (sideL L).length + L.length = 1)) := by
    unfold eulP euler
    rw [fm, fp]
    simp only [List.length_map, sideL, ptL]
  rw [ee]
  cases ha : (sideL L).all fun p => decide (p.2 ≤ 2) with
  | false =>
    rw [ha] at c
    exact (seq_rt (if_t c rfl)).trans rfl
  | true =>
    rw [ha] at c
    refine (seq_nx (if_f c rfl)).trans ?_
    have p1 : unD lenD (callD F_points_of (aCons (vVar 0) aNil)) [.fz (tds L), .fz (.dict (enc (sideL L))), .no] tape0 = some (.int ((ptL L).length : Int), tape0) := by
      refine un_of (call_of (cons_of (d := tds L) rfl rfl) (F_points_ok L (Nat.le_of_lt hz))) ?_
      show some (PyData.int ((sortL ((ptL L).map pt)).length : Int)) = _
      unfold sortL
      rw [List.length_mergeSort, List.length_map]
    have p2 : dLen (dTo (vVar 1)) [.fz (tds L), .fz (.dict (enc (sideL L))), .no] tape0 = some (.int ((sideL L).length : Int), tape0) := by
      have e1 : dTo (vVar 1) [.fz (tds L), .fz (.dict (enc (sideL L))), .no] tape0 = some (enc (sideL L), tape0) := by
        have hv : vVar 1 [.fz (tds L), .fz (.dict (enc (sideL L))), .no] tape0 = some (.dict (enc (sideL L)), tape0) := rfl
        unfold dTo
        rw [hv]
        exact if_pos (tk_enc _)
      unfold dLen
      rw [e1]
      unfold enc
      simp only [Option.bind_eq_bind, Option.bind_some, List.length_map]
    have r := ret_of (bin_of (bin_of (g := addD) (z := .int (((ptL L).length : Int) - (sideL L).length + L.length)) (bin_of (g := subD) (z := .int (((ptL L).length : Int) - (sideL L).length)) p1 p2 rfl) w2 rfl) (show vC (.int 1) _ tape0 = some (.int 1, tape0) from rfl) (eqD_int _ _))
    rw [Bool.true_and]
    exact r
end K38

set_option Elab.async false
set_option linter.all false
set_option maxRecDepth 100000
set_option maxHeartbeats 4000000
/-! K38M10: Euler's law on finitely many. -/
namespace K38
open PySem DL
def bnd (p : Pt) : Bool := decide (-500 < p.a) && decide (p.a < 500) && decide (-500 < p.b) && decide (p.b < 500) && decide (-500 < p.c) && decide (p.c < 500) && decide (-500 < p.d) && decide (p.d < 500)
def code (p : Pt) : Nat := ((((p.a + 500) * 1000 + (p.b + 500)) * 1000 + (p.c + 500)) * 1000 + (p.d + 500)).toNat
theorem code_inj {p q : Pt} (hp : bnd p = true) (hq : bnd q = true) : Nat.beq (code p) (code q) = eqP p q := by
  rw [Bool.eq_iff_iff, Nat.beq_eq, decide_eq_true_eq]
  simp only [bnd, Bool.and_eq_true, decide_eq_true_eq] at hp hq
  refine ⟨fun h => ?_, fun h => by rw [h]⟩
  unfold code at h
  have h1 : p.d = q.d := by omega
  have h2 : p.c = q.c := by omega
  have h3 : p.b = q.b := by omega
  have h4 : p.a = q.a := by omega
  exact Pt.eq h4 h3 h2 h1
def chk (L : List Tr) : Bool := ((L.map tri3).flatMap ptsOf).all bnd && euler Nat.beq ((L.map tri3).map (m3 code))
theorem chk_ok {L : List Tr} (h : chk L = true) : eulP L = true := by
  unfold chk at h
  rw [Bool.and_eq_true, List.all_eq_true] at h
  rw [← h.2]
  exact (euler_map (L.map tri3) fun x y hx hy => code_inj (h.1 x hx) (h.1 y hy)).symm
theorem slices0 : ((List.range 10).all fun s => (List.range 10).all fun n => decide (10 < s + n + 1) || ((List.range 3).all fun r => chk (deep r ((W.drop s).take (n + 1))))) = true := by decide +kernel
theorem slices3 : ((List.range 10).all fun s => (List.range 10).all fun n => decide (10 < s + n + 1) || chk (deep 3 ((W.drop s).take (n + 1)))) = true := by decide +kernel
/-- the triangles of the wheel, turned and made greater -/
def U0 : List Tr := (List.range 10).flatMap fun m => [false, true].flatMap fun g => [wedge 0, wedge 1].map (Tr.map (bend m o0 g))
theorem u0_all : ((List.range 10).all fun m => [false, true].all fun g => W.all fun T => U0.any fun S => decide (S = T.map (bend m o0 g))) = true := by decide +kernel
theorem heads : ((List.range 3).all fun d => (deep d U0).all fun T => (List.range 3).all fun f => chk (deep f [T])) = true := by decide +kernel
end K38

set_option Elab.async false
set_option linter.all false
set_option maxRecDepth 100000
/-! DL20: the pure bodies evaluated from the inside, by simp. -/
namespace DL
open PySem PySem.Spec L2
open PyProof.Rows hiding St
/-! what stands around a value that is not there yet -/
def kB3 (o : Option D) (t : Tape) : Option (D × Tape) := o.bind fun z => some (z, t)
def kB2 (g : D → D → Option D) (x : D) (o : Option (D × Tape)) : Option (D × Tape) := o.bind fun q => kB3 (g x q.1) q.2
def kB1 (g : D → D → Option D) (h : Ev) (Γ : Env') (o : Option (D × Tape)) : Option (D × Tape) := o.bind fun p => kB2 g p.1 (h Γ p.2)
def kU (g : D → Option D) (o : Option (D × Tape)) : Option (D × Tape) := o.bind fun p => kB3 (g p.1) p.2
def kV (s : Option Slot) (t : Tape) : Option (D × Tape) := match s with
  | some (.fz d) => some (d, t)
  | _ => none
def kM (s : Option Slot) (t : Tape) : Option (D × Tape) := match s with
  | some (.mu (.list ds)) => some (.list ds, t)
  | _ => none
def kA2 (x : D) (o : Option (List D × Tape)) : Option (List D × Tape) := o.bind fun q => some (x :: q.1, q.2)
def kA1 (g : Eva) (Γ : Env') (o : Option (D × Tape)) : Option (List D × Tape) := o.bind fun p => kA2 p.1 (g Γ p.2)
def kTup (o : Option (List D × Tape)) : Option (D × Tape) := o.bind fun p => if p.1.length ≤ 1000 then some (.tuple p.1, p.2) else none
def kLst (o : Option (List D × Tape)) : Option (D × Tape) := o.bind fun p => if p.1.length ≤ 1000 then some (.list p.1, p.2) else none
def kCall (F : List D → Option D) (o : Option (List D × Tape)) : Option (D × Tape) := o.bind fun p => kB3 (F p.1) p.2
def kCallT (F : List D → Tape → Option (D × Tape)) (s : Option Slot) (o : Option (List D × Tape)) : Option (D × Tape) := match s with
  | some .tp => o.bind fun p => F p.1 p.2
  | _ => none
def kSet (i : Nat) (Γ : Env') (o : Option (D × Tape)) : Option Res := o.bind fun p => some (.nx (Γ.set i (.fz p.1)) p.2)
def kMu (i : Nat) (Γ : Env') (o : Option (D × Tape)) : Option Res := o.bind fun p => some (.nx (Γ.set i (.mu p.1)) p.2)
def kRet (o : Option (D × Tape)) : Option Res := o.bind fun p => some (.rt p.1 p.2)
def kSeq (g : Es) (o : Option Res) : Option Res := o.bind fun r => match r with
  | .nx Γ' t' => g Γ' t'
  | .rt d t' => some (.rt d t')
  | .bk Γ' t' => some (.bk Γ' t')
  | .ct Γ' t' => some (.ct Γ' t')
def kIf (f g : Es) (Γ : Env') (o : Option (Bool × Tape)) : Option Res := o.bind fun p => if p.1 then f Γ p.2 else g Γ p.2
def kIfE (f g : Ev) (Γ : Env') (o : Option (Bool × Tape)) : Option (D × Tape) := o.bind fun p => if p.1 then f Γ p.2 else g Γ p.2
def kTst (o : Option (D × Tape)) : Option (Bool × Tape) := o.bind fun p => match p.1 with
  | .bool k => some (k, p.2)
  | _ => none
def kK (o : Option Bool) (t : Tape) : Option (Bool × Tape) := o.bind fun k => some (k, t)
def kTru (o : Option (D × Tape)) : Option (Bool × Tape) := o.bind fun p => kK (truD p.1) p.2
def kAnd (g : Evb) (Γ : Env') (o : Option (Bool × Tape)) : Option (Bool × Tape) := o.bind fun p => if p.1 then g Γ p.2 else some (false, p.2)
def kOr (g : Evb) (Γ : Env') (o : Option (Bool × Tape)) : Option (Bool × Tape) := o.bind fun p => if p.1 then some (true, p.2) else g Γ p.2
def kNot (o : Option (Bool × Tape)) : Option (Bool × Tape) := o.bind fun p => some (!p.1, p.2)
def kAndV (g : Ev) (Γ : Env') (o : Option (D × Tape)) : Option (D × Tape) := o.bind fun p => match p.1 with
  | .bool true => g Γ p.2
  | .bool false => some (.bool false, p.2)
  | _ => none
def kOrV (g : Ev) (Γ : Env') (o : Option (D × Tape)) : Option (D × Tape) := o.bind fun p => match p.1 with
  | .bool true => some (.bool true, p.2)
  | .bool false => g Γ p.2
  | _ => none
def kNotV (o : Option (D × Tape)) : Option (D × Tape) := o.bind fun p => match p.1 with
  | .bool k => some (.bool (!k), p.2)
  | _ => none
def kC3 (g' : D → D → Option D) (k : Ev) (Γ : Env') (y : D) (o : Option D) (t : Tape) : Option (D × Tape) := o.bind fun z => match z with
  | .bool true => kB2 g' y (k Γ t)
  | .bool false => some (.bool false, t)
  | _ => none
def kC2 (g g' : D → D → Option D) (k : Ev) (Γ : Env') (x : D) (o : Option (D × Tape)) : Option (D × Tape) := o.bind fun q => kC3 g' k Γ q.1 (g x q.1) q.2
def kC1 (g g' : D → D → Option D) (h k : Ev) (Γ : Env') (o : Option (D × Tape)) : Option (D × Tape) := o.bind fun p => kC2 g g' k Γ p.1 (h Γ p.2)
def kTg (Γ : Env') (o : Option (List (Nat × D))) (t : Tape) : Option Res := o.bind fun l => some (.nx (setG Γ l) t)
def kTgt (g : Tg) (Γ : Env') (o : Option (D × Tape)) : Option Res := o.bind fun p => kTg Γ (g p.1) p.2
def kPar (is : List Nat) (Γ : Env') (o : Option (List D × Tape)) : Option Res := o.bind fun p => if p.1.length = is.length then some (.nx (setG Γ (is.zip p.1)) p.2) else none
def kL (o : Option (List D)) (t : Tape) : Option (List D × Tape) := o.bind fun ds => some (ds, t)
def kISeq (o : Option (D × Tape)) : Option (List D × Tape) := o.bind fun p => kL (seqD p.1) p.2
def rngO (d : D) : Option (List D) := match d with
  | .int j => if smallR j then some (rngI 0 j) else none
  | _ => none
def rngO2 (d e : D) : Option (List D) := match d, e with
  | .int i, .int j => if smallR i && smallR j then some (rngI i j) else none
  | _, _ => none
def zipO (d e : D) : Option (List D) := match d, e with
  | .list xs, .list ys => some (zipT xs ys)
  | .tuple xs, .tuple ys => some (zipT xs ys)
  | _, _ => none
def kI1 (g : D → Option (List D)) (o : Option (D × Tape)) : Option (List D × Tape) := o.bind fun p => kL (g p.1) p.2
def kI22 (g : D → D → Option (List D)) (x : D) (o : Option (D × Tape)) : Option (List D × Tape) := o.bind fun p => kL (g x p.1) p.2
def kI21 (g : D → D → Option (List D)) (h : Ev) (Γ : Env') (o : Option (D × Tape)) : Option (List D × Tape) := o.bind fun p => kI22 g p.1 (h Γ p.2)
def kFor (g : Tg) (body : Es) (Γ : Env') (o : Option (List D × Tape)) : Option Res := o.bind fun p => forL g body p.1 Γ p.2
def kF2 (g : Tg) (body : Es) (ds : List D) (o : Option Res) : Option Res := o.bind fun r => match r with
  | .nx Γ' t' => forL g body ds Γ' t'
  | .ct Γ' t' => forL g body ds Γ' t'
  | .bk Γ' t' => some (.nx Γ' t')
  | .rt d t' => some (.rt d t')
def kF1 (g : Tg) (body : Es) (ds : List D) (Γ : Env') (o : Option (List (Nat × D))) (t : Tape) : Option Res := o.bind fun l => kF2 g body ds (body (setG Γ l) t)
def kLc (tg : Tg) (cond : Evb) (elt : Ev) (Γ : Env') (o : Option (List D × Tape)) : Option (List D × Tape) := o.bind fun p => if p.1.length < sizeLine then lcLoop tg cond elt Γ p.1 p.2 else none
def kLd (o : Option (List D × Tape)) : Option (D × Tape) := o.bind fun q => some (.list q.1, q.2)
def kL4 (x : D) (o : Option (List D × Tape)) : Option (List D × Tape) := o.bind fun q => some (x :: q.1, q.2)
def kL3 (tg : Tg) (cond : Evb) (elt : Ev) (Γ : Env') (ds : List D) (o : Option (D × Tape)) : Option (List D × Tape) := o.bind fun p => kL4 p.1 (lcLoop tg cond elt Γ ds p.2)
def kL2 (tg : Tg) (cond : Evb) (elt : Ev) (Γ Γ1 : Env') (ds : List D) (o : Option (Bool × Tape)) : Option (List D × Tape) := o.bind fun b => if b.1 then kL3 tg cond elt Γ ds (elt Γ1 b.2) else lcLoop tg cond elt Γ ds b.2
def kL1 (tg : Tg) (cond : Evb) (elt : Ev) (Γ : Env') (ds : List D) (o : Option (List (Nat × D))) (t : Tape) : Option (List D × Tape) := o.bind fun l => kL2 tg cond elt Γ (setG Γ l) ds (cond (setG Γ l) t)
def kApp (i : Nat) (Γ : Env') (s : Option Slot) (o : Option (D × Tape)) : Option Res := o.bind fun p => match s with
  | some (.mu (.list ds)) => if ds.length < sizeLine then some (.nx (Γ.set i (.mu (.list (ds ++ [p.1])))) p.2) else none
  | _ => none
def kRetMu (s : Option Slot) (t : Tape) : Option Res := match s with
  | some (.mu d) => some (.rt d t)
  | _ => none
def kO (o : Option (D × Tape)) : Option (Option Int × Tape) := o.bind fun p => match p.1 with
  | .int i => some (some i, p.2)
  | _ => none
def kS3 (x : D) (lo : Option Int) (o : Option (Option Int × Tape)) : Option (D × Tape) := o.bind fun r => kB3 (slD x lo r.1) r.2
def kS2 (hi : Evo) (Γ : Env') (x : D) (o : Option (Option Int × Tape)) : Option (D × Tape) := o.bind fun q => kS3 x q.1 (hi Γ q.2)
def kS1 (lo hi : Evo) (Γ : Env') (o : Option (D × Tape)) : Option (D × Tape) := o.bind fun p => kS2 hi Γ p.1 (lo Γ p.2)
def kFn (o : Option Res) : Option D := o.bind fun r => match r with
  | .rt d _ => some d
  | .nx _ _ => some .none
  | _ => none
def kFnT (o : Option Res) : Option (D × Tape) := o.bind fun r => match r with
  | .rt d t' => some (d, t')
  | .nx _ t' => some (.none, t')
  | _ => none
def kG2 (p : List (Nat × D)) (o : Option (List (Nat × D))) : Option (List (Nat × D)) := o.bind fun q => some (p ++ q)
def kG1 (h : Tgs) (ds : List D) (o : Option (List (Nat × D))) : Option (List (Nat × D)) := o.bind fun p => kG2 p (h ds)

@[simp] theorem e_bin {g : D → D → Option D} {f h : Ev} {Γ : Env'} {t : Tape} : binD g f h Γ t = kB1 g h Γ (f Γ t) := id rfl
@[simp] theorem e_un {g : D → Option D} {f : Ev} {Γ : Env'} {t : Tape} : unD g f Γ t = kU g (f Γ t) := id rfl
@[simp] theorem e_var {i : Nat} {Γ : Env'} {t : Tape} : vVar i Γ t = kV (Γ[i]?) t := id rfl
@[simp] theorem e_mu {i : Nat} {Γ : Env'} {t : Tape} : vMu i Γ t = kM (Γ[i]?) t := id rfl
@[simp] theorem e_c {d : D} {Γ : Env'} {t : Tape} : vC d Γ t = some (d, t) := id rfl
@[simp] theorem e_nil {Γ : Env'} {t : Tape} : aNil Γ t = some ([], t) := id rfl
@[simp] theorem e_cons {f : Ev} {g : Eva} {Γ : Env'} {t : Tape} : aCons f g Γ t = kA1 g Γ (f Γ t) := id rfl
@[simp] theorem e_tup {g : Eva} {Γ : Env'} {t : Tape} : vTup g Γ t = kTup (g Γ t) := id rfl
@[simp] theorem e_lst {g : Eva} {Γ : Env'} {t : Tape} : vLst g Γ t = kLst (g Γ t) := id rfl
@[simp] theorem e_call {F : List D → Option D} {g : Eva} {Γ : Env'} {t : Tape} : callD F g Γ t = kCall F (g Γ t) := id rfl
@[simp] theorem e_callT {F : List D → Tape → Option (D × Tape)} {i : Nat} {g : Eva} {Γ : Env'} {t : Tape} : callT F i g Γ t = kCallT F (Γ[i]?) (g Γ t) := id rfl
@[simp] theorem e_set {i : Nat} {f : Ev} {Γ : Env'} {t : Tape} : sSet i f Γ t = kSet i Γ (f Γ t) := id rfl
@[simp] theorem e_sMu {i : Nat} {f : Ev} {Γ : Env'} {t : Tape} : sMu i f Γ t = kMu i Γ (f Γ t) := id rfl
@[simp] theorem e_ret {f : Ev} {Γ : Env'} {t : Tape} : sRet f Γ t = kRet (f Γ t) := id rfl
@[simp] theorem e_seq {f g : Es} {Γ : Env'} {t : Tape} : sSeq f g Γ t = kSeq g (f Γ t) := id rfl
@[simp] theorem e_if {c : Evb} {f g : Es} {Γ : Env'} {t : Tape} : sIf c f g Γ t = kIf f g Γ (c Γ t) := id rfl
@[simp] theorem e_ifE {c : Evb} {f g : Ev} {Γ : Env'} {t : Tape} : ifE c f g Γ t = kIfE f g Γ (c Γ t) := id rfl
@[simp] theorem e_tst {f : Ev} {Γ : Env'} {t : Tape} : tst f Γ t = kTst (f Γ t) := id rfl
@[simp] theorem e_tru {f : Ev} {Γ : Env'} {t : Tape} : tru f Γ t = kTru (f Γ t) := id rfl
@[simp] theorem e_and {f g : Evb} {Γ : Env'} {t : Tape} : andB f g Γ t = kAnd g Γ (f Γ t) := id rfl
@[simp] theorem e_or {f g : Evb} {Γ : Env'} {t : Tape} : orB f g Γ t = kOr g Γ (f Γ t) := id rfl
@[simp] theorem e_not {f : Evb} {Γ : Env'} {t : Tape} : notB f Γ t = kNot (f Γ t) := id rfl
@[simp] theorem e_andV {f g : Ev} {Γ : Env'} {t : Tape} : andV f g Γ t = kAndV g Γ (f Γ t) := id rfl
@[simp] theorem e_orV {f g : Ev} {Γ : Env'} {t : Tape} : orV f g Γ t = kOrV g Γ (f Γ t) := id rfl
@[simp] theorem e_notV {f : Ev} {Γ : Env'} {t : Tape} : notV f Γ t = kNotV (f Γ t) := id rfl
@[simp] theorem e_ch {g g' : D → D → Option D} {f h k : Ev} {Γ : Env'} {t : Tape} : chD g g' f h k Γ t = kC1 g g' h k Γ (f Γ t) := id rfl
@[simp] theorem e_tgt {g : Tg} {f : Ev} {Γ : Env'} {t : Tape} : sTgt g f Γ t = kTgt g Γ (f Γ t) := id rfl
@[simp] theorem e_par {is : List Nat} {f : Eva} {Γ : Env'} {t : Tape} : sPar is f Γ t = kPar is Γ (f Γ t) := id rfl
@[simp] theorem e_skip {Γ : Env'} {t : Tape} : sSkip Γ t = some (.nx Γ t) := id rfl
@[simp] theorem e_brk {Γ : Env'} {t : Tape} : sBrk Γ t = some (.bk Γ t) := id rfl
@[simp] theorem e_cnt {Γ : Env'} {t : Tape} : sCnt Γ t = some (.ct Γ t) := id rfl
@[simp] theorem e_iseq {f : Ev} {Γ : Env'} {t : Tape} : iSeq f Γ t = kISeq (f Γ t) := id rfl
@[simp] theorem e_irng {f : Ev} {Γ : Env'} {t : Tape} : iRng1 f Γ t = kI1 rngO (f Γ t) := by
  unfold iRng1 kI1
  cases f Γ t with
  | none => rfl
  | some p =>
    obtain ⟨d, t1⟩ := p
    cases d <;> simp [rngO, kL]
    split <;> simp_all
@[simp] theorem e_irng2 {f g : Ev} {Γ : Env'} {t : Tape} : iRng2 f g Γ t = kI21 rngO2 g Γ (f Γ t) := by
  unfold iRng2 kI21 kI22
  cases f Γ t with
  | none => rfl
  | some p =>
    obtain ⟨d, t1⟩ := p
    show (g Γ t1 >>= _) = (g Γ t1).bind _
    cases g Γ t1 with
    | none => rfl
    | some q =>
      obtain ⟨e, t2⟩ := q
      cases d <;> cases e <;> simp [rngO2, kL]
      split <;> simp_all
@[simp] theorem e_izip {f g : Ev} {Γ : Env'} {t : Tape} : iZip f g Γ t = kI21 zipO g Γ (f Γ t) := by
  unfold iZip kI21 kI22
  cases f Γ t with
  | none => rfl
  | some p =>
    obtain ⟨d, t1⟩ := p
    show (g Γ t1 >>= _) = (g Γ t1).bind _
    cases g Γ t1 with
    | none => rfl
    | some q =>
      obtain ⟨e, t2⟩ := q
      cases d <;> cases e <;> rfl
@[simp] theorem e_for {it : Evi} {g : Tg} {body : Es} {Γ : Env'} {t : Tape} : sFor it g body Γ t = kFor g body Γ (it Γ t) := id rfl
@[simp] theorem e_fnil {g : Tg} {body : Es} {Γ : Env'} {t : Tape} : forL g body [] Γ t = some (.nx Γ t) := id rfl
@[simp] theorem e_fcons {g : Tg} {body : Es} {d : D} {ds : List D} {Γ : Env'} {t : Tape} : forL g body (d :: ds) Γ t = kF1 g body ds Γ (g d) t := by
  rw [forL]
  unfold kF1 kF2
  cases g d with
  | none => rfl
  | some l => rfl
@[simp] theorem e_lc {it : Evi} {own : List Nat} {tg : Tg} {cond : Evb} {elt : Ev} {Γ : Env'} {t : Tape} : lcD it own tg cond elt Γ t = kLd (kLc tg cond elt (wipeG Γ own) (it Γ t)) := by
  unfold lcD kLd kLc
  cases it Γ t with
  | none => rfl
  | some p =>
    simp only [Option.bind_eq_bind, Option.bind_some]
    split <;> rfl
@[simp] theorem e_lnil {tg : Tg} {cond : Evb} {elt : Ev} {Γ : Env'} {t : Tape} : lcLoop tg cond elt Γ [] t = some ([], t) := id rfl
@[simp] theorem e_lcons {tg : Tg} {cond : Evb} {elt : Ev} {d : D} {ds : List D} {Γ : Env'} {t : Tape} : lcLoop tg cond elt Γ (d :: ds) t = kL1 tg cond elt Γ ds (tg d) t := by
  rw [lcLoop]
  unfold kL1 kL2 kL3 kL4
  rfl
@[simp] theorem e_app {i : Nat} {f : Ev} {Γ : Env'} {t : Tape} : sApp i f Γ t = kApp i Γ (Γ[i]?) (f Γ t) := by
  unfold sApp kApp
  rfl
@[simp] theorem e_retMu {i : Nat} {Γ : Env'} {t : Tape} : sRetMu i Γ t = kRetMu (Γ[i]?) t := id rfl
@[simp] theorem e_onone {Γ : Env'} {t : Tape} : oNone Γ t = some (none, t) := id rfl
@[simp] theorem e_osome {f : Ev} {Γ : Env'} {t : Tape} : oSome f Γ t = kO (f Γ t) := id rfl
@[simp] theorem e_slice {f : Ev} {lo hi : Evo} {Γ : Env'} {t : Tape} : sliceD f lo hi Γ t = kS1 lo hi Γ (f Γ t) := id rfl
@[simp] theorem e_yes {Γ : Env'} {t : Tape} : bYes Γ t = some (true, t) := id rfl
@[simp] theorem e_nm {i : Nat} {d : D} : gNm i d = some [(i, d)] := id rfl
@[simp] theorem e_gnil  : gsNil [] = some [] := id rfl
@[simp] theorem e_gcons {g : Tg} {h : Tgs} {d : D} {ds : List D} : gsCons g h (d :: ds) = kG1 h ds (g d) := by
  unfold gsCons kG1 kG2
  rfl
@[simp] theorem e_gtp {n : Nat} {g : Tgs} {ds : List D} : gTp n g (.tuple ds) = if ds.length = n then g ds else none := id rfl
@[simp] theorem e_wnil {Γ : Env'} : wipeG Γ [] = Γ := id rfl
@[simp] theorem e_wcons {Γ : Env'} {i : Nat} {r : List Nat} : wipeG Γ (i :: r) = (wipeG Γ r).set i .no := id rfl
@[simp] theorem e_snil {Γ : Env'} : setG Γ [] = Γ := id rfl
@[simp] theorem e_scons {Γ : Env'} {i : Nat} {d : D} {l : List (Nat × D)} : setG Γ ((i, d) :: l) = setG (Γ.set i (.fz d)) l := id rfl
@[simp] theorem k_b3 {z : D} {t : Tape} : kB3 (some z) t = some (z, t) := id rfl
@[simp] theorem k_b2 {g : D → D → Option D} {x y : D} {t : Tape} : kB2 g x (some (y, t)) = kB3 (g x y) t := id rfl
@[simp] theorem k_b1 {g : D → D → Option D} {h : Ev} {Γ : Env'} {x : D} {t : Tape} : kB1 g h Γ (some (x, t)) = kB2 g x (h Γ t) := id rfl
@[simp] theorem k_u {g : D → Option D} {x : D} {t : Tape} : kU g (some (x, t)) = kB3 (g x) t := id rfl
@[simp] theorem k_v {d : D} {t : Tape} : kV (some (.fz d)) t = some (d, t) := id rfl
@[simp] theorem k_m {ds : List D} {t : Tape} : kM (some (.mu (.list ds))) t = some (.list ds, t) := id rfl
@[simp] theorem k_a2 {x : D} {xs : List D} {t : Tape} : kA2 x (some (xs, t)) = some (x :: xs, t) := id rfl
@[simp] theorem k_a1 {g : Eva} {Γ : Env'} {x : D} {t : Tape} : kA1 g Γ (some (x, t)) = kA2 x (g Γ t) := id rfl
@[simp] theorem k_tup {ds : List D} {t : Tape} : kTup (some (ds, t)) = if ds.length ≤ 1000 then some (.tuple ds, t) else none := id rfl
@[simp] theorem k_lst {ds : List D} {t : Tape} : kLst (some (ds, t)) = if ds.length ≤ 1000 then some (.list ds, t) else none := id rfl
@[simp] theorem k_call {F : List D → Option D} {ds : List D} {t : Tape} : kCall F (some (ds, t)) = kB3 (F ds) t := id rfl
@[simp] theorem k_callT {F : List D → Tape → Option (D × Tape)} {ds : List D} {t : Tape} : kCallT F (some .tp) (some (ds, t)) = F ds t := id rfl
@[simp] theorem k_set {i : Nat} {Γ : Env'} {d : D} {t : Tape} : kSet i Γ (some (d, t)) = some (.nx (Γ.set i (.fz d)) t) := id rfl
@[simp] theorem k_sMu {i : Nat} {Γ : Env'} {d : D} {t : Tape} : kMu i Γ (some (d, t)) = some (.nx (Γ.set i (.mu d)) t) := id rfl
@[simp] theorem k_ret {d : D} {t : Tape} : kRet (some (d, t)) = some (.rt d t) := id rfl
@[simp] theorem k_seq_nx {g : Es} {Γ : Env'} {t : Tape} : kSeq g (some (.nx Γ t)) = g Γ t := id rfl
@[simp] theorem k_seq_bk {g : Es} {Γ : Env'} {t : Tape} : kSeq g (some (.bk Γ t)) = some (.bk Γ t) := id rfl
@[simp] theorem k_seq_ct {g : Es} {Γ : Env'} {t : Tape} : kSeq g (some (.ct Γ t)) = some (.ct Γ t) := id rfl
@[simp] theorem k_seq_rt {g : Es} {d : D} {t : Tape} : kSeq g (some (.rt d t)) = some (.rt d t) := id rfl
@[simp] theorem kIf_t {f g : Es} {Γ : Env'} {t : Tape} : kIf f g Γ (some (true, t)) = f Γ t := id rfl
@[simp] theorem kIf_f {f g : Es} {Γ : Env'} {t : Tape} : kIf f g Γ (some (false, t)) = g Γ t := id rfl
@[simp] theorem kIfE_t {f g : Ev} {Γ : Env'} {t : Tape} : kIfE f g Γ (some (true, t)) = f Γ t := id rfl
@[simp] theorem kIfE_f {f g : Ev} {Γ : Env'} {t : Tape} : kIfE f g Γ (some (false, t)) = g Γ t := id rfl
@[simp] theorem k_tst {k : Bool} {t : Tape} : kTst (some (.bool k, t)) = some (k, t) := id rfl
@[simp] theorem k_k {k : Bool} {t : Tape} : kK (some k) t = some (k, t) := id rfl
@[simp] theorem k_tru {d : D} {t : Tape} : kTru (some (d, t)) = kK (truD d) t := id rfl
@[simp] theorem k_and_t {g : Evb} {Γ : Env'} {t : Tape} : kAnd g Γ (some (true, t)) = g Γ t := id rfl
@[simp] theorem k_and_f {g : Evb} {Γ : Env'} {t : Tape} : kAnd g Γ (some (false, t)) = some (false, t) := id rfl
@[simp] theorem k_or_t {g : Evb} {Γ : Env'} {t : Tape} : kOr g Γ (some (true, t)) = some (true, t) := id rfl
@[simp] theorem k_or_f {g : Evb} {Γ : Env'} {t : Tape} : kOr g Γ (some (false, t)) = g Γ t := id rfl
@[simp] theorem k_not {k : Bool} {t : Tape} : kNot (some (k, t)) = some (!k, t) := id rfl
@[simp] theorem k_andV_t {g : Ev} {Γ : Env'} {t : Tape} : kAndV g Γ (some (.bool true, t)) = g Γ t := id rfl
@[simp] theorem k_andV_f {g : Ev} {Γ : Env'} {t : Tape} : kAndV g Γ (some (.bool false, t)) = some (.bool false, t) := id rfl
@[simp] theorem k_orV_t {g : Ev} {Γ : Env'} {t : Tape} : kOrV g Γ (some (.bool true, t)) = some (.bool true, t) := id rfl
@[simp] theorem k_orV_f {g : Ev} {Γ : Env'} {t : Tape} : kOrV g Γ (some (.bool false, t)) = g Γ t := id rfl
@[simp] theorem k_notV {k : Bool} {t : Tape} : kNotV (some (.bool k, t)) = some (.bool (!k), t) := id rfl
@[simp] theorem k_c3_t {g' : D → D → Option D} {k : Ev} {Γ : Env'} {y : D} {t : Tape} : kC3 g' k Γ y (some (.bool true)) t = kB2 g' y (k Γ t) := id rfl
@[simp] theorem k_c3_f {g' : D → D → Option D} {k : Ev} {Γ : Env'} {y : D} {t : Tape} : kC3 g' k Γ y (some (.bool false)) t = some (.bool false, t) := id rfl
@[simp] theorem k_c2 {g g' : D → D → Option D} {k : Ev} {Γ : Env'} {x y : D} {t : Tape} : kC2 g g' k Γ x (some (y, t)) = kC3 g' k Γ y (g x y) t := id rfl
@[simp] theorem k_c1 {g g' : D → D → Option D} {h k : Ev} {Γ : Env'} {x : D} {t : Tape} : kC1 g g' h k Γ (some (x, t)) = kC2 g g' k Γ x (h Γ t) := id rfl
@[simp] theorem k_tg {Γ : Env'} {l : List (Nat × D)} {t : Tape} : kTg Γ (some l) t = some (.nx (setG Γ l) t) := id rfl
@[simp] theorem k_tgt {g : Tg} {Γ : Env'} {d : D} {t : Tape} : kTgt g Γ (some (d, t)) = kTg Γ (g d) t := id rfl
@[simp] theorem k_par {is : List Nat} {Γ : Env'} {ds : List D} {t : Tape} : kPar is Γ (some (ds, t)) = if ds.length = is.length then some (.nx (setG Γ (is.zip ds)) t) else none := id rfl
@[simp] theorem k_l {ds : List D} {t : Tape} : kL (some ds) t = some (ds, t) := id rfl
@[simp] theorem k_iseq {d : D} {t : Tape} : kISeq (some (d, t)) = kL (seqD d) t := id rfl
@[simp] theorem k_i1 {g : D → Option (List D)} {d : D} {t : Tape} : kI1 g (some (d, t)) = kL (g d) t := id rfl
@[simp] theorem k_i22 {g : D → D → Option (List D)} {x d : D} {t : Tape} : kI22 g x (some (d, t)) = kL (g x d) t := id rfl
@[simp] theorem k_i21 {g : D → D → Option (List D)} {h : Ev} {Γ : Env'} {x : D} {t : Tape} : kI21 g h Γ (some (x, t)) = kI22 g x (h Γ t) := id rfl
@[simp] theorem k_for {g : Tg} {body : Es} {Γ : Env'} {ds : List D} {t : Tape} : kFor g body Γ (some (ds, t)) = forL g body ds Γ t := id rfl
@[simp] theorem k_f1 {g : Tg} {body : Es} {ds : List D} {Γ : Env'} {l : List (Nat × D)} {t : Tape} : kF1 g body ds Γ (some l) t = kF2 g body ds (body (setG Γ l) t) := id rfl
@[simp] theorem k_f2n {g : Tg} {body : Es} {ds : List D} {Γ : Env'} {t : Tape} : kF2 g body ds (some (.nx Γ t)) = forL g body ds Γ t := id rfl
@[simp] theorem k_f2c {g : Tg} {body : Es} {ds : List D} {Γ : Env'} {t : Tape} : kF2 g body ds (some (.ct Γ t)) = forL g body ds Γ t := id rfl
@[simp] theorem k_f2b {g : Tg} {body : Es} {ds : List D} {Γ : Env'} {t : Tape} : kF2 g body ds (some (.bk Γ t)) = some (.nx Γ t) := id rfl
@[simp] theorem k_f2r {g : Tg} {body : Es} {ds : List D} {d : D} {t : Tape} : kF2 g body ds (some (.rt d t)) = some (.rt d t) := id rfl
@[simp] theorem k_lc {tg : Tg} {cond : Evb} {elt : Ev} {Γ : Env'} {ds : List D} {t : Tape} : kLc tg cond elt Γ (some (ds, t)) = if ds.length < sizeLine then lcLoop tg cond elt Γ ds t else none := id rfl
@[simp] theorem k_ld {ds : List D} {t : Tape} : kLd (some (ds, t)) = some (.list ds, t) := id rfl
@[simp] theorem k_l4 {x : D} {ds : List D} {t : Tape} : kL4 x (some (ds, t)) = some (x :: ds, t) := id rfl
@[simp] theorem k_l3 {tg : Tg} {cond : Evb} {elt : Ev} {Γ : Env'} {x : D} {ds : List D} {t : Tape} : kL3 tg cond elt Γ ds (some (x, t)) = kL4 x (lcLoop tg cond elt Γ ds t) := id rfl
@[simp] theorem k_l2t {tg : Tg} {cond : Evb} {elt : Ev} {Γ Γ1 : Env'} {ds : List D} {t : Tape} : kL2 tg cond elt Γ Γ1 ds (some (true, t)) = kL3 tg cond elt Γ ds (elt Γ1 t) := id rfl
@[simp] theorem k_l2f {tg : Tg} {cond : Evb} {elt : Ev} {Γ Γ1 : Env'} {ds : List D} {t : Tape} : kL2 tg cond elt Γ Γ1 ds (some (false, t)) = lcLoop tg cond elt Γ ds t := id rfl
@[simp] theorem k_l1 {tg : Tg} {cond : Evb} {elt : Ev} {Γ : Env'} {ds : List D} {l : List (Nat × D)} {t : Tape} : kL1 tg cond elt Γ ds (some l) t = kL2 tg cond elt Γ (setG Γ l) ds (cond (setG Γ l) t) := id rfl
@[simp] theorem k_app {i : Nat} {Γ : Env'} {ds : List D} {d : D} {t : Tape} : kApp i Γ (some (.mu (.list ds))) (some (d, t)) = if ds.length < sizeLine then some (.nx (Γ.set i (.mu (.list (ds ++ [d])))) t) else none := id rfl
@[simp] theorem k_retMu {d : D} {t : Tape} : kRetMu (some (.mu d)) t = some (.rt d t) := id rfl
@[simp] theorem k_o {i : Int} {t : Tape} : kO (some (.int i, t)) = some (some i, t) := id rfl
@[simp] theorem k_s3 {x : D} {lo hi : Option Int} {t : Tape} : kS3 x lo (some (hi, t)) = kB3 (slD x lo hi) t := id rfl
@[simp] theorem k_s2 {hi : Evo} {Γ : Env'} {x : D} {lo : Option Int} {t : Tape} : kS2 hi Γ x (some (lo, t)) = kS3 x lo (hi Γ t) := id rfl
@[simp] theorem k_s1 {lo hi : Evo} {Γ : Env'} {x : D} {t : Tape} : kS1 lo hi Γ (some (x, t)) = kS2 hi Γ x (lo Γ t) := id rfl
@[simp] theorem k_fn {d : D} {t : Tape} : kFn (some (.rt d t)) = some d := id rfl
@[simp] theorem k_fnn {Γ : Env'} {t : Tape} : kFn (some (.nx Γ t)) = some .none := id rfl
@[simp] theorem k_fnT {d : D} {t : Tape} : kFnT (some (.rt d t)) = some (d, t) := id rfl
@[simp] theorem k_g2 {p q : List (Nat × D)} : kG2 p (some q) = some (p ++ q) := id rfl
@[simp] theorem k_g1 {h : Tgs} {ds : List D} {p : List (Nat × D)} : kG1 h ds (some p) = kG2 p (h ds) := id rfl
@[simp] theorem e_fnD {n N : Nat} {body : Es} {ds : List D} : fnD n N body ds = if ds.length = n then kFn (body (ds.map .fz ++ List.replicate (N - n) .no) tape0) else none := id rfl
@[simp] theorem d_addI {i j : Int} : addD (.int i) (.int j) = some (.int (i + j)) := id rfl
@[simp] theorem d_addT {i j : List D} : addD (.tuple i) (.tuple j) = if i.length + j.length ≤ sizeLine then some (.tuple (i ++ j)) else none := id rfl
@[simp] theorem d_addL {i j : List D} : addD (.list i) (.list j) = if i.length + j.length ≤ sizeLine then some (.list (i ++ j)) else none := id rfl
@[simp] theorem d_sub {i j : Int} : subD (.int i) (.int j) = some (.int (i - j)) := id rfl
@[simp] theorem d_neg {i : Int} : negD (.int i) = some (.int (-i)) := id rfl
@[simp] theorem d_int {i : Int} : intD (.int i) = some (.int i) := id rfl
@[simp] theorem d_abs {i : Int} : absD (.int i) = some (.int (if i < 0 then -i else i)) := id rfl
@[simp] theorem d_eqI {i j : Int} : eqD (.int i) (.int j) = some (.bool (decide (i = j))) := eqD_int i j
@[simp] theorem d_neI {i j : Int} : neD (.int i) (.int j) = some (.bool (!decide (i = j))) := neD_int i j
@[simp] theorem d_cmp {p : Int → Int → Bool} {i j : Int} : cmpI p (.int i) (.int j) = some (.bool (p i j)) := id rfl
@[simp] theorem d_isB {i j : Bool} : isB (.bool i) (.bool j) = some (.bool (decide (i = j))) := id rfl
@[simp] theorem d_isntB {i j : Bool} : isntB (.bool i) (.bool j) = some (.bool (!decide (i = j))) := id rfl
@[simp] theorem d_mulL {i j : Int} (h : smallI i = true) : mulD (.int i) (.int j) = some (.int (i * j)) := mul_l h
@[simp] theorem d_mulR {i j : Int} (h : smallI j = true) : mulD (.int i) (.int j) = some (.int (i * j)) := mul_r h
@[simp] theorem d_mod {i j : Int} (h : 0 < j) : modD (.int i) (.int j) = some (.int (i % j)) := mod_pos h
@[simp] theorem d_div {i j : Int} (h : 0 < j) (h2 : j < 1073741824) : divD (.int i) (.int j) = some (.int (i / j)) := div_pos h h2
@[simp] theorem d_lenL {ds : List D} : lenD (.list ds) = some (.int ds.length) := id rfl
@[simp] theorem d_lenT {ds : List D} : lenD (.tuple ds) = some (.int ds.length) := id rfl
@[simp] theorem d_tupL {ds : List D} : tupD (.list ds) = some (.tuple ds) := id rfl
@[simp] theorem d_tupT {ds : List D} : tupD (.tuple ds) = some (.tuple ds) := id rfl
@[simp] theorem d_lstL {ds : List D} : lstD (.list ds) = some (.list ds) := id rfl
@[simp] theorem d_lstT {ds : List D} : lstD (.tuple ds) = some (.list ds) := id rfl
@[simp] theorem d_seqL {ds : List D} : seqD (.list ds) = some ds := id rfl
@[simp] theorem d_seqT {ds : List D} : seqD (.tuple ds) = some ds := id rfl
@[simp] theorem d_revL {ds : List D} : revD (.list ds) = some (.list ds.reverse) := id rfl
@[simp] theorem d_revT {ds : List D} : revD (.tuple ds) = some (.tuple ds.reverse) := id rfl
@[simp] theorem d_truB {k : Bool} : truD (.bool k) = some k := id rfl
@[simp] theorem d_truI {i : Int} : truD (.int i) = some (i != 0) := id rfl
@[simp] theorem d_truN  : truD .none = some false := id rfl
@[simp] theorem d_truL {ds : List D} : truD (.list ds) = some (!ds.isEmpty) := id rfl
@[simp] theorem d_truT {ds : List D} : truD (.tuple ds) = some (!ds.isEmpty) := id rfl
@[simp] theorem d_zipL {i j : List D} : zipO (.list i) (.list j) = some (zipT i j) := id rfl
@[simp] theorem d_zipT {i j : List D} : zipO (.tuple i) (.tuple j) = some (zipT i j) := id rfl
@[simp] theorem d_zcons {x y : D} {xs ys : List D} : zipT (x :: xs) (y :: ys) = .tuple [x, y] :: zipT xs ys := id rfl
@[simp] theorem d_znil {ys : List D} : zipT [] ys = [] := id rfl
@[simp] theorem d_rng {j : Int} : rngO (.int j) = if smallR j then some (rngI 0 j) else none := id rfl
@[simp] theorem d_rng2 {i j : Int} : rngO2 (.int i) (.int j) = if smallR i && smallR j then some (rngI i j) else none := id rfl
@[simp] theorem d_slL {ds : List D} {lo hi : Option Int} : slD (.list ds) lo hi = some (.list (cutD ds lo hi)) := id rfl
@[simp] theorem d_slT {ds : List D} {lo hi : Option Int} : slD (.tuple ds) lo hi = some (.tuple (cutD ds lo hi)) := id rfl
@[simp] theorem d_ixL {ds : List D} {i : Int} : ixD (.list ds) (.int i) = atI ds i := id rfl
@[simp] theorem d_ixT {ds : List D} {i : Int} : ixD (.tuple ds) (.int i) = atI ds i := id rfl
theorem at_nat {α : Type} (ds : List α) (k : Nat) : atI ds (k : Int) = ds[k]? := by
  by_cases hn : k < ds.length
  · rw [List.getElem?_eq_getElem hn]
    exact atI_nat (List.getElem?_eq_getElem hn)
  · rw [List.getElem?_eq_none (by omega)]
    unfold atI ixN
    rw [if_pos (by omega), if_neg (by omega)]
    rfl
@[simp] theorem d_atC {n : Nat} {ds : List D} : atI ds (n : Int) = ds[n]? := at_nat ds n
@[simp] theorem d_at0 {ds : List D} : atI ds 0 = ds[0]? := at_nat ds 0
@[simp] theorem d_at1 {ds : List D} : atI ds 1 = ds[1]? := at_nat ds 1
@[simp] theorem d_at2 {ds : List D} : atI ds 2 = ds[2]? := at_nat ds 2
@[simp] theorem d_at3 {ds : List D} : atI ds 3 = ds[3]? := at_nat ds 3
@[simp] theorem d_at4 {ds : List D} : atI ds 4 = ds[4]? := at_nat ds 4
@[simp] theorem d_at5 {ds : List D} : atI ds 5 = ds[5]? := at_nat ds 5
@[simp] theorem d_at6 {ds : List D} : atI ds 6 = ds[6]? := at_nat ds 6
@[simp] theorem d_at7 {ds : List D} : atI ds 7 = ds[7]? := at_nat ds 7
@[simp] theorem d_at8 {ds : List D} : atI ds 8 = ds[8]? := at_nat ds 8
@[simp] theorem d_at9 {ds : List D} : atI ds 9 = ds[9]? := at_nat ds 9
@[simp] theorem d_at10 {ds : List D} : atI ds 10 = ds[10]? := at_nat ds 10
@[simp] theorem d_at11 {ds : List D} : atI ds 11 = ds[11]? := at_nat ds 11
@[simp] theorem d_at12 {ds : List D} : atI ds 12 = ds[12]? := at_nat ds 12
@[simp] theorem d_at13 {ds : List D} : atI ds 13 = ds[13]? := at_nat ds 13
@[simp] theorem r_0  : rngI 0 0 = [] := id rfl
@[simp] theorem sr_0  : smallR 0 = true := by decide
@[simp] theorem r_1  : rngI 0 1 = [.int 0] := id rfl
@[simp] theorem sr_1  : smallR 1 = true := by decide
@[simp] theorem r_2  : rngI 0 2 = [.int 0, .int 1] := id rfl
@[simp] theorem sr_2  : smallR 2 = true := by decide
@[simp] theorem r_3  : rngI 0 3 = [.int 0, .int 1, .int 2] := id rfl
@[simp] theorem sr_3  : smallR 3 = true := by decide
@[simp] theorem r_4  : rngI 0 4 = [.int 0, .int 1, .int 2, .int 3] := id rfl
@[simp] theorem sr_4  : smallR 4 = true := by decide
@[simp] theorem r_5  : rngI 0 5 = [.int 0, .int 1, .int 2, .int 3, .int 4] := id rfl
@[simp] theorem sr_5  : smallR 5 = true := by decide
@[simp] theorem r_6  : rngI 0 6 = [.int 0, .int 1, .int 2, .int 3, .int 4, .int 5] := id rfl
@[simp] theorem sr_6  : smallR 6 = true := by decide
@[simp] theorem r_7  : rngI 0 7 = [.int 0, .int 1, .int 2, .int 3, .int 4, .int 5, .int 6] := id rfl
@[simp] theorem sr_7  : smallR 7 = true := by decide
@[simp] theorem r_8  : rngI 0 8 = [.int 0, .int 1, .int 2, .int 3, .int 4, .int 5, .int 6, .int 7] := id rfl
@[simp] theorem sr_8  : smallR 8 = true := by decide
@[simp] theorem r_9  : rngI 0 9 = [.int 0, .int 1, .int 2, .int 3, .int 4, .int 5, .int 6, .int 7, .int 8] := id rfl
@[simp] theorem sr_9  : smallR 9 = true := by decide
@[simp] theorem r_10  : rngI 0 10 = [.int 0, .int 1, .int 2, .int 3, .int 4, .int 5, .int 6, .int 7, .int 8, .int 9] := id rfl
@[simp] theorem sr_10  : smallR 10 = true := by decide
@[simp] theorem r_11  : rngI 0 11 = [.int 0, .int 1, .int 2, .int 3, .int 4, .int 5, .int 6, .int 7, .int 8, .int 9, .int 10] := id rfl
@[simp] theorem sr_11  : smallR 11 = true := by decide
@[simp] theorem r_12  : rngI 0 12 = [.int 0, .int 1, .int 2, .int 3, .int 4, .int 5, .int 6, .int 7, .int 8, .int 9, .int 10, .int 11] := id rfl
@[simp] theorem sr_12  : smallR 12 = true := by decide
@[simp] theorem zl_0 : 0 < sizeLine := by decide
@[simp] theorem zm_0 : 0 ≤ sizeLine := by decide
@[simp] theorem zl_1 : 1 < sizeLine := by decide
@[simp] theorem zm_1 : 1 ≤ sizeLine := by decide
@[simp] theorem zl_2 : 2 < sizeLine := by decide
@[simp] theorem zm_2 : 2 ≤ sizeLine := by decide
@[simp] theorem zl_3 : 3 < sizeLine := by decide
@[simp] theorem zm_3 : 3 ≤ sizeLine := by decide
@[simp] theorem zl_4 : 4 < sizeLine := by decide
@[simp] theorem zm_4 : 4 ≤ sizeLine := by decide
@[simp] theorem zl_5 : 5 < sizeLine := by decide
@[simp] theorem zm_5 : 5 ≤ sizeLine := by decide
@[simp] theorem zl_6 : 6 < sizeLine := by decide
@[simp] theorem zm_6 : 6 ≤ sizeLine := by decide
@[simp] theorem zl_7 : 7 < sizeLine := by decide
@[simp] theorem zm_7 : 7 ≤ sizeLine := by decide
@[simp] theorem zl_8 : 8 < sizeLine := by decide
@[simp] theorem zm_8 : 8 ≤ sizeLine := by decide
@[simp] theorem zl_9 : 9 < sizeLine := by decide
@[simp] theorem zm_9 : 9 ≤ sizeLine := by decide
@[simp] theorem zl_10 : 10 < sizeLine := by decide
@[simp] theorem zm_10 : 10 ≤ sizeLine := by decide
@[simp] theorem zl_11 : 11 < sizeLine := by decide
@[simp] theorem zm_11 : 11 ≤ sizeLine := by decide
@[simp] theorem zl_12 : 12 < sizeLine := by decide
@[simp] theorem zm_12 : 12 ≤ sizeLine := by decide
@[simp] theorem zl_13 : 13 < sizeLine := by decide
@[simp] theorem zm_13 : 13 ≤ sizeLine := by decide
@[simp] theorem zl_14 : 14 < sizeLine := by decide
@[simp] theorem zm_14 : 14 ≤ sizeLine := by decide
@[simp] theorem zl_15 : 15 < sizeLine := by decide
@[simp] theorem zm_15 : 15 ≤ sizeLine := by decide
@[simp] theorem zl_16 : 16 < sizeLine := by decide
@[simp] theorem zm_16 : 16 ≤ sizeLine := by decide
@[simp] theorem zl_17 : 17 < sizeLine := by decide
@[simp] theorem zm_17 : 17 ≤ sizeLine := by decide
@[simp] theorem zl_18 : 18 < sizeLine := by decide
@[simp] theorem zm_18 : 18 ≤ sizeLine := by decide
@[simp] theorem zl_19 : 19 < sizeLine := by decide
@[simp] theorem zm_19 : 19 ≤ sizeLine := by decide
@[simp] theorem zl_20 : 20 < sizeLine := by decide
@[simp] theorem zm_20 : 20 ≤ sizeLine := by decide
@[simp] theorem zl_21 : 21 < sizeLine := by decide
@[simp] theorem zm_21 : 21 ≤ sizeLine := by decide
@[simp] theorem zl_22 : 22 < sizeLine := by decide
@[simp] theorem zm_22 : 22 ≤ sizeLine := by decide
@[simp] theorem zl_23 : 23 < sizeLine := by decide
@[simp] theorem zm_23 : 23 ≤ sizeLine := by decide
@[simp] theorem zl_24 : 24 < sizeLine := by decide
@[simp] theorem zm_24 : 24 ≤ sizeLine := by decide
@[simp] theorem zl_25 : 25 < sizeLine := by decide
@[simp] theorem zm_25 : 25 ≤ sizeLine := by decide
@[simp] theorem zl_26 : 26 < sizeLine := by decide
@[simp] theorem zm_26 : 26 ≤ sizeLine := by decide
@[simp] theorem zl_27 : 27 < sizeLine := by decide
@[simp] theorem zm_27 : 27 ≤ sizeLine := by decide
@[simp] theorem zl_28 : 28 < sizeLine := by decide
@[simp] theorem zm_28 : 28 ≤ sizeLine := by decide
@[simp] theorem zl_29 : 29 < sizeLine := by decide
@[simp] theorem zm_29 : 29 ≤ sizeLine := by decide
@[simp] theorem zl_30 : 30 < sizeLine := by decide
@[simp] theorem zm_30 : 30 ≤ sizeLine := by decide
@[simp] theorem zl_31 : 31 < sizeLine := by decide
@[simp] theorem zm_31 : 31 ≤ sizeLine := by decide
@[simp] theorem zl_32 : 32 < sizeLine := by decide
@[simp] theorem zm_32 : 32 ≤ sizeLine := by decide
@[simp] theorem zl_33 : 33 < sizeLine := by decide
@[simp] theorem zm_33 : 33 ≤ sizeLine := by decide
@[simp] theorem zl_34 : 34 < sizeLine := by decide
@[simp] theorem zm_34 : 34 ≤ sizeLine := by decide
@[simp] theorem zl_35 : 35 < sizeLine := by decide
@[simp] theorem zm_35 : 35 ≤ sizeLine := by decide
@[simp] theorem zl_36 : 36 < sizeLine := by decide
@[simp] theorem zm_36 : 36 ≤ sizeLine := by decide
@[simp] theorem zl_37 : 37 < sizeLine := by decide
@[simp] theorem zm_37 : 37 ≤ sizeLine := by decide
@[simp] theorem zl_38 : 38 < sizeLine := by decide
@[simp] theorem zm_38 : 38 ≤ sizeLine := by decide
@[simp] theorem zl_39 : 39 < sizeLine := by decide
@[simp] theorem zm_39 : 39 ≤ sizeLine := by decide
@[simp] theorem zl_40 : 40 < sizeLine := by decide
@[simp] theorem zm_40 : 40 ≤ sizeLine := by decide
@[simp] theorem si_0  : smallI 0 = true := by decide
@[simp] theorem si_1  : smallI 1 = true := by decide
@[simp] theorem si_2  : smallI 2 = true := by decide
@[simp] theorem si_3  : smallI 3 = true := by decide
@[simp] theorem si_4  : smallI 4 = true := by decide
@[simp] theorem si_5  : smallI 5 = true := by decide
@[simp] theorem si_6  : smallI 6 = true := by decide
@[simp] theorem si_7  : smallI 7 = true := by decide
@[simp] theorem si_8  : smallI 8 = true := by decide
@[simp] theorem si_9  : smallI 9 = true := by decide
@[simp] theorem si_10  : smallI 10 = true := by decide
@[simp] theorem si_11  : smallI 11 = true := by decide
@[simp] theorem si_12  : smallI 12 = true := by decide
@[simp] theorem si_1000  : smallI 1000 = true := by decide
@[simp] theorem si_48271  : smallI 48271 = true := by decide
@[simp] theorem si_69621  : smallI 69621 = true := by decide
@[simp] theorem sm_1  : smallI (-1) = true := by decide
@[simp] theorem sm_2  : smallI (-2) = true := by decide
@[simp] theorem sm_3  : smallI (-3) = true := by decide
@[simp] theorem sm_4  : smallI (-4) = true := by decide
@[simp] theorem sm_5  : smallI (-5) = true := by decide
theorem sz_le {n : Nat} (h : n ≤ 1000000) : n ≤ sizeLine := by rw [PySem.sizeLine_eq]; omega
theorem sz_lt {n : Nat} (h : n ≤ 1000000) : n < sizeLine := by rw [PySem.sizeLine_eq]; omega
theorem okD_tupI (l : List Int) : okD (.tuple (l.map .int)) = true := by
  have h : (PyData.tuple (l.map .int)).plain = true ∧ (PyData.tuple (l.map .int)).depth ≤ 60 := by
    constructor
    · simp only [PyData.plain]
      induction l with
      | nil => rfl
      | cons i l ih => simp only [List.map_cons, PyData.plainAll, PyData.plain, ih, Bool.true_and]
    · have : PyData.depthAll (l.map .int) ≤ 1 := by
        induction l with
        | nil => simp [PyData.depthAll]
        | cons i l ih => simp only [List.map_cons, PyData.depthAll, PyData.depth]; omega
      simp only [PyData.depth]
      omega
  rw [okD, h.1, Bool.true_and, decide_eq_true_eq]
  exact h.2

/-! what asks for the kind of a value -/
def inA (x y : D) : Option D := match y with
  | .dict ds => if tKeys ds && (okKey x).isSome then some (.bool (dFind ds x).isSome) else none
  | d => inD x d
def ninA (x y : D) : Option D := match y with
  | .dict ds => if tKeys ds && (okKey x).isSome then some (.bool (!(dFind ds x).isSome)) else none
  | d => ninD x d
def lenA (x : D) : Option D := match x with
  | .dict ds => if tKeys ds then some (.int ds.length) else none
  | d => lenD d
def ixA (x y : D) : Option D := match x with
  | .dict ds => if tKeys ds && (okKey y).isSome then dFind ds y else none
  | d => ixD d y
def itA (x : D) : Option (List D) := match x with
  | .dict ds => if tKeys ds then some (ds.map (·.1)) else none
  | d => seqD d
def itK (x : D) : Option (List D) := match x with
  | .dict ds => if tKeys ds then some (ds.map (·.1)) else none
  | _ => none
def sumA (x : D) : Option D := match x with
  | .tuple ds => sumT (.tuple ds)
  | d => sumD d
def kDict (o : Option (D × Tape)) : Option (List (D × D) × Tape) := o.bind fun p => match p.1 with
  | .dict ds => if tKeys ds then some (ds, p.2) else none
  | _ => none
def kDm (s : Option Slot) (t : Tape) : Option (List (D × D) × Tape) := match s with
  | some (.mu (.dict ds)) => if tKeys ds then some (ds, t) else none
  | _ => none
def kD2 (ds : List (D × D)) (o : Option (D × Tape)) : Option (D × Tape) := o.bind fun q => if (okKey q.1).isSome then kB3 (dFind ds q.1) q.2 else none
def kD1 (fk : Ev) (Γ : Env') (o : Option (List (D × D) × Tape)) : Option (D × Tape) := o.bind fun p => kD2 p.1 (fk Γ p.2)
def kG33 (ds : List (D × D)) (k : D) (o : Option (D × Tape)) : Option (D × Tape) := o.bind fun r => if (okKey k).isSome then some ((dFind ds k).getD r.1, r.2) else none
def kG32 (fx : Ev) (Γ : Env') (ds : List (D × D)) (o : Option (D × Tape)) : Option (D × Tape) := o.bind fun q => kG33 ds q.1 (fx Γ q.2)
def kG31 (fk fx : Ev) (Γ : Env') (o : Option (List (D × D) × Tape)) : Option (D × Tape) := o.bind fun p => kG32 fx Γ p.1 (fk Γ p.2)
def kDl (o : Option (List (D × D) × Tape)) : Option (D × Tape) := o.bind fun p => some (.int p.1.length, p.2)
def kP2 (i : Nat) (Γ : Env') (ds : List (D × D)) (v : D) (o : Option (D × Tape)) : Option Res := o.bind fun pk => if tKeys ds && (okKey pk.1).isSome && decide (ds.length < sizeLine) then some (.nx (Γ.set i (.mu (.dict (dPut ds pk.1 v)))) pk.2) else none
def kP1 (i : Nat) (f : Ev) (Γ : Env') (s : Option Slot) (o : Option (D × Tape)) : Option Res := o.bind fun pv => match s with
  | some (.mu (.dict ds)) => kP2 i Γ ds pv.1 (f Γ pv.2)
  | _ => none
@[simp] theorem e_inU {f g : Ev} {Γ : Env'} {t : Tape} : inU f g Γ t = kB1 inA g Γ (f Γ t) := by
  unfold inU
  cases hf : f Γ t with
  | none => simp [eIf, inDc, isDc, hf, kB1, binD]
  | some p =>
    obtain ⟨x, t1⟩ := p
    cases hg : g Γ t1 with
    | none => simp [eIf, inDc, isDc, hf, hg, kB1, kB2, binD]
    | some q =>
      obtain ⟨y, t2⟩ := q
      cases y <;> simp [eIf, inDc, isDc, hf, hg, kB1, kB2, kB3, binD, dIn, dNin, dTo, inA, ninA]
      rename_i kvs
      by_cases h1 : tKeys kvs = true <;> by_cases h2 : (okKey x).isSome = true <;> simp [h1, h2]
@[simp] theorem e_ninU {f g : Ev} {Γ : Env'} {t : Tape} : ninU f g Γ t = kB1 ninA g Γ (f Γ t) := by
  unfold ninU
  cases hf : f Γ t with
  | none => simp [eIf, inDc, isDc, hf, kB1, binD]
  | some p =>
    obtain ⟨x, t1⟩ := p
    cases hg : g Γ t1 with
    | none => simp [eIf, inDc, isDc, hf, hg, kB1, kB2, binD]
    | some q =>
      obtain ⟨y, t2⟩ := q
      cases y <;> simp [eIf, inDc, isDc, hf, hg, kB1, kB2, kB3, binD, dIn, dNin, dTo, inA, ninA]
      rename_i kvs
      by_cases h1 : tKeys kvs = true <;> by_cases h2 : (okKey x).isSome = true <;> simp [h1, h2]
@[simp] theorem e_lenU {f : Ev} {Γ : Env'} {t : Tape} : lenU f Γ t = kU lenA (f Γ t) := by
  unfold lenU
  cases hf : f Γ t with
  | none => simp [eIf, iIf, isDc, isTp, hf, kU, unD, kI1, iSeq]
  | some p =>
    obtain ⟨x, t1⟩ := p
    cases x <;> simp [eIf, iIf, isDc, isTp, hf, kU, kB3, unD, dLen, dTo, lenA, sumA, kI1, kL, itA, iSeq, iKeysD]
    rename_i kvs
    by_cases h1 : tKeys kvs = true <;> simp [h1]
@[simp] theorem e_sumU {f : Ev} {Γ : Env'} {t : Tape} : sumU f Γ t = kU sumA (f Γ t) := by
  unfold sumU
  cases hf : f Γ t with
  | none => simp [eIf, iIf, isDc, isTp, hf, kU, unD, kI1, iSeq]
  | some p =>
    obtain ⟨x, t1⟩ := p
    cases x <;> simp [eIf, iIf, isDc, isTp, hf, kU, kB3, unD, dLen, dTo, lenA, sumA, kI1, kL, itA, iSeq, iKeysD]

@[simp] theorem e_iU {f : Ev} {Γ : Env'} {t : Tape} : iU f Γ t = kI1 itA (f Γ t) := by
  unfold iU
  cases hf : f Γ t with
  | none => simp [eIf, iIf, isDc, isTp, hf, kU, unD, kI1, iSeq]
  | some p =>
    obtain ⟨x, t1⟩ := p
    cases x <;> simp [eIf, iIf, isDc, isTp, hf, kU, kB3, unD, dLen, dTo, lenA, sumA, kI1, kL, itA, iSeq, iKeysD]
    rename_i kvs
    by_cases h1 : tKeys kvs = true <;> simp [h1]
@[simp] theorem e_dTo {f : Ev} {Γ : Env'} {t : Tape} : dTo f Γ t = kDict (f Γ t) := id rfl
@[simp] theorem e_dMu {i : Nat} {Γ : Env'} {t : Tape} : dMu i Γ t = kDm (Γ[i]?) t := id rfl
@[simp] theorem e_dIx {fd : Evd} {fk : Ev} {Γ : Env'} {t : Tape} : dIx fd fk Γ t = kD1 fk Γ (fd Γ t) := by unfold dIx kD1 kD2 kB3; rfl
@[simp] theorem e_dGet2 {fd : Evd} {fk fx : Ev} {Γ : Env'} {t : Tape} : dGet2 fd fk fx Γ t = kG31 fk fx Γ (fd Γ t) := id rfl
@[simp] theorem e_dLen {fd : Evd} {Γ : Env'} {t : Tape} : dLen fd Γ t = kDl (fd Γ t) := id rfl
@[simp] theorem e_iKeysD {f : Ev} {Γ : Env'} {t : Tape} : iKeysD f Γ t = kI1 itK (f Γ t) := by
  unfold iKeysD
  cases hf : f Γ t with
  | none => rfl
  | some p =>
    obtain ⟨x, t1⟩ := p
    cases x <;> simp [kI1, kL, itK]
    rename_i kvs
    by_cases h1 : tKeys kvs = true <;> simp [h1]
@[simp] theorem e_dput {i : Nat} {f h : Ev} {Γ : Env'} {t : Tape} : sDput i f h Γ t = kP1 i f Γ (Γ[i]?) (h Γ t) := id rfl
@[simp] theorem k_dict {ds : List (D × D)} {t : Tape} : kDict (some (.dict ds, t)) = if tKeys ds then some (ds, t) else none := id rfl
@[simp] theorem k_dm {ds : List (D × D)} {t : Tape} : kDm (some (.mu (.dict ds))) t = if tKeys ds then some (ds, t) else none := id rfl
@[simp] theorem k_d2 {ds : List (D × D)} {k : D} {t : Tape} : kD2 ds (some (k, t)) = if (okKey k).isSome then kB3 (dFind ds k) t else none := id rfl
@[simp] theorem k_d1 {fk : Ev} {Γ : Env'} {ds : List (D × D)} {t : Tape} : kD1 fk Γ (some (ds, t)) = kD2 ds (fk Γ t) := id rfl
@[simp] theorem k_g33 {ds : List (D × D)} {k x : D} {t : Tape} : kG33 ds k (some (x, t)) = if (okKey k).isSome then some ((dFind ds k).getD x, t) else none := id rfl
@[simp] theorem k_g32 {fx : Ev} {Γ : Env'} {ds : List (D × D)} {k : D} {t : Tape} : kG32 fx Γ ds (some (k, t)) = kG33 ds k (fx Γ t) := id rfl
@[simp] theorem k_g31 {fk fx : Ev} {Γ : Env'} {ds : List (D × D)} {t : Tape} : kG31 fk fx Γ (some (ds, t)) = kG32 fx Γ ds (fk Γ t) := id rfl
@[simp] theorem k_dl {ds : List (D × D)} {t : Tape} : kDl (some (ds, t)) = some (.int ds.length, t) := id rfl
@[simp] theorem k_p2 {i : Nat} {Γ : Env'} {ds : List (D × D)} {v k : D} {t : Tape} : kP2 i Γ ds v (some (k, t)) = if tKeys ds && (okKey k).isSome && decide (ds.length < sizeLine) then some (.nx (Γ.set i (.mu (.dict (dPut ds k v)))) t) else none := id rfl
@[simp] theorem k_p1 {i : Nat} {f : Ev} {Γ : Env'} {ds : List (D × D)} {v : D} {t : Tape} : kP1 i f Γ (some (.mu (.dict ds))) (some (v, t)) = kP2 i Γ ds v (f Γ t) := id rfl
@[simp] theorem d_inAL {x : D} {ys : List D} : inA x (.list ys) = inD x (.list ys) := id rfl
@[simp] theorem d_inAT {x : D} {ys : List D} : inA x (.tuple ys) = inD x (.tuple ys) := id rfl
@[simp] theorem d_ninAL {x : D} {ys : List D} : ninA x (.list ys) = ninD x (.list ys) := id rfl
@[simp] theorem d_ninAT {x : D} {ys : List D} : ninA x (.tuple ys) = ninD x (.tuple ys) := id rfl
@[simp] theorem d_lenAL {ys : List D} : lenA (.list ys) = some (.int ys.length) := id rfl
@[simp] theorem d_lenAT {ys : List D} : lenA (.tuple ys) = some (.int ys.length) := id rfl
@[simp] theorem d_itAL {ys : List D} : itA (.list ys) = some ys := id rfl
@[simp] theorem d_itAT {ys : List D} : itA (.tuple ys) = some ys := id rfl
@[simp] theorem d_itAD {ds : List (D × D)} : itA (.dict ds) = if tKeys ds then some (ds.map (·.1)) else none := id rfl
@[simp] theorem d_itKD {ds : List (D × D)} : itK (.dict ds) = if tKeys ds then some (ds.map (·.1)) else none := id rfl
@[simp] theorem d_inAD {x : D} {ds : List (D × D)} : inA x (.dict ds) = if tKeys ds && (okKey x).isSome then some (.bool (dFind ds x).isSome) else none := id rfl
@[simp] theorem d_ninAD {x : D} {ds : List (D × D)} : ninA x (.dict ds) = if tKeys ds && (okKey x).isSome then some (.bool (!(dFind ds x).isSome)) else none := id rfl
@[simp] theorem d_lenAD {ds : List (D × D)} : lenA (.dict ds) = if tKeys ds then some (.int ds.length) else none := id rfl
@[simp] theorem d_sumAL {ds : List D} : sumA (.list ds) = (intsOf ds).map fun ns => .int ns.sum := id rfl
theorem pl_int (i : Int) : (PyData.int i).plain = true := rfl
theorem okD_ints (l : List Int) : okD (.list (l.map .int)) = true := by
  have h := okD_tupI l
  rw [okD] at h ⊢
  simp only [PyData.plain, PyData.depth] at h ⊢
  exact h
theorem in_intsT (i : Int) (l : List Int) : inD (.int i) (.tuple (l.map .int)) = some (.bool (decide (i ∈ l))) := by
  have h : (l.map PyData.int).any (fun y => PyData.eqv y (.int i)) = decide (i ∈ l) := by
    induction l with
    | nil => rfl
    | cons j l ih =>
      rw [List.map_cons, List.any_cons, ih]
      simp only [PyData.eqv, List.mem_cons]
      by_cases hj : j = i
      · subst hj; simp
      · have : ¬ i = j := fun e => hj e.symm
        simp [hj, this]
  show (if (okD (.int i) && okD (.tuple (l.map .int))) = true then some (PyData.bool ((l.map PyData.int).any fun y => PyData.eqv y (.int i))) else none) = _
  rw [okD_int, okD_tupI, h]
  rfl
@[simp] theorem d_in2 (i a b : Int) : inD (.int i) (.tuple [.int a, .int b]) = some (.bool (decide (i = a ∨ i = b))) := by
  have h := in_intsT i [a, b]
  simpa using h
end DL

set_option Elab.async false
set_option linter.all false
set_option maxRecDepth 100000
/-! DL21: loops over mapped lists. -/
namespace DL
open PySem PySem.Spec L2
open PyProof.Rows hiding St
theorem lc_map {α : Type} {tg : Tg} {elt : Ev} {g : Env'} {t : Tape} {f out : α → D} {l : α → List (Nat × D)} : ∀ {L : List α}, (∀ x ∈ L, tg (f x) = some (l x)) → (∀ x ∈ L, elt (setG g (l x)) t = some (out x, t)) → lcLoop tg bYes elt g (L.map f) t = some (L.map out, t)
  | [], _, _ => rfl
  | x :: L, h1, h2 => by
    have ih := lc_map (L := L) (fun y h => h1 y (List.mem_cons_of_mem _ h)) (fun y h => h2 y (List.mem_cons_of_mem _ h))
    rw [List.map_cons, List.map_cons, e_lcons, h1 x (List.mem_cons_self ..), k_l1, e_yes, k_l2t, h2 x (List.mem_cons_self ..), k_l3, ih, k_l4]
theorem lc_filter {α : Type} {tg : Tg} {cond : Evb} {elt : Ev} {g : Env'} {t : Tape} {f out : α → D} {c : α → Bool} {l : α → List (Nat × D)} : ∀ {L : List α}, (∀ x ∈ L, tg (f x) = some (l x)) → (∀ x ∈ L, cond (setG g (l x)) t = some (c x, t)) → (∀ x ∈ L, c x = true → elt (setG g (l x)) t = some (out x, t)) → lcLoop tg cond elt g (L.map f) t = some ((L.filter c).map out, t)
  | [], _, _, _ => rfl
  | x :: L, h1, hc, h2 => by
    have ih := lc_filter (L := L) (fun y h => h1 y (List.mem_cons_of_mem _ h)) (fun y h => hc y (List.mem_cons_of_mem _ h)) (fun y h => h2 y (List.mem_cons_of_mem _ h))
    rw [List.map_cons, e_lcons, h1 x (List.mem_cons_self ..), k_l1, hc x (List.mem_cons_self ..)]
    cases hx : c x with
    | true => rw [k_l2t, h2 x (List.mem_cons_self ..) hx, k_l3, ih, k_l4, List.filter_cons, hx, if_pos rfl, List.map_cons]
    | false => rw [k_l2f, ih, List.filter_cons, hx, if_neg (by decide)]
theorem lcD_map {α : Type} {it : Evi} {own : List Nat} {tg : Tg} {elt : Ev} {Γ : Env'} {t t1 : Tape} {f out : α → D} {l : α → List (Nat × D)} {L : List α} (hi : it Γ t = some (L.map f, t1)) (hz : L.length < sizeLine) (h1 : ∀ x ∈ L, tg (f x) = some (l x)) (h2 : ∀ x ∈ L, elt (setG (wipeG Γ own) (l x)) t1 = some (out x, t1)) : lcD it own tg bYes elt Γ t = some (.list (L.map out), t1) := by
  rw [e_lc, hi, k_lc, if_pos (by rw [List.length_map]; exact hz), lc_map h1 h2, k_ld]
theorem lcD_filter {α : Type} {it : Evi} {own : List Nat} {tg : Tg} {cond : Evb} {elt : Ev} {Γ : Env'} {t t1 : Tape} {f out : α → D} {c : α → Bool} {l : α → List (Nat × D)} {L : List α} (hi : it Γ t = some (L.map f, t1)) (hz : L.length < sizeLine) (h1 : ∀ x ∈ L, tg (f x) = some (l x)) (hc : ∀ x ∈ L, cond (setG (wipeG Γ own) (l x)) t1 = some (c x, t1)) (h2 : ∀ x ∈ L, c x = true → elt (setG (wipeG Γ own) (l x)) t1 = some (out x, t1)) : lcD it own tg cond elt Γ t = some (.list ((L.filter c).map out), t1) := by
  rw [e_lc, hi, k_lc, if_pos (by rw [List.length_map]; exact hz), lc_filter h1 hc h2, k_ld]
theorem for_fold {α σ : Type} {tg : Tg} {body : Es} {t : Tape} {f : α → D} {l : α → List (Nat × D)} (R : σ → Env' → Prop) (step : σ → α → σ) : ∀ {L : List α} {s : σ} {Γ : Env'}, R s Γ → (∀ x ∈ L, tg (f x) = some (l x)) → (∀ x ∈ L, ∀ s Γ, R s Γ → ∃ Γ', (body (setG Γ (l x)) t = some (.nx Γ' t) ∨ body (setG Γ (l x)) t = some (.ct Γ' t)) ∧ R (step s x) Γ') → ∃ Γ', forL tg body (L.map f) Γ t = some (.nx Γ' t) ∧ R (L.foldl step s) Γ'
  | [], s, Γ, hR, _, _ => ⟨Γ, rfl, hR⟩
  | x :: L, s, Γ, hR, h1, h2 => by
    obtain ⟨Γ', hb, hR'⟩ := h2 x (List.mem_cons_self ..) s Γ hR
    obtain ⟨Γ2, hf, hR2⟩ := for_fold R step (L := L) hR' (fun y h => h1 y (List.mem_cons_of_mem _ h)) (fun y h => h2 y (List.mem_cons_of_mem _ h))
    refine ⟨Γ2, ?_, hR2⟩
    rw [List.map_cons, e_fcons, h1 x (List.mem_cons_self ..), k_f1]
    rcases hb with hb | hb
    · rw [hb, k_f2n, hf]
    · rw [hb, k_f2c, hf]
theorem intsOf_mapF {α : Type} (f : α → Int) : ∀ L : List α, intsOf (L.map fun x => PyData.int (f x)) = some (L.map f)
  | [] => rfl
  | x :: L => by
    show (intsOf (L.map fun x => PyData.int (f x))).map _ = _
    rw [intsOf_mapF f L]
    rfl
theorem blsOf_mapF {α : Type} (f : α → Bool) : ∀ L : List α, blsOf (L.map fun x => PyData.bool (f x)) = some (L.map f)
  | [] => rfl
  | x :: L => by
    show (blsOf (L.map fun x => PyData.bool (f x))).map _ = _
    rw [blsOf_mapF f L]
    rfl
theorem sumD_map {α : Type} (f : α → Int) (L : List α) : sumD (.list (L.map fun x => PyData.int (f x))) = some (.int (L.map f).sum) := by
  show (intsOf _).map _ = _
  rw [intsOf_mapF]
  rfl
theorem anyD_map {α : Type} (f : α → Bool) (L : List α) : anyD (.list (L.map fun x => PyData.bool (f x))) = some (.bool (L.any f)) := by
  show (blsOf _).map _ = _
  rw [blsOf_mapF, Option.map_some, List.any_map]
  rfl
theorem allD_map {α : Type} (f : α → Bool) (L : List α) : allD (.list (L.map fun x => PyData.bool (f x))) = some (.bool (L.all f)) := by
  show (blsOf _).map _ = _
  rw [blsOf_mapF, Option.map_some, List.all_map]
  rfl
/-- a list of draws -/
theorem draws {α : Type} {i : Nat} {elt : Ev} {g : Env'} (f : α → D) (P : α → Prop) (h : ∀ d t, TpOk t → ∃ a t', elt (g.set i (.fz d)) t = some (f a, t') ∧ P a ∧ TpOk t') : ∀ (ds : List D) (t : Tape), TpOk t → ∃ (L : List α) (t' : Tape), lcLoop (gNm i) bYes elt g ds t = some (L.map f, t') ∧ TpOk t' ∧ (∀ a ∈ L, P a) ∧ L.length = ds.length
  | [], t, ht => ⟨[], t, rfl, ht, (fun _ h => nomatch h), rfl⟩
  | d :: ds, t, ht => by
    obtain ⟨a, t1, h1, ha, ht1⟩ := h d t ht
    obtain ⟨L, t2, h2, ht2, hL, hl⟩ := draws f P h ds t1 ht1
    refine ⟨a :: L, t2, ?_, ht2, fun b hb => ?_, by rw [List.length_cons, hl, List.length_cons]⟩
    · rw [e_lcons, e_nm, k_l1, e_yes, k_l2t]
      show kL3 _ _ _ _ _ (elt (g.set i (.fz d)) t) = _
      rw [h1, k_l3, h2, k_l4]
      rfl
    · rcases List.mem_cons.mp hb with rfl | hb
      · exact ha
      · exact hL b hb
theorem drawsD {α : Type} {i : Nat} {it : Evi} {own : List Nat} {elt : Ev} {Γ : Env'} {t t1 : Tape} {ds : List D} (f : α → D) (P : α → Prop) (hi : it Γ t = some (ds, t1)) (hz : ds.length < sizeLine) (ht : TpOk t1) (h : ∀ d t, TpOk t → ∃ a t', elt ((wipeG Γ own).set i (.fz d)) t = some (f a, t') ∧ P a ∧ TpOk t') : ∃ (L : List α) (t' : Tape), lcD it own (gNm i) bYes elt Γ t = some (.list (L.map f), t') ∧ TpOk t' ∧ (∀ a ∈ L, P a) ∧ L.length = ds.length := by
  obtain ⟨L, t2, h1, h2, h3, h4⟩ := draws f P h ds t1 ht
  refine ⟨L, t2, ?_, h2, h3, h4⟩
  rw [e_lc, hi, k_lc, if_pos hz, h1, k_ld]
/-- a draw, as a natural number -/
theorem take_nat {n : Nat} (hn : 0 < n) (hn2 : n < 1073741824) {t : Tape} (h : TpOk t) : ∃ (k : Nat) (t' : Tape), fnT 2 4 takeB [.int n] t = some (.int k, t') ∧ k < n ∧ TpOk t' := by
  obtain ⟨v, t', h1, h2, h3, h4⟩ := take_ok (n := n) (by omega) (by omega) h
  obtain ⟨k, rfl⟩ := Int.eq_ofNat_of_zero_le h2
  exact ⟨k, t', h1, by omega, h4⟩
/-- what is told back -/
def kRt (o : Option Res) : Option D := match o with
  | some (.rt d _) => some d
  | _ => none
theorem kRt_ret {f : Ev} {Γ : Env'} {t t' : Tape} {d : D} (h : f Γ t = some (d, t')) : kRt (sRet f Γ t) = some d := by
  rw [e_ret, h]
  rfl
theorem kRt_seq {f g : Es} {Γ Γ' : Env'} {t t' : Tape} {d : D} (h : f Γ t = some (.nx Γ' t')) (hg : kRt (g Γ' t') = some d) : kRt (sSeq f g Γ t) = some d := by
  rw [e_seq, h, k_seq_nx]
  exact hg
theorem skip_if {c : Evb} {f : Es} {Γ : Env'} {t t' : Tape} (h : c Γ t = some (false, t')) : sIf c f sSkip Γ t = some (.nx Γ t') := by
  rw [e_if, h]
  rfl
theorem sTape_of {F : List D → Option Tape} {i : Nat} {a : Eva} {g : Es} {Γ : Env'} {t t1 t2 t3 : Tape} {ds : List D} {d : D} (hq : quietG Γ = true) (ha : a Γ t = some (ds, t1)) (hF : F ds = some t2) (hg : g (Γ.set i .tp) t2 = some (.rt d t3)) : sTape F i a g Γ t = some (.rt d t1) := by
  unfold sTape
  rw [if_pos hq, ha]
  simp only [Option.bind_eq_bind, Option.bind_some, hF, hg]
theorem kFn_tape {F : List D → Option Tape} {i : Nat} {a : Eva} {g : Es} {Γ : Env'} {t t1 t2 : Tape} {ds : List D} {d : D} (hq : quietG Γ = true) (ha : a Γ t = some (ds, t1)) (hF : F ds = some t2) (hg : kRt (g (Γ.set i .tp) t2) = some d) : kFn (sTape F i a g Γ t) = some d := by
  unfold kRt at hg
  split at hg
  · rename_i e
    cases hg
    rw [sTape_of hq ha hF e]
    rfl
  · cases hg
theorem fnD_kFn {n N : Nat} {body : Es} {ds : List D} {d : D} (hl : ds.length = n) (h : kFn (body (ds.map .fz ++ List.replicate (N - n) .no) tape0) = some d) : fnD n N body ds = some d := by
  rw [e_fnD, if_pos hl]
  exact h
theorem fnD_kRt {n N : Nat} {body : Es} {ds : List D} {d : D} (hl : ds.length = n) (h : kRt (body (ds.map .fz ++ List.replicate (N - n) .no) tape0) = some d) : fnD n N body ds = some d := by
  refine fnD_kFn hl ?_
  unfold kRt at h
  split at h
  · rename_i e
    cases h
    rw [e]
    rfl
  · cases h
theorem plainAll_of : ∀ {ds : List D}, (∀ x ∈ ds, x.plain = true) → PyData.plainAll ds = true
  | [], _ => by simp [PyData.plainAll]
  | x :: ds, h => by
    rw [PyData.plainAll, h x (List.mem_cons_self ..), plainAll_of fun y hy => h y (List.mem_cons_of_mem _ hy)]
    rfl
theorem depthAll_of {n : Nat} : ∀ {ds : List D}, (∀ x ∈ ds, x.depth ≤ n) → PyData.depthAll ds ≤ n
  | [], _ => by simp [PyData.depthAll]
  | x :: ds, h => by
    have h1 := h x (List.mem_cons_self ..)
    have h2 := depthAll_of fun y hy => h y (List.mem_cons_of_mem _ hy)
    rw [PyData.depthAll]
    omega
/-- plain, and at most so deep -/
def pdD (n : Nat) (d : D) : Prop := d.plain = true ∧ d.depth ≤ n
theorem pd_tup {n : Nat} {ds : List D} (h : ∀ x ∈ ds, pdD n x) : pdD (n + 1) (.tuple ds) := by
  constructor
  · rw [PyData.plain]; exact plainAll_of fun x hx => (h x hx).1
  · rw [PyData.depth]; have := depthAll_of (n := n) fun x hx => (h x hx).2; omega
theorem pd_lst {n : Nat} {ds : List D} (h : ∀ x ∈ ds, pdD n x) : pdD (n + 1) (.list ds) := by
  constructor
  · rw [PyData.plain]; exact plainAll_of fun x hx => (h x hx).1
  · rw [PyData.depth]; have := depthAll_of (n := n) fun x hx => (h x hx).2; omega
theorem pd_int {n : Nat} (i : Int) : pdD n (.int i) := ⟨rfl, by rw [PyData.depth]; omega⟩
theorem pd_str {n : Nat} (i : Str) : pdD n (.str i) := ⟨rfl, by rw [PyData.depth]; omega⟩
theorem pd_bool {n : Nat} (i : Bool) : pdD n (.bool i) := ⟨rfl, by rw [PyData.depth]; omega⟩
theorem pd_none {n : Nat} : pdD n .none := ⟨rfl, by rw [PyData.depth]; omega⟩
theorem pd_ok {n : Nat} {d : D} (h : pdD n d) (hn : n ≤ 60) : okD d = true := by
  rw [okD, h.1, Bool.true_and, decide_eq_true_eq]
  exact Nat.le_trans h.2 hn
theorem eqD_self {d : D} (h : okD d = true) : eqD d d = some (.bool true) := by
  have hp := h
  rw [okD, Bool.and_eq_true] at hp
  unfold eqD
  rw [h, PySem.SeqAt.eqv_refl_plain d hp.1]
  rfl
theorem neD_self {d : D} (h : okD d = true) : neD d d = some (.bool false) := by
  have hp := h
  rw [okD, Bool.and_eq_true] at hp
  unfold neD
  rw [h, PySem.SeqAt.eqv_refl_plain d hp.1]
  rfl
theorem sIx_nat (n d k : Nat) : HT.sIx n d (some (k : Int)) = min k n := by
  simp [HT.sIx]
  omega
theorem sIx_none (n d : Nat) (h : d ≤ n) : HT.sIx n d none = d := by
  simp [HT.sIx]
theorem cut_to {α : Type} (xs : List α) (k : Nat) : cutD xs none (some (k : Int)) = xs.take k := by
  unfold cutD
  rw [sIx_nat, sIx_none _ _ (Nat.zero_le _), List.drop_zero, Nat.sub_zero]
  by_cases h : k ≤ xs.length
  · rw [Nat.min_eq_left h]
  · rw [Nat.min_eq_right (by omega), List.take_of_length_le (Nat.le_refl _), List.take_of_length_le (by omega)]
theorem cut_from {α : Type} (xs : List α) (k : Nat) : cutD xs (some (k : Int)) none = xs.drop k := by
  unfold cutD
  rw [sIx_nat, sIx_none _ _ (Nat.le_refl _)]
  by_cases h : k ≤ xs.length
  · rw [Nat.min_eq_left h, List.take_of_length_le (by rw [List.length_drop]; omega)]
  · rw [Nat.min_eq_right (by omega), Nat.sub_self, List.take_zero, List.drop_of_length_le (by omega)]
theorem cut_mid {α : Type} (xs : List α) (a b : Nat) : cutD xs (some (a : Int)) (some (b : Int)) = (xs.drop a).take (b - a) := by
  unfold cutD
  rw [sIx_nat, sIx_nat]
  by_cases h : a ≤ xs.length
  · rw [Nat.min_eq_left h]
    by_cases h2 : b ≤ xs.length
    · rw [Nat.min_eq_left h2]
    · rw [Nat.min_eq_right (by omega), List.take_of_length_le (by rw [List.length_drop]; omega), List.take_of_length_le (by rw [List.length_drop]; omega)]
  · have e : min a xs.length = xs.length := by omega
    rw [e, List.drop_of_length_le (Nat.le_refl _), List.drop_of_length_le (by omega : xs.length ≤ a), List.take_nil, List.take_nil]
end DL

set_option Elab.async false
set_option linter.all false
set_option maxRecDepth 100000
set_option maxHeartbeats 4000000
/-! K38M11: areas. -/
namespace K38
open PySem DL
def sizeP (p : Pt) : Int × Int :=
  (p.a * p.a + p.b * p.b + p.c * p.c + p.d * p.d - (p.a * p.c + p.b * p.d) + p.a * p.d, p.a * p.b + p.b * p.c + p.c * p.d + (p.a * p.c + p.b * p.d) - p.a * p.d)
def smP (p : Pt) : Bool := smallI p.a && smallI p.b && smallI p.c && smallI p.d
theorem smP_iff {p : Pt} (h : smP p = true) : smallI p.a = true ∧ smallI p.b = true ∧ smallI p.c = true ∧ smallI p.d = true := by
  simp only [smP, Bool.and_eq_true] at h
  exact ⟨h.1.1.1, h.1.1.2, h.1.2, h.2⟩
abbrev pr (x : Int × Int) : D := .tuple [.int x.1, .int x.2]
theorem F_size_ok {p : Pt} (h : smP p = true) : F_size_of [pt p] = some (pr (sizeP p)) := by
  obtain ⟨h1, h2, h3, h4⟩ := smP_iff h
  simp [F_size_of, b_size_of, h1, h2, h3, h4, sizeP]
theorem okD_pr (a b : Int) : okD (.tuple [.int a, .int b]) = true := okD_tupI [a, b]
theorem eqD_pr (a b c d : Int) : eqD (.tuple [.int a, .int b]) (.tuple [.int c, .int d]) = some (.bool (decide (a = c ∧ b = d))) := by
  unfold eqD
  rw [okD_pr, okD_pr, show (decide (a = c ∧ b = d)) = (a == c && b == d) by rw [Bool.eq_iff_iff]; simp]
  simp [PyData.eqv, PyData.eqvAll]
theorem neD_pr (a b c d : Int) : neD (.tuple [.int a, .int b]) (.tuple [.int c, .int d]) = some (.bool (!decide (a = c ∧ b = d))) := by
  unfold neD
  rw [okD_pr, okD_pr, show (decide (a = c ∧ b = d)) = (a == c && b == d) by rw [Bool.eq_iff_iff]; simp]
  simp [PyData.eqv, PyData.eqvAll]
def smT (T : Tr) : Bool := smP (T.y.sub T.x) && smP (T.z.sub T.x) && smP (T.y.sub T.z)
theorem smT_iff {T : Tr} (h : smT T = true) : smP (T.y.sub T.x) = true ∧ smP (T.z.sub T.x) = true ∧ smP (T.y.sub T.z) = true := by
  simp only [smT, Bool.and_eq_true] at h
  exact ⟨h.1.1, h.1.2, h.2⟩
def crossP (u v : Pt) : Int × Int :=
  (u.a * v.b + -(u.b * v.a) + u.b * v.c + -(u.c * v.b) + u.c * v.d + -(u.d * v.c), u.a * v.c + u.a * v.d + u.b * v.d + -(u.c * v.a) + -(u.d * v.a) + -(u.d * v.b))
theorem cross_ok {u : Pt} (v : Pt) (h : smP u = true) : F__law_cross [.list [.int u.a, .int u.b, .int u.c, .int u.d], .list [.int v.a, .int v.b, .int v.c, .int v.d]] = some (pr (crossP u v)) := by
  obtain ⟨h0, h1, h2, h3⟩ := smP_iff h
  simp [F__law_cross, b__law_cross, h0, h1, h2, h3, crossP]
def trueK (T : Tr) : Bool :=
  let f := sizeP (T.y.sub T.x)
  let s := sizeP (T.z.sub T.x)
  let t := sizeP (T.y.sub T.z)
  if f ≠ s ∨ f = (0, 0) then false
  else
    let sm := if T.s then t else f
    let gr := if T.s then f else t
    decide (gr = (sm.1 + sm.2, sm.1 + 2 * sm.2))
theorem F_true_ok {T : Tr} (h : smT T = true) (ht : trueK T = true) : F_is_true_kind [td T] = some (.bool true) := by
  obtain ⟨h1, h2, h3⟩ := smT_iff h
  have n3 := eq_kd T.s
  unfold trueK at ht
  revert ht
  generalize hf : sizeP (T.y.sub T.x) = f
  generalize hs : sizeP (T.z.sub T.x) = s
  generalize hg : sizeP (T.y.sub T.z) = g
  obtain ⟨f1, f2⟩ := f
  obtain ⟨s1, s2⟩ := s
  obtain ⟨g1, g2⟩ := g
  intro ht
  have e1 := F_size_ok h1
  have e2 := F_size_ok h2
  have e3 := F_size_ok h3
  rw [hf] at e1
  rw [hs] at e2
  rw [hg] at e3
  have hd : (¬f1 = 0 ∨ ¬f2 = 0) → (decide (f1 = 0) && decide (f2 = 0)) = false := fun h => by
    rcases h with h | h <;> simp [h]
  cases hk : T.s <;> rw [hk] at n3 <;> simp [hk] at ht <;> obtain ⟨⟨⟨rfl, rfl⟩, hn⟩, ha, hb⟩ := ht
  · have hd := hd hn
    simp [F_is_true_kind, b_is_true_kind, F_minus_ok, e1, e2, e3, hk, n3, neD_pr, eqD_pr, hd, ha, hb]
  · have hd := hd hn
    subst ha hb
    simp [F_is_true_kind, b_is_true_kind, F_minus_ok, e1, e2, e3, hk, n3, neD_pr, eqD_pr, hd]
def areaP (T : Tr) : Int × Int :=
  let r := crossP (T.y.sub T.x) (T.z.sub T.x)
  let a := 2 * r.1 + r.2
  let b := r.2
  if 0 ≤ a ∧ 0 ≤ b then r
  else if a ≤ 0 ∧ b ≤ 0 then (0 - r.1, 0 - r.2)
  else if (if b < 0 then a * a < 5 * b * b else 5 * b * b < a * a) then (0 - r.1, 0 - r.2) else r
def smA (T : Tr) : Bool := smP (T.y.sub T.x) && smallI (2 * (crossP (T.y.sub T.x) (T.z.sub T.x)).1 + (crossP (T.y.sub T.x) (T.z.sub T.x)).2) && smallI (crossP (T.y.sub T.x) (T.z.sub T.x)).2
theorem F_area_ok {T : Tr} (h : smA T = true) : F__law_area [td T] = some (pr (areaP T)) := by
  simp only [smA, Bool.and_eq_true] at h
  obtain ⟨⟨h1, h2⟩, h3⟩ := h
  have c := cross_ok (T.z.sub T.x) h1
  unfold areaP
  revert h2 h3 c
  generalize crossP (T.y.sub T.x) (T.z.sub T.x) = r
  obtain ⟨p, q⟩ := r
  intro h2 h3 c
  simp only [Pt.sub] at c
  simp at h2 h3
  by_cases k1 : 0 ≤ 2 * p + q <;> by_cases k2 : 0 ≤ q <;> by_cases k3 : 2 * p + q ≤ 0 <;> by_cases k4 : q ≤ 0 <;> by_cases k5 : q < 0 <;> by_cases k6 : (2 * p + q) * (2 * p + q) < 5 * q * q <;> by_cases k7 : 5 * q * q < (2 * p + q) * (2 * p + q) <;> first | (exfalso; omega) | simp [F__law_area, b__law_area, k1, k2, k3, k4, k5, k6, k7, c, h2, h3]
def areas (L : List Tr) : Int × Int := ((L.map fun T => (areaP T).1).sum, (L.map fun T => (areaP T).2).sum)
theorem F_areas_ok {L : List Tr} (hL : L.length < sizeLine) (h : ∀ T ∈ L, smA T = true) : F__law_areas [tds L] = some (pr (areas L)) := by
  have c : ∀ Γ t, Γ = [Slot.fz (tds L), .no, .no, .no, .no] → lcD (iSeq (vVar 0)) [2] (gNm 2) bYes (callD F__law_area (aCons (vVar 2) aNil)) Γ t = some (.list (L.map fun T => pr (areaP T)), t) := by
    intro Γ t e
    subst e
    refine lcD_map (f := td) (l := fun T => [(2, td T)]) (by simp) hL (fun _ _ => rfl) fun T hT => ?_
    simp [F_area_ok (h T hT)]
  have c1 : ∀ (Γ : Env') t, Γ = [Slot.fz (tds L), .fz (.list (L.map fun T => pr (areaP T))), .no, .no, .no] → lcD (iSeq (vVar 1)) [3, 4] (gTp 2 (gsCons (gNm 3) (gsCons (gNm 4) gsNil))) bYes (vVar 3) Γ t = some (.list (L.map fun T => .int (areaP T).1), t) := by
    intro Γ t e
    subst e
    refine lcD_map (f := fun T => pr (areaP T)) (l := fun T => [(3, .int (areaP T).1), (4, .int (areaP T).2)]) (by simp) hL (fun _ _ => rfl) fun T hT => ?_
    simp
  have c2 : ∀ (Γ : Env') t, Γ = [Slot.fz (tds L), .fz (.list (L.map fun T => pr (areaP T))), .no, .no, .no] → lcD (iSeq (vVar 1)) [3, 4] (gTp 2 (gsCons (gNm 3) (gsCons (gNm 4) gsNil))) bYes (vVar 4) Γ t = some (.list (L.map fun T => .int (areaP T).2), t) := by
    intro Γ t e
    subst e
    refine lcD_map (f := fun T => pr (areaP T)) (l := fun T => [(3, .int (areaP T).1), (4, .int (areaP T).2)]) (by simp) hL (fun _ _ => rfl) fun T hT => ?_
    simp
  have d := c _ tape0 rfl
  have d1 := c1 _ tape0 rfl
  have d2 := c2 _ tape0 rfl
  simp [-e_lc, F__law_areas, b__law_areas, d, d1, d2, sumD_map, areas]
theorem longer_eq (p : Pt) : p.longer = ⟨p.a + p.b - p.d, p.c + p.d, p.b + p.a, p.c + p.d - p.a⟩ := by
  have h9 : p.turn 9 = ⟨p.a + p.b, p.c - p.a, p.d + p.a, -p.a⟩ := by
    apply Pt.eq <;> simp only [Pt.turn, Pt.rot] <;> omega
  rw [Pt.longer, h9]
  apply Pt.eq <;> simp only [Pt.turn, Pt.rot, Pt.add] <;> omega
theorem longer_comm (p : Pt) : p.longer.shorter = p ∧ p.shorter.longer = p := by
  have h : p.shorter.longer = p := by
    apply Pt.eq <;> simp only [Pt.shorter, longer_eq, Pt.sub] <;> omega
  rw [shorter_longer]
  exact ⟨h, h⟩
def rightA (T : Tr) : Bool :=
  smT T && trueK T && smA T && (cutL T).all smA && (let s := sizeP (T.y.sub T.x); decide (areaP T = if T.s then s else (s.2, s.1 + s.2))) && decide (areas (cutL T) = areaP T)
theorem F_right_ok {T : Tr} (h : rightA T = true) : F__law_area_right [td T] = some (.bool true) := by
  simp only [rightA, Bool.and_eq_true, decide_eq_true_eq, List.all_eq_true] at h
  obtain ⟨⟨⟨⟨⟨h1, h2⟩, h3⟩, h4⟩, h5⟩, h6⟩ := h
  have e1 := F_true_ok h1 h2
  have e2 := F_size_ok (smT_iff h1).1
  have e3 := F_area_ok h3
  have hl : (cutL T).length < sizeLine := by have := cutL_len T; rw [PySem.sizeLine_eq]; omega
  have e4 := F_areas_ok hl h4
  have e5 := F_cut_ok T
  have e6 := F_longer_ok T.x
  have e7 := F_shorter_ok T.x.longer
  have e8 := F_shorter_ok T.y
  have e9 := F_longer_ok T.y.shorter
  rw [(longer_comm T.x).1] at e7
  rw [(longer_comm T.y).2] at e9
  rw [h6] at e4
  have n := eq_kd T.s
  have q1 : eqD (pt T.x) (pt T.x) = some (.bool true) := by have o : okD (pt T.x) = true := okD_tupI [T.x.a, T.x.b, T.x.c, T.x.d]; unfold eqD; rw [o, eqv_pt]; simp
  have q2 : eqD (pt T.y) (pt T.y) = some (.bool true) := by have o : okD (pt T.y) = true := okD_tupI [T.y.a, T.y.b, T.y.c, T.y.d]; unfold eqD; rw [o, eqv_pt]; simp
  revert h5 e2 e3 e4
  generalize sizeP (T.y.sub T.x) = s
  generalize areaP T = a
  obtain ⟨s1, s2⟩ := s
  obtain ⟨a1, a2⟩ := a
  intro h5 e2 e3 e4
  have hc : (cutL T).length = if T.s then 2 else 3 := by unfold cutL; split <;> rfl
  cases hk : T.s <;> rw [hk] at n hc <;> simp [hk] at h5 hc <;> obtain ⟨rfl, rfl⟩ := h5
  · simp [F__law_area_right, b__law_area_right, e1, e2, e3, e4, e5, e6, e7, e8, e9, n, hk, hc, q1, q2, neD_pr, F_minus_ok]
  · simp [F__law_area_right, b__law_area_right, e1, e2, e3, e4, e5, e6, e7, e8, e9, n, hk, hc, q1, q2, neD_pr, F_minus_ok]
end K38

set_option Elab.async false
set_option linter.all false
set_option maxRecDepth 100000
set_option maxHeartbeats 4000000
/-! K38M12: areas of finitely many; what the law asks of its triangles. -/
namespace K38
open PySem DL
def okA (T : Tr) : Bool := smA T && (cutL T).all smA && decide (areas (cutL T) = areaP T)
theorem area_fin : ((List.range 4).all fun d => (deep d U0).all okA) = true := by decide +kernel
theorem right_fin : ((List.range 3).all fun d => (deep d U0).all rightA) = true := by decide +kernel
theorem okA_of {d : Nat} (hd : d < 4) {T : Tr} (h : T ∈ deep d U0) : okA T = true :=
  List.all_eq_true.mp (List.all_eq_true.mp area_fin d (List.mem_range.mpr hd)) T h
theorem right_of {d : Nat} (hd : d < 3) {T : Tr} (h : T ∈ deep d U0) : rightA T = true :=
  List.all_eq_true.mp (List.all_eq_true.mp right_fin d (List.mem_range.mpr hd)) T h
theorem areas_app (L M : List Tr) : areas (L ++ M) = ((areas L).1 + (areas M).1, (areas L).2 + (areas M).2) := by
  simp [areas, List.sum_append_int]
theorem areas_cons (T : Tr) (M : List Tr) : areas (T :: M) = ((areaP T).1 + (areas M).1, (areaP T).2 + (areas M).2) := by
  simp [areas]
theorem areas_flat : ∀ L : List Tr, (∀ T ∈ L, areas (cutL T) = areaP T) → areas (L.flatMap cutL) = areas L
  | [], _ => rfl
  | T :: L, h => by
    rw [List.flatMap_cons, areas_app, areas_cons, h T (List.mem_cons_self ..), areas_flat L fun S hS => h S (List.mem_cons_of_mem _ hS)]
theorem flat_mem {d : Nat} {L : List Tr} (h : ∀ T ∈ L, T ∈ deep d U0) : ∀ T ∈ L.flatMap cutL, T ∈ deep (d + 1) U0 := by
  have := deep_mem 1 h
  rw [deep_deep] at this
  exact this
theorem areas_deep : ∀ (n d : Nat) (L : List Tr), (∀ T ∈ L, T ∈ deep d U0) → d + n ≤ 4 → areas (deep n L) = areas L
  | 0, d, L, h, hd => rfl
  | n + 1, d, L, h, hd => by
    rw [deep, areas_deep n (d + 1) (L.flatMap cutL) (flat_mem h) (by omega)]
    refine areas_flat L fun T hT => ?_
    have := okA_of (by omega : d < 4) (h T hT)
    simp only [okA, Bool.and_eq_true, decide_eq_true_eq] at this
    exact this.2
theorem small_deep {d : Nat} (hd : d ≤ 4) {T : Tr} (h : T ∈ deep d U0) : smA T = true := by
  by_cases h4 : d < 4
  · have := okA_of h4 h
    simp only [okA, Bool.and_eq_true] at this
    exact this.1.1
  · have e : deep d U0 = (deep 3 U0).flatMap cutL := by
      have e4 : d = 3 + 1 := by omega
      rw [e4, ← deep_deep 3 1]
      rfl
    rw [e, List.mem_flatMap] at h
    obtain ⟨S, hS, hT⟩ := h
    have := okA_of (by decide : 3 < 4) hS
    simp only [okA, Bool.and_eq_true, List.all_eq_true] at this
    exact this.1.2 T hT
theorem F_areas_deep {d : Nat} (hd : d ≤ 4) {L : List Tr} (hL : L.length < sizeLine) (h : ∀ T ∈ L, T ∈ deep d U0) : F__law_areas [tds L] = some (pr (areas L)) := F_areas_ok hL fun T hT => small_deep hd (h T hT)
theorem in_u0 {m : Nat} (hm : m < 10) (g : Bool) {T : Tr} (hT : T ∈ W) : T.map (bend m o0 g) ∈ U0 := by
  have h := List.all_eq_true.mp u0_all m (List.mem_range.mpr hm)
  have h2 := List.all_eq_true.mp h g (by cases g <;> simp)
  have h3 := List.all_eq_true.mp h2 T hT
  obtain ⟨S, hS, e⟩ := List.any_eq_true.mp h3
  rw [decide_eq_true_eq] at e
  rw [← e]
  exact hS
theorem bent_u0 {m : Nat} (hm : m < 10) (g : Bool) {L : List Tr} (hL : ∀ T ∈ L, T ∈ W) (d : Nat) : ∀ T ∈ deep d (L.map (Tr.map (bend m o0 g))), T ∈ deep d U0 := by
  refine deep_mem d fun T hT => ?_
  obtain ⟨S, hS, rfl⟩ := List.mem_map.mp hT
  exact in_u0 hm g (hL S hS)
theorem deep_ne : ∀ (n : Nat) (L : List Tr), L ≠ [] → deep n L ≠ []
  | 0, L, h => h
  | n + 1, L, h => deep_ne n _ (by
    cases L with
    | nil => exact absurd rfl h
    | cons T L =>
      rw [List.flatMap_cons]
      intro e
      have := congrArg List.length e
      have hc : 2 ≤ (cutL T).length := by unfold cutL; split <;> simp
      rw [List.length_append, List.length_nil] at this
      omega)
theorem eul_slice {s n r : Nat} (h : s + n + 1 ≤ 10) (hr : r ≤ 3) : eulP (deep r ((W.drop s).take (n + 1))) = true := by
  have hs : s < 10 := by omega
  have hn : n < 10 := by omega
  have hx : decide (10 < s + n + 1) = false := decide_eq_false (by omega)
  by_cases h3 : r = 3
  · subst h3
    have := List.all_eq_true.mp (List.all_eq_true.mp slices3 s (List.mem_range.mpr hs)) n (List.mem_range.mpr hn)
    rw [hx, Bool.false_or] at this
    exact chk_ok this
  · have := List.all_eq_true.mp (List.all_eq_true.mp slices0 s (List.mem_range.mpr hs)) n (List.mem_range.mpr hn)
    rw [hx, Bool.false_or] at this
    exact chk_ok (List.all_eq_true.mp this r (List.mem_range.mpr (by omega)))
theorem eul_head {d f : Nat} (hd : d ≤ 2) (hf : f ≤ 2) {L : List Tr} (hn : L ≠ []) (h : ∀ T ∈ L, T ∈ deep d U0) : eulP (deep f (L.take 1)) = true := by
  cases L with
  | nil => exact absurd rfl hn
  | cons T L =>
    have h1 := List.all_eq_true.mp heads d (List.mem_range.mpr (by omega))
    have h2 := List.all_eq_true.mp h1 T (h T (List.mem_cons_self ..))
    have h3 := List.all_eq_true.mp h2 f (List.mem_range.mpr (by omega))
    exact chk_ok h3
theorem rot_inj {p q : Pt} (h : p.rot = q.rot) : p = q := by
  have h := Pt.mk.inj h
  exact Pt.eq (by omega) (by omega) (by omega) (by omega)
theorem turn_inj : ∀ (n : Nat) {p q : Pt}, p.turn n = q.turn n → p = q
  | 0, _, _, h => h
  | n + 1, _, _, h => rot_inj (turn_inj n h)
theorem bend_inj {m : Nat} {b : Pt} {g : Bool} {p q : Pt} (h : bend m b g p = bend m b g q) : p = q := by
  have h1 : (if g then (p.turn m).longer else p.turn m) = (if g then (q.turn m).longer else q.turn m) := by
    have h := Pt.mk.inj h
    exact Pt.eq (by omega) (by omega) (by omega) (by omega)
  cases g with
  | false => exact turn_inj m h1
  | true =>
    have h2 := congrArg Pt.shorter h1
    exact turn_inj m ((longer_comm _).1.symm.trans (h2.trans (longer_comm _).1))
theorem tri_map (f : Pt → Pt) (L : List Tr) : (L.map (Tr.map f)).map tri3 = (L.map tri3).map (m3 f) := by
  rw [List.map_map, List.map_map]
  rfl
theorem eul_bend (m : Nat) (b : Pt) (g : Bool) {r : Nat} (hr : r ≤ 3) : eulP (deep r (W.map (Tr.map (bend m b g)))) = true := by
  rw [deep_bend]
  have h := eul_slice (s := 0) (n := 9) (by decide) hr
  rw [show (W.drop 0).take (9 + 1) = W from rfl] at h
  rw [← h]
  unfold eulP
  rw [tri_map]
  exact euler_map _ fun x y _ _ => by
    rw [Bool.eq_iff_iff, decide_eq_true_eq, decide_eq_true_eq]
    exact ⟨bend_inj, fun e => by rw [e]⟩
theorem bump_old {ι : Type} {r : ι → ι → Bool} {x : ι} : ∀ {l : List (ι × Nat)}, (∃ p ∈ l, r p.1 x = true) → (bump r l x).map (·.1) = l.map (·.1)
  | [], h => by obtain ⟨p, hp, _⟩ := h; exact nomatch hp
  | p :: l, h => by
    unfold bump
    split
    · rfl
    · rename_i hn
      have : ∃ q ∈ l, r q.1 x = true := by
        obtain ⟨q, hq, e⟩ := h
        rcases List.mem_cons.mp hq with rfl | hq
        · exact absurd e hn
        · exact ⟨q, hq, e⟩
      rw [List.map_cons, List.map_cons, bump_old this]
theorem bump_has (x : Pt) : ∀ l : List (Pt × Nat), ∀ y, (y = x ∨ y ∈ l.map (·.1)) → y ∈ (bump eqP l x).map (·.1)
  | [], y, h => by
    rcases h with rfl | h
    · exact List.mem_cons_self ..
    · exact nomatch h
  | p :: l, y, h => by
    unfold bump
    split
    · rename_i e
      rw [decide_eq_true_eq] at e
      rcases h with rfl | h
      · rw [← e]; exact List.mem_cons_self ..
      · exact h
    · rcases h with rfl | h
      · exact List.mem_cons_of_mem _ (bump_has y l y (.inl rfl))
      · rw [List.map_cons] at h ⊢
        rcases List.mem_cons.mp h with rfl | h
        · exact List.mem_cons_self ..
        · exact List.mem_cons_of_mem _ (bump_has x l y (.inr h))
theorem cnt_has : ∀ (xs : List Pt) (l : List (Pt × Nat)) (y : Pt), (y ∈ xs ∨ y ∈ l.map (·.1)) → y ∈ (cnt eqP l xs).map (·.1)
  | [], l, y, h => by
    rcases h with h | h
    · exact nomatch h
    · exact h
  | x :: xs, l, y, h => by
    show y ∈ (cnt eqP (bump eqP l x) xs).map (·.1)
    refine cnt_has xs _ y ?_
    rcases h with h | h
    · rcases List.mem_cons.mp h with rfl | h
      · exact .inr (bump_has y l y (.inl rfl))
      · exact .inl h
    · exact .inr (bump_has x l y (.inr h))
theorem cnt_old : ∀ (xs : List Pt) (l : List (Pt × Nat)), (∀ x ∈ xs, x ∈ l.map (·.1)) → (cnt eqP l xs).map (·.1) = l.map (·.1)
  | [], l, h => rfl
  | x :: xs, l, h => by
    have e : (bump eqP l x).map (·.1) = l.map (·.1) := by
      refine bump_old ?_
      obtain ⟨p, hp, e⟩ := List.mem_map.mp (h x (List.mem_cons_self ..))
      exact ⟨p, hp, decide_eq_true e⟩
    show (cnt eqP (bump eqP l x) xs).map (·.1) = _
    rw [cnt_old xs _ fun y hy => by rw [e]; exact h y (List.mem_cons_of_mem _ hy), e]
theorem pts_twice (L : List Tr) : ptL (L ++ L) = ptL L := by
  unfold ptL
  rw [List.flatMap_append, cnt_app]
  exact cnt_old _ _ fun x hx => cnt_has _ [] x (.inl hx)
end K38

set_option Elab.async false
set_option linter.all false
set_option maxRecDepth 100000
set_option maxHeartbeats 4000000
/-! K38M13: the law. -/
namespace K38
open PySem DL
theorem take_eq : F__law_take = fnT 2 4 takeB := rfl
theorem tape_eq : F__law_tape = fnTape 1 4 tapeB := rfl
theorem take (m : Int) {n : Nat} (hm : m = n) (hn : 0 < n) (hn2 : n < 1073741824) {t : Tape} (h : TpOk t) : ∃ (k : Nat) (t' : Tape), F__law_take [.int m] t = some (.int k, t') ∧ k < n ∧ TpOk t' := by
  subst hm
  exact take_nat hn hn2 h
theorem W_get {k : Nat} (h : k < 10) : ∃ T, T ∈ W ∧ (W.map td)[k]? = some (td T) := by
  have hw : W.length = 10 := rfl
  exact ⟨W[k], List.getElem_mem _, by rw [List.getElem?_map, List.getElem?_eq_getElem (by omega)]; rfl⟩
theorem rng_ok {j : Int} (h : 0 ≤ j) (h2 : j ≤ 1000) : rngO (.int j) = some (rngI 0 j) := by
  rw [d_rng, if_pos (small_r h (by omega))]
theorem pd_pt (p : Pt) : pdD 1 (pt p) := pd_tup fun x hx => by
  simp only [List.mem_cons, List.not_mem_nil, or_false] at hx
  rcases hx with rfl | rfl | rfl | rfl <;> exact pd_int _
theorem pd_td (T : Tr) : pdD 2 (td T) := pd_tup fun x hx => by
  simp only [List.mem_cons, List.not_mem_nil, or_false] at hx
  rcases hx with rfl | rfl | rfl | rfl
  · exact pd_str _
  · exact pd_pt _
  · exact pd_pt _
  · exact pd_pt _
theorem okD_tds (L : List Tr) : okD (tds L) = true := pd_ok (n := 3) (pd_tup fun x hx => by
  obtain ⟨T, _, rfl⟩ := List.mem_map.mp hx
  exact pd_td T) (by decide)
theorem okD_pts (L : List Pt) : okD (.tuple (sortL (L.map pt))) = true := pd_ok (n := 2) (pd_tup fun x hx => by
  obtain ⟨T, _, rfl⟩ := List.mem_map.mp (sortL_mem.mp hx)
  exact pd_pt T) (by decide)
theorem any_right (L : List Tr) (s : List Slot) (t : Tape) (hz : L.length < sizeLine) (h : ∀ T ∈ L, rightA T = true) (h4 : s[4]? = some (.fz (tds L))) (hl : s.length = 18) : tru (unD anyD (lcD (iSeq (vVar 4)) [17] (gNm 17) bYes (binD isntB (callD F__law_area_right (aCons (vVar 17) aNil)) (vC (.bool true))))) s t = some (false, t) := by
  have e := lcD_map (it := iSeq (vVar 4)) (own := [17]) (tg := gNm 17) (elt := binD isntB (callD F__law_area_right (aCons (vVar 17) aNil)) (vC (.bool true))) (Γ := s) (t := t) (t1 := t) (f := td) (out := fun _ => .bool false) (l := fun T => [(17, td T)]) (L := L) (by simp [h4]) hz (fun _ _ => rfl) (fun T hT => by
    have h17 : (setG (wipeG s [17]) [(17, td T)])[17]? = some (.fz (td T)) := by
      simp [hl]
    simp only [e_bin, e_call, e_cons, e_var, e_nil, e_c, h17, k_v, k_a1, k_a2, k_call, F_right_ok (h T hT), k_b3, k_b1, k_b2, d_isntB]
    rfl)
  rw [e_tru, e_un, e, k_u, anyD_map]
  simp
theorem law_ok (ns : List Int) (hl : ns.length ≤ 63) : F_law [.list (ns.map .int)] = some (.bool true) := by
  obtain ⟨t0, ht0, k0⟩ := tape_ok (ns := ns) (by omega)
  rw [← tape_eq] at ht0
  refine fnD_kFn rfl (kFn_tape rfl (ds := [.list (ns.map .int)]) (t1 := tape0) rfl ht0 ?_)
  refine kRt_seq (set_of' (d := tds W) (t' := t0) (by simp [F_wheel_ok])) ?_
  obtain ⟨v1, t1, e1, b1, k1⟩ := take 4 (n := 4) rfl (by decide) (by decide) k0
  refine kRt_seq (set_of' (d := .int (1 + v1)) (t' := t1) (by simp [e1])) ?_
  obtain ⟨R0, t2, e2, k2, m2, l2⟩ := drawsD (i := 16) (it := iRng1 (vVar 3)) (own := [16]) (elt := binD ixD (vVar 2) (callT F__law_take 1 (aCons (vC (.int 10)) aNil))) (Γ := [.fz (.list (ns.map .int)), .tp, .fz (tds W), .fz (.int (1 + v1)), .no, .no, .no, .no, .no, .no, .no, .no, .no, .no, .no, .no, .no, .no]) (t := t1) (t1 := t1) (ds := rngI 0 (1 + v1)) td (fun T => T ∈ W) (by simp only [e_irng, e_var, List.getElem?_cons_succ, List.getElem?_cons_zero, k_v, k_i1, rng_ok (j := 1 + v1) (by omega) (by omega), k_l]) (by rw [rngI_length, PySem.sizeLine_eq]; omega) k1 (fun d t ht => by
    obtain ⟨v, t', e, b, k⟩ := take 10 (n := 10) rfl (by decide) (by decide) ht
    obtain ⟨T, hT, hw⟩ := W_get b
    exact ⟨T, t', by simp [e, hw], hT, k⟩)
  rw [rngI_length] at l2
  refine kRt_seq (set_of' (d := tds R0) (t' := t2) (un_of e2 rfl)) ?_
  obtain ⟨m, t3, e3, b3, k3⟩ := take 10 (n := 10) rfl (by decide) (by decide) k2
  obtain ⟨v4, t4, e4, b4, k4⟩ := take 2 (n := 2) rfl (by decide) (by decide) k3
  obtain ⟨g, hg⟩ : ∃ g : Bool, eqD (.int v4) (.int 0) = some (.bool g) := ⟨_, eqD_int _ _⟩
  refine kRt_seq (par_of (ds := [.int m, .bool g]) (t1 := t4) (by simp [-d_eqI, e3, e4, hg]) rfl) ?_
  obtain ⟨B, t5, e5, k5, m5, l5⟩ := drawsD (i := 16) (it := iRng1 (vC (.int 4))) (own := [16]) (elt := binD subD (callT F__law_take 1 (aCons (vC (.int 2001)) aNil)) (vC (.int 1000))) (Γ := [.fz (.list (ns.map .int)), .tp, .fz (tds W), .fz (.int (1 + v1)), .fz (tds R0), .no, .no, .no, .no, .no, .fz (.int m), .fz (.bool g), .no, .no, .no, .no, .no, .no]) (t := t4) (t1 := t4) (ds := rngI 0 4) PyData.int (fun _ => True) (by simp) (by simp) k4 (fun d t ht => by
    obtain ⟨v, t', e, b, k⟩ := take 2001 (n := 2001) rfl (by decide) (by decide) ht
    exact ⟨v - 1000, t', by simp [e], trivial, k⟩)
  obtain ⟨p, hp⟩ : ∃ p : Pt, PyData.tuple (B.map .int) = pt p := by
    match B, l5 with
    | [a, b, c, d], _ => exact ⟨⟨a, b, c, d⟩, rfl⟩
  refine kRt_seq (set_of' (d := pt p) (t' := t5) (un_of e5 (congrArg some hp))) ?_
  obtain ⟨m', t6, e6, b6, k6⟩ := take 10 (n := 10) rfl (by decide) (by decide) k5
  obtain ⟨v7, t7, e7, b7, k7⟩ := take 2 (n := 2) rfl (by decide) (by decide) k6
  obtain ⟨g', hg'⟩ : ∃ g : Bool, eqD (.int v7) (.int 0) = some (.bool g) := ⟨_, eqD_int _ _⟩
  have l0 : R0.length ≤ 4 := by omega
  have c1 := F_bent_ok R0 m' o0 g' (by omega)
  rw [show ((m' : Int) % 10).toNat = m' by omega] at c1
  refine kRt_seq (set_of' (d := tds (R0.map (Tr.map (bend m' o0 g')))) (t' := t7) ?_) ?_
  · have h0 : PyData.tuple [.int 0, .int 0, .int 0, .int 0] = pt o0 := rfl
    simp [-d_eqI, e6, e7, hg', h0, c1]
  obtain ⟨dd, t8, e8, b8, k8⟩ := take 3 (n := 3) rfl (by decide) (by decide) k7
  generalize hR : R0.map (Tr.map (bend m' o0 g')) = R1
  have l1 : R1.length ≤ 4 := by rw [← hR, List.length_map]; exact l0
  have hR1 : ∀ T ∈ deep dd R1, T ∈ deep dd U0 := by rw [← hR]; exact bent_u0 b6 g' m2 dd
  have hR1n : deep dd R1 ≠ [] := deep_ne dd _ (by rw [← hR]; intro e; have := congrArg List.length e; rw [List.length_map, List.length_nil] at this; omega)
  have c2 := F_deeper_ok R1 dd (by omega) (by omega)
  refine kRt_seq (set_of' (d := tds (deep dd R1)) (t' := t8) (by simp [e8, c2])) ?_
  have lr : (deep dd R1).length ≤ 36 := by
    have h1 := deep_len dd R1
    have h2 : 3 ^ dd ≤ 3 ^ 2 := Nat.pow_le_pow_right (by decide) (by omega)
    have h3 : 3 ^ dd * R1.length ≤ 3 ^ 2 * 4 := Nat.mul_le_mul h2 l1
    omega
  generalize deep dd R1 = rows at hR1 hR1n lr
  have szr : rows.length < sizeLine := sz_lt (by omega)
  refine kRt_seq (skip_if (any_right rows _ _ szr (fun T hT => right_of (by omega) (hR1 T hT)) rfl rfl)) ?_
  obtain ⟨f, t9, e9, b9, k9⟩ := take 3 (n := 3) rfl (by decide) (by decide) k8
  obtain ⟨s, t10, e10, b10, k10⟩ := take 2 (n := 2) rfl (by decide) (by decide) k9
  refine kRt_seq (par_of (ds := [.int f, .int s]) (t1 := t10) (by simp [e9, e10]) rfl) ?_
  have c3 := F_deeper_ok rows f (by omega) (by omega)
  refine kRt_seq (set_of' (d := tds (deep f rows)) (t' := t10) (by simp [c3])) ?_
  have lt : (deep f rows).length ≤ 324 := by
    have h1 := deep_len f rows
    have h2 : 3 ^ f ≤ 3 ^ 2 := Nat.pow_le_pow_right (by decide) (by omega)
    have h3 : 3 ^ f * rows.length ≤ 3 ^ 2 * 36 := Nat.mul_le_mul h2 lr
    omega
  have c4 := F_bent_ok rows m p g (by omega)
  have c5 := F_bent_ok (deep f rows) m p g (by omega)
  rw [show ((m : Int) % 10).toNat = m by omega] at c4 c5
  have c6 := F_deeper_ok (rows.map (Tr.map (bend m p g))) f (by omega) (by rw [List.length_map]; omega)
  rw [deep_bend] at c6
  refine kRt_seq (skip_if (t' := t10) ?_) ?_
  · simp [c4, c5, c6, neD_self (okD_tds _)]
  have c7 := F_deeper_ok (deep f rows) s (by omega) (by omega)
  have c8 := F_deeper_ok rows (f + s) (by omega) (by omega)
  rw [deep_deep] at c7
  have a1 := F_areas_deep (d := dd) (by omega) szr hR1
  have a2 := F_areas_deep (d := dd + f) (L := deep f rows) (by omega) (sz_lt (by omega)) (by have := deep_mem f hR1; rw [deep_deep] at this; exact this)
  rw [areas_deep f dd rows hR1 (by omega)] at a2
  have c8' : F_deeper [tds rows, .int ((f : Int) + (s : Int))] = some (tds (deep (f + s) rows)) := by rw [← Int.natCast_add]; exact c8
  refine kRt_seq (skip_if (t' := t10) ?_) ?_
  · simp [c7, c8', a1, a2, neD_self (okD_tds _), neD_pr]
  obtain ⟨sp, t11, e11, b11, k11⟩ := take ((rows.length : Int) + 1) (n := rows.length + 1) (by omega) (by omega) (by omega) k10
  refine kRt_seq (set_of' (d := .int sp) (t' := t11) (by simp [e11])) ?_
  have c9 := F_deeper_ok (rows.take sp) f (by omega) (by rw [List.length_take]; omega)
  have c10 := F_deeper_ok (rows.drop sp) f (by omega) (by rw [List.length_drop]; omega)
  have c11 : addD (tds (deep f (rows.take sp))) (tds (deep f (rows.drop sp))) = some (tds (deep f rows)) := by
    have e : (deep f (rows.take sp)).map td ++ (deep f (rows.drop sp)).map td = (deep f rows).map td := by
      rw [← List.map_append, ← deep_append, List.take_append_drop]
    have el := congrArg List.length e
    rw [List.length_append] at el
    show addD (.tuple ((deep f (rows.take sp)).map td)) (.tuple ((deep f (rows.drop sp)).map td)) = some (.tuple ((deep f rows).map td))
    rw [← e]
    exact add_tup (sz_le (by rw [el, List.length_map]; omega))
  refine kRt_seq (skip_if (t' := t11) ?_) ?_
  · have c9 : F_deeper [.tuple ((rows.map td).take sp), .int f] = some (tds (deep f (rows.take sp))) := by rw [← List.map_take]; exact c9
    have c10 : F_deeper [.tuple ((rows.map td).drop sp), .int f] = some (tds (deep f (rows.drop sp))) := by rw [← List.map_drop]; exact c10
    simp [-d_addT, cut_to, cut_from, c9, c10, c11, neD_self (okD_tds _)]
  have c12 := F_kinds_ok rows szr
  have c13 := F_kinds_ok (deep f rows) (sz_lt (by omega))
  have c14 := F_cc_ok (sharps rows) (rows.length - sharps rows) f (by omega)
  rw [deep_kinds] at c14
  refine kRt_seq (tgt_of (d := .tuple [.int (sharps rows), .int (rows.length - sharps rows)]) (t1 := t11) (l := [(14, .int (sharps rows)), (15, .int (rows.length - sharps rows))]) (by simp [c12]) rfl) ?_
  refine kRt_seq (skip_if (t' := t11) ?_) ?_
  · have h : (sharps rows : Int) + ((rows.length : Int) - sharps rows) = rows.length := by omega
    simp [c13, c14, neD_pr, h]
  have c15 := F_points_ok rows (sz_le (by omega))
  have c16 := F_points_ok (rows ++ rows) (sz_le (by rw [List.length_append]; omega))
  rw [pts_twice] at c16
  have c17 : addD (tds rows) (tds rows) = some (tds (rows ++ rows)) := by
    have h := add_tup (i := rows.map td) (j := rows.map td) (sz_le (by rw [List.length_map]; omega))
    rw [← List.map_append] at h
    exact h
  have c18 : sumA (pr ((sharps (deep f rows) : Int), (deep f rows).length - sharps (deep f rows))) = some (.int (deep f rows).length) := by
    show sumT (.tuple [.int _, .int _]) = _
    simp [sumT, intsOf]
    omega
  refine kRt_seq (skip_if (t' := t11) ?_) ?_
  · have h : neD (.list [.int (deep f rows).length]) (.list [.int (deep f rows).length]) = some (.bool false) := neD_self (okD_ints [_])
    simp [-d_addT, c14, c15, c16, c17, c18, h, neD_self (okD_pts _)]
  obtain ⟨st, t12, e12, b12, k12⟩ := take 10 (n := 10) rfl (by decide) (by decide) k11
  refine kRt_seq (set_of' (d := .int st) (t' := t12) (by simp [e12])) ?_
  obtain ⟨w, t13, e13, b13, k13⟩ := take (10 - (st : Int)) (n := 10 - st) (by omega) (by omega) (by omega) k12
  refine kRt_seq (set_of' (d := tds ((W.drop st).take (w + 1))) (t' := t13) ?_) ?_
  · have h : cutD (W.map td) (some (st : Int)) (some ((st : Int) + 1 + (w : Int))) = ((W.drop st).take (w + 1)).map td := by
      rw [show (st : Int) + 1 + (w : Int) = ((st + 1 + w : Nat) : Int) by omega, cut_mid, List.map_take, List.map_drop, show st + 1 + w - st = w + 1 by omega]
    simp [e13, h]
  have hw : W.length = 10 := rfl
  have c19 := F_deeper_ok ((W.drop st).take (w + 1)) (f + s) (by omega) (by rw [List.length_take, List.length_drop]; omega)
  have c19' : F_deeper [tds ((W.drop st).take (w + 1)), .int ((f : Int) + (s : Int))] = some (tds (deep (f + s) ((W.drop st).take (w + 1)))) := by rw [← Int.natCast_add]; exact c19
  have c20 := F_euler_ok (deep (f + s) ((W.drop st).take (w + 1))) (by
    have h1 := deep_len (f + s) ((W.drop st).take (w + 1))
    have h2 : 3 ^ (f + s) ≤ 3 ^ 3 := Nat.pow_le_pow_right (by decide) (by omega)
    have h3 : 3 ^ (f + s) * ((W.drop st).take (w + 1)).length ≤ 3 ^ 3 * 10 := Nat.mul_le_mul h2 (by rw [List.length_take, List.length_drop]; omega)
    omega)
  rw [eul_slice (by omega) (by omega)] at c20
  have c21 := F_deeper_ok (rows.take 1) f (by omega) (by rw [List.length_take]; omega)
  have c22 := F_euler_ok (deep f (rows.take 1)) (by
    have h1 := deep_len f (rows.take 1)
    have h2 : 3 ^ f ≤ 3 ^ 2 := Nat.pow_le_pow_right (by decide) (by omega)
    have h3 : 3 ^ f * (rows.take 1).length ≤ 3 ^ 2 * 1 := Nat.mul_le_mul h2 (by rw [List.length_take]; omega)
    omega)
  rw [eul_head (d := dd) (by omega) (by omega) hR1n hR1] at c22
  refine kRt_seq (skip_if (t' := t13) ?_) ?_
  · have h : cutD (rows.map td) none (some 1) = (rows.take 1).map td := by
      rw [List.map_take]
      exact cut_to _ 1
    have c21 : F_deeper [.tuple ((rows.map td).take 1), .int f] = some (tds (deep f (rows.take 1))) := by rw [← List.map_take]; exact c21
    simp [c19', c20, h, c21, c22]
  have c23 := F_bent_ok W m p g (by rw [hw]; decide)
  rw [show ((m : Int) % 10).toNat = m by omega] at c23
  have c24 := F_deeper_ok (W.map (Tr.map (bend m p g))) s (by omega) (by rw [List.length_map, hw]; decide)
  have c25 := F_euler_ok (deep s (W.map (Tr.map (bend m p g)))) (by
    have h1 := deep_len s (W.map (Tr.map (bend m p g)))
    have h2 : 3 ^ s ≤ 3 ^ 1 := Nat.pow_le_pow_right (by decide) (by omega)
    have h3 : 3 ^ s * (W.map (Tr.map (bend m p g))).length ≤ 3 ^ 1 * 10 := Nat.mul_le_mul h2 (by rw [List.length_map, hw]; decide)
    omega)
  rw [eul_bend m p g (by omega)] at c25
  refine kRt_ret (t' := t13) ?_
  simp [c23, c24, c25]
end K38

open PySem PySem.W PyProof.Rows
set_option maxRecDepth 100000 in
set_option maxHeartbeats 8000000 in
theorem PySem.Challenge.cw_nogapsleft_k38_whole_areas_of_golden_tri_holds : PySem.Challenge.rw_nogapsleft_k38_whole_areas_of_golden_tri.Holds := by
  w_on; o_law; k_head; (case hw => w_witness2)
  k_fill
  refine DL.walk_law (l := PySem.Challenge.rw_nogapsleft_k38_whole_areas_of_golden_tri) (F := K38.F_law) (k := 5) rfl rfl ⟨rfl, by decide, by decide⟩ (fun w h Y => PySem.W.kIn_of Y) ?F K38.law_ok
  case F =>
    intro w mg fa h KX G hmg
    refine' K38.all_mk KX G hmg ?n_abs ?n_all ?n_any ?n_int ?n_len ?n_range ?n_sorted ?n_sum ?n_tuple ?n_zip ?a_KINDS ?l_KINDS ?t_KINDS ?z_KINDS ?f_KINDS ?a_MOST_DEEP ?f_MOST_DEEP ?a__law_tape ?l__law_tape ?c__law_tape ?k__law_tape ?a_turned ?l_turned ?c_turned ?k_turned ?a_first_wheel ?l_first_wheel ?c_first_wheel ?k_first_wheel ?a_plus ?l_plus ?c_plus ?k_plus ?a__law_longer ?l__law_longer ?c__law_longer ?k__law_longer ?a__law_bent ?l__law_bent ?c__law_bent ?k__law_bent ?a_minus ?l_minus ?c_minus ?k_minus ?a_shorter ?l_shorter ?c_shorter ?k_shorter ?a_cut ?l_cut ?c_cut ?k_cut ?a_deeper ?l_deeper ?c_deeper ?k_deeper ?a__law_take ?l__law_take ?c__law_take ?k__law_take ?a_kind_counts ?l_kind_counts ?c_kind_counts ?k_kind_counts ?a_side_counts ?l_side_counts ?c_side_counts ?k_side_counts ?a_points_of ?l_points_of ?c_points_of ?k_points_of ?a__law_euler ?l__law_euler ?c__law_euler ?k__law_euler ?a__law_cross ?l__law_cross ?c__law_cross ?k__law_cross ?a__law_area ?l__law_area ?c__law_area ?k__law_area ?a__law_areas ?l__law_areas ?c__law_areas ?k__law_areas ?a_counts_of_cut ?l_counts_of_cut ?c_counts_of_cut ?k_counts_of_cut ?a_size_of ?l_size_of ?c_size_of ?k_size_of ?a_is_true_kind ?l_is_true_kind ?c_is_true_kind ?k_is_true_kind ?a__law_area_right ?l__law_area_right ?c__law_area_right ?k__law_area_right ?a_law ?l_law ?c_law ?k_law
    (case n_abs => k_is)
    (case n_all => k_is)
    (case n_any => k_is)
    (case n_int => k_is)
    (case n_len => k_is)
    (case n_range => k_is)
    (case n_sorted => k_is)
    (case n_sum => k_is)
    (case n_tuple => k_is)
    (case n_zip => k_is)
    (case a_KINDS => k_is)
    (case l_KINDS => k_is)
    (case t_KINDS => rfl)
    (case z_KINDS => decide)
    (case f_KINDS => rfl)
    (case a_MOST_DEEP => k_is)
    (case f_MOST_DEEP => rfl)
    (case a__law_tape => k_is)
    (case l__law_tape => k_is)
    (case c__law_tape => k_is)
    (case k__law_tape => k_is)
    (case a_turned => k_is)
    (case l_turned => k_is)
    (case c_turned => k_is)
    (case k_turned => k_is)
    (case a_first_wheel => k_is)
    (case l_first_wheel => k_is)
    (case c_first_wheel => k_is)
    (case k_first_wheel => k_is)
    (case a_plus => k_is)
    (case l_plus => k_is)
    (case c_plus => k_is)
    (case k_plus => k_is)
    (case a__law_longer => k_is)
    (case l__law_longer => k_is)
    (case c__law_longer => k_is)
    (case k__law_longer => k_is)
    (case a__law_bent => k_is)
    (case l__law_bent => k_is)
    (case c__law_bent => k_is)
    (case k__law_bent => k_is)
    (case a_minus => k_is)
    (case l_minus => k_is)
    (case c_minus => k_is)
    (case k_minus => k_is)
    (case a_shorter => k_is)
    (case l_shorter => k_is)
    (case c_shorter => k_is)
    (case k_shorter => k_is)
    (case a_cut => k_is)
    (case l_cut => k_is)
    (case c_cut => k_is)
    (case k_cut => k_is)
    (case a_deeper => k_is)
    (case l_deeper => k_is)
    (case c_deeper => k_is)
    (case k_deeper => k_is)
    (case a__law_take => k_is)
    (case l__law_take => k_is)
    (case c__law_take => k_is)
    (case k__law_take => k_is)
    (case a_kind_counts => k_is)
    (case l_kind_counts => k_is)
    (case c_kind_counts => k_is)
    (case k_kind_counts => k_is)
    (case a_side_counts => k_is)
    (case l_side_counts => k_is)
    (case c_side_counts => k_is)
    (case k_side_counts => k_is)
    (case a_points_of => k_is)
    (case l_points_of => k_is)
    (case c_points_of => k_is)
    (case k_points_of => k_is)
    (case a__law_euler => k_is)
    (case l__law_euler => k_is)
    (case c__law_euler => k_is)
    (case k__law_euler => k_is)
    (case a__law_cross => k_is)
    (case l__law_cross => k_is)
    (case c__law_cross => k_is)
    (case k__law_cross => k_is)
    (case a__law_area => k_is)
    (case l__law_area => k_is)
    (case c__law_area => k_is)
    (case k__law_area => k_is)
    (case a__law_areas => k_is)
    (case l__law_areas => k_is)
    (case c__law_areas => k_is)
    (case k__law_areas => k_is)
    (case a_counts_of_cut => k_is)
    (case l_counts_of_cut => k_is)
    (case c_counts_of_cut => k_is)
    (case k_counts_of_cut => k_is)
    (case a_size_of => k_is)
    (case l_size_of => k_is)
    (case c_size_of => k_is)
    (case k_size_of => k_is)
    (case a_is_true_kind => k_is)
    (case l_is_true_kind => k_is)
    (case c_is_true_kind => k_is)
    (case k_is_true_kind => k_is)
    (case a__law_area_right => k_is)
    (case l__law_area_right => k_is)
    (case c__law_area_right => k_is)
    (case k__law_area_right => k_is)
    (case a_law => k_is)
    (case l_law => k_is)
    (case c_law => k_is)
    (case k_law => k_is)
