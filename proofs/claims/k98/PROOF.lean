import PyProof.Rows.All
import Wide.All
import OpenK.AllK
import Wide.FinOn
import HandS.ForMost
import HandS.Deep
import HandS.Star
import HandS.SortRule
import HandS.TupLe
import HandS.Defaults
import HandS.TupAny
import HandS.TupMul
import HandS.TupLen
import HandS.Conv
import HandS.More
import HandS.IsInst
import HandS.ExcValue
import HandS.Iter
import HandS.Zip
import HandS.TryOnly
import HandS.Style
import KE.GoesMore
import KE.GoesEnum
import KE.DataEq
import KE.DataCmp
import KE.DataMinMax
import KE.DataAny
import KE.DataFind
import KE.DataIsa
import KE.SortData
import KE.SortKeyHeap
import HandS.Text
import HandS.Codes
import HandS.Ends
import HandS.HeadEnd
import HandS.Head0
import HandS.Head1
import HandS.Head2
import HandS.HeadHook1
import HandS.HeadHook2
import KE.Datum
import PySem.Challenge.RW_waysandcuts_k98_whole_two_least_lots
set_option Elab.async false
section
set_option linter.all false
set_option maxRecDepth 100000
/-! Pd, part A: pure data held by an abstract heap; states; the readings tM, tP, tMS. -/
namespace Pd
open PySem PySem.Spec PyProof.Rows L2

/-! ### data -/
def kD : Key → PyData
  | .inl i => .int i
  | .inr x => .str x
def tD (k : List Key) : PyData := .tuple (k.map kD)

mutual
inductive Rp (F : Hp) : V → PyData → Prop
  | non : Rp F .non .none
  | bl (b : Bool) : Rp F (.bl b) (.bool b)
  | int (i : Int) : Rp F (.int i) (.int i)
  | str (x : Str) : Rp F (.str x) (.str x)
  | lst {a : Addr} {xs : List V} {ds : List PyData} : F a = some (.lst xs) → RpL F xs ds → Rp F (.ref a) (.list ds)
  | tup {a : Addr} {xs : List V} {ds : List PyData} : F a = some (.tup xs) → RpL F xs ds → Rp F (.ref a) (.tuple ds)
  | dK {a : Addr} {ps : List (Key × V)} {kvs : List (PyData × PyData)} : F a = some (.dK ps) → RpK F ps kvs → Rp F (.ref a) (.dict kvs)
  | dT {a : Addr} {ps : List (List Key × V)} {kvs : List (PyData × PyData)} : F a = some (.dT ps) → RpT F ps kvs → Rp F (.ref a) (.dict kvs)
inductive RpL (F : Hp) : List V → List PyData → Prop
  | nil : RpL F [] []
  | cons {v : V} {vs : List V} {d : PyData} {ds : List PyData} : Rp F v d → RpL F vs ds → RpL F (v :: vs) (d :: ds)
inductive RpK (F : Hp) : List (Key × V) → List (PyData × PyData) → Prop
  | nil : RpK F [] []
  | cons {k : Key} {v : V} {ps : List (Key × V)} {d : PyData} {kvs : List (PyData × PyData)} : Rp F v d → RpK F ps kvs → RpK F ((k, v) :: ps) ((kD k, d) :: kvs)
inductive RpT (F : Hp) : List (List Key × V) → List (PyData × PyData) → Prop
  | nil : RpT F [] []
  | cons {k : List Key} {v : V} {ps : List (List Key × V)} {d : PyData} {kvs : List (PyData × PyData)} : Rp F v d → RpT F ps kvs → RpT F ((k, v) :: ps) ((tD k, d) :: kvs)
end

/-- one heap within another -/
def Sub (F H : Hp) : Prop := ∀ a o, F a = some o → H a = some o
theorem Sub.refl (F : Hp) : Sub F F := fun _ _ h => h
theorem Sub.trans {F G H : Hp} (a : Sub F G) (b : Sub G H) : Sub F H := fun x o h => b x o (a x o h)
theorem Sub.new {H : Hp} {p : Addr} {o : HO} (h : H p = none) : Sub H (upd H p o) := fun a u e => by
  rw [upd_ne (ne_of_none e h)]
  exact e
/-- both grow by the same -/
theorem Sub.both {F H : Hp} {p : Addr} {o : HO} (s : Sub F H) : Sub (upd F p o) (upd H p o) := fun a u e => by
  by_cases h : a = p
  · subst h
    rw [upd_same] at e ⊢
    exact e
  · rw [upd_ne h] at e ⊢
    exact s a u e
theorem Sub.to {F H : Hp} {p : Addr} {o : HO} (s : Sub F H) (h : H p = some o) : Sub (upd F p o) H := fun a u e => by
  by_cases q : a = p
  · subst q
    rw [upd_same] at e
    rw [h]
    exact e
  · rw [upd_ne q] at e
    exact s a u e
/-- what F does not hold may change -/
theorem Sub.off {F H : Hp} {p : Addr} {o : HO} (s : Sub F H) (h : F p = none) : Sub F (upd H p o) := fun a u e => by
  rw [upd_ne (ne_of_none e h)]
  exact s a u e
theorem Sub.none_of {F H : Hp} {a : Addr} (s : Sub F H) (h : H a = none) : F a = none := by
  cases q : F a with
  | none => rfl
  | some o =>
    rw [s a o q] at h
    cases h

mutual
theorem Rp.mono {F G : Hp} (s : Sub F G) : ∀ {d : PyData} {v : V}, Rp F v d → Rp G v d
  | .none, _, h => by
    cases h
    exact .non
  | .bool _, _, h => by
    cases h
    exact .bl _
  | .int _, _, h => by
    cases h
    exact .int _
  | .str _, _, h => by
    cases h
    exact .str _
  | .list _, _, h => by
    cases h with
    | lst e r => exact .lst (s _ _ e) (RpL.mono s r)
  | .tuple _, _, h => by
    cases h with
    | tup e r => exact .tup (s _ _ e) (RpL.mono s r)
  | .dict _, _, h => by
    cases h with
    | dK e r => exact .dK (s _ _ e) (RpK.mono s r)
    | dT e r => exact .dT (s _ _ e) (RpT.mono s r)
theorem RpL.mono {F G : Hp} (s : Sub F G) : ∀ {ds : List PyData} {vs : List V}, RpL F vs ds → RpL G vs ds
  | [], _, h => by
    cases h
    exact .nil
  | _ :: _, _, h => by
    cases h with
    | cons a b => exact .cons (Rp.mono s a) (RpL.mono s b)
theorem RpK.mono {F G : Hp} (s : Sub F G) : ∀ {ds : List (PyData × PyData)} {vs : List (Key × V)}, RpK F vs ds → RpK G vs ds
  | [], _, h => by
    cases h
    exact .nil
  | (_, _) :: _, _, h => by
    cases h with
    | cons a b => exact .cons (Rp.mono s a) (RpK.mono s b)
theorem RpT.mono {F G : Hp} (s : Sub F G) : ∀ {ds : List (PyData × PyData)} {vs : List (List Key × V)}, RpT F vs ds → RpT G vs ds
  | [], _, h => by
    cases h
    exact .nil
  | (_, _) :: _, _, h => by
    cases h with
    | cons a b => exact .cons (Rp.mono s a) (RpT.mono s b)
end

theorem RpL.length {F : Hp} : ∀ {vs : List V} {ds : List PyData}, RpL F vs ds → vs.length = ds.length
  | [], _, h => by
    cases h
    rfl
  | _ :: _, _, h => by
    cases h with
    | cons _ b => exact congrArg Nat.succ (RpL.length b)
theorem RpL.get {F : Hp} : ∀ {vs : List V} {ds : List PyData} {i : Nat} {d : PyData}, RpL F vs ds → ds[i]? = some d → ∃ v, vs[i]? = some v ∧ Rp F v d
  | _, _, 0, _, .cons a _, e => by
    cases e
    exact ⟨_, rfl, a⟩
  | _, _, i + 1, _, .cons _ b, e => by
    obtain ⟨v, h1, h2⟩ := RpL.get (i := i) b (by simpa using e)
    exact ⟨v, by simpa using h1, h2⟩
  | _, _, _, _, .nil, e => by simp at e
theorem RpL.of_get {F : Hp} : ∀ {vs : List V} {ds : List PyData} {i : Nat} {v : V}, RpL F vs ds → vs[i]? = some v → ∃ d, ds[i]? = some d ∧ Rp F v d
  | _, _, 0, _, .cons a _, e => by
    cases e
    exact ⟨_, rfl, a⟩
  | _, _, i + 1, _, .cons _ b, e => by
    obtain ⟨v, h1, h2⟩ := RpL.of_get (i := i) b (by simpa using e)
    exact ⟨v, by simpa using h1, h2⟩
  | _, _, _, _, .nil, e => by simp at e
theorem RpL.append {F : Hp} : ∀ {vs ws : List V} {ds es : List PyData}, RpL F vs ds → RpL F ws es → RpL F (vs ++ ws) (ds ++ es)
  | _, _, _, _, .nil, h => h
  | _, _, _, _, .cons a b, h => .cons a (RpL.append b h)
theorem RpL.take {F : Hp} : ∀ {vs : List V} {ds : List PyData} (n : Nat), RpL F vs ds → RpL F (vs.take n) (ds.take n)
  | _, _, 0, _ => .nil
  | _, _, _ + 1, .nil => .nil
  | _, _, n + 1, .cons a b => .cons a (RpL.take n b)
theorem RpL.drop {F : Hp} : ∀ {vs : List V} {ds : List PyData} (n : Nat), RpL F vs ds → RpL F (vs.drop n) (ds.drop n)
  | _, _, 0, h => h
  | _, _, _ + 1, .nil => .nil
  | _, _, n + 1, .cons _ b => RpL.drop n b
theorem RpL.set {F : Hp} {v : V} {d : PyData} (r : Rp F v d) : ∀ {vs : List V} {ds : List PyData} (i : Nat), RpL F vs ds → RpL F (vs.set i v) (ds.set i d)
  | _, _, _, .nil => .nil
  | _, _, 0, .cons _ b => .cons r b
  | _, _, i + 1, .cons a b => .cons a (RpL.set r i b)
theorem RpL.erase {F : Hp} : ∀ {vs : List V} {ds : List PyData} (i : Nat), RpL F vs ds → RpL F (vs.eraseIdx i) (ds.eraseIdx i)
  | _, _, _, .nil => .nil
  | _, _, 0, .cons _ b => b
  | _, _, i + 1, .cons a b => .cons a (RpL.erase i b)
theorem RpL.reverse {F : Hp} : ∀ {vs : List V} {ds : List PyData}, RpL F vs ds → RpL F vs.reverse ds.reverse
  | _, _, .nil => .nil
  | _, _, .cons a b => by
    rw [List.reverse_cons, List.reverse_cons]
    exact (RpL.reverse b).append (.cons a .nil)
theorem RpL.dropLast {F : Hp} {vs : List V} {ds : List PyData} (h : RpL F vs ds) : RpL F vs.dropLast ds.dropLast := by
  rw [List.dropLast_eq_take, List.dropLast_eq_take, h.length]
  exact h.take _
theorem RpL.rep {F : Hp} {vs : List V} {ds : List PyData} (h : RpL F vs ds) : ∀ k : Nat, RpL F (List.replicate k vs).flatten (List.replicate k ds).flatten
  | 0 => .nil
  | k + 1 => by
    rw [List.replicate_succ, List.replicate_succ, List.flatten_cons, List.flatten_cons]
    exact h.append (RpL.rep h k)
theorem RpL.snoc {F : Hp} {vs : List V} {ds : List PyData} {v : V} {d : PyData} (h : RpL F vs ds) (r : Rp F v d) : RpL F (vs ++ [v]) (ds ++ [d]) := h.append (.cons r .nil)

/-- an object as data -/
inductive OR (F : Hp) : HO → PyData → Prop
  | lst {xs : List V} {ds : List PyData} : RpL F xs ds → OR F (.lst xs) (.list ds)
  | dK {ps : List (Key × V)} {kvs : List (PyData × PyData)} : RpK F ps kvs → OR F (.dK ps) (.dict kvs)
  | dT {ps : List (List Key × V)} {kvs : List (PyData × PyData)} : RpT F ps kvs → OR F (.dT ps) (.dict kvs)
theorem OR.mono {F G : Hp} (s : Sub F G) {o : HO} {d : PyData} : OR F o d → OR G o d
  | .lst r => .lst (r.mono s)
  | .dK r => .dK (r.mono s)
  | .dT r => .dT (r.mono s)
/-- frozen -/
theorem OR.frz {F : Hp} {o : HO} {d : PyData} {a : Addr} (h : OR F o d) (n : F a = none) : Rp (upd F a o) (.ref a) d := by
  have s : Sub F (upd F a o) := Sub.new n
  cases h with
  | lst r => exact .lst upd_same (r.mono s)
  | dK r => exact .dK upd_same (r.mono s)
  | dT r => exact .dT upd_same (r.mono s)
theorem Rp.obj {F : Hp} {a : Addr} {d : PyData} (h : Rp F (.ref a) d) : (∃ ds, d = .tuple ds) ∨ ∃ o, F a = some o ∧ OR F o d := by
  cases h with
  | lst e r => exact .inr ⟨_, e, .lst r⟩
  | tup e r => exact .inl ⟨_, rfl⟩
  | dK e r => exact .inr ⟨_, e, .dK r⟩
  | dT e r => exact .inr ⟨_, e, .dT r⟩

/-! ### the law's source: a dict of four, its cells a list -/
structure Src where
  cells : List Int
  left : Int
  mixed : Int
  turn : Int
abbrev Sa := Addr × Addr
def SrcR (H : Hp) (sa : Sa) (s : Src) : Prop :=
  H sa.1 = some (.dK [(.inr (Str.ofString "cells"), .ref sa.2), (.inr (Str.ofString "left"), .int s.left), (.inr (Str.ofString "mixed"), .int s.mixed), (.inr (Str.ofString "turn"), .int s.turn)]) ∧
  H sa.2 = some (.lst (s.cells.map V.int))
theorem SrcR.ne {H : Hp} {sa : Sa} {s : Src} (h : SrcR H sa s) : sa.1 ≠ sa.2 := ne_of h.1 h.2 (fun e => nomatch e)

/-! ### states -/
/-- a name's place: nothing, a value (never changed any more), a list or dict that this name alone holds, the source, the source's cells, the script -/
inductive Slot where
  | no | v (d : PyData) | o (d : PyData) | src | cel | scr (ns : List Int)
structure S where
  ss : List Slot
  src : Option Src

structure SR (K : PySem.W.Frag) (sa : Sa) (B F H : Hp) (σ : L2.St) (st : S) : Prop where
  bh : Sub B H
  fh : Sub F H
  len : σ.length = st.ss.length
  sl : ∀ (i : Nat) (d : PyData), st.ss[i]? = some (.v d) → ∃ v, σ[i]? = some (some v) ∧ Rp F v d
  so : ∀ (i : Nat) (d : PyData), st.ss[i]? = some (.o d) → ∃ a o, σ[i]? = some (some (.ref a)) ∧ H a = some o ∧ OR F o d ∧ B a = none ∧ F a = none ∧ (st.src.isSome = true → a ≠ sa.1 ∧ a ≠ sa.2)
  ap : ∀ (i j : Nat) (d e : PyData) (a : Addr), i ≠ j → st.ss[i]? = some (.o d) → st.ss[j]? = some (.o e) → σ[i]? = some (some (.ref a)) → σ[j]? = some (some (.ref a)) → False
  sx : ∀ i : Nat, st.ss[i]? = some .src → st.src.isSome = true ∧ σ[i]? = some (some (.ref sa.1))
  sc : ∀ (i : Nat) (ns : List Int), st.ss[i]? = some (.scr ns) → ∃ a, σ[i]? = some (some (.ref a)) ∧ SqL K F a (ns.map V.int)
  sr : ∀ s : Src, st.src = some s → SrcR H sa s ∧ B sa.1 = none ∧ B sa.2 = none ∧ F sa.1 = none ∧ F sa.2 = none
  sy : ∀ i : Nat, st.ss[i]? = some .cel → st.src.isSome = true ∧ σ[i]? = some (some (.ref sa.2))

/-- F grows, but not within B -/
structure FX (B F F' : Hp) : Prop where
  le : Sub F F'
  out : ∀ a, F a = none → B a ≠ none → F' a = none
theorem FX.refl {B F : Hp} : FX B F F := ⟨Sub.refl F, fun _ h _ => h⟩
theorem FX.trans {B F G H : Hp} (a : FX B F G) (b : FX B G H) : FX B F H := ⟨a.le.trans b.le, fun x h n => b.out x (a.out x h n) n⟩
theorem FX.weak {B C F F' : Hp} (s : Sub B C) (h : FX C F F') : FX B F F' := ⟨h.le, fun a n m => h.out a n fun z => m (by
  cases q : B a with
  | none => rfl
  | some o =>
    rw [s a o q] at z
    cases z)⟩
theorem FX.new {B F H : Hp} {p : Addr} {o : HO} (bh : Sub B H) (h : H p = none) (fh : Sub F H) : FX B F (upd F p o) :=
  ⟨Sub.new (fh.none_of h), fun a n m => by
    by_cases e : a = p
    · subst e
      exact absurd (bh.none_of h) m
    · rw [upd_ne e]
      exact n⟩
theorem FX.own {B F : Hp} {p : Addr} {o : HO} (b : B p = none) (f : F p = none) : FX B F (upd F p o) :=
  ⟨Sub.new f, fun a n m => by
    by_cases e : a = p
    · subst e
      exact absurd b m
    · rw [upd_ne e]
      exact n⟩

inductive R (α : Type) where
  | ok (a : α) (s : S)
  | bad
/-- what the source's address may do between two states -/
def SaK (st : S) (sa sa' : Sa) : Prop := st.src.isSome = true → sa' = sa
/-- a result as a value: data, a new object of one's own, the source -/
def RRep (sa : Sa) (B F H : Hp) (σ : L2.St) (st : S) (v : V) : Slot → Prop
  | .v d => Rp F v d
  | .o d => ∃ a o, v = .ref a ∧ H a = some o ∧ OR F o d ∧ B a = none ∧ F a = none ∧ (st.src.isSome = true → a ≠ sa.1 ∧ a ≠ sa.2) ∧ ∀ (i : Nat) (e : PyData), st.ss[i]? = some (.o e) → σ[i]? ≠ some (some (.ref a))
  | .src => st.src.isSome = true ∧ v = .ref sa.1
  | .cel => st.src.isSome = true ∧ v = .ref sa.2
  | .no => False
  | .scr _ => False

/-- from a state to a later one -/
structure Rch (K : PySem.W.Frag) (B : Hp) (σ : L2.St) (sa : Sa) (F : Hp) (st : S) (sa' : Sa) (F' H' : Hp) (st' : S) : Prop where
  r : SR K sa' B F' H' σ st'
  x : FX B F F'
  k : SaK st sa sa'
  s : st.src.isSome = true → st'.src.isSome = true
theorem Rch.refl {K : PySem.W.Frag} {B : Hp} {σ : L2.St} {sa : Sa} {F H : Hp} {st : S} (h : SR K sa B F H σ st) : Rch K B σ sa F st sa F H st := ⟨h, FX.refl, fun _ => rfl, fun z => z⟩
theorem Rch.trans {K : PySem.W.Frag} {B : Hp} {σ σ' : L2.St} {sa sa1 sa2 : Sa} {F F1 F2 H1 H2 : Hp} {st st1 st2 : S} (a : Rch K B σ sa F st sa1 F1 H1 st1) (b : Rch K B σ' sa1 F1 st1 sa2 F2 H2 st2) : Rch K B σ' sa F st sa2 F2 H2 st2 :=
  ⟨b.r, a.x.trans b.x, fun z => (b.k (a.s z)).trans (a.k z), fun z => b.s (a.s z)⟩
/-- the reading of an expression -/
def tM (K : PySem.W.Frag) (m : S → R Slot) : TE := fun σ H Q => ∃ sa B F st r st', SR K sa B F H σ st ∧ m st = .ok r st' ∧
  ∀ sa' F' H' v, Rch K B σ sa F st sa' F' H' st' → RRep sa' B F' H' σ st' v r → Q v H'

/-- an operand: data anywhere, a new object, a name's own object -/
inductive Opd where
  | v (d : PyData) | t (d : PyData) | s (i : Nat) (d : PyData)
def Opd.d : Opd → PyData
  | .v d => d | .t d => d | .s _ d => d
def PRep (sa : Sa) (B F H : Hp) (σ : L2.St) (st : S) (v : V) : Opd → Prop
  | .v d => RRep sa B F H σ st v (.v d)
  | .t d => RRep sa B F H σ st v (.o d)
  | .s i d => st.ss[i]? = some (.o d) ∧ σ[i]? = some (some v)
def tP (K : PySem.W.Frag) (m : S → R Opd) : TE := fun σ H Q => ∃ sa B F st r st', SR K sa B F H σ st ∧ m st = .ok r st' ∧
  ∀ sa' F' H' v, Rch K B σ sa F st sa' F' H' st' → PRep sa' B F' H' σ st' v r → Q v H'

/-- what may be read at v -/
def RdD (F H : Hp) (v : V) (d : PyData) : Prop := Rp F v d ∨ ∃ a o, v = .ref a ∧ H a = some o ∧ OR F o d
theorem PRep.rd {K : PySem.W.Frag} {sa : Sa} {B F H : Hp} {σ : L2.St} {st : S} {v : V} {r : Opd} (h : SR K sa B F H σ st) (p : PRep sa B F H σ st v r) : RdD F H v r.d := by
  cases r with
  | v d => exact .inl p
  | t d =>
    obtain ⟨a, o, e, h1, h2, _⟩ := p
    exact .inr ⟨a, o, e, h1, h2⟩
  | s i d =>
    obtain ⟨a, o, e, h1, h2, _⟩ := h.so i d p.1
    have q := p.2
    rw [e] at q
    exact .inr ⟨a, o, (Option.some.inj (Option.some.inj q)).symm, h1, h2⟩
theorem RdD.mono {F F' H H' : Hp} {v : V} {d : PyData} (s : Sub F F') (k : Sub H H') (h : RdD F H v d) : RdD F' H' v d := by
  rcases h with h | ⟨a, o, e, h1, h2⟩
  · exact .inl (h.mono s)
  · exact .inr ⟨a, o, e, k _ _ h1, h2.mono s⟩
theorem RdD.tup {F H : Hp} {v : V} {ds : List PyData} (s : Sub F H) (h : RdD F H v (.tuple ds)) : ∃ a xs, v = .ref a ∧ F a = some (.tup xs) ∧ RpL F xs ds := by
  rcases h with h | ⟨a, o, e, h1, h2⟩
  · cases h with
    | tup e r => exact ⟨_, _, rfl, e, r⟩
  · cases h2
theorem RdD.lst {F H : Hp} {v : V} {ds : List PyData} (s : Sub F H) (h : RdD F H v (.list ds)) : ∃ a xs, v = .ref a ∧ H a = some (.lst xs) ∧ RpL F xs ds := by
  rcases h with h | ⟨a, o, e, h1, h2⟩
  · cases h with
    | lst e r => exact ⟨_, _, rfl, s _ _ e, r⟩
  · cases h2 with
    | lst r => exact ⟨_, _, e, h1, r⟩
theorem RdD.int {F H : Hp} {v : V} {i : Int} (h : RdD F H v (.int i)) : v = .int i := by
  rcases h with h | ⟨a, o, e, h1, h2⟩
  · cases h
    rfl
  · cases h2
theorem RdD.bl {F H : Hp} {v : V} {i : Bool} (h : RdD F H v (.bool i)) : v = .bl i := by
  rcases h with h | ⟨a, o, e, h1, h2⟩
  · cases h
    rfl
  · cases h2
theorem RdD.str {F H : Hp} {v : V} {i : Str} (h : RdD F H v (.str i)) : v = .str i := by
  rcases h with h | ⟨a, o, e, h1, h2⟩
  · cases h
    rfl
  · cases h2
theorem RdD.non {F H : Hp} {v : V} (h : RdD F H v .none) : v = .non := by
  rcases h with h | ⟨a, o, e, h1, h2⟩
  · cases h
    rfl
  · cases h2

/-! ### protecting, adding -/
/-- a tracked object that no place of the state holds is protected -/
theorem SR.prot {K : PySem.W.Frag} {sa : Sa} {B F H : Hp} {σ : L2.St} {st : S} {p : Addr} {o : HO} (h : SR K sa B F H σ st) (hp : H p = some o) (hb : B p = none)
    (hs : st.src.isSome = true → p ≠ sa.1 ∧ p ≠ sa.2) (hn : ∀ (i : Nat) (e : PyData), st.ss[i]? = some (.o e) → σ[i]? ≠ some (some (.ref p))) : SR K sa (upd B p o) F H σ st where
  bh := h.bh.to hp
  fh := h.fh
  len := h.len
  sl := h.sl
  so := fun i d e => by
    obtain ⟨a, u, e1, e2, e3, e4, e5, e6⟩ := h.so i d e
    have ne : a ≠ p := fun z => hn i d e (by rw [← z]; exact e1)
    exact ⟨a, u, e1, e2, e3, by rw [upd_ne ne]; exact e4, e5, e6⟩
  ap := h.ap
  sx := h.sx
  sy := h.sy
  sc := h.sc
  sr := fun s e => by
    obtain ⟨e1, e2, e3, e4, e5⟩ := h.sr s e
    obtain ⟨n1, n2⟩ := hs (by rw [e]; rfl)
    exact ⟨e1, by rw [upd_ne (Ne.symm n1)]; exact e2, by rw [upd_ne (Ne.symm n2)]; exact e3, e4, e5⟩
/-- fewer protected -/
theorem SR.less {K : PySem.W.Frag} {sa : Sa} {B C F H : Hp} {σ : L2.St} {st : S} (s : Sub B C) (h : SR K sa C F H σ st) : SR K sa B F H σ st where
  bh := s.trans h.bh
  fh := h.fh
  len := h.len
  sl := h.sl
  so := fun i d e => by
    obtain ⟨a, u, e1, e2, e3, e4, e5, e6⟩ := h.so i d e
    exact ⟨a, u, e1, e2, e3, s.none_of e4, e5, e6⟩
  ap := h.ap
  sx := h.sx
  sy := h.sy
  sc := h.sc
  sr := fun x e => by
    obtain ⟨e1, e2, e3, e4, e5⟩ := h.sr x e
    exact ⟨e1, s.none_of e2, s.none_of e3, e4, e5⟩
theorem sqL_mono {K : PySem.W.Frag} {F G : Hp} {a : Addr} {xs : List V} (s : Sub F G) (h : SqL K F a xs) : SqL K G a xs := by
  rcases h with (z | ⟨u, z⟩) | z
  · exact .inl (.inl (s _ _ z))
  · exact .inl (.inr ⟨u, s _ _ z⟩)
  · exact .inr z
theorem SrcR.off {H : Hp} {sa : Sa} {s : Src} {p : Addr} {o : HO} (h : SrcR H sa s) (h1 : sa.1 ≠ p) (h2 : sa.2 ≠ p) : SrcR (upd H p o) sa s :=
  ⟨by rw [upd_ne h1]; exact h.1, by rw [upd_ne h2]; exact h.2⟩
theorem SrcR.at1 {H : Hp} {sa : Sa} {s : Src} (h : SrcR H sa s) : H sa.1 ≠ none := fun z => by
  rw [h.1] at z
  cases z
theorem SrcR.at2 {H : Hp} {sa : Sa} {s : Src} (h : SrcR H sa s) : H sa.2 ≠ none := fun z => by
  rw [h.2] at z
  cases z
/-- a new object -/
theorem SR.alloc {K : PySem.W.Frag} {sa : Sa} {B F H : Hp} {σ : L2.St} {st : S} {p : Addr} {o : HO} (h : SR K sa B F H σ st) (hp : H p = none) : SR K sa B F (upd H p o) σ st where
  bh := h.bh.trans (Sub.new hp)
  fh := h.fh.trans (Sub.new hp)
  len := h.len
  sl := h.sl
  so := fun i d e => by
    obtain ⟨a, u, e1, e2, e3, e4, e5, e6⟩ := h.so i d e
    exact ⟨a, u, e1, by rw [upd_ne (ne_of_none e2 hp)]; exact e2, e3, e4, e5, e6⟩
  ap := h.ap
  sx := h.sx
  sy := h.sy
  sc := h.sc
  sr := fun x e => by
    obtain ⟨e1, e2, e3, e4, e5⟩ := h.sr x e
    exact ⟨e1.off (fun z => e1.at1 (by rw [z]; exact hp)) (fun z => e1.at2 (by rw [z]; exact hp)), e2, e3, e4, e5⟩
/-- an object that nobody else holds is frozen -/
theorem SR.freeze {K : PySem.W.Frag} {sa : Sa} {B F H : Hp} {σ : L2.St} {st : S} {p : Addr} {o : HO} (h : SR K sa B F H σ st) (hp : H p = some o) (hf : F p = none)
    (hs : st.src.isSome = true → p ≠ sa.1 ∧ p ≠ sa.2) (hn : ∀ (i : Nat) (e : PyData), st.ss[i]? = some (.o e) → σ[i]? ≠ some (some (.ref p))) : SR K sa B (upd F p o) H σ st where
  bh := h.bh
  fh := h.fh.to hp
  len := h.len
  sl := fun i d e => by
    obtain ⟨v, e1, e2⟩ := h.sl i d e
    exact ⟨v, e1, e2.mono (Sub.new hf)⟩
  so := fun i d e => by
    obtain ⟨a, u, e1, e2, e3, e4, e5, e6⟩ := h.so i d e
    have ne : a ≠ p := fun z => hn i d e (by rw [← z]; exact e1)
    exact ⟨a, u, e1, e2, e3.mono (Sub.new hf), e4, by rw [upd_ne ne]; exact e5, e6⟩
  ap := h.ap
  sx := h.sx
  sy := h.sy
  sc := fun i ns e => by
    obtain ⟨a, e1, e2⟩ := h.sc i ns e
    exact ⟨a, e1, sqL_mono (Sub.new hf) e2⟩
  sr := fun x e => by
    obtain ⟨e1, e2, e3, e4, e5⟩ := h.sr x e
    obtain ⟨n1, n2⟩ := hs (by rw [e]; rfl)
    exact ⟨e1, e2, e3, by rw [upd_ne (Ne.symm n1)]; exact e4, by rw [upd_ne (Ne.symm n2)]; exact e5⟩
theorem SR.news {K : PySem.W.Frag} {sa : Sa} {B F H : Hp} {σ : L2.St} {st : S} (h : SR K sa B F H σ st) {p : Addr} (hp : H p = none) :
    (st.src.isSome = true → p ≠ sa.1 ∧ p ≠ sa.2) ∧ ∀ (i : Nat) (e : PyData), st.ss[i]? = some (.o e) → σ[i]? ≠ some (some (.ref p)) := by
  refine ⟨fun z => ?_, fun i e q z => ?_⟩
  · obtain ⟨s, hs⟩ := Option.isSome_iff_exists.mp z
    obtain ⟨e1, _⟩ := h.sr s hs
    exact ⟨fun q => e1.at1 (by rw [← q]; exact hp), fun q => e1.at2 (by rw [← q]; exact hp)⟩
  · obtain ⟨a, u, e1, e2, _⟩ := h.so i e q
    rw [z] at e1
    cases e1
    rw [hp] at e2
    cases e2
end Pd
end
section
set_option linter.all false
set_option maxRecDepth 100000
/-! Pd, part B: names, constants, operations on data. -/
namespace Pd
open PySem PySem.Spec PyProof.Rows L2

section
variable {X : Cx} {e : Expr} {es : List Expr} {st : Stmt} {sts : List Stmt}
theorem imE {t t' : TE} (h : PE X e t) (i : ∀ σ H Q, t' σ H Q → t σ H Q) : PE X e t' := ⟨fun pins s σ H Q I q => h.run pins s σ H Q I (i σ H Q q)⟩
theorem imT {t t' : TT} (h : PT X e t) (i : ∀ σ H Q, t' σ H Q → t σ H Q) : PT X e t' := ⟨fun pins s σ H Q I q => h.run pins s σ H Q I (i σ H Q q)⟩
theorem imA {t t' : TA} (h : PA X es t) (i : ∀ σ H Q, t' σ H Q → t σ H Q) : PA X es t' := ⟨fun pos pins s σ H Q I q => h.run pos pins s σ H Q I (i σ H Q q)⟩
theorem imS {t t' : TS} (h : PS X st t) (i : ∀ D σ H, t' D σ H → t D σ H) : PS X st t' := ⟨fun pins s σ H D I q => h.run pins s σ H D I (i D σ H q)⟩
theorem imB {t t' : TS} (h : PSs X sts t) (i : ∀ D σ H, t' D σ H → t D σ H) : PSs X sts t' := ⟨fun pins s σ H D I q => h.run pins s σ H D I (i D σ H q)⟩
end

/-! ### what an operation leaves -/
inductive Out (F H : Hp) : Slot → V → Hp → Hp → Prop
  | v {d : PyData} {v : V} : Rp F v d → Out F H (.v d) v F H
  | t {ds : List PyData} {xs : List V} {p : Addr} : RpL F xs ds → H p = none → Out F H (.v (.tuple ds)) (.ref p) (upd F p (.tup xs)) (upd H p (.tup xs))
  | o {d : PyData} {o : HO} {p : Addr} : OR F o d → H p = none → Out F H (.o d) (.ref p) F (upd H p o)
section
variable {K : PySem.W.Frag} {B : Hp} {σ : L2.St} {sa sa1 : Sa} {F F1 F' H H1 H' : Hp} {st st1 : S} {r : Slot} {v : V}
theorem Rch.out (h : Rch K B σ sa F st sa1 F1 H1 st1) (o : Out F1 H1 r v F' H') : Rch K B σ sa F st sa1 F' H' st1 ∧ RRep sa1 B F' H' σ st1 v r := by
  cases o with
  | v q => exact ⟨h, q⟩
  | @t ds xs p q hp =>
    obtain ⟨n1, n2⟩ := h.r.news hp
    have hf := h.r.fh.none_of hp
    exact ⟨⟨(h.r.alloc hp).freeze upd_same hf n1 n2, h.x.trans (FX.new h.r.bh hp h.r.fh), h.k, h.s⟩, .tup upd_same (q.mono (Sub.new hf))⟩
  | @o d o p q hp =>
    obtain ⟨n1, n2⟩ := h.r.news hp
    exact ⟨⟨h.r.alloc hp, h.x, h.k, h.s⟩, p, o, rfl, upd_same, q, h.r.bh.none_of hp, h.r.fh.none_of hp, n1, n2⟩
/-- the place i is frozen -/
theorem SR.frzAt {i : Nat} {d : PyData} (h : SR K sa B F H σ st) (e : st.ss[i]? = some (.o d)) : ∃ a o, σ[i]? = some (some (.ref a)) ∧ Rp (upd F a o) (.ref a) d ∧ FX B F (upd F a o) ∧ SR K sa B (upd F a o) H σ { st with ss := st.ss.set i (.v d) } := by
  obtain ⟨a, o, e1, e2, e3, e4, e5, e6⟩ := h.so i d e
  have hi : i < st.ss.length := (List.getElem?_eq_some_iff.mp e).1
  have hne : ∀ (j : Nat) (x : Slot), (st.ss.set i (.v d))[j]? = some x → (j = i ∧ x = .v d) ∨ (j ≠ i ∧ st.ss[j]? = some x) := fun j x q => by
    by_cases hj : i = j
    · subst hj
      rw [List.getElem?_set_self hi] at q
      exact .inl ⟨rfl, (Option.some.inj q).symm⟩
    · rw [List.getElem?_set_ne hj] at q
      exact .inr ⟨Ne.symm hj, q⟩
  have no : ∀ (j : Nat) (x : PyData), (st.ss.set i (.v d))[j]? = some (.o x) → j ≠ i ∧ st.ss[j]? = some (.o x) := fun j x q => by
    rcases hne j _ q with ⟨_, z⟩ | z
    · cases z
    · exact z
  refine ⟨a, o, e1, e3.frz e5, FX.own e4 e5, ?_⟩
  have h' : SR K sa B F H σ { st with ss := st.ss.set i .no } := by
    have hn' : ∀ (j : Nat) (x : Slot), x ≠ .no → (st.ss.set i .no)[j]? = some x → st.ss[j]? = some x := fun j x hx q => by
      by_cases hj : i = j
      · subst hj
        rw [List.getElem?_set_self hi] at q
        exact absurd (Option.some.inj q).symm hx
      · rwa [List.getElem?_set_ne hj] at q
    exact ⟨h.bh, h.fh, by rw [h.len]; simp, fun j x q => h.sl j x (hn' j _ (fun z => nomatch z) q), fun j x q => h.so j x (hn' j _ (fun z => nomatch z) q),
      fun j k x y b n q1 q2 => h.ap j k x y b n (hn' j _ (fun z => nomatch z) q1) (hn' k _ (fun z => nomatch z) q2), fun j q => h.sx j (hn' j _ (fun z => nomatch z) q), fun j ns q => h.sc j ns (hn' j _ (fun z => nomatch z) q), h.sr, fun j q => h.sy j (hn' j _ (fun z => nomatch z) q)⟩
  have h2 := h'.freeze (p := a) e2 e5 e6 fun j x q z => by
    by_cases hj : i = j
    · subst hj
      have q' : (st.ss.set i .no)[i]? = some (.o x) := q
      rw [List.getElem?_set_self hi] at q'
      cases q'
    · have q' : (st.ss.set i .no)[j]? = some (.o x) := q
      rw [List.getElem?_set_ne hj] at q'
      exact h.ap i j d x a hj e q' e1 z
  have keep : ∀ (j : Nat) (x : Slot), j ≠ i → st.ss[j]? = some x → (st.ss.set i .no)[j]? = some x := fun j x n q => by
    rw [List.getElem?_set_ne (Ne.symm n)]
    exact q
  refine ⟨h2.bh, h2.fh, by rw [h.len]; simp, fun j x q => ?_, fun j x q => ?_, fun j k x y b n q1 q2 => ?_, fun j q => ?_, fun j ns q => ?_, h2.sr, fun j q => ?_⟩
  · rcases hne j _ q with ⟨e7, z⟩ | ⟨n, z⟩
    · cases z
      subst e7
      exact ⟨.ref a, e1, e3.frz e5⟩
    · exact h2.sl j x (keep j _ n z)
  · obtain ⟨n, z⟩ := no j x q
    exact h2.so j x (keep j _ n z)
  · obtain ⟨n1, z1⟩ := no j x q1
    obtain ⟨n2, z2⟩ := no k y q2
    exact h2.ap j k x y b n (keep j _ n1 z1) (keep k _ n2 z2)
  · rcases hne j _ q with ⟨_, z⟩ | ⟨n, z⟩
    · cases z
    · exact h2.sx j (keep j _ n z)
  · rcases hne j _ q with ⟨_, z⟩ | ⟨n, z⟩
    · cases z
    · exact h2.sc j ns (keep j _ n z)
  · rcases hne j _ q with ⟨_, z⟩ | ⟨n, z⟩
    · cases z
    · exact h2.sy j (keep j _ n z)
end

/-! ### names, constants -/
def mC (d : PyData) : S → R Slot := fun st => .ok (.v d) st
def mVar (i : Nat) : S → R Slot := fun st => match st.ss[i]? with
  | some (.v d) => .ok (.v d) st
  | some (.o d) => .ok (.v d) { st with ss := st.ss.set i (.v d) }
  | some .src => .ok .src st
  | some .cel => .ok .cel st
  | _ => .bad
def mPk (i : Nat) : S → R Opd := fun st => match st.ss[i]? with
  | some (.v d) => .ok (.v d) st
  | some (.o d) => .ok (.s i d) st
  | _ => .bad
def mO (m : S → R Slot) : S → R Opd := fun st => match m st with
  | .ok (.v d) st' => .ok (.v d) st'
  | .ok (.o d) st' => .ok (.t d) st'
  | _ => .bad
section
variable {K : PySem.W.Frag} {X : Cx} {e : Expr} {m : S → R Slot}
theorem d_c {v : V} {d : PyData} (h : PE X e (tC v)) (r : ∀ F, Rp F v d) : PE X e (tM K (mC d)) := imE h fun σ H Q ⟨sa, B, F, st, r', st', h0, h1, k⟩ => by
  cases h1
  exact k sa F H v (.refl h0) (r F)
theorem d_int {i : Int} {j pos} : PE X (.Constant (.int i) j pos) (tM K (mC (.int i))) := d_c pe_int fun _ => .int i
theorem d_str {i : Str} {j pos} : PE X (.Constant (.str i) j pos) (tM K (mC (.str i))) := d_c pe_str fun _ => .str i
theorem d_bl {i : Bool} {j pos} : PE X (.Constant (.bool i) j pos) (tM K (mC (.bool i))) := d_c pe_bl fun _ => .bl i
theorem d_non {j pos} : PE X (.Constant .none j pos) (tM K (mC .none)) := d_c pe_non fun _ => .non
theorem d_var {i : Nat} (h : PE X e (tVar i)) : PE X e (tM K (mVar i)) := imE h fun σ H Q ⟨sa, B, F, st, r', st', h0, h1, k⟩ => by
  unfold mVar at h1
  cases q : st.ss[i]? with
  | none =>
    rw [q] at h1
    cases h1
  | some x =>
    rw [q] at h1
    cases x with
    | v d =>
      cases h1
      obtain ⟨v, e1, e2⟩ := h0.sl i d q
      exact ⟨v, e1, k sa F H v (.refl h0) e2⟩
    | o d =>
      cases h1
      obtain ⟨a, o, e1, e2, e3, e4⟩ := h0.frzAt q
      exact ⟨.ref a, e1, k sa _ H _ ⟨e4, e3, fun _ => rfl, fun z => z⟩ e2⟩
    | src =>
      cases h1
      obtain ⟨e1, e2⟩ := h0.sx i q
      exact ⟨_, e2, k sa F H _ (.refl h0) ⟨e1, rfl⟩⟩
    | cel =>
      cases h1
      obtain ⟨e1, e2⟩ := h0.sy i q
      exact ⟨_, e2, k sa F H _ (.refl h0) ⟨e1, rfl⟩⟩
    | no => cases h1
    | scr _ => cases h1
theorem p_var {i : Nat} (h : PE X e (tVar i)) : PE X e (tP K (mPk i)) := imE h fun σ H Q ⟨sa, B, F, st, r', st', h0, h1, k⟩ => by
  unfold mPk at h1
  cases q : st.ss[i]? with
  | none =>
    rw [q] at h1
    cases h1
  | some x =>
    rw [q] at h1
    cases x with
    | v d =>
      cases h1
      obtain ⟨v, e1, e2⟩ := h0.sl i d q
      exact ⟨v, e1, k sa F H v (.refl h0) e2⟩
    | o d =>
      cases h1
      obtain ⟨a, o, e1, _⟩ := h0.so i d q
      exact ⟨.ref a, e1, k sa F H _ (.refl h0) ⟨q, e1⟩⟩
    | src => cases h1
    | cel => cases h1
    | no => cases h1
    | scr _ => cases h1
theorem p_of (h : PE X e (tM K m)) : PE X e (tP K (mO m)) := imE h fun σ H Q ⟨sa, B, F, st, r', st', h0, h1, k⟩ => by
  unfold mO at h1
  cases q : m st with
  | bad =>
    rw [q] at h1
    cases h1
  | ok r st1 =>
    rw [q] at h1
    cases r with
    | v d =>
      cases h1
      exact ⟨sa, B, F, st, _, _, h0, q, fun sa' F' H' v a b => k sa' F' H' v a b⟩
    | o d =>
      cases h1
      exact ⟨sa, B, F, st, _, _, h0, q, fun sa' F' H' v a b => k sa' F' H' v a b⟩
    | no => cases h1
    | src => cases h1
    | cel => cases h1
    | scr _ => cases h1
end

/-! ### one operand, two operands -/
def m1 (g : PyData → Option Slot) (m : S → R Opd) : S → R Slot := fun st => match m st with
  | .ok x st1 => match g x.d with
    | some r => .ok r st1
    | none => .bad
  | .bad => .bad
/-- a name's own object is as it was read -/
def still : Opd → S → Prop
  | .s i d, st => st.ss[i]? = some (.o d) ∨ st.ss[i]? = some (.v d)
  | _, _ => True
open Classical in
noncomputable def m2 (g : PyData → PyData → Option Slot) (m m' : S → R Opd) : S → R Slot := fun st => match m st with
  | .ok x st1 => match m' st1 with
    | .ok y st2 => if still x st2 then (match g x.d y.d with
      | some r => .ok r st2
      | none => .bad) else .bad
    | .bad => .bad
  | .bad => .bad
/-- what an operation is worth: g at the data -/
def Ad1 (g : PyData → Option Slot) (r : V → Hp → VK → Prop) : Prop := ∀ (F H : Hp) (x : V) (dx : PyData) (s : Slot) (Q : VK), Sub F H → RdD F H x dx → g dx = some s → (∀ v F' H', Out F H s v F' H' → Q v H') → r x H Q
def Ad2 (g : PyData → PyData → Option Slot) (r : R2) : Prop := ∀ (F H : Hp) (x y : V) (dx dy : PyData) (s : Slot) (Q : VK), Sub F H → RdD F H x dx → RdD F H y dy → g dx dy = some s → (∀ v F' H', Out F H s v F' H' → Q v H') → r x y H Q
section
variable {K : PySem.W.Frag} {B : Hp} {σ : L2.St} {sa : Sa} {F H : Hp} {st : S}
theorem Ad1.or {g : PyData → Option Slot} {r r' : V → Hp → VK → Prop} {p : PyData → Bool} (a : Ad1 (fun d => if p d then g d else none) r) (b : Ad1 (fun d => if p d then none else g d) r') : Ad1 g fun x H Q => r x H Q ∨ r' x H Q :=
  fun F H x dx s Q sb rx e k => by
    cases h : p dx with
    | true => exact .inl (a F H x dx s Q sb rx (by simp only [h, if_true]; exact e) k)
    | false => exact .inr (b F H x dx s Q sb rx (by simp only [h]; exact e) k)
/-- two operands in a row -/
theorem tP_two (h0 : SR K sa B F H σ st) {m m' : S → R Opd} {x y : Opd} {st1 st2 : S} (e1 : m st = .ok x st1) (e2 : m' st1 = .ok y st2) (hs : still x st2) {RR : V → V → Hp → Prop}
    (k : ∀ sa2 F2 H2 v w, Rch K B σ sa F st sa2 F2 H2 st2 → RdD F2 H2 v x.d → RdD F2 H2 w y.d → RR v w H2) : tP K m σ H fun v H1 => tP K m' σ H1 fun w H2 => RR v w H2 := by
  refine ⟨sa, B, F, st, x, st1, h0, e1, fun sa1 F1 H1 v R1 p1 => ?_⟩
  cases x with
  | v d => exact ⟨sa1, B, F1, st1, y, st2, R1.r, e2, fun sa2 F2 H2 w R2 p2 => k sa2 F2 H2 v w (R1.trans R2) (.inl (Rp.mono R2.x.le p1)) (p2.rd R2.r)⟩
  | t d =>
    obtain ⟨a, o, rfl, h1, h2, h3, h4, h5, h6⟩ := p1
    have sb : Sub B (upd B a o) := Sub.new h3
    refine ⟨sa1, upd B a o, F1, st1, y, st2, R1.r.prot h1 h3 h5 h6, e2, fun sa2 F2 H2 w R2 p2 => ?_⟩
    exact k sa2 F2 H2 (.ref a) w (R1.trans ⟨R2.r.less sb, R2.x.weak sb, R2.k, R2.s⟩) (.inr ⟨a, o, rfl, R2.r.bh _ _ upd_same, h2.mono R2.x.le⟩) (p2.rd R2.r)
  | s i d =>
    refine ⟨sa1, B, F1, st1, y, st2, R1.r, e2, fun sa2 F2 H2 w R2 p2 => ?_⟩
    have q := p1.2
    rcases hs with hs | hs
    · obtain ⟨a, o, q1, q2, q3, _⟩ := R2.r.so i d hs
      rw [q1] at q
      have q' : V.ref a = v := Option.some.inj (Option.some.inj q)
      exact k sa2 F2 H2 v w (R1.trans R2) (.inr ⟨a, o, q'.symm, q2, q3⟩) (p2.rd R2.r)
    · obtain ⟨u, q1, q2⟩ := R2.r.sl i d hs
      rw [q1] at q
      have q' : u = v := Option.some.inj (Option.some.inj q)
      rw [q'] at q2
      exact k sa2 F2 H2 v w (R1.trans R2) (.inl q2) (p2.rd R2.r)
end
section
variable {K : PySem.W.Frag} {X : Cx} {e : Expr} {m m' : S → R Opd}
theorem r_1 {g : PyData → Option Slot} {r : V → Hp → VK → Prop} (ad : Ad1 g r) : ∀ σ H Q, tM K (m1 g m) σ H Q → tP K m σ H fun x H1 => r x H1 Q := fun σ H Q ⟨sa, B, F, st, r', st', h0, h1, k⟩ => by
  unfold m1 at h1
  cases q : m st with
  | bad =>
    rw [q] at h1
    cases h1
  | ok x st1 =>
    rw [q] at h1
    cases q2 : g x.d with
    | none =>
      simp only [q2] at h1
      cases h1
    | some s =>
      simp only [q2] at h1
      cases h1
      refine ⟨sa, B, F, st, x, _, h0, q, fun sa1 F1 H1 v R1 p1 => ad F1 H1 v x.d _ Q R1.r.fh (p1.rd R1.r) q2 fun w F' H' o => ?_⟩
      obtain ⟨a, b⟩ := R1.out o
      exact k sa1 F' H' w a b
theorem r_2 {g : PyData → PyData → Option Slot} {r : R2} (ad : Ad2 g r) : ∀ σ H Q, tM K (m2 g m m') σ H Q → tOp r (tP K m) (tP K m') σ H Q := fun σ H Q ⟨sa, B, F, st, r', st', h0, h1, k⟩ => by
  unfold m2 at h1
  cases q : m st with
  | bad =>
    rw [q] at h1
    cases h1
  | ok x st1 =>
    rw [q] at h1
    cases q2 : m' st1 with
    | bad =>
      simp only [q2] at h1
      cases h1
    | ok y st2 =>
      simp only [q2] at h1
      by_cases hs : still x st2
      · rw [if_pos hs] at h1
        cases q3 : g x.d y.d with
        | none =>
          simp only [q3] at h1
          cases h1
        | some s =>
          simp only [q3] at h1
          cases h1
          refine tP_two h0 q q2 hs fun sa2 F2 H2 v w R p1 p2 => ad F2 H2 v w _ _ _ Q R.r.fh p1 p2 q3 fun u F' H' o => ?_
          obtain ⟨a, b⟩ := R.out o
          exact k sa2 F' H' u a b
      · rw [if_neg hs] at h1
        cases h1
end
end Pd
end
section
set_option linter.all false
set_option maxRecDepth 100000
/-! Pd, part C: tests, and | or | not, conditional expressions; operators on data. -/
namespace Pd
open PySem PySem.Spec PyProof.Rows L2

/-! ### tests -/
def tMT (K : PySem.W.Frag) (m : S → R Bool) : TT := fun σ H Q => ∃ sa B F st b st', SR K sa B F H σ st ∧ m st = .ok b st' ∧ ∀ sa' F' H', Rch K B σ sa F st sa' F' H' st' → Q b H'
def mB (m : S → R Slot) : S → R Bool := fun st => match m st with
  | .ok (.v (.bool b)) st' => .ok b st'
  | _ => .bad
def mAnd (m m' : S → R Bool) : S → R Bool := fun st => match m st with
  | .ok true st1 => m' st1
  | .ok false st1 => .ok false st1
  | .bad => .bad
def mOr (m m' : S → R Bool) : S → R Bool := fun st => match m st with
  | .ok true st1 => .ok true st1
  | .ok false st1 => m' st1
  | .bad => .bad
def mNot (m : S → R Bool) : S → R Bool := fun st => match m st with
  | .ok b st1 => .ok (!b) st1
  | .bad => .bad
def mIf (c : S → R Bool) (m m' : S → R Slot) : S → R Slot := fun st => match c st with
  | .ok true st1 => m st1
  | .ok false st1 => m' st1
  | .bad => .bad
/-- and, or as values, the first ones bools -/
def mAndV (m m' : S → R Slot) : S → R Slot := fun st => match m st with
  | .ok (.v (.bool true)) st1 => m' st1
  | .ok (.v (.bool false)) st1 => .ok (.v (.bool false)) st1
  | _ => .bad
def mOrV (m m' : S → R Slot) : S → R Slot := fun st => match m st with
  | .ok (.v (.bool false)) st1 => m' st1
  | .ok (.v (.bool true)) st1 => .ok (.v (.bool true)) st1
  | _ => .bad
def mNotV (m : S → R Slot) : S → R Slot := fun st => match m st with
  | .ok (.v (.bool b)) st1 => .ok (.v (.bool (!b))) st1
  | _ => .bad
section
variable {K : PySem.W.Frag} {X : Cx} {e a b : Expr} {es : List Expr} {m m' : S → R Slot} {c c' : S → R Bool} {pos : Pos}
theorem r_B {t : TE} (h : ∀ σ H Q, tM K m σ H Q → t σ H Q) : ∀ σ H Q, tMT K (mB m) σ H Q → t σ H fun x H1 => ∃ k, x = .bl k ∧ Q k H1 := fun σ H Q ⟨sa, B, F, st, b', st', h0, h1, k⟩ => by
  unfold mB at h1
  cases q : m st with
  | bad =>
    rw [q] at h1
    cases h1
  | ok r st1 =>
    rw [q] at h1
    cases r with
    | v d =>
      cases d with
      | bool b =>
        cases h1
        exact h σ H _ ⟨sa, B, F, st, _, _, h0, q, fun sa' F' H' v R r => by
          cases (show Rp F' v (.bool b') from r)
          exact ⟨_, rfl, k sa' F' H' R⟩⟩
      | _ => cases h1
    | _ => cases h1
theorem t_val (h : PE X e (tM K m)) (he : ∀ whole, isTrue e X.env whole = (do let v ← whole; standAt e.pos; holding [v] (truthy v)) := by intro _; rfl) : PT X e (tMT K (mB m)) :=
  imT (pt_val h he) (r_B fun _ _ _ q => q)
theorem r_and : ∀ σ H Q, tMT K (mAnd c c') σ H Q → tAnd (tMT K c) (tMT K c') σ H Q := fun σ H Q ⟨sa, B, F, st, b', st', h0, h1, k⟩ => by
  unfold mAnd at h1
  cases q : c st with
  | bad =>
    rw [q] at h1
    cases h1
  | ok b1 st1 =>
    rw [q] at h1
    cases b1 with
    | true => exact ⟨sa, B, F, st, _, _, h0, q, fun sa1 F1 H1 R1 => by
        try dsimp only
        rw [if_pos rfl]
        exact ⟨sa1, B, F1, st1, _, _, R1.r, h1, fun sa' F' H' R2 => k sa' F' H' (R1.trans R2)⟩⟩
    | false =>
      cases h1
      exact ⟨sa, B, F, st, _, _, h0, q, fun sa1 F1 H1 R1 => by
        try dsimp only
        rw [if_neg Bool.false_ne_true]
        exact k sa1 F1 H1 R1⟩
theorem r_or : ∀ σ H Q, tMT K (mOr c c') σ H Q → tOr (tMT K c) (tMT K c') σ H Q := fun σ H Q ⟨sa, B, F, st, b', st', h0, h1, k⟩ => by
  unfold mOr at h1
  cases q : c st with
  | bad =>
    rw [q] at h1
    cases h1
  | ok b1 st1 =>
    rw [q] at h1
    cases b1 with
    | false => exact ⟨sa, B, F, st, _, _, h0, q, fun sa1 F1 H1 R1 => by
        try dsimp only
        rw [if_neg Bool.false_ne_true]
        exact ⟨sa1, B, F1, st1, _, _, R1.r, h1, fun sa' F' H' R2 => k sa' F' H' (R1.trans R2)⟩⟩
    | true =>
      cases h1
      exact ⟨sa, B, F, st, _, _, h0, q, fun sa1 F1 H1 R1 => by
        try dsimp only
        rw [if_pos rfl]
        exact k sa1 F1 H1 R1⟩
theorem r_not : ∀ σ H Q, tMT K (mNot c) σ H Q → tNot (tMT K c) σ H Q := fun σ H Q ⟨sa, B, F, st, b', st', h0, h1, k⟩ => by
  unfold mNot at h1
  cases q : c st with
  | bad =>
    rw [q] at h1
    cases h1
  | ok b1 st1 =>
    rw [q] at h1
    cases h1
    exact ⟨sa, B, F, st, _, _, h0, q, k⟩
theorem r_if : ∀ σ H Q, tM K (mIf c m m') σ H Q → tIf (tMT K c) (tM K m) (tM K m') σ H Q := fun σ H Q ⟨sa, B, F, st, b', st', h0, h1, k⟩ => by
  unfold mIf at h1
  cases q : c st with
  | bad =>
    rw [q] at h1
    cases h1
  | ok b1 st1 =>
    rw [q] at h1
    refine ⟨sa, B, F, st, _, _, h0, q, fun sa1 F1 H1 R1 => ?_⟩
    cases b1 with
    | true =>
      try dsimp only
      rw [if_pos rfl]
      exact ⟨sa1, B, F1, st1, _, _, R1.r, h1, fun sa' F' H' v R2 => k sa' F' H' v (R1.trans R2)⟩
    | false =>
      try dsimp only
      rw [if_neg Bool.false_ne_true]
      exact ⟨sa1, B, F1, st1, _, _, R1.r, h1, fun sa' F' H' v R2 => k sa' F' H' v (R1.trans R2)⟩
theorem r_andV : ∀ σ H Q, tM K (mAndV m m') σ H Q → tAndV (tM K m) (tM K m') σ H Q := fun σ H Q ⟨sa, B, F, st, r', st', h0, h1, k⟩ => by
  unfold mAndV at h1
  cases q : m st with
  | bad =>
    rw [q] at h1
    cases h1
  | ok r st1 =>
    rw [q] at h1
    cases r with
    | v d =>
      cases d with
      | bool b =>
        refine ⟨sa, B, F, st, _, _, h0, q, fun sa1 F1 H1 v R1 p1 => ?_⟩
        cases (show Rp F1 v (.bool b) from p1)
        refine ⟨b, rfl, ?_⟩
        cases b with
        | true =>
          try dsimp only
          rw [if_pos rfl]
          exact ⟨sa1, B, F1, st1, _, _, R1.r, h1, fun sa' F' H' v R2 => k sa' F' H' v (R1.trans R2)⟩
        | false =>
          try dsimp only
          rw [if_neg Bool.false_ne_true]
          cases h1
          exact k sa1 F1 H1 _ R1 (Rp.bl false)
      | _ => cases h1
    | _ => cases h1
theorem r_orV : ∀ σ H Q, tM K (mOrV m m') σ H Q → tOrV (tM K m) (tM K m') σ H Q := fun σ H Q ⟨sa, B, F, st, r', st', h0, h1, k⟩ => by
  unfold mOrV at h1
  cases q : m st with
  | bad =>
    rw [q] at h1
    cases h1
  | ok r st1 =>
    rw [q] at h1
    cases r with
    | v d =>
      cases d with
      | bool b =>
        refine ⟨sa, B, F, st, _, _, h0, q, fun sa1 F1 H1 v R1 p1 => ?_⟩
        cases (show Rp F1 v (.bool b) from p1)
        refine ⟨b, rfl, ?_⟩
        cases b with
        | false =>
          try dsimp only
          rw [if_neg Bool.false_ne_true]
          exact ⟨sa1, B, F1, st1, _, _, R1.r, h1, fun sa' F' H' v R2 => k sa' F' H' v (R1.trans R2)⟩
        | true =>
          try dsimp only
          rw [if_pos rfl]
          cases h1
          exact k sa1 F1 H1 _ R1 (Rp.bl true)
      | _ => cases h1
    | _ => cases h1
theorem r_notV : ∀ σ H Q, tM K (mNotV m) σ H Q → tNotV (tM K m) σ H Q := fun σ H Q ⟨sa, B, F, st, r', st', h0, h1, k⟩ => by
  unfold mNotV at h1
  cases q : m st with
  | bad =>
    rw [q] at h1
    cases h1
  | ok r st1 =>
    rw [q] at h1
    cases r with
    | v d =>
      cases d with
      | bool b =>
        cases h1
        refine ⟨sa, B, F, st, _, _, h0, q, fun sa1 F1 H1 v R1 p1 => ?_⟩
        cases (show Rp F1 v (.bool b) from p1)
        exact ⟨b, rfl, k sa1 F1 H1 _ R1 (Rp.bl _)⟩
      | _ => cases h1
    | _ => cases h1
/-- the rules -/
theorem w_and1 (h : PT X a (tMT K c)) : PW X (.BoolOp .And [a] pos) (tMT K c) := pw_and1 h
theorem w_or1 (h : PT X a (tMT K c)) : PW X (.BoolOp .Or [a] pos) (tMT K c) := pw_or1 h
theorem imW {t t' : TT} (h : PW X e t) (i : ∀ σ H Q, t' σ H Q → t σ H Q) : PW X e t' := ⟨fun wh pins s σ H Q I q => h.run wh pins s σ H Q I (i σ H Q q)⟩
theorem w_and (h : PT X a (tMT K c)) (h' : PW X (.BoolOp .And (b :: es) pos) (tMT K c')) : PW X (.BoolOp .And (a :: b :: es) pos) (tMT K (mAnd c c')) := imW (pw_and h h') r_and
theorem w_or (h : PT X a (tMT K c)) (h' : PW X (.BoolOp .Or (b :: es) pos) (tMT K c')) : PW X (.BoolOp .Or (a :: b :: es) pos) (tMT K (mOr c c')) := imW (pw_or h h') r_or
theorem t_not (h : PT X a (tMT K c)) : PT X (.UnaryOp .Not a pos) (tMT K (mNot c)) := imT (pt_not h) r_not
theorem d_if {t : Expr} (hc : PT X t (tMT K c)) (ha : PE X a (tM K m)) (hb : PE X b (tM K m')) : PE X (.IfExp t a b pos) (tM K (mIf c m m')) := imE (pe_ifExp hc ha hb) r_if
theorem d_one {op} (h : PE X a (tM K m)) : PE X (.BoolOp op [a] pos) (tM K m) := pe_one h
theorem d_and (h : PE X a (tM K m)) (h' : PE X (.BoolOp .And (b :: es) pos) (tM K m')) : PE X (.BoolOp .And (a :: b :: es) pos) (tM K (mAndV m m')) := imE (pe_and h h') r_andV
theorem d_or (h : PE X a (tM K m)) (h' : PE X (.BoolOp .Or (b :: es) pos) (tM K m')) : PE X (.BoolOp .Or (a :: b :: es) pos) (tM K (mOrV m m')) := imE (pe_or h h') r_orV
theorem d_not (h : PE X a (tM K m)) : PE X (.UnaryOp .Not a pos) (tM K (mNotV m)) := imE (pe_not h) r_notV
end

/-! ### operators -/
/-- operators by a set of rules -/
def OpD (X : Cx) (f : Value → Value → Sem Value) (g : PyData → PyData → Option Slot) : Prop := ∃ r, OpR X f r ∧ Ad2 g r
def RdAll (g : PyData → PyData → Option Slot) : R2 := fun x y H Q => ∃ F dx dy s, Sub F H ∧ RdD F H x dx ∧ RdD F H y dy ∧ g dx dy = some s ∧ ∀ v F' H', Out F H s v F' H' → Q v H'
theorem OpD.of {X : Cx} {f : Value → Value → Sem Value} {g : PyData → PyData → Option Slot} (h : OpR X f (RdAll g)) : OpD X f g := ⟨_, h, fun F H x y dx dy s Q sb rx ry e k => ⟨F, dx, dy, s, sb, rx, ry, e, k⟩⟩
section
variable {K : PySem.W.Frag} {X : Cx} {a b c : Expr} {m m' : S → R Opd} {pos : Pos} {g : PyData → PyData → Option Slot}
theorem d_bin {op : Operator} (o : OpD X (binaryOp op) g) (ha : PE X a (tP K m)) (hb : PE X b (tP K m')) : PE X (.BinOp a op b pos) (tM K (m2 g m m')) := by
  obtain ⟨r, h1, h2⟩ := o
  exact imE (pe_op h1 ha hb) (r_2 h2)
theorem d_cmp {op : CmpOp} (o : OpD X (compareOp op) g) (ha : PE X a (tP K m)) (hb : PE X b (tP K m')) (hm : behindInMarks op b = false) : PE X (.Compare a [op] [b] pos) (tM K (m2 g m m')) := by
  obtain ⟨r, h1, h2⟩ := o
  exact imE (pe_cmpR h1 ha hb hm) (r_2 h2)
theorem t_cmp {op : CmpOp} (o : OpD X (compareOp op) g) (ha : PE X a (tP K m)) (hb : PE X b (tP K m')) (hm : behindInMarks op b = false) : PT X (.Compare a [op] [b] pos) (tMT K (mB (m2 g m m'))) := by
  obtain ⟨r, h1, h2⟩ := o
  exact imT (pt_cmpR h1 ha hb hm) (r_B (r_2 h2))
end

def gI (f : Int → Int → Option PyData) : PyData → PyData → Option Slot
  | .int i, .int j => (f i j).map .v
  | _, _ => none
def okLen (n : Nat) : Bool := decide (n ≤ 16777216)
theorem okLen_le {n : Nat} (h : okLen n = true) : n ≤ sizeLine := by
  have e : sizeLine = 16777216 := by decide
  rw [e]
  exact of_decide_eq_true h
def gAdd : PyData → PyData → Option Slot
  | .int i, .int j => some (.v (.int (i + j)))
  | .tuple a, .tuple b => if okLen (a.length + b.length) then some (.v (.tuple (a ++ b))) else none
  | .list a, .list b => if okLen (a.length + b.length) then some (.o (.list (a ++ b))) else none
  | .str a, .str b => if okLen (a.length + b.length) then some (.v (.str (a ++ b))) else none
  | _, _ => none
def gSub : PyData → PyData → Option Slot
  | .int i, .int j => some (.v (.int (i - j)))
  | _, _ => none
def mulOk (i j : Int) : Bool := (decide (-(2 ^ 64) < i) && decide (i < 2 ^ 64)) || (decide (-(2 ^ 64) < j) && decide (j < 2 ^ 64))
def gMul : PyData → PyData → Option Slot
  | .int i, .int j => if mulOk i j then some (.v (.int (i * j))) else none
  | .list a, .int k => if decide (-(2 ^ 63) ≤ k) && decide (k < 2 ^ 63) && okLen (a.length * k.toNat) then some (.o (.list (List.replicate k.toNat a).flatten)) else none
  | .tuple a, .int k => if decide (2 ≤ k) && decide (k ≤ 1000) && decide (a.length ≤ 1000) && !a.isEmpty then some (.v (.tuple (List.replicate k.toNat a).flatten)) else none
  | _, _ => none
def gDiv : PyData → PyData → Option Slot
  | .int i, .int j => if decide (0 < j) && decide (j < 1073741824) then some (.v (.int (i / j))) else none
  | _, _ => none
def gMod : PyData → PyData → Option Slot
  | .int i, .int j => if decide (0 < j) then some (.v (.int (i % j))) else none
  | _, _ => none
def gPow : PyData → PyData → Option Slot
  | .int i, .int j => if decide (0 ≤ j) && decide (j ≤ 1000000) && decide (i.natAbs < 2 ^ 64) then some (.v (.int (i ^ j.toNat))) else none
  | _, _ => none
def gCmp (p : Int → Int → Bool) : PyData → PyData → Option Slot
  | .int i, .int j => some (.v (.bool (p i j)))
  | _, _ => none
section
variable {X : Cx}
theorem RpL.nil_iff {F : Hp} {vs : List V} {ds : List PyData} (h : RpL F vs ds) : vs = [] ↔ ds = [] := by
  cases h <;> simp
theorem o_add : OpD X (binaryOp .Add) gAdd := .of fun pins s σ H x y v u Q I rx ry ⟨F, dx, dy, sl, sb, hx, hy, e, k⟩ => by
  unfold gAdd at e
  split at e
  · cases e
    rw [hx.int] at rx
    rw [hy.int] at ry
    exact op_add pins s σ H _ _ v u Q I rx ry ⟨_, _, rfl, rfl, k _ _ _ (.v (.int _))⟩
  · split at e
    · rename_i hz
      cases e
      obtain ⟨a, xs, rfl, e1, r1⟩ := hx.tup sb
      obtain ⟨b, ys, rfl, e2, r2⟩ := hy.tup sb
      refine op_catA pins s σ H _ _ v u Q I rx ry ⟨a, b, xs, ys, rfl, rfl, .inl (.inl (sb _ _ e1)), .inl (.inl (sb _ _ e2)), by rw [r1.length, r2.length]; exact okLen_le hz, fun z => ?_, fun _ z => ?_, fun _ _ p hp => ?_⟩
      · cases r1.nil_iff.mp z
        exact k _ _ _ (.v (.tup e2 (by simpa using r2)))
      · cases r2.nil_iff.mp z
        exact k _ _ _ (.v (.tup e1 (by simpa using r1)))
      · exact k _ _ _ (.t (r1.append r2) hp)
    · cases e
  · split at e
    · rename_i hz
      cases e
      obtain ⟨a, xs, rfl, e1, r1⟩ := hx.lst sb
      obtain ⟨b, ys, rfl, e2, r2⟩ := hy.lst sb
      exact op_cat pins s σ H _ _ v u Q I rx ry ⟨a, b, xs, ys, rfl, rfl, e1, e2, by rw [r1.length, r2.length]; exact okLen_le hz, fun p hp => k _ _ _ (.o (.lst (r1.append r2)) hp)⟩
    · cases e
  · split at e
    · rename_i hz
      cases e
      rw [hx.str] at rx
      rw [hy.str] at ry
      exact op_add_str pins s σ H _ _ v u Q I rx ry ⟨_, _, rfl, rfl, okLen_le hz, k _ _ _ (.v (.str _))⟩
    · cases e
  · cases e
theorem o_sub : OpD X (binaryOp .Sub) gSub := .of fun pins s σ H x y v u Q I rx ry ⟨F, dx, dy, sl, sb, hx, hy, e, k⟩ => by
  unfold gSub at e
  split at e
  · cases e
    rw [hx.int] at rx
    rw [hy.int] at ry
    exact op_sub pins s σ H _ _ v u Q I rx ry ⟨_, _, rfl, rfl, k _ _ _ (.v (.int _))⟩
  · cases e
theorem o_div : OpD X (binaryOp .FloorDiv) gDiv := .of fun pins s σ H x y v u Q I rx ry ⟨F, dx, dy, sl, sb, hx, hy, e, k⟩ => by
  unfold gDiv at e
  split at e
  · split at e
    · rename_i hz
      cases e
      rw [hx.int] at rx
      rw [hy.int] at ry
      simp only [Bool.and_eq_true, decide_eq_true_eq] at hz
      exact op_fdiv pins s σ H _ _ v u Q I rx ry ⟨_, _, rfl, rfl, hz, k _ _ _ (.v (.int _))⟩
    · cases e
  · cases e
theorem o_mod : OpD X (binaryOp .Mod) gMod := .of fun pins s σ H x y v u Q I rx ry ⟨F, dx, dy, sl, sb, hx, hy, e, k⟩ => by
  unfold gMod at e
  split at e
  · split at e
    · rename_i hz
      cases e
      rw [hx.int] at rx
      rw [hy.int] at ry
      exact op_mod pins s σ H _ _ v u Q I rx ry ⟨_, _, rfl, rfl, of_decide_eq_true hz, k _ _ _ (.v (.int _))⟩
    · cases e
  · cases e
theorem o_pow : OpD X (binaryOp .Pow) gPow := .of fun pins s σ H x y v u Q I rx ry ⟨F, dx, dy, sl, sb, hx, hy, e, k⟩ => by
  unfold gPow at e
  split at e
  · split at e
    · rename_i hz
      cases e
      rw [hx.int] at rx
      rw [hy.int] at ry
      simp only [Bool.and_eq_true, decide_eq_true_eq] at hz
      exact op_pow pins s σ H _ _ v u Q I rx ry ⟨_, _, rfl, rfl, ⟨hz.1.1, hz.1.2, hz.2⟩, k _ _ _ (.v (.int _))⟩
    · cases e
  · cases e
theorem o_mul : OpD X (binaryOp .Mult) gMul := .of fun pins s σ H x y v u Q I rx ry ⟨F, dx, dy, sl, sb, hx, hy, e, k⟩ => by
  unfold gMul at e
  split at e
  · split at e
    · rename_i hz
      cases e
      rw [hx.int] at rx
      rw [hy.int] at ry
      unfold mulOk at hz
      simp only [Bool.or_eq_true, Bool.and_eq_true, decide_eq_true_eq] at hz
      exact op_mul pins s σ H _ _ v u Q I rx ry ⟨_, _, rfl, rfl, hz, k _ _ _ (.v (.int _))⟩
    · cases e
  · split at e
    · rename_i hz
      cases e
      obtain ⟨a, xs, rfl, e1, r1⟩ := hx.lst sb
      rw [hy.int] at ry
      simp only [Bool.and_eq_true, decide_eq_true_eq] at hz
      exact op_rep pins s σ H _ _ v u Q I rx ry ⟨a, _, xs, rfl, rfl, e1, hz.1.1, hz.1.2, by rw [r1.length]; exact okLen_le hz.2, fun p hp => k _ _ _ (.o (.lst (r1.rep _)) hp)⟩
    · cases e
  · split at e
    · rename_i hz
      cases e
      obtain ⟨a, xs, rfl, e1, r1⟩ := hx.tup sb
      rw [hy.int] at ry
      simp only [Bool.and_eq_true, decide_eq_true_eq, Bool.not_eq_true', List.isEmpty_eq_false_iff] at hz
      exact op_repT pins s σ H _ _ v u Q I rx ry ⟨a, _, xs, rfl, rfl, .inl (.inl (sb _ _ e1)), fun z => hz.2 (r1.nil_iff.mp z), hz.1.1.1, hz.1.1.2, by rw [r1.length]; exact hz.1.2, fun p hp => k _ _ _ (.t (r1.rep _) hp)⟩
    · cases e
  · cases e
theorem o_cmpI {op : CmpOp} {p : Int → Int → Bool} (h : OpR X (compareOp op) (rI0 fun i j => .bl (p i j))) : OpD X (compareOp op) (gCmp p) := .of fun pins s σ H x y v u Q I rx ry ⟨F, dx, dy, sl, sb, hx, hy, e, k⟩ => by
  unfold gCmp at e
  split at e
  · cases e
    rw [hx.int] at rx
    rw [hy.int] at ry
    exact h pins s σ H _ _ v u Q I rx ry ⟨_, _, rfl, rfl, k _ _ _ (.v (.bl _))⟩
  · cases e
end
end Pd
end
section
set_option linter.all false
set_option maxRecDepth 100000
/-! Pd, part D: == != in not in, is None; order; items, slices; displays. -/
namespace Pd
open PySem PySem.Spec PyProof.Rows L2

mutual
def noList : PyData → Bool
  | .list _ => false
  | .tuple ds => noListAll ds
  | .dict kvs => noListKv kvs
  | _ => true
def noListAll : List PyData → Bool
  | [] => true
  | d :: ds => noList d && noListAll ds
def noListKv : List (PyData × PyData) → Bool
  | [] => true
  | (_, d) :: ds => noList d && noListKv ds
end
section
variable {X : Cx} {pins : List (Addr × Obj)} {σ : L2.St} {H F : Hp} {s : Shared}
/-- the keys of a dict read -/
theorem keys_read {knd : KeyKind X.prog X.w Key} (hk : ∀ k v, knd.is k v = keyIs k v) : ∀ {es : List DictEntry} {kvs : List (Key × Value)}, Pairs knd es kvs → ReadsAll s.heap (es.map (·.key)) (kvs.map fun p => kD p.1) [] := by
  intro es kvs h
  induction h with
  | nil => exact .nil
  | @cons e kv es kvs h1 h2 h3 ih =>
    rw [hk] at h1
    obtain ⟨k, v⟩ := kv
    have one : Reads s.heap e.key (kD k) [] := by
      rcases keyIs_shape h1 with ⟨i, t, e1, e2⟩ | ⟨x, t, e1, e2⟩
      · have e1' : k = .inl i := e1
        rw [e2, e1']
        exact Reads.int i t
      · have e1' : k = .inr x := e1
        rw [e2, e1']
        exact Reads.str x t
    exact (ReadsAll.cons one ih : ReadsAll s.heap _ _ ([] ++ []))
theorem pairs_vals {knd : KeyKind X.prog X.w Key} : ∀ {es : List DictEntry} {kvs : List (Key × Value)}, Pairs knd es kvs → es.map (·.val) = kvs.map (·.2)
  | _, _, .nil => rfl
  | _, _, .cons _ h2 h3 => by rw [List.map_cons, List.map_cons, pairs_vals h3, h2]
theorem key1_reads {k : Key} {u : Value} (r : RelV (kV k) u) : Reads s.heap u (kD k) [] := by
  cases k with
  | inl i =>
    obtain ⟨t, rfl⟩ := r
    exact Reads.int i t
  | inr x =>
    obtain ⟨t, rfl⟩ := r
    exact Reads.str x t
theorem keyl_reads : ∀ {ks : List Key} {us : List Value}, Vals (ks.map kV) us → ReadsAll s.heap us (ks.map kD) []
  | [], _, h => by
    cases h
    exact .nil
  | k :: ks, _, h => by
    cases h with
    | cons a b => exact (ReadsAll.cons (key1_reads a) (keyl_reads b) : ReadsAll s.heap _ _ ([] ++ []))
theorem tkeys_read (I : Inv X pins σ H s) : ∀ {kvs : List (List Key × V)} {xs : List (List Key × Addr × Value)}, Paired (fun (p : List Key × V) (q : List Key × Addr × Value) => p.1 = q.1 ∧ H q.2.1 = some (.tup (p.1.map kV)) ∧ RelV p.2 q.2.2) kvs xs →
    ReadsAll s.heap (xs.map fun x => Value.ref x.2.1) (kvs.map fun p => tD p.1) []
  | _, _, .nil => .nil
  | _, _, .cons ⟨_, h, _⟩ t => by
    obtain ⟨its, rv, ⟨o, ho, hc, n, hd⟩, _⟩ := I.tuple (.inl (.inl h))
    exact (ReadsAll.cons (Reads.tuple ho hc hd (keyl_reads (by simpa using rv))) (tkeys_read I t) : ReadsAll s.heap _ _ ([] ++ []))
theorem RpK.keys {F : Hp} : ∀ {ps : List (Key × V)} {kvs : List (PyData × PyData)}, RpK F ps kvs → kvs.map (·.1) = ps.map fun p => kD p.1
  | _, _, .nil => rfl
  | _, _, .cons _ t => by rw [List.map_cons, List.map_cons, RpK.keys t]
theorem RpT.keys {F : Hp} : ∀ {ps : List (List Key × V)} {kvs : List (PyData × PyData)}, RpT F ps kvs → kvs.map (·.1) = ps.map fun p => tD p.1
  | _, _, .nil => rfl
  | _, _, .cons _ t => by rw [List.map_cons, List.map_cons, RpT.keys t]
theorem RpK.valsL {F : Hp} : ∀ {ps : List (Key × V)} {kvs : List (PyData × PyData)}, RpK F ps kvs → RpL F (ps.map (·.2)) (kvs.map (·.2))
  | _, _, .nil => .nil
  | _, _, .cons a t => .cons a (RpK.valsL t)
theorem RpT.valsL {F : Hp} : ∀ {ps : List (List Key × V)} {kvs : List (PyData × PyData)}, RpT F ps kvs → RpL F (ps.map (·.2)) (kvs.map (·.2))
  | _, _, .nil => .nil
  | _, _, .cons a t => .cons a (RpT.valsL t)
theorem noList_kv : ∀ (kvs : List (PyData × PyData)), noListKv kvs = true → noListAll (kvs.map (·.2)) = true
  | [], _ => rfl
  | (p1, p2) :: kvs, h => by
    have h' : noList p2 = true ∧ noListKv kvs = true := by simpa [noListKv] using h
    show noListAll (p2 :: kvs.map (·.2)) = true
    rw [noListAll, h'.1, noList_kv kvs h'.2]
    rfl
theorem kv_keys {κ : Type} : ∀ {ps : List (κ × V)} {qs : List (κ × Value)}, KV ps qs → ps.map (·.1) = qs.map (·.1)
  | _, _, .nil => rfl
  | _, _, .cons h t => by rw [List.map_cons, List.map_cons, h.1, kv_keys t]
theorem kv_vals {κ : Type} : ∀ {ps : List (κ × V)} {qs : List (κ × Value)}, KV ps qs → Vals (ps.map (·.2)) (qs.map (·.2))
  | _, _, .nil => .nil
  | _, _, .cons h t => .cons h.2 (kv_vals t)
theorem kt_vals : ∀ {kvs : List (List Key × V)} {xs : List (List Key × Addr × Value)}, Paired (fun (p : List Key × V) (q : List Key × Addr × Value) => p.1 = q.1 ∧ H q.2.1 = some (.tup (p.1.map kV)) ∧ RelV p.2 q.2.2) kvs xs → Vals (kvs.map (·.2)) (xs.map fun x => x.2.2)
  | _, _, .nil => .nil
  | _, _, .cons h t => .cons h.2.2 (kt_vals t)
/-- an object reads, if its items do -/
theorem OR.reads' (I : Inv X pins σ H s) {a : Addr} {o : HO} {d : PyData} (e : H a = some o) (r : OR F o d)
    (all : ∀ (ds : List PyData) (vs : List V) (us : List Value), (∀ d' ∈ ds, sizeOf d' < sizeOf d) → RpL F vs ds → Vals vs us → ∃ as, ReadsAll s.heap us ds as ∧ (noListAll ds = true → sysModules ∉ as)) :
    ∃ as, Reads s.heap (.ref a) d as ∧ (noList d = true → sysModules ∉ as) := by
  cases r with
  | @lst xs ds q =>
    obtain ⟨its, rv, ⟨o, n, ho, hc, _, hd⟩, _⟩ := I.list (.inl (.inl e))
    obtain ⟨as, hr, _⟩ := all ds _ its (fun d' m => by
      have := List.sizeOf_lt_of_mem m
      simp only [PyData.list.sizeOf_spec]
      omega) q rv
    exact ⟨_, Reads.list ho hc hd hr, fun z => by simp [noList] at z⟩
  | @dK ps kvs q =>
    obtain ⟨_, hm, vs, r1, o, es, ep, ho, hx, hd, _, hp, _⟩ := (show ObjOk X.prog X.w H s.heap a (.dK ps) from I.hok a _ e)
    have hv : Vals (ps.map (·.2)) (es.toList.map (·.val)) := by
      rw [pairs_vals hp]
      exact kv_vals r1
    have rl : RpL F (ps.map (·.2)) (kvs.map (·.2)) := q.valsL
    obtain ⟨as, hr, hn⟩ := all (kvs.map (·.2)) _ _ (fun d' m => by
      obtain ⟨p, hp, rfl⟩ := List.mem_map.mp m
      have h1 := List.sizeOf_lt_of_mem hp
      obtain ⟨p1, p2⟩ := p
      simp only [PyData.dict.sizeOf_spec, Prod.mk.sizeOf_spec] at *
      omega) rl hv
    have hk : ReadsAll s.heap (es.toList.map (·.key)) (kvs.map (·.1)) [] := by
      rw [q.keys]
      have := keys_read (X := X) (s := s) (fun _ _ => rfl) hp
      rw [show vs.map (fun p => kD p.1) = (vs.map (·.1)).map kD by rw [List.map_map]; rfl, ← kv_keys r1, List.map_map] at this
      exact this
    refine ⟨_, Reads.dict ho hx.1 hd hk hr, fun z => ?_⟩
    have hz : noListAll (kvs.map (·.2)) = true := noList_kv kvs (by simpa [noList] using z)
    have h1 := hn hz
    have h2 : a ≠ sysModules := fun z => by
      rw [z] at hm
      simp at hm
    simp only [List.append_nil, List.cons_append, List.nil_append, List.mem_cons, not_or]
    exact ⟨Ne.symm h2, h1⟩
  | @dT ps kvs q =>
    obtain ⟨_, hm, xs, r1, o, es, ep, ho, hx, hd, he, _⟩ := (show ObjOk X.prog X.w H s.heap a (.dT ps) from I.hok a _ e)
    have hv : Vals (ps.map (·.2)) (es.toList.map (·.val)) := by
      rw [he, List.map_map]
      exact kt_vals r1
    have rl : RpL F (ps.map (·.2)) (kvs.map (·.2)) := q.valsL
    obtain ⟨as, hr, hn⟩ := all (kvs.map (·.2)) _ _ (fun d' m => by
      obtain ⟨p, hp, rfl⟩ := List.mem_map.mp m
      have h1 := List.sizeOf_lt_of_mem hp
      obtain ⟨p1, p2⟩ := p
      simp only [PyData.dict.sizeOf_spec, Prod.mk.sizeOf_spec] at *
      omega) rl hv
    have hk : ReadsAll s.heap (es.toList.map (·.key)) (kvs.map (·.1)) [] := by
      rw [q.keys, he, List.map_map]
      exact tkeys_read I r1
    refine ⟨_, Reads.dict ho hx.1 hd hk hr, fun z => ?_⟩
    have hz : noListAll (kvs.map (·.2)) = true := noList_kv kvs (by simpa [noList] using z)
    have h1 := hn hz
    have h2 : a ≠ sysModules := fun z => by
      rw [z] at hm
      simp at hm
    simp only [List.append_nil, List.cons_append, List.nil_append, List.mem_cons, not_or]
    exact ⟨Ne.symm h2, h1⟩
theorem Rp.readsN (I : Inv X pins σ H s) (sb : Sub F H) : ∀ (n : Nat) (d : PyData) (v : V) (u : Value), sizeOf d < n → Rp F v d → RelV v u → ∃ as, Reads s.heap u d as ∧ (noList d = true → sysModules ∉ as)
  | 0, _, _, _, hn, _, _ => absurd hn (by omega)
  | n + 1, d, v, u, hn, h, r => by
    have all : ∀ (ds : List PyData) (vs : List V) (us : List Value), (∀ d' ∈ ds, sizeOf d' < n) → RpL F vs ds → Vals vs us → ∃ as, ReadsAll s.heap us ds as ∧ (noListAll ds = true → sysModules ∉ as) := by
      intro ds
      induction ds with
      | nil =>
        intro vs us _ a b
        cases a
        cases b
        exact ⟨[], .nil, fun _ => by simp⟩
      | cons d ds ih =>
        intro vs us hs a b
        cases a with
        | cons a1 a2 =>
          cases b with
          | cons b1 b2 =>
            obtain ⟨as, q1, z1⟩ := Rp.readsN I sb n d _ _ (hs d (by simp)) a1 b1
            obtain ⟨bs, q2, z2⟩ := ih _ _ (fun d' m => hs d' (by simp [m])) a2 b2
            refine ⟨_, .cons q1 q2, fun z => ?_⟩
            have z' : noList d = true ∧ noListAll ds = true := by simpa [noListAll] using z
            intro m
            rcases List.mem_append.mp m with m | m
            · exact z1 z'.1 m
            · exact z2 z'.2 m
    cases h with
    | non =>
      cases r
      exact ⟨_, Reads.none, fun _ => by simp⟩
    | bl b =>
      cases r
      exact ⟨_, Reads.bool b, fun _ => by simp⟩
    | int i =>
      obtain ⟨t, rfl⟩ := r
      exact ⟨_, Reads.int i t, fun _ => by simp⟩
    | str x =>
      obtain ⟨t, rfl⟩ := r
      exact ⟨_, Reads.str x t, fun _ => by simp⟩
    | @tup a xs ds e ha =>
      cases r
      obtain ⟨its, rv, ⟨o, ho, hc, n', hd⟩, _⟩ := I.tuple (.inl (.inl (sb _ _ e)))
      obtain ⟨as, hr, hz⟩ := all ds _ its (fun d' m => by
        have := List.sizeOf_lt_of_mem m
        simp only [PyData.tuple.sizeOf_spec] at hn
        omega) ha rv
      exact ⟨_, Reads.tuple ho hc hd hr, fun z => hz (by simpa [noList] using z)⟩
    | @lst a xs ds e ha =>
      cases r
      exact OR.reads' I (sb _ _ e) (.lst ha) fun ds vs us hs => all ds vs us fun d' m => by
        have := hs d' m
        omega
    | @dK a ps kvs e ha =>
      cases r
      exact OR.reads' I (sb _ _ e) (.dK ha) fun ds vs us hs => all ds vs us fun d' m => by
        have := hs d' m
        omega
    | @dT a ps kvs e ha =>
      cases r
      exact OR.reads' I (sb _ _ e) (.dT ha) fun ds vs us hs => all ds vs us fun d' m => by
        have := hs d' m
        omega
theorem RpL.reads (I : Inv X pins σ H s) (sb : Sub F H) : ∀ (ds : List PyData) (vs : List V) (us : List Value), RpL F vs ds → Vals vs us → ∃ as, ReadsAll s.heap us ds as ∧ (noListAll ds = true → sysModules ∉ as)
  | [], _, _, h, r => by
    cases h
    cases r
    exact ⟨_, ReadsAll.nil, fun _ => by simp⟩
  | d :: ds, _, _, h, r => by
    cases h with
    | cons h1 h2 =>
      cases r with
      | cons r1 r2 =>
        obtain ⟨as, q1, z1⟩ := Rp.readsN I sb _ d _ _ (Nat.lt_succ_self _) h1 r1
        obtain ⟨bs, q2, z2⟩ := RpL.reads I sb ds _ _ h2 r2
        refine ⟨_, ReadsAll.cons q1 q2, fun z => ?_⟩
        have z' : noList d = true ∧ noListAll ds = true := by simpa [noListAll] using z
        intro m
        rcases List.mem_append.mp m with m | m
        · exact z1 z'.1 m
        · exact z2 z'.2 m
theorem RdD.readsZ (I : Inv X pins σ H s) (sb : Sub F H) {d : PyData} {v : V} {u : Value} (h : RdD F H v d) (r : RelV v u) : ∃ as, Reads s.heap u d as ∧ (noList d = true → sysModules ∉ as) := by
  rcases h with h | ⟨a, o, rfl, h1, h2⟩
  · exact h.readsN I sb _ d v u (Nat.lt_succ_self _) r
  · cases r
    exact OR.reads' I h1 h2 fun ds vs us _ => RpL.reads I sb ds vs us
theorem RdD.reads (I : Inv X pins σ H s) (sb : Sub F H) {d : PyData} {v : V} {u : Value} (h : RdD F H v d) (r : RelV v u) : ∃ as, Reads s.heap u d as :=
  let ⟨as, h1, _⟩ := h.readsZ I sb r
  ⟨as, h1⟩
end

/-- data without dicts, not too deep -/
def shp (d : PyData) : Bool := d.plain && decide (d.depth ≤ 60)
theorem shp.plain {d : PyData} (h : shp d = true) : d.plain = true := (Bool.and_eq_true_iff.mp h).1
theorem shp.deep {d : PyData} (h : shp d = true) : d.depth ≤ 60 := of_decide_eq_true (Bool.and_eq_true_iff.mp h).2
def gEq : PyData → PyData → Option Slot := fun d e => if shp d && shp e then some (.v (.bool (PyData.eqv d e))) else none
def gNe : PyData → PyData → Option Slot := fun d e => if shp d && shp e then some (.v (.bool (!PyData.eqv d e))) else none
def gIn (neg : Bool) : PyData → PyData → Option Slot
  | d, .list ds => if shp d && PyData.plainAll ds then some (.v (.bool (neg.xor (ds.any fun z => PyData.eqv z d)))) else none
  | d, .tuple ds => if shp d && PyData.plainAll ds then some (.v (.bool (neg.xor (ds.any fun z => PyData.eqv z d)))) else none
  | _, _ => none
def isNone : PyData → Bool
  | .none => true
  | _ => false
def gIs (neg : Bool) : PyData → PyData → Option Slot
  | d, .none => some (.v (.bool (neg.xor (isNone d))))
  | _, _ => none
/-- order: ints; other alike data -/
def gOrd (p : Int → Int → Bool) (q : PyData → PyData → Bool) : PyData → PyData → Option Slot
  | .int i, .int j => some (.v (.bool (p i j)))
  | .tuple a, .tuple b => if PySem.W.alike (.tuple a) (.tuple b) && shp (.tuple a) then some (.v (.bool (q (.tuple a) (.tuple b)))) else none
  | _, _ => none
section
variable {X : Cx}
theorem RdD.none_iff {F H : Hp} {v : V} {d : PyData} (h : RdD F H v d) : decide (v = .non) = isNone d := by
  rcases h with h | ⟨a, o, rfl, h1, h2⟩
  · cases h <;> rfl
  · cases h2 <;> rfl
theorem deepR {A : Around} {d e : PyData} (h : shp d = true) (hu : A.units + 64 < cLine) : A.units + min d.depth e.depth < cLine := by
  have h1 := shp.deep h
  have h2 : min d.depth e.depth ≤ d.depth := Nat.min_le_left _ _
  omega
theorem o_eq (hu : X.A.units + 64 < cLine) : OpD X (compareOp .Eq) gEq := .of fun pins s σ H x y v u Q I rx ry ⟨F, dx, dy, sl, sb, hx, hy, e, k⟩ => by
  unfold gEq at e
  split at e
  · rename_i hz
    cases e
    obtain ⟨h1, h2⟩ := Bool.and_eq_true_iff.mp hz
    obtain ⟨as, r1⟩ := hx.reads I sb rx
    obtain ⟨bs, r2⟩ := hy.reads I sb ry
    exact PySem.SeqAt.eq_plain r1 r2 (shp.plain h1) (shp.plain h2) (deepR h1 hu) ⟨.bl _, H, I, rfl, k _ _ _ (.v (.bl _))⟩
  · cases e
theorem o_ne (hu : X.A.units + 64 < cLine) : OpD X (compareOp .NotEq) gNe := .of fun pins s σ H x y v u Q I rx ry ⟨F, dx, dy, sl, sb, hx, hy, e, k⟩ => by
  unfold gNe at e
  split at e
  · rename_i hz
    cases e
    obtain ⟨h1, h2⟩ := Bool.and_eq_true_iff.mp hz
    obtain ⟨as, r1⟩ := hx.reads I sb rx
    obtain ⟨bs, r2⟩ := hy.reads I sb ry
    exact PySem.SeqAt.ne_plain r1 r2 (shp.plain h1) (shp.plain h2) (deepR h1 hu) ⟨.bl _, H, I, rfl, k _ _ _ (.v (.bl _))⟩
  · cases e
theorem room_in {A : Around} {d : PyData} {ds : List PyData} (h : shp d = true) (hu : A.units + 66 < cLine) : A.units + 1 + min (PyData.depthAll ds) d.depth < cLine := by
  have h1 := shp.deep h
  have h2 : min (PyData.depthAll ds) d.depth ≤ d.depth := Nat.min_le_right _ _
  omega
theorem o_in (hu : X.A.units + 66 < cLine) : OpD X (compareOp .In) (gIn false) := .of fun pins s σ H x y v u Q I rx ry ⟨F, dx, dy, sl, sb, hx, hy, e, k⟩ => by
  unfold gIn at e
  split at e
  · split at e
    · rename_i hz
      cases e
      obtain ⟨h1, h2⟩ := Bool.and_eq_true_iff.mp hz
      obtain ⟨as, r1⟩ := hx.reads I sb rx
      obtain ⟨bs, r2⟩ := hy.reads I sb ry
      exact PySem.SeqAt.in_list_data r2 r1 h2 (shp.plain h1) (room_in h1 hu) ⟨.bl _, H, I, rfl, by simpa using k _ _ _ (.v (.bl _))⟩
    · cases e
  · split at e
    · rename_i hz
      cases e
      obtain ⟨h1, h2⟩ := Bool.and_eq_true_iff.mp hz
      obtain ⟨as, r1⟩ := hx.reads I sb rx
      obtain ⟨bs, r2⟩ := hy.reads I sb ry
      exact PySem.SeqAt.in_tuple_data r2 r1 h2 (shp.plain h1) (room_in h1 hu) ⟨.bl _, H, I, rfl, by simpa using k _ _ _ (.v (.bl _))⟩
    · cases e
  · cases e
theorem o_notIn (hu : X.A.units + 66 < cLine) : OpD X (compareOp .NotIn) (gIn true) := .of fun pins s σ H x y v u Q I rx ry ⟨F, dx, dy, sl, sb, hx, hy, e, k⟩ => by
  unfold gIn at e
  split at e
  · split at e
    · rename_i hz
      cases e
      obtain ⟨h1, h2⟩ := Bool.and_eq_true_iff.mp hz
      obtain ⟨as, r1⟩ := hx.reads I sb rx
      obtain ⟨bs, r2⟩ := hy.reads I sb ry
      exact PySem.SeqAt.notIn_list_data r2 r1 h2 (shp.plain h1) (room_in h1 hu) ⟨.bl _, H, I, rfl, by simpa using k _ _ _ (.v (.bl _))⟩
    · cases e
  · split at e
    · rename_i hz
      cases e
      obtain ⟨h1, h2⟩ := Bool.and_eq_true_iff.mp hz
      obtain ⟨as, r1⟩ := hx.reads I sb rx
      obtain ⟨bs, r2⟩ := hy.reads I sb ry
      exact PySem.SeqAt.notIn_tuple_data r2 r1 h2 (shp.plain h1) (room_in h1 hu) ⟨.bl _, H, I, rfl, by simpa using k _ _ _ (.v (.bl _))⟩
    · cases e
  · cases e
theorem o_is : OpD X (compareOp .Is) (gIs false) := .of fun pins s σ H x y v u Q I rx ry ⟨F, dx, dy, sl, sb, hx, hy, e, k⟩ => by
  unfold gIs at e
  split at e
  · cases e
    rw [hy.non] at ry
    exact op_isN pins s σ H _ _ v u Q I rx ry ⟨rfl, by rw [hx.none_iff]; simpa using k _ _ _ (.v (.bl _))⟩
  · cases e
theorem o_isNot : OpD X (compareOp .IsNot) (gIs true) := .of fun pins s σ H x y v u Q I rx ry ⟨F, dx, dy, sl, sb, hx, hy, e, k⟩ => by
  unfold gIs at e
  split at e
  · cases e
    rw [hy.non] at ry
    exact op_notN pins s σ H _ _ v u Q I rx ry ⟨rfl, by rw [hx.none_iff]; simpa using k _ _ _ (.v (.bl _))⟩
  · cases e
/-- an order's rule: on ints, on alike data -/
theorem o_ord {op : CmpOp} {p : Int → Int → Bool} {q : PyData → PyData → Bool} (hu : X.A.units + 64 < cLine) (h : OpR X (compareOp op) (rI0 fun i j => .bl (p i j)))
    (hd : ∀ (s : Shared) (a b : Value) (da db : PyData) (as bs : List Addr) (Q : Value → Shared → Prop), Reads s.heap a da as → Reads s.heap b db bs → PySem.W.alike da db = true → da ≠ .none → X.A.units + min da.depth db.depth < cLine → Q (.bool (q da db)) s → wpAny (model X.prog X.w) X.A (compareOp op a b) Q X.xe s) :
    OpD X (compareOp op) (gOrd p q) := .of fun pins s σ H x y v u Q I rx ry ⟨F, dx, dy, sl, sb, hx, hy, e, k⟩ => by
  unfold gOrd at e
  split at e
  · cases e
    rw [hx.int] at rx
    rw [hy.int] at ry
    exact h pins s σ H _ _ v u Q I rx ry ⟨_, _, rfl, rfl, k _ _ _ (.v (.bl _))⟩
  · split at e
    · rename_i hz
      cases e
      obtain ⟨h1, h2⟩ := Bool.and_eq_true_iff.mp hz
      obtain ⟨as, r1⟩ := hx.reads I sb rx
      obtain ⟨bs, r2⟩ := hy.reads I sb ry
      exact hd s v u _ _ as bs _ r1 r2 h1 (fun z => nomatch z) (deepR h2 hu) ⟨.bl _, H, I, rfl, k _ _ _ (.v (.bl _))⟩
    · cases e
  · cases e
theorem o_lt (hu : X.A.units + 64 < cLine) : OpD X (compareOp .Lt) (gOrd (fun i j => decide (i < j)) PySem.W.dataLt) := o_ord hu op_lt fun _ _ _ _ _ _ _ _ a b c d e f => PySem.W.lt_data a b c d e f
theorem o_gt (hu : X.A.units + 64 < cLine) : OpD X (compareOp .Gt) (gOrd (fun i j => decide (j < i)) fun a b => PySem.W.dataLt b a) := o_ord hu op_gt fun _ _ _ _ _ _ _ _ a b c d e f => PySem.W.gt_data a b c d e f
theorem o_le (hu : X.A.units + 64 < cLine) : OpD X (compareOp .LtE) (gOrd (fun i j => decide (i ≤ j)) fun a b => !PySem.W.dataLt b a) := o_ord hu op_le fun _ _ _ _ _ _ _ _ a b c d e f => PySem.W.le_data a b c d e f
theorem o_ge (hu : X.A.units + 64 < cLine) : OpD X (compareOp .GtE) (gOrd (fun i j => decide (j ≤ i)) fun a b => !PySem.W.dataLt a b) := o_ord hu op_ge fun _ _ _ _ _ _ _ _ a b c d e f => PySem.W.ge_data a b c d e f
end

/-! ### items, slices -/
def gIx : PyData → PyData → Option Slot
  | .list ds, .int i => (atI ds i).map .v
  | .tuple ds, .int i => (atI ds i).map .v
  | _, _ => none
theorem RpL.atI {F : Hp} {vs : List V} {ds : List PyData} {i : Int} {d : PyData} (h : RpL F vs ds) (e : L2.atI ds i = some d) : ∃ v, L2.atI vs i = some v ∧ Rp F v d := by
  unfold L2.atI at e ⊢
  rw [h.length]
  cases q : ixN ds.length i with
  | none =>
    rw [q] at e
    cases e
  | some j =>
    rw [q] at e
    obtain ⟨v, h1, h2⟩ := h.get (i := j) e
    exact ⟨v, h1, h2⟩
section
variable {K : PySem.W.Frag} {X : Cx} {a b : Expr} {m m' : S → R Opd} {pos : Pos}
theorem ad_ix : Ad2 gIx (rIx K) := fun F H x y dx dy s Q sb hx hy e k => by
  unfold gIx at e
  split at e
  · obtain ⟨p, xs, rfl, e1, r1⟩ := hx.lst sb
    obtain ⟨d, h1, rfl⟩ := Option.map_eq_some_iff.mp e
    obtain ⟨v, h2, h3⟩ := r1.atI h1
    exact .inl ⟨p, xs, _, v, rfl, hy.int, .inl (.inl e1), h2, k _ _ _ (.v h3)⟩
  · obtain ⟨p, xs, rfl, e1, r1⟩ := hx.tup sb
    obtain ⟨d, h1, rfl⟩ := Option.map_eq_some_iff.mp e
    obtain ⟨v, h2, h3⟩ := r1.atI h1
    exact .inr (.inl ⟨p, xs, _, v, rfl, hy.int, .inl (.inl (sb _ _ e1)), h2, k _ _ _ (.v h3)⟩)
  · cases e
theorem d_ix (ha : PE X a (tP X.K m)) (hb : PE X b (tP X.K m')) (hs : PlainIx b) : PE X (.Subscript a b pos) (tM X.K (m2 gIx m m')) := imE (pe_ix ix_seq ha hb hs) (r_2 ad_ix)
end
/-- a slice's parts -/
def mNoP : S → R (Option Int) := fun st => .ok none st
def mP (m : S → R Slot) : S → R (Option Int) := fun st => match m st with
  | .ok (.v (.int i)) st1 => .ok (some i) st1
  | _ => .bad
def tPO (K : PySem.W.Frag) (m : S → R (Option Int)) : TO := fun σ H Q => ∃ sa B F st b st', SR K sa B F H σ st ∧ m st = .ok b st' ∧ ∀ sa' F' H', Rch K B σ sa F st sa' F' H' st' → Q b H'
def cutD (ds : List PyData) (lo hi : Option Int) : List PyData := (ds.drop (HT.sIx ds.length 0 lo)).take (HT.sIx ds.length ds.length hi - HT.sIx ds.length 0 lo)
def gSl : PyData → Option Int → Option Int → Option Slot
  | .list ds, lo, hi => some (.o (.list (cutD ds lo hi)))
  | .tuple ds, lo, hi => some (.v (.tuple (cutD ds lo hi)))
  | _, _, _ => none
open Classical in
noncomputable def mSl (m : S → R Opd) (l h : S → R (Option Int)) : S → R Slot := fun st => match m st with
  | .ok x st1 => match l st1 with
    | .ok lo st2 => match h st2 with
      | .ok hi st3 => if still x st3 ∧ still x st2 then (match gSl x.d lo hi with
        | some r => .ok r st3
        | none => .bad) else .bad
      | .bad => .bad
    | .bad => .bad
  | .bad => .bad
theorem imO {X : Cx} {e : Option Expr} {t t' : TO} (h : PO X e t) (i : ∀ σ H Q, t' σ H Q → t σ H Q) : PO X e t' := by
  obtain ⟨r⟩ := h
  exact ⟨fun pins s σ H Q I q => r pins s σ H Q I (i σ H Q q)⟩
theorem RpL.cut {F : Hp} {vs : List V} {ds : List PyData} (h : RpL F vs ds) (lo hi : Option Int) : RpL F (cutV vs lo hi) (cutD ds lo hi) := by
  unfold cutV cutD
  rw [h.length]
  exact (h.drop _).take _
section
variable {K : PySem.W.Frag} {X : Cx} {a : Expr} {lo hi : Option Expr} {e : Expr} {m : S → R Opd} {mv : S → R Slot} {l h : S → R (Option Int)} {pos p2 : Pos}
theorem o_none : PO X none (tPO K mNoP) := imO po_none fun σ H Q ⟨sa, B, F, st, b, st', h0, h1, k⟩ => by
  cases h1
  exact k sa F H (.refl h0)
theorem o_some (he : PE X e (tM K mv)) : PO X (some e) (tPO K (mP mv)) := imO (po_some he) fun σ H Q ⟨sa, B, F, st, b, st', h0, h1, k⟩ => by
  unfold mP at h1
  cases q : mv st with
  | bad =>
    rw [q] at h1
    cases h1
  | ok r st1 =>
    rw [q] at h1
    cases r with
    | v d =>
      cases d with
      | int i =>
        cases h1
        exact ⟨sa, B, F, st, _, _, h0, q, fun sa' F' H' v R r => by
          cases (show Rp F' v (.int i) from r)
          exact ⟨_, rfl, k sa' F' H' R⟩⟩
      | _ => cases h1
    | _ => cases h1
theorem sl_any : SlR X fun x lo hi H Q => rSlL X.K x lo hi H Q ∨ rSlA X.K x lo hi H Q := sl_list.or sl_tupA
theorem cut_all {α : Type} {ds : List α} {lo hi : Option Int} (h : HT.sIx ds.length 0 lo = 0 ∧ HT.sIx ds.length ds.length hi = ds.length) : (ds.drop (HT.sIx ds.length 0 lo)).take (HT.sIx ds.length ds.length hi - HT.sIx ds.length 0 lo) = ds := by
  rw [h.1, h.2]
  simp
theorem d_sl (ha : PE X a (tP X.K m)) (hl : PO X lo (tPO X.K l)) (hh : PO X hi (tPO X.K h)) : PE X (.Subscript a (.Slice lo hi none p2) pos) (tM X.K (mSl m l h)) := imE (pe_slice sl_any ha hl hh) fun σ H Q ⟨sa, B, F, st, r', st', h0, h1, k⟩ => by
  unfold mSl at h1
  cases q1 : m st with
  | bad =>
    simp only [q1] at h1
    cases h1
  | ok x st1 =>
    cases q2 : l st1 with
    | bad =>
      simp only [q1, q2] at h1
      cases h1
    | ok lv st2 =>
      cases q3 : h st2 with
      | bad =>
        simp only [q1, q2, q3] at h1
        cases h1
      | ok hv st3 =>
        simp only [q1, q2, q3] at h1
        by_cases hs : still x st3 ∧ still x st2
        · rw [if_pos hs] at h1
          cases q4 : gSl x.d lv hv with
          | none =>
            simp only [q4] at h1
            cases h1
          | some s =>
            simp only [q4] at h1
            cases h1
            -- the operand, protected while the parts are reckoned
            have fin : ∀ sa3 F3 H3 v, Rch X.K B σ sa F st sa3 F3 H3 st' → RdD F3 H3 v x.d → (rSlL X.K v lv hv H3 Q ∨ rSlA X.K v lv hv H3 Q) := fun sa3 F3 H3 v R3 p => by
              have fo : ∀ w F' H', Out F3 H3 r' w F' H' → Q w H' := fun w F' H' o => by
                obtain ⟨a, b⟩ := R3.out o
                exact k sa3 F' H' w a b
              cases hx : x.d with
              | list ds =>
                rw [hx] at q4 p
                cases q4
                obtain ⟨a, xs, rfl, e1, r1⟩ := p.lst R3.r.fh
                exact .inl ⟨a, xs, rfl, .inl (.inl e1), fun p hp => fo _ _ _ (.o (.lst (r1.cut _ _)) hp)⟩
              | tuple ds =>
                rw [hx] at q4 p
                cases q4
                obtain ⟨a, xs, rfl, e1, r1⟩ := p.tup R3.r.fh
                refine .inr ⟨a, xs, rfl, .inl (.inl (R3.r.fh _ _ e1)), fun z => ?_, fun _ p hp => fo _ _ _ (.t (r1.cut _ _) hp)⟩
                have e2 : cutD ds lv hv = ds := cut_all (by rw [← r1.length]; exact z)
                rw [e2] at fo
                exact fo _ _ _ (.v (.tup e1 r1))
              | _ =>
                rw [hx] at q4
                cases q4
            refine ⟨sa, B, F, st, x, st1, h0, q1, fun sa1 F1 H1 v R1 p1 => ?_⟩
            cases x with
            | v d => exact ⟨sa1, B, F1, st1, lv, st2, R1.r, q2, fun sa2 F2 H2 R2 => ⟨sa2, B, F2, st2, hv, st', R2.r, q3, fun sa3 F3 H3 R3 => fin sa3 F3 H3 v ((R1.trans R2).trans R3) (.inl (Rp.mono (R2.x.le.trans R3.x.le) p1))⟩⟩
            | t d =>
              obtain ⟨a, o, rfl, t1, t2, t3, t4, t5, t6⟩ := p1
              have sb : Sub B (upd B a o) := Sub.new t3
              refine ⟨sa1, upd B a o, F1, st1, lv, st2, R1.r.prot t1 t3 t5 t6, q2, fun sa2 F2 H2 R2 => ⟨sa2, upd B a o, F2, st2, hv, st', R2.r, q3, fun sa3 F3 H3 R3 => ?_⟩⟩
              have R := R2.trans R3
              exact fin sa3 F3 H3 _ (R1.trans ⟨R.r.less sb, R.x.weak sb, R.k, R.s⟩) (.inr ⟨a, o, rfl, R.r.bh _ _ upd_same, t2.mono R.x.le⟩)
            | s i d =>
              refine ⟨sa1, B, F1, st1, lv, st2, R1.r, q2, fun sa2 F2 H2 R2 => ⟨sa2, B, F2, st2, hv, st', R2.r, q3, fun sa3 F3 H3 R3 => ?_⟩⟩
              have q := p1.2
              rcases hs.1 with hs | hs
              · obtain ⟨a, o, z1, z2, z3, _⟩ := R3.r.so i d hs
                rw [z1] at q
                exact fin sa3 F3 H3 v ((R1.trans R2).trans R3) (.inr ⟨a, o, (Option.some.inj (Option.some.inj q)).symm, z2, z3⟩)
              · obtain ⟨u, z1, z2⟩ := R3.r.sl i d hs
                rw [z1] at q
                have q' : u = v := Option.some.inj (Option.some.inj q)
                rw [q'] at z2
                exact fin sa3 F3 H3 v ((R1.trans R2).trans R3) (.inl z2)
        · rw [if_neg hs] at h1
          cases h1
end
end Pd
end
section
set_option linter.all false
set_option maxRecDepth 100000
/-! Pd, part E: displays, argument lists, built-in calls. -/
namespace Pd
open PySem PySem.Spec PyProof.Rows L2

/-! ### frozen values, lists of them -/
def tF (K : PySem.W.Frag) (m : S → R PyData) : TE := fun σ H Q => ∃ sa B F st d st', SR K sa B F H σ st ∧ m st = .ok d st' ∧ ∀ sa' F' H' v, Rch K B σ sa F st sa' F' H' st' → Rp F' v d → Q v H'
def tAL (K : PySem.W.Frag) (m : S → R (List PyData)) : TA := fun σ H Q => ∃ sa B F st ds st', SR K sa B F H σ st ∧ m st = .ok ds st' ∧ ∀ sa' F' H' vs, Rch K B σ sa F st sa' F' H' st' → RpL F' vs ds → Q vs H'
def mF (m : S → R Slot) : S → R PyData := fun st => match m st with
  | .ok (.v d) st' => .ok d st'
  | .ok (.o d) st' => .ok d st'
  | _ => .bad
def mNil : S → R (List PyData) := fun st => .ok [] st
def mCons (m : S → R PyData) (ms : S → R (List PyData)) : S → R (List PyData) := fun st => match m st with
  | .ok d st1 => match ms st1 with
    | .ok ds st2 => .ok (d :: ds) st2
    | .bad => .bad
  | .bad => .bad
def seqD : PyData → Option (List PyData)
  | .list ds => some ds
  | .tuple ds => some ds
  | _ => none
def mStar (m : S → R Opd) (ms : S → R (List PyData)) : S → R (List PyData) := fun st => match m st with
  | .ok x st1 => match seqD x.d with
    | some xs => match ms st1 with
      | .ok ds st2 => .ok (xs ++ ds) st2
      | .bad => .bad
    | none => .bad
  | .bad => .bad
def mTup (ms : S → R (List PyData)) : S → R Slot := fun st => match ms st with
  | .ok ds st1 => if okLen ds.length then .ok (.v (.tuple ds)) st1 else .bad
  | .bad => .bad
def mLst (ms : S → R (List PyData)) : S → R Slot := fun st => match ms st with
  | .ok ds st1 => if okLen ds.length then .ok (.o (.list ds)) st1 else .bad
  | .bad => .bad
section
variable {K : PySem.W.Frag} {X : Cx} {e : Expr} {es : List Expr} {m : S → R Slot} {mf : S → R PyData} {ms : S → R (List PyData)} {mp : S → R Opd} {pos p : Pos}
/-- a result is frozen -/
theorem Rch.frz {B : Hp} {σ : L2.St} {sa sa' : Sa} {F F' H' : Hp} {st st' : S} {v : V} {d : PyData} (R : Rch K B σ sa F st sa' F' H' st') (r : RRep sa' B F' H' σ st' v (.o d)) : ∃ F2, Rch K B σ sa F st sa' F2 H' st' ∧ Rp F2 v d := by
  obtain ⟨a, o, rfl, h1, h2, h3, h4, h5, h6⟩ := r
  exact ⟨upd F' a o, ⟨R.r.freeze h1 h4 h5 h6, R.x.trans (FX.own h3 h4), R.k, R.s⟩, h2.frz h4⟩
theorem r_F : ∀ σ H Q, tF K (mF m) σ H Q → tM K m σ H Q := fun σ H Q ⟨sa, B, F, st, d, st', h0, h1, k⟩ => by
  unfold mF at h1
  cases q : m st with
  | bad =>
    rw [q] at h1
    cases h1
  | ok r st1 =>
    rw [q] at h1
    cases r with
    | v d' =>
      cases h1
      exact ⟨sa, B, F, st, _, _, h0, q, fun sa' F' H' v R r => k sa' F' H' v R r⟩
    | o d' =>
      cases h1
      refine ⟨sa, B, F, st, _, _, h0, q, fun sa' F' H' v R r => ?_⟩
      obtain ⟨F2, R2, r2⟩ := R.frz r
      exact k sa' F2 H' v R2 r2
    | _ => cases h1
theorem f_of (h : PE X e (tM K m)) : PE X e (tF K (mF m)) := imE h r_F
theorem a_nil : PA X [] (tAL K mNil) := imA pa_nil fun σ H Q ⟨sa, B, F, st, d, st', h0, h1, k⟩ => by
  cases h1
  exact k sa F H [] (.refl h0) .nil
theorem a_cons (h : PE X e (tF K mf)) (h' : PA X es (tAL K ms)) (hs : starEach (e :: es) X.env = (false, eval e X.env) :: starEach es X.env := by rfl) : PA X (e :: es) (tAL K (mCons mf ms)) := imA (pa_cons h h' hs) fun σ H Q ⟨sa, B, F, st, d, st', h0, h1, k⟩ => by
  unfold mCons at h1
  cases q : mf st with
  | bad =>
    simp only [q] at h1
    cases h1
  | ok x st1 =>
    cases q2 : ms st1 with
    | bad =>
      simp only [q, q2] at h1
      cases h1
    | ok xs st2 =>
      simp only [q, q2] at h1
      cases h1
      exact ⟨sa, B, F, st, x, st1, h0, q, fun sa1 F1 H1 v R1 r1 => ⟨sa1, B, F1, st1, xs, _, R1.r, q2, fun sa2 F2 H2 vs R2 r2 => k sa2 F2 H2 (v :: vs) (R1.trans R2) (.cons (r1.mono R2.x.le) r2)⟩⟩
theorem a_star (h : PE X e (tP X.K mp)) (h' : PA X es (tAL X.K ms)) (hs : starEach (.Starred e p :: es) X.env = (true, eval e X.env) :: starEach es X.env := by rfl) : PA X (.Starred e p :: es) (tAL X.K (mStar mp ms)) := imA (StX.pa_star h h' hs) fun σ H Q ⟨sa, B, F, st, d, st', h0, h1, k⟩ => by
  unfold mStar at h1
  cases q : mp st with
  | bad =>
    simp only [q] at h1
    cases h1
  | ok x st1 =>
    cases q2 : seqD x.d with
    | none =>
      simp only [q, q2] at h1
      cases h1
    | some xs =>
      cases q3 : ms st1 with
      | bad =>
        simp only [q, q2, q3] at h1
        cases h1
      | ok ds st2 =>
        simp only [q, q2, q3] at h1
        cases h1
        refine ⟨sa, B, F, st, x, st1, h0, q, fun sa1 F1 H1 v R1 p1 => ?_⟩
        have rd := p1.rd R1.r
        have fin : ∀ vs, RpL F1 vs xs → tAL X.K ms σ H1 fun ys H2 => Q (vs ++ ys) H2 := fun vs rv => ⟨sa1, B, F1, st1, ds, _, R1.r, q3, fun sa2 F2 H2 ws R2 r2 => k sa2 F2 H2 (vs ++ ws) (R1.trans R2) ((rv.mono R2.x.le).append r2)⟩
        cases hx : x.d with
        | list ys =>
          rw [hx] at q2 rd
          cases q2
          obtain ⟨a, vs, rfl, e1, r1⟩ := rd.lst R1.r.fh
          exact ⟨a, vs, rfl, .inr (.inl (.inl e1)), fin vs r1⟩
        | tuple ys =>
          rw [hx] at q2 rd
          cases q2
          obtain ⟨a, vs, rfl, e1, r1⟩ := rd.tup R1.r.fh
          exact ⟨a, vs, rfl, .inl (.inl (.inl (R1.r.fh _ _ e1))), fin vs r1⟩
        | _ =>
          rw [hx] at q2
          cases q2
theorem d_tup {x1} (h : PA X es (tAL K ms)) : PE X (.Tuple es x1 pos) (tM K (mTup ms)) := imE (pe_tup h) fun σ H Q ⟨sa, B, F, st, d, st', h0, h1, k⟩ => by
  unfold mTup at h1
  cases q : ms st with
  | bad =>
    simp only [q] at h1
    cases h1
  | ok ds st1 =>
    simp only [q] at h1
    split at h1
    · rename_i hz
      cases h1
      refine ⟨sa, B, F, st, ds, _, h0, q, fun sa1 F1 H1 vs R1 r1 => ⟨by rw [r1.length]; exact okLen_le hz, fun p hp => ?_⟩⟩
      obtain ⟨a, b⟩ := R1.out (.t r1 hp)
      exact k _ _ _ _ a b
    · cases h1
theorem d_lst (h : PA X es (tAL K ms)) : PE X (.List es pos) (tM K (mLst ms)) := imE (pe_lst h) fun σ H Q ⟨sa, B, F, st, d, st', h0, h1, k⟩ => by
  unfold mLst at h1
  cases q : ms st with
  | bad =>
    simp only [q] at h1
    cases h1
  | ok ds st1 =>
    simp only [q] at h1
    split at h1
    · rename_i hz
      cases h1
      refine ⟨sa, B, F, st, ds, _, h0, q, fun sa1 F1 H1 vs R1 r1 => ⟨by rw [r1.length]; exact okLen_le hz, fun p hp => ?_⟩⟩
      obtain ⟨a, b⟩ := R1.out (.o (.lst r1) hp)
      exact k _ _ _ _ a b
    · cases h1
end

/-! ### built-in calls -/
/-- f(x) is worth g -/
def CD1 (X : Cx) (f : Value) (g : PyData → Option Slot) : Prop := CallR X f fun vs H Q => ∃ F x dx s, vs = [x] ∧ Sub F H ∧ RdD F H x dx ∧ g dx = some s ∧ ∀ v F' H', Out F H s v F' H' → Q v H'
def CD2 (X : Cx) (f : Value) (g : PyData → PyData → Option Slot) : Prop := CallR X f fun vs H Q => ∃ F x y dx dy s, vs = [x, y] ∧ Sub F H ∧ RdD F H x dx ∧ RdD F H y dy ∧ g dx dy = some s ∧ ∀ v F' H', Out F H s v F' H' → Q v H'
/-- isinstance(x, T) -/
def CDT (X : Cx) (T : String) (g : PyData → Option Slot) : Prop := CallR X (.builtin "isinstance") fun vs H Q => ∃ F x dx s, vs = [x, .ty T] ∧ Sub F H ∧ RdD F H x dx ∧ g dx = some s ∧ ∀ v F' H', Out F H s v F' H' → Q v H'
section
variable {X : Cx} {x : Str} {p p' pos : Pos} {e e' : Expr} {m m' : S → R Opd} {id T : String} {g : PyData → Option Slot} {g' : PyData → PyData → Option Slot} {tT : Str}
theorem d_b1 (hc : CD1 X (.builtin id) g) (hg : Gl X x) (hm : X.mg x = none) (hv : bootBuiltins x = some (.builtin id)) (he : PE X e (tP X.K m)) (hn : x ≠ "__name__" := by decide) (hdb : (x == ("__debug__" : Str)) = false := by decide)
    (hs : starEach (e :: []) X.env = (false, eval e X.env) :: starEach [] X.env := by rfl) (hpl : (backTo pos (starEach [] X.env)).any (·.1) = false := by rfl) : PE X (.Call (.Name x p) [e] [] pos) (tM X.K (m1 g m)) :=
  imE (pe_callB hc hg hm hv (pa_cons he pa_nil hs) hn hdb hs hpl) (r_1 fun F H x dx s Q sb rx q k => ⟨F, x, dx, s, rfl, sb, rx, q, k⟩)
theorem d_t1 (hc : CD1 X (.type T) g) (hg : Gl X x) (hm : X.mg x = none) (hv : bootBuiltins x = some (.type T)) (he : PE X e (tP X.K m)) (hn : x ≠ "__name__" := by decide) (hdb : (x == ("__debug__" : Str)) = false := by decide)
    (hs : starEach (e :: []) X.env = (false, eval e X.env) :: starEach [] X.env := by rfl) (hpl : (backTo pos (starEach [] X.env)).any (·.1) = false := by rfl) : PE X (.Call (.Name x p) [e] [] pos) (tM X.K (m1 g m)) :=
  imE (pe_callTy hc hg hm hv (pa_cons he pa_nil hs) hn hdb hs hpl) (r_1 fun F H x dx s Q sb rx q k => ⟨F, x, dx, s, rfl, sb, rx, q, k⟩)
theorem d_b2 (hc : CD2 X (.builtin id) g') (hg : Gl X x) (hm : X.mg x = none) (hv : bootBuiltins x = some (.builtin id)) (he : PE X e (tP X.K m)) (he' : PE X e' (tP X.K m')) (hn : x ≠ "__name__" := by decide) (hdb : (x == ("__debug__" : Str)) = false := by decide)
    (hs : starEach (e :: [e']) X.env = (false, eval e X.env) :: starEach [e'] X.env := by rfl) (hs2 : starEach (e' :: []) X.env = (false, eval e' X.env) :: starEach [] X.env := by rfl) (hpl : (backTo pos (starEach [e'] X.env)).any (·.1) = false := by rfl) : PE X (.Call (.Name x p) [e, e'] [] pos) (tM X.K (m2 g' m m')) :=
  imE (pe_callB hc hg hm hv (pa_cons he (pa_cons he' pa_nil hs2) hs) hn hdb hs hpl) (r_2 (r := fun x y H Q => (fun vs H Q => ∃ F x y dx dy s, vs = [x, y] ∧ Sub F H ∧ RdD F H x dx ∧ RdD F H y dy ∧ g' dx dy = some s ∧ ∀ v F' H', Out F H s v F' H' → Q v H') [x, y] H Q) fun F H x y dx dy s Q sb rx ry q k => ⟨F, x, y, dx, dy, s, rfl, sb, rx, ry, q, k⟩)
theorem d_isi (hc : CDT X T g) (hg : Gl X "isinstance") (hm : X.mg "isinstance" = none) (hgT : Gl X tT) (hmT : X.mg tT = none) (hvT : bootBuiltins tT = some (.type T)) (he : PE X e (tP X.K m)) (hnT : tT ≠ "__name__" := by decide) (hdT : (tT == ("__debug__" : Str)) = false := by decide)
    (hs : starEach (e :: [.Name tT p']) X.env = (false, eval e X.env) :: starEach [.Name tT p'] X.env := by rfl) (hs2 : starEach [.Name tT p'] X.env = (false, eval (.Name tT p') X.env) :: starEach [] X.env := by rfl) (hpl : (backTo pos (starEach [.Name tT p'] X.env)).any (·.1) = false := by rfl) :
    PE X (.Call (.Name "isinstance" p) [e, .Name tT p'] [] pos) (tM X.K (m1 g m)) :=
  imE (pe_callB hc hg hm (by decide +kernel) (pa_cons he (pa_cons (pe_bltn hgT hmT hvT (v := .ty T) rfl hnT hdT) pa_nil hs2) hs) (by decide) (by decide) hs hpl) (r_1 fun F H x dx s Q sb rx q k => ⟨F, x, dx, s, rfl, sb, rx, q, k⟩)
end

def gLen : PyData → Option Slot
  | .list ds => some (.v (.int ds.length))
  | .tuple ds => some (.v (.int ds.length))
  | .dict ds => some (.v (.int ds.length))
  | .str z => if okLen z.length then some (.v (.int z.length)) else none
  | _ => none
def gTuple : PyData → Option Slot
  | .list ds => some (.v (.tuple ds))
  | .tuple ds => some (.v (.tuple ds))
  | _ => none
def gList : PyData → Option Slot
  | .list ds => some (.o (.list ds))
  | .tuple ds => some (.o (.list ds))
  | _ => none
def gInt : PyData → Option Slot
  | .int i => some (.v (.int i))
  | .bool b => some (.v (.int (if b then 1 else 0)))
  | _ => none
def gAbs : PyData → Option Slot
  | .int i => some (.v (.int (if i < 0 then -i else i)))
  | _ => none
def gNeg : PyData → Option Slot
  | .int i => some (.v (.int (-i)))
  | _ => none
def gStr : PyData → Option Slot
  | .int i => if decide (i.natAbs.log2 < 1920) then some (.v (.str (toString i))) else none
  | _ => none
def reprOk (d : PyData) : Bool := d.showable && (!d.hasDict || noList d) && decide (d.depth ≤ 60) && okLen d.shown.length
def gRepr (d : PyData) : Option Slot := if reprOk d then some (.v (.str d.shown)) else none
def intsD : List PyData → Option (List Int)
  | [] => some []
  | .int i :: ds => (intsD ds).map (i :: ·)
  | _ => none
def gSum : PyData → Option Slot
  | .list ds => (intsD ds).map fun ns => .v (.int ns.sum)
  | .tuple ds => (intsD ds).map fun ns => .v (.int ns.sum)
  | _ => none
def alikeB (ds : List PyData) : Bool := ds.all (fun d => ds.all fun e => PySem.W.alike d e) && ds.all (fun d => !isNone d) && decide (PyData.depthAll ds ≤ 60)
def gMin : PyData → Option Slot
  | .list (d :: ds) => if alikeB (d :: ds) then some (.v (PySem.W.minD d ds)) else none
  | .tuple (d :: ds) => if alikeB (d :: ds) then some (.v (PySem.W.minD d ds)) else none
  | _ => none
def gMax : PyData → Option Slot
  | .list (d :: ds) => if alikeB (d :: ds) then some (.v (PySem.W.maxD d ds)) else none
  | .tuple (d :: ds) => if alikeB (d :: ds) then some (.v (PySem.W.maxD d ds)) else none
  | _ => none
def gMin2 : PyData → PyData → Option Slot
  | .int i, .int j => some (.v (.int (if j < i then j else i)))
  | _, _ => none
def gMax2 : PyData → PyData → Option Slot
  | .int i, .int j => some (.v (.int (if j > i then j else i)))
  | _, _ => none
def smallD : PyData → Bool
  | .str x => decide ((x.length : Int) < 2 ^ 63)
  | .list xs => decide ((xs.length : Int) < 2 ^ 63)
  | .tuple xs => decide ((xs.length : Int) < 2 ^ 63)
  | _ => true
def gAll : PyData → Option Slot
  | .list ds => if PyData.plainAll ds && ds.all smallD then some (.v (.bool (ds.all PyData.truthy))) else none
  | .tuple ds => if PyData.plainAll ds && ds.all smallD then some (.v (.bool (ds.all PyData.truthy))) else none
  | _ => none
def gAny : PyData → Option Slot
  | .list ds => if PyData.plainAll ds && ds.all smallD then some (.v (.bool (ds.any PyData.truthy))) else none
  | .tuple ds => if PyData.plainAll ds && ds.all smallD then some (.v (.bool (ds.any PyData.truthy))) else none
  | _ => none
def sortB (ds : List PyData) : Bool := ds.all (fun d => ds.all fun e => PySem.W.alike d e) && (ds.all (fun d => match d with | .tuple (_ :: _) => true | _ => false) || ds.all (fun d => match d with | .none => false | .tuple _ => false | _ => true)) && ds.all (fun d => decide (d.depth ≤ 60))
def sortD (ds : List PyData) : List PyData := ds.mergeSort (PySem.W.dataLe false id)
def gSorted : PyData → Option Slot
  | .list ds => if sortB ds then some (.o (.list (sortD ds))) else none
  | .tuple ds => if sortB ds then some (.o (.list (sortD ds))) else none
  | _ => none
section
variable {X : Cx}
theorem cd_of1 {f : Value} {g : PyData → Option Slot} (h : ∀ (pins : List (Addr × Obj)) (s : Shared) (σ : L2.St) (H F : Hp) (x : V) (u : Value) (dx : PyData) (sl : Slot) (Q : VK), Inv X pins σ H s → RelV x u → Sub F H → RdD F H x dx → g dx = some sl → (∀ v F' H', Out F H sl v F' H' → Q v H') →
    wpAny (model X.prog X.w) X.A (call f [u]) (EP X pins σ Q) X.xe s) : CD1 X f g := fun pins s σ H xs us Q I r ⟨F, x, dx, sl, e, sb, rx, q, k⟩ => by
  subst e
  cases r with
  | cons r1 r2 =>
    cases r2
    exact h pins s σ H F x _ dx sl Q I r1 sb rx q k
/-- by a rule over values -/
theorem cd_ofR {f : Value} {g : PyData → Option Slot} {r : List V → Hp → VK → Prop} (h : CallR X f r) (i : ∀ (F H : Hp) (x : V) (dx : PyData) (sl : Slot) (Q : VK), Sub F H → RdD F H x dx → g dx = some sl → (∀ v F' H', Out F H sl v F' H' → Q v H') → r [x] H Q) : CD1 X f g :=
  fun pins s σ H xs us Q I rr ⟨F, x, dx, sl, e, sb, rx, q, k⟩ => by
    subst e
    exact h pins s σ H [x] us Q I rr (i F H x dx sl Q sb rx q k)
theorem RdD.dct {F H : Hp} {v : V} {kvs : List (PyData × PyData)} (s : Sub F H) (h : RdD F H v (.dict kvs)) : ∃ a, v = .ref a ∧ ((∃ ps, H a = some (.dK ps) ∧ RpK F ps kvs) ∨ ∃ ps, H a = some (.dT ps) ∧ RpT F ps kvs) := by
  rcases h with h | ⟨a, o, e, h1, h2⟩
  · cases h with
    | dK e r => exact ⟨_, rfl, .inl ⟨_, s _ _ e, r⟩⟩
    | dT e r => exact ⟨_, rfl, .inr ⟨_, s _ _ e, r⟩⟩
  · cases h2 with
    | dK r => exact ⟨_, e, .inl ⟨_, h1, r⟩⟩
    | dT r => exact ⟨_, e, .inr ⟨_, h1, r⟩⟩
theorem RpK.len {F : Hp} {ps : List (Key × V)} {kvs : List (PyData × PyData)} (h : RpK F ps kvs) : ps.length = kvs.length := by
  have := congrArg List.length h.keys
  simpa using this.symm
theorem RpT.len {F : Hp} {ps : List (List Key × V)} {kvs : List (PyData × PyData)} (h : RpT F ps kvs) : ps.length = kvs.length := by
  have := congrArg List.length h.keys
  simpa using this.symm
theorem c_len : CD1 X (.builtin "len") gLen := by
  refine cd_of1 fun pins s σ H F x u dx sl Q I r sb rx q k => ?_
  unfold gLen at q
  split at q
  · cases q
    obtain ⟨a, xs, rfl, e1, r1⟩ := rx.lst sb
    exact call_len_seq pins s σ H [.ref a] [u] Q I (.cons r .nil) ⟨a, xs, rfl, .inl (.inl (.inl e1)), by rw [r1.length]; exact k _ _ _ (.v (.int _))⟩
  · cases q
    obtain ⟨a, xs, rfl, e1, r1⟩ := rx.tup sb
    exact call_len_seq pins s σ H [.ref a] [u] Q I (.cons r .nil) ⟨a, xs, rfl, .inr (.inl (.inl (sb _ _ e1))), by rw [r1.length]; exact k _ _ _ (.v (.int _))⟩
  · cases q
    obtain ⟨a, rfl, ⟨ps, e1, r1⟩ | ⟨ps, e1, r1⟩⟩ := rx.dct sb
    · exact call_lenD pins s σ H [.ref a] [u] Q I (.cons r .nil) ⟨a, ps, rfl, e1, by rw [r1.len]; exact k _ _ _ (.v (.int _))⟩
    · exact call_len_dT pins s σ H [.ref a] [u] Q I (.cons r .nil) ⟨a, ps, rfl, e1, by rw [r1.len]; exact k _ _ _ (.v (.int _))⟩
  · split at q
    · rename_i hz
      cases q
      rw [rx.str] at r
      exact call_len_str pins s σ H [_] [u] Q I (.cons r .nil) ⟨_, rfl, okLen_le hz, k _ _ _ (.v (.int _))⟩
    · cases q
  · cases q
theorem c_tuple : CD1 X (.type "tuple") gTuple := cd_ofR call_tuple_of fun F H x dx sl Q sb rx q k => by
  unfold gTuple at q
  split at q
  · cases q
    obtain ⟨a, xs, rfl, e1, r1⟩ := rx.lst sb
    exact ⟨a, xs, rfl, .inl ⟨.inl (.inl e1), fun l hl => k _ _ _ (.t r1 hl)⟩⟩
  · cases q
    obtain ⟨a, xs, rfl, e1, r1⟩ := rx.tup sb
    exact ⟨a, xs, rfl, .inr ⟨.inl (.inl (sb _ _ e1)), k _ _ _ (.v (.tup e1 r1))⟩⟩
  · cases q
theorem c_list : CD1 X (.type "list") gList := cd_ofR call_list_of fun F H x dx sl Q sb rx q k => by
  unfold gList at q
  split at q
  · cases q
    obtain ⟨a, xs, rfl, e1, r1⟩ := rx.lst sb
    exact ⟨a, xs, rfl, .inl (.inl (.inl e1)), fun l hl => k _ _ _ (.o (.lst r1) hl)⟩
  · cases q
    obtain ⟨a, xs, rfl, e1, r1⟩ := rx.tup sb
    exact ⟨a, xs, rfl, .inr (.inl (.inl (sb _ _ e1))), fun l hl => k _ _ _ (.o (.lst r1) hl)⟩
  · cases q
theorem c_int : CD1 X (.type "int") gInt := cd_ofR call_int1 fun F H x dx sl Q sb rx q k => by
  unfold gInt at q
  split at q
  · cases q
    rw [rx.int]
    exact .inl ⟨_, rfl, k _ _ _ (.v (.int _))⟩
  · cases q
    rw [rx.bl]
    exact .inr ⟨_, rfl, k _ _ _ (.v (.int _))⟩
  · cases q
theorem c_abs : CD1 X (.builtin "abs") gAbs := cd_ofR call_abs fun F H x dx sl Q sb rx q k => by
  unfold gAbs at q
  split at q
  · cases q
    rw [rx.int]
    exact ⟨_, rfl, k _ _ _ (.v (.int _))⟩
  · cases q
theorem c_str : CD1 X (.type "str") gStr := cd_ofR call_str_int fun F H x dx sl Q sb rx q k => by
  unfold gStr at q
  split at q
  · split at q
    · rename_i hz
      cases q
      rw [rx.int]
      exact ⟨_, rfl, of_decide_eq_true hz, k _ _ _ (.v (.str _))⟩
    · cases q
  · cases q
theorem u_neg {K : PySem.W.Frag} {a : Expr} {m : S → R Opd} {pos : Pos} (h : PE X a (tP K m)) : PE X (.UnaryOp .USub a pos) (tM K (m1 gNeg m)) := imE (pe_un un_neg h) (r_1 fun F H x dx sl Q sb rx q k => by
  unfold gNeg at q
  split at q
  · cases q
    rw [rx.int]
    exact ⟨_, rfl, k _ _ _ (.v (.int _))⟩
  · cases q)
theorem c_repr (hg : X.A.guards = some []) (hu : X.A.units + 64 < cLine) : CD1 X (.builtin "repr") gRepr := by
  refine cd_of1 fun pins s σ H F x u dx sl Q I r sb rx q k => ?_
  unfold gRepr at q
  split at q
  · rename_i hz
    cases q
    unfold reprOk at hz
    simp only [Bool.and_eq_true, decide_eq_true_eq] at hz
    obtain ⟨⟨⟨h1, h2⟩, h3⟩, h4⟩ := hz
    have fin : ∀ h' tk t', (∀ b o, s.heap.get? b = some o → h'.get? b = some o) → EP X pins σ Q (.str dx.shown t') { s with heap := h', toks := tk } := fun h' tk t' hk => ⟨.str dx.shown, H, I.kept hk, ⟨_, rfl⟩, k _ _ _ (.v (.str _))⟩
    have obj : ∀ a, x = .ref a → wpAny (model X.prog X.w) X.A (call (.builtin "repr") [u]) (EP X pins σ Q) X.xe s := fun a e => by
      obtain ⟨as, hr, hn⟩ := rx.readsZ I sb r
      rw [e] at r
      cases r
      refine repr_of_reads' hr h1 (fun hd => hn (by
        rw [hd] at h2
        simpa using h2)) hg (by omega) (fun _ _ q => q) (fun h' u' tk hk => fin h' tk u' hk) (okLen_le h4)
    rcases rx with rx | ⟨a, o, e, _⟩
    · cases rx with
      | non =>
        cases r
        exact PySem.P.repr_of_none (fin s.heap (s.toks + 1) s.toks fun _ _ q => q)
      | bl b =>
        cases r
        exact PySem.P.repr_of_bool (fin s.heap (s.toks + 1) s.toks fun _ _ q => q)
      | int i =>
        obtain ⟨t, rfl⟩ := r
        exact PySem.P.repr_of_int (by simpa [PyData.showable] using h1) (fin s.heap (s.toks + 1) s.toks fun _ _ q => q)
      | str z =>
        obtain ⟨t, rfl⟩ := r
        exact PySem.P.repr_of_str (fin s.heap (s.toks + 1) s.toks fun _ _ q => q) (okLen_le h4)
      | lst _ _ => exact obj _ rfl
      | tup _ _ => exact obj _ rfl
      | dK _ _ => exact obj _ rfl
      | dT _ _ => exact obj _ rfl
    · exact obj a e
  · cases q
end
end Pd
end
section
set_option linter.all false
set_option maxRecDepth 100000
/-! Pd, part F: sum, min, max, all, any, sorted, isinstance, list(range(..)). -/
namespace Pd
open PySem PySem.Spec PyProof.Rows L2

section
variable {X : Cx}
theorem ints_rp {F : Hp} : ∀ {ds : List PyData} {ns : List Int} {vs : List V}, intsD ds = some ns → RpL F vs ds → vs = ns.map V.int
  | [], ns, vs, h, r => by
    cases h
    cases r
    rfl
  | d :: ds, ns, vs, h, r => by
    cases r with
    | cons a b =>
      cases d with
      | int i =>
        obtain ⟨ms, h1, rfl⟩ := Option.map_eq_some_iff.mp (show (intsD ds).map (i :: ·) = some ns from h)
        cases a
        rw [ints_rp h1 b]
        rfl
      | _ => cases h
/-- sum of a tuple of ints -/
theorem sum_tup {P : Program} {w : World} {A : Around} {E : Value → Shared → Prop} {s : Shared} {l : Addr} {its : Array Value} {ns : List Int} {Q : Value → Shared → Prop} (hh : A.handled = none) (hl : s.heap.IsTuple l its) (hi : IntsAre its.toList ns)
    (h : ∀ h' tk t', (∀ b o, s.heap.get? b = some o → h'.get? b = some o) → Q (.int ns.sum t') { s with heap := h', toks := tk }) : wpAny (model P w) A (call (.builtin "sum") [.ref l]) Q E s := by
  obtain ⟨xs, e⟩ := hi.allInts.items
  have e' : its = intItems xs := by simpa using e
  subst e'
  have hn : numsOf (intItems xs).toList = ns := hi.numsOf
  rw [nums_intItems] at hn
  have hlt : l < s.heap.objs.size := by
    obtain ⟨_, z, _⟩ := hl
    exact Heap.lt_size z
  refine call_sum_walkG (wpAny_pyIter_tuple hl ?_)
  refine ⟨_, _, _, _, _, _, numAt xs, rfl, Walks.tuple (A := A.in1) hh _ l (Nat.ne_of_lt hlt) (intItems xs), ⟨⟨_, Heap.get?_push_size _ rfl, rfl, rfl⟩, hl.push _⟩, fun b hb => ?_, fun _ _ => intItems_at, fun h' tk t' hk => ?_⟩
  · show b < (s.heap.push _).objs.size
    rw [Heap.size_push]
    rcases List.mem_cons.mp hb with rfl | hb
    · exact Nat.lt_succ_self _
    · rcases List.mem_cons.mp hb with rfl | hb
      · exact Nat.lt_succ_of_lt hlt
      · cases hb
  · have q := h h' tk t' fun b o z => hk b o (fun m => absurd (Heap.lt_size z) (by
      rw [List.mem_singleton.mp m]
      exact Nat.lt_irrefl _)) (Heap.get?_push_of_some _ z)
    have e2 : preSum (numAt xs) (intItems xs).size = ns.sum := by
      rw [preSum_eq, hn, List.take_of_length_le]
      rw [← hn]
      simp [intItems]
    rw [e2]
    exact q
theorem c_sum (hc : X.calm = true) : CD1 X (.builtin "sum") gSum := by
  refine cd_of1 fun pins s σ H F x u dx sl Q I r sb rx q k => ?_
  unfold gSum at q
  split at q
  · obtain ⟨ns, h1, rfl⟩ := Option.map_eq_some_iff.mp q
    obtain ⟨a, xs, rfl, e1, r1⟩ := rx.lst sb
    have e2 := ints_rp h1 r1
    subst e2
    exact cr_sum hc pins s σ H [.ref a] [u] Q I (.cons r .nil) ⟨a, ns, rfl, .inl (.inl e1), k _ _ _ (.v (.int _))⟩
  · obtain ⟨ns, h1, rfl⟩ := Option.map_eq_some_iff.mp q
    obtain ⟨a, xs, rfl, e1, r1⟩ := rx.tup sb
    have e2 := ints_rp h1 r1
    subst e2
    obtain ⟨its, rv, ht, _⟩ := I.tuple (.inl (.inl (sb _ _ e1)))
    cases r
    exact sum_tup (I.ok.hd hc) (show s.heap.IsTuple a its.toArray from ht) (by simpa using Vals.ints rv) fun h' tk t' hk => ⟨.int ns.sum, H, I.kept hk, ⟨_, rfl⟩, k _ _ _ (.v (.int _))⟩
  · cases q

/-! ### least, greatest, all, any -/
theorem readsAll_len' {h : Heap} : ∀ {vs : List Value} {ds : List PyData} {as : List Addr}, ReadsAll h vs ds as → vs.length = ds.length
  | _, _, _, .nil => rfl
  | _, _, _, .cons _ t => congrArg Nat.succ (readsAll_len' t)
/-- a value that reads the same as a member stands for it -/
theorem alikeB_ok {ds : List PyData} (h : alikeB ds = true) : PySem.W.AlikeAll ds ∧ PyData.depthAll ds ≤ 60 := by
  unfold alikeB at h
  simp only [Bool.and_eq_true, List.all_eq_true, decide_eq_true_eq] at h
  refine ⟨⟨fun x hx y hy => h.1.1 x hx y hy, fun x hx z => ?_⟩, h.2⟩
  have := h.1.2 x hx
  rw [z] at this
  cases this
theorem alike_self_plain : ∀ d : PyData, PySem.W.alike d d = true → d.plain = true
  | .none, _ => rfl
  | .bool _, _ => rfl
  | .int _, _ => rfl
  | .str _, _ => rfl
  | .list xs, h => by
    rw [PyData.plain]
    exact alike_selfs xs (by simpa [PySem.W.alike] using h)
  | .tuple xs, h => by
    rw [PyData.plain]
    exact alike_selfs xs (by simpa [PySem.W.alike] using h)
  | .dict _, h => by simp [PySem.W.alike] at h
where alike_selfs : ∀ ds : List PyData, PySem.W.alikeAll ds ds = true → PyData.plainAll ds = true
  | [], _ => rfl
  | d :: ds, h => by
    rw [PySem.W.alikeAll, Bool.and_eq_true] at h
    rw [PyData.plainAll, alike_self_plain d h.1, alike_selfs ds h.2]
    rfl
/-- an item's data by what it reads -/
theorem item_is {pins : List (Addr × Obj)} {s : Shared} {σ : L2.St} {H F : Hp} (I : Inv X pins σ H s) (sb : Sub F H) {vs : List V} {ds : List PyData} {us : List Value} {i : Nat} {v : Value} {d : PyData} {as : List Addr} {h' : Heap} (r : RpL F vs ds) (rv : Vals vs us) (hv : us[i]? = some v)
    (hr : Reads h' v d as) (hk : ∀ b o, s.heap.get? b = some o → h'.get? b = some o) (hp : d.plain = true) : ∃ x, vs[i]? = some x ∧ RelV x v ∧ Rp F x d := by
  have hi : i < us.length := (List.getElem?_eq_some_iff.mp hv).1
  have hi' : i < vs.length := by
    rw [rv.length]
    exact hi
  obtain ⟨u, h1, h2⟩ := rv.get (List.getElem?_eq_getElem hi')
  rw [hv] at h1
  cases h1
  obtain ⟨e, h3, h4⟩ := r.of_get (List.getElem?_eq_getElem hi')
  obtain ⟨bs, hr2, _⟩ := h4.readsN I sb _ e _ v (Nat.lt_succ_self _) h2
  have := PySem.SeqAt.plain_unique d e v as bs hp hr (PyProof.Rows.Reads.keeps hk hr2)
  subst this
  exact ⟨_, List.getElem?_eq_getElem hi', h2, h4⟩
theorem minD_mem (x : PyData) : ∀ xs : List PyData, PySem.W.minD x xs ∈ x :: xs := by
  intro xs
  unfold PySem.W.minD
  have : ∀ (l : List PyData) (a : PyData), l.foldl (fun a y => if PySem.W.dataLt y a then y else a) a = a ∨ l.foldl (fun a y => if PySem.W.dataLt y a then y else a) a ∈ l := by
    intro l
    induction l with
    | nil => exact fun a => .inl rfl
    | cons y l ih =>
      intro a
      rw [List.foldl_cons]
      rcases ih (if PySem.W.dataLt y a then y else a) with h | h
      · rw [h]
        split
        · exact .inr (by simp)
        · exact .inl rfl
      · exact .inr (by simp [h])
  rcases this xs x with h | h
  · rw [h]
    simp
  · simp [h]
theorem maxD_mem (x : PyData) : ∀ xs : List PyData, PySem.W.maxD x xs ∈ x :: xs := by
  intro xs
  unfold PySem.W.maxD
  have : ∀ (l : List PyData) (a : PyData), l.foldl (fun a y => if PySem.W.dataLt a y then y else a) a = a ∨ l.foldl (fun a y => if PySem.W.dataLt a y then y else a) a ∈ l := by
    intro l
    induction l with
    | nil => exact fun a => .inl rfl
    | cons y l ih =>
      intro a
      rw [List.foldl_cons]
      rcases ih (if PySem.W.dataLt a y then y else a) with h | h
      · rw [h]
        split
        · exact .inr (by simp)
        · exact .inl rfl
      · exact .inr (by simp [h])
  rcases this xs x with h | h
  · rw [h]
    simp
  · simp [h]
theorem alike_plain {ds : List PyData} (h : PySem.W.AlikeAll ds) {d : PyData} (m : d ∈ ds) : d.plain = true := alike_self_plain d (h.1 d m d m)
theorem c_min (hc : X.calm = true) (hu : X.A.units + 64 < cLine) : CD1 X (.builtin "min") gMin := by
  refine cd_of1 fun pins s σ H F x u dx sl Q I r sb rx q k => ?_
  unfold gMin at q
  split at q
  · rename_i d ds
    split at q
    · rename_i hz
      cases q
      obtain ⟨h1, h2⟩ := alikeB_ok hz
      obtain ⟨a, xs, rfl, e1, r1⟩ := rx.lst sb
      obtain ⟨its, rv, hl, _⟩ := I.list (.inl (.inl e1))
      obtain ⟨as, hr, _⟩ := RpL.reads I sb _ _ its r1 rv
      cases r
      refine PySem.W.min_list_data (I.ok.hd hc) hl.isList (by simpa using hr) h1 (by omega) fun i v h' tk bs hv hr' hk => ?_
      obtain ⟨y, _, h4, h5⟩ := item_is I sb r1 rv (by simpa using hv) hr' hk (alike_plain h1 (minD_mem d ds))
      exact ⟨y, H, I.kept hk, h4, k _ _ _ (.v h5)⟩
    · cases q
  · rename_i d ds
    split at q
    · rename_i hz
      cases q
      obtain ⟨h1, h2⟩ := alikeB_ok hz
      obtain ⟨a, xs, rfl, e1, r1⟩ := rx.tup sb
      obtain ⟨its, rv, hl, _⟩ := I.tuple (.inl (.inl (sb _ _ e1)))
      obtain ⟨as, hr, _⟩ := RpL.reads I sb _ _ its r1 rv
      cases r
      refine PySem.W.min_tuple_data (I.ok.hd hc) (show s.heap.IsTuple a its.toArray from hl) (by simpa using hr) h1 (by omega) fun i v h' tk bs hv hr' hk => ?_
      obtain ⟨y, _, h4, h5⟩ := item_is I sb r1 rv (by simpa using hv) hr' hk (alike_plain h1 (minD_mem d ds))
      exact ⟨y, H, I.kept hk, h4, k _ _ _ (.v h5)⟩
    · cases q
  · cases q
theorem c_max (hc : X.calm = true) (hu : X.A.units + 64 < cLine) : CD1 X (.builtin "max") gMax := by
  refine cd_of1 fun pins s σ H F x u dx sl Q I r sb rx q k => ?_
  unfold gMax at q
  split at q
  · rename_i d ds
    split at q
    · rename_i hz
      cases q
      obtain ⟨h1, h2⟩ := alikeB_ok hz
      obtain ⟨a, xs, rfl, e1, r1⟩ := rx.lst sb
      obtain ⟨its, rv, hl, _⟩ := I.list (.inl (.inl e1))
      obtain ⟨as, hr, _⟩ := RpL.reads I sb _ _ its r1 rv
      cases r
      refine PySem.W.max_list_data (I.ok.hd hc) hl.isList (by simpa using hr) h1 (by omega) fun i v h' tk bs hv hr' hk => ?_
      obtain ⟨y, _, h4, h5⟩ := item_is I sb r1 rv (by simpa using hv) hr' hk (alike_plain h1 (maxD_mem d ds))
      exact ⟨y, H, I.kept hk, h4, k _ _ _ (.v h5)⟩
    · cases q
  · rename_i d ds
    split at q
    · rename_i hz
      cases q
      obtain ⟨h1, h2⟩ := alikeB_ok hz
      obtain ⟨a, xs, rfl, e1, r1⟩ := rx.tup sb
      obtain ⟨its, rv, hl, _⟩ := I.tuple (.inl (.inl (sb _ _ e1)))
      obtain ⟨as, hr, _⟩ := RpL.reads I sb _ _ its r1 rv
      cases r
      refine PySem.W.max_tuple_data (I.ok.hd hc) (show s.heap.IsTuple a its.toArray from hl) (by simpa using hr) h1 (by omega) fun i v h' tk bs hv hr' hk => ?_
      obtain ⟨y, _, h4, h5⟩ := item_is I sb r1 rv (by simpa using hv) hr' hk (alike_plain h1 (maxD_mem d ds))
      exact ⟨y, H, I.kept hk, h4, k _ _ _ (.v h5)⟩
    · cases q
  · cases q
theorem c_min2 (hc : X.calm = true) : CD2 X (.builtin "min") gMin2 := fun pins s σ H xs us Q I rr ⟨F, x, y, dx, dy, sl, e, sb, rx, ry, q, k⟩ => by
  subst e
  unfold gMin2 at q
  split at q
  · cases q
    rw [rx.int, ry.int] at rr
    exact call_min2 hc pins s σ H _ us Q I rr ⟨_, _, rfl, k _ _ _ (.v (.int _))⟩
  · cases q
theorem c_max2 (hc : X.calm = true) : CD2 X (.builtin "max") gMax2 := fun pins s σ H xs us Q I rr ⟨F, x, y, dx, dy, sl, e, sb, rx, ry, q, k⟩ => by
  subst e
  unfold gMax2 at q
  split at q
  · cases q
    rw [rx.int, ry.int] at rr
    exact call_max2 hc pins s σ H _ us Q I rr ⟨_, _, rfl, k _ _ _ (.v (.int _))⟩
  · cases q
theorem small_ok {ds : List PyData} (h : ds.all smallD = true) : ∀ x ∈ ds, x.fits63 := fun x hx => by
  have := List.all_eq_true.mp h x hx
  cases x with
  | str z => exact of_decide_eq_true (p := (z.length : Int) < 2 ^ 63) this
  | list z => exact of_decide_eq_true (p := (z.length : Int) < 2 ^ 63) this
  | tuple z => exact of_decide_eq_true (p := (z.length : Int) < 2 ^ 63) this
  | _ => exact True.intro
theorem c_all (hc : X.calm = true) : CD1 X (.builtin "all") gAll := by
  refine cd_of1 fun pins s σ H F x u dx sl Q I r sb rx q k => ?_
  unfold gAll at q
  split at q
  · split at q
    · rename_i hz
      cases q
      obtain ⟨h1, h2⟩ := Bool.and_eq_true_iff.mp hz
      obtain ⟨a, xs, rfl, e1, r1⟩ := rx.lst sb
      obtain ⟨its, rv, hl, _⟩ := I.list (.inl (.inl e1))
      obtain ⟨as, hr, _⟩ := RpL.reads I sb _ _ its r1 rv
      cases r
      exact PySem.W.all_list_data (I.ok.hd hc) hl.isList (by simpa using hr) h1 (small_ok h2) fun h' tk hk => ⟨.bl _, H, I.kept hk, rfl, k _ _ _ (.v (.bl _))⟩
    · cases q
  · split at q
    · rename_i hz
      cases q
      obtain ⟨h1, h2⟩ := Bool.and_eq_true_iff.mp hz
      obtain ⟨a, xs, rfl, e1, r1⟩ := rx.tup sb
      obtain ⟨its, rv, hl, _⟩ := I.tuple (.inl (.inl (sb _ _ e1)))
      obtain ⟨as, hr, _⟩ := RpL.reads I sb _ _ its r1 rv
      cases r
      exact PySem.W.all_tuple_data (I.ok.hd hc) (show s.heap.IsTuple a its.toArray from hl) (by simpa using hr) h1 (small_ok h2) fun h' tk hk => ⟨.bl _, H, I.kept hk, rfl, k _ _ _ (.v (.bl _))⟩
    · cases q
  · cases q
theorem c_any (hc : X.calm = true) : CD1 X (.builtin "any") gAny := by
  refine cd_of1 fun pins s σ H F x u dx sl Q I r sb rx q k => ?_
  unfold gAny at q
  split at q
  · split at q
    · rename_i hz
      cases q
      obtain ⟨h1, h2⟩ := Bool.and_eq_true_iff.mp hz
      obtain ⟨a, xs, rfl, e1, r1⟩ := rx.lst sb
      obtain ⟨its, rv, hl, _⟩ := I.list (.inl (.inl e1))
      obtain ⟨as, hr, _⟩ := RpL.reads I sb _ _ its r1 rv
      cases r
      exact PySem.W.any_list_data (I.ok.hd hc) hl.isList (by simpa using hr) h1 (small_ok h2) fun h' tk hk => ⟨.bl _, H, I.kept hk, rfl, k _ _ _ (.v (.bl _))⟩
    · cases q
  · split at q
    · rename_i hz
      cases q
      obtain ⟨h1, h2⟩ := Bool.and_eq_true_iff.mp hz
      obtain ⟨a, xs, rfl, e1, r1⟩ := rx.tup sb
      obtain ⟨its, rv, hl, _⟩ := I.tuple (.inl (.inl (sb _ _ e1)))
      obtain ⟨as, hr, _⟩ := RpL.reads I sb _ _ its r1 rv
      cases r
      exact PySem.W.any_tuple_data (I.ok.hd hc) (show s.heap.IsTuple a its.toArray from hl) (by simpa using hr) h1 (small_ok h2) fun h' tk hk => ⟨.bl _, H, I.kept hk, rfl, k _ _ _ (.v (.bl _))⟩
    · cases q
  · cases q

/-! ### isinstance -/
theorem c_isi {T : String} {b : PyData → Bool} (h : ∀ (s : Shared) (v : Value) (d : PyData) (as : List Addr) (Q : Value → Shared → Prop), Reads s.heap v d as → (∀ tk, s.toks ≤ tk → Q (.bool (b d)) { s with toks := tk }) → wpAny (model X.prog X.w) X.A (call (.builtin "isinstance") [v, .type T]) Q X.xe s) :
    CDT X T fun d => some (.v (.bool (b d))) := fun pins s σ H xs us Q I rr ⟨F, x, dx, sl, e, sb, rx, q, k⟩ => by
  subst e
  cases q
  cases rr with
  | cons r1 r2 =>
    cases r2 with
    | cons r3 r4 =>
      cases r4
      cases r3
      obtain ⟨as, hr⟩ := rx.reads I sb r1
      exact h s _ dx as _ hr fun tk _ => ⟨.bl _, H, I.tok tk, rfl, k _ _ _ (.v (.bl _))⟩
theorem i_int : CDT X "int" fun d => some (.v (.bool d.isInt)) := c_isi fun _ _ _ _ _ r h => PySem.W.isinstance_int_data r h
theorem i_bool : CDT X "bool" fun d => some (.v (.bool d.isBool)) := c_isi fun _ _ _ _ _ r h => PySem.W.isinstance_bool_data r h
theorem i_tuple : CDT X "tuple" fun d => some (.v (.bool d.isTuple)) := c_isi fun _ _ _ _ _ r h => PySem.W.isinstance_tuple_data r h
theorem i_list : CDT X "list" fun d => some (.v (.bool d.isList)) := c_isi fun _ _ _ _ _ r h => PySem.W.isinstance_list_data r h
theorem i_dict : CDT X "dict" fun d => some (.v (.bool d.isDict)) := c_isi fun _ _ _ _ _ r h => PySem.W.isinstance_dict_data r h
theorem i_str : CDT X "str" fun d => some (.v (.bool d.isStr)) := c_isi fun _ _ _ _ _ r h => PySem.W.isinstance_str_data r h
end
end Pd
end
section
set_option linter.all false
set_option maxRecDepth 100000
/-! Pd, part G: sorted of lists and tuples of data; list(range(..)), tuple(range(..)). -/
namespace Pd
open PySem PySem.Spec PyProof.Rows L2

section
variable {P : Program} {w : World} {A : Around} {E : Value → Shared → Prop} {s : Shared}
/-- sorted(x), x a list or a tuple: list.sort on a new list of its items -/
theorem sorted_seq {it : Addr} {T : String} {o : Obj} {vs : List Value} {n : Nat} {ds : List PyData} {Q : Value → Shared → Prop} (hT : T = "list" ∨ T = "tuple") (ho : s.heap.get? it = some o) (hc : o.cls = .type T) (hd : o.data = .seq vs.toArray n)
    (er : PySem.W.EachIs (fun v d => ∃ as, Reads s.heap v d as) vs ds) (hal : PySem.W.AllAlike ds) (hk : PySem.W.Sortable ds) (hL : vs.length ≤ sizeLine) (hu : ∀ d, d ∈ ds → A.units + 2 + d.depth < cLine)
    (h : ∀ h' a out e, (∀ b u, s.heap.get? b = some u → h'.get? b = some u) → s.heap.get? a = none → h'.get? a = some (seqObj "list" (List.toArray out) e) →
      (∀ (β : Type) (R : Value → β → Prop) (bs : List β) (enc : β → PyData), bs.map enc = ds → PySem.W.EachIs R vs bs → out.length = bs.length ∧ PySem.W.EachIs R out (bs.mergeSort (PySem.W.dataLe false enc))) → Q (.ref a) { s with heap := h' }) :
    wpAny (model P w) A (call (.builtin "sorted") [.ref it]) Q E s := by
  refine call_function_entry_kw (kw := []) kind_sorted plain_sorted
    entry_sorted (args_sorted1 _) ?_
  unfold Builtin.«sorted»
  refine wpAny_bind (m := checkCount "sorted" 1 1 _)
    (wpAny_pure (wpAny_bind (wpAny_collect_seq it hT ho hc hd (fun h1 k1 => ?_) (by simpa using hL))))
  have ev : vs.toArray.toList = vs := by simp
  rw [ev]
  refine wpAny_bind (wpAny_newList ?_ hL)
  have at1 : (h1.push (seqObj "list" vs.toArray 0)).get? h1.objs.size = some (seqObj "list" vs.toArray 0) := Heap.get?_push_size _ rfl
  have old : ∀ b u, s.heap.get? b = some u → b ≠ h1.objs.size ∧ (h1.push (seqObj "list" vs.toArray 0)).get? b = some u := fun b u q =>
    ⟨Nat.ne_of_lt (Heap.lt_size (k1 b u q)), Heap.get?_push_of_some _ (k1 b u q)⟩
  have old2 : ∀ b u, s.heap.get? b = some u → (PySem.W.sortingHeap (h1.push (seqObj "list" vs.toArray 0)) h1.objs.size vs).get? b = some u := fun b u q => PySem.W.sortingHeap_old (old b u q).1 (old b u q).2
  have er2 : PySem.W.EachIs (fun v d => ∃ as, Reads (PySem.W.sortingHeap (h1.push (seqObj "list" vs.toArray 0)) h1.objs.size vs) v d as) vs ds := er.mono fun _ _ ⟨as, r⟩ => ⟨as, PyProof.Rows.Reads.keeps old2 r⟩
  refine wpAny_bind (wpAny_holding (wpAny_call_entry_kw slot_list_sort
    ⟨_, at1, rfl⟩ entry_list_sort ?body (args_list_sort _)))
  case body =>
    refine PySem.W.list_sort_vals (s := { s with heap := h1.push (seqObj "list" vs.toArray 0) }) at1 (PySem.W.SortsAt.data (s := { s with heap := PySem.W.sortingHeap (h1.push (seqObj "list" vs.toArray 0)) h1.objs.size vs }) er2 hal hk
      fun d hd => by
        have := hu d hd
        show A.units + 1 + 1 + d.depth < cLine
        omega) hL ⟨_, rfl, wpAny_pure ⟨_, rfl, ?_⟩⟩
    obtain ⟨e, he⟩ := sortedHeap_at (out := (PySem.W.sortVals (PySem.W.dataKind (PySem.W.sortingHeap (h1.push (seqObj "list" vs.toArray 0)) h1.objs.size vs) ds) false vs vs).toArray) at1
    refine h _ h1.objs.size _ e (fun b u q => ?_) ?_ he fun β R bs enc eb eR => ?_
    · obtain ⟨n1, n2⟩ := old b u q
      rw [sortedHeap_old n1 (Heap.lt_size n2)]
      exact n2
    · cases z : s.heap.get? h1.objs.size with
      | none => rfl
      | some u => exact absurd rfl (old _ _ z).1
    · subst eb
      refine ⟨by rw [PySem.W.sortVals_length false rfl]; exact eR.length, ?_⟩
      have er3 : PySem.W.EachIs (fun v b => ∃ as, Reads (PySem.W.sortingHeap (h1.push (seqObj "list" vs.toArray 0)) h1.objs.size vs) v (enc b) as) vs bs := by
        clear h er he hal hk hu eR at1 old old2
        have : ∀ {vs : List Value} {bs : List β} {h0 : Heap}, PySem.W.EachIs (fun v d => ∃ as, Reads h0 v d as) vs (bs.map enc) → PySem.W.EachIs (fun v b => ∃ as, Reads h0 v (enc b) as) vs bs := by
          intro vs bs h0 q
          induction bs generalizing vs with
          | nil =>
            cases q
            exact .nil
          | cons b bs ih =>
            cases q with
            | cons q1 q2 => exact .cons q1 (ih q2)
        exact this er2
      exact PySem.W.sortVals_data false eR er3 hal
end
theorem obj_is {P : Program} {w : World} {H : Hp} {h : Heap} {a : Addr} : ∀ {o : HO}, ObjOk P w H h a o → ∃ u, h.get? a = some u
  | .lst _, ⟨_, _, _, _, e⟩ => ⟨_, e⟩
  | .tup _, ⟨_, _, _, ⟨_, e, _⟩⟩ => ⟨_, e⟩
  | .dK _, ⟨_, _, _, _, _, _, _, e, _⟩ => ⟨_, e⟩
  | .dT _, ⟨_, _, _, _, _, _, _, e, _⟩ => ⟨_, e⟩
  | .set _ _, ⟨_, _, _, _, e, _⟩ => ⟨_, e⟩
  | .ins _ _ _, ⟨_, _, _, e, _⟩ => ⟨_, e⟩
  | .own _, ⟨_, e⟩ => ⟨_, e⟩
  | .xd _, ⟨_, ⟨_, _, _, e, _⟩, _⟩ => ⟨_, e⟩
  | .rng _ _, ⟨_, _, _, e⟩ => ⟨_, e⟩
  | .frz _ _, ⟨e, _⟩ => ⟨_, e⟩
  | .tbl _, e => ⟨_, e⟩
  | .met _ _, e => ⟨_, e⟩
  | .ext _, ⟨_, ⟨_, e⟩, _⟩ => ⟨_, e⟩
theorem free_of {X : Cx} {pins : List (Addr × Obj)} {s : Shared} {σ : L2.St} {H : Hp} {a : Addr} (I : Inv X pins σ H s) (h : s.heap.get? a = none) : H a = none := by
  cases q : H a with
  | none => rfl
  | some o =>
    obtain ⟨u, e⟩ := obj_is (I.hok a o q)
    rw [h] at e
    cases e
section
variable {X : Cx}
theorem sortB_ok {ds : List PyData} (h : sortB ds = true) : PySem.W.AllAlike ds ∧ PySem.W.Sortable ds ∧ ∀ d ∈ ds, d.depth ≤ 60 := by
  unfold sortB at h
  simp only [Bool.and_eq_true, Bool.or_eq_true, List.all_eq_true, decide_eq_true_eq] at h
  refine ⟨fun d hd e he => h.1.1 d hd e he, ?_, h.2⟩
  rcases h.1.2 with q | q
  · refine .inl fun d hd => ?_
    have := q d hd
    split at this
    · exact ⟨_, _, rfl⟩
    · cases this
  · refine .inr fun d hd => ⟨fun z => ?_, fun xs z => ?_⟩
    · have := q d hd
      rw [z] at this
      cases this
    · have := q d hd
      rw [z] at this
      cases this
theorem each_zip {F : Hp} : ∀ {us : List Value} {vs : List V} {ds : List PyData}, Vals vs us → RpL F vs ds → PySem.W.EachIs (fun (u : Value) (p : V × PyData) => RelV p.1 u ∧ Rp F p.1 p.2) us (vs.zip ds)
  | _, _, _, .nil, .nil => .nil
  | _, _, _, .cons a b, .cons c d => .cons ⟨a, c⟩ (each_zip b d)
theorem each_unzip {F : Hp} : ∀ {us : List Value} {ps : List (V × PyData)}, PySem.W.EachIs (fun (u : Value) (p : V × PyData) => RelV p.1 u ∧ Rp F p.1 p.2) us ps → Vals (ps.map (·.1)) us ∧ RpL F (ps.map (·.1)) (ps.map (·.2))
  | _, _, .nil => ⟨.nil, .nil⟩
  | _, _, .cons a b => ⟨.cons a.1 (each_unzip b).1, .cons a.2 (each_unzip b).2⟩
theorem zip_snd : ∀ {vs : List V} {ds : List PyData}, vs.length = ds.length → (vs.zip ds).map (·.2) = ds
  | [], [], _ => rfl
  | _ :: vs, _ :: ds, h => by
    rw [List.zip_cons_cons, List.map_cons, zip_snd (Nat.succ.inj h)]
theorem each_reads {pins : List (Addr × Obj)} {s : Shared} {σ : L2.St} {H F : Hp} (I : Inv X pins σ H s) (sb : Sub F H) : ∀ {us : List Value} {vs : List V} {ds : List PyData}, Vals vs us → RpL F vs ds → PySem.W.EachIs (fun v d => ∃ as, Reads s.heap v d as) us ds
  | _, _, _, .nil, .nil => .nil
  | _, _, _, .cons a b, .cons c d => .cons (let ⟨as, h, _⟩ := c.readsN I sb _ _ _ _ (Nat.lt_succ_self _) a; ⟨as, h⟩) (each_reads I sb b d)
theorem sortD_zip (vs : List V) (ds : List PyData) (h : vs.length = ds.length) : ((vs.zip ds).mergeSort (PySem.W.dataLe false (·.2))).map (·.2) = sortD ds := by
  unfold sortD
  have e := PySem.W.sort_maps (r := PySem.W.dataLe false (·.2)) (s := PySem.W.dataLe false id) (fun p : V × PyData => p.2) (l := vs.zip ds) fun _ _ _ _ => rfl
  rw [zip_snd h] at e
  exact e
theorem c_sorted (hu : X.A.units + 66 < cLine) : CD1 X (.builtin "sorted") gSorted := by
  refine cd_of1 fun pins s σ H F x u dx sl Q I r sb rx q k => ?_
  have fin : ∀ {a : Addr} {T : String} {ob : Obj} {its : List Value} {n : Nat} {xs : List V} {ds : List PyData}, (T = "list" ∨ T = "tuple") → s.heap.get? a = some ob → ob.cls = .type T → ob.data = .seq its.toArray n → Vals xs its → RpL F xs ds → sortB ds = true → xs.length ≤ sizeLine →
      (∀ v F' H', Out F H (.o (.list (sortD ds))) v F' H' → Q v H') → wpAny (model X.prog X.w) X.A (call (.builtin "sorted") [.ref a]) (EP X pins σ Q) X.xe s := fun {a T ob its n xs ds} hT h1 h2 h3 rv r1 hz hl kk => by
    obtain ⟨a1, a2, a3⟩ := sortB_ok hz
    refine sorted_seq (A := X.A) hT h1 h2 h3 (each_reads I sb rv r1) a1 a2 (by rw [← rv.length]; exact hl) (fun d hd => by
      have := a3 d hd
      omega) fun h' p out e hk hp hat all => ?_
    obtain ⟨l1, l2⟩ := all _ _ (xs.zip ds) (·.2) (zip_snd r1.length) (each_zip rv r1)
    obtain ⟨v1, v2⟩ := each_unzip l2
    rw [sortD_zip xs ds r1.length] at v2
    have hz2 : (((xs.zip ds).mergeSort (PySem.W.dataLe false (·.2))).map (·.1)).length ≤ sizeLine := by
      rw [List.length_map, List.length_mergeSort, List.length_zip, r1.length, Nat.min_self, ← r1.length]
      exact hl
    exact ⟨.ref p, _, I.laidN (o := .lst (((xs.zip ds).mergeSort (PySem.W.dataLe false (·.2))).map (·.1))) (t' := s.toks) hk hp (free_of I hp) ⟨hz2, out, e, v1, hat⟩, rfl, kk _ _ _ (.o (.lst v2) (free_of I hp))⟩
  unfold gSorted at q
  split at q
  · split at q
    · rename_i hz
      cases q
      obtain ⟨a, xs, rfl, e1, r1⟩ := rx.lst sb
      obtain ⟨hl, its, n, rv, h1⟩ := (show ObjOk X.prog X.w H s.heap a (.lst xs) from I.hok a _ e1)
      cases r
      exact fin (.inl rfl) h1 rfl rfl rv r1 hz hl k
    · cases q
  · split at q
    · rename_i hz
      cases q
      obtain ⟨a, xs, rfl, e1, r1⟩ := rx.tup sb
      obtain ⟨its, rv, ⟨ob, h1, h2, n, h3⟩, hl⟩ := I.tuple (.inl (.inl (sb _ _ e1)))
      cases r
      exact fin (.inr rfl) h1 h2 h3 rv r1 hz hl k
    · cases q
  · cases q
end

/-! ### ranges as data -/
def mRg1 (m : S → R Slot) : S → R (Int × Int) := fun st => match m st with
  | .ok (.v (.int n)) st1 => .ok (0, n) st1
  | _ => .bad
def mRg2 (m m' : S → R Slot) : S → R (Int × Int) := fun st => match m st with
  | .ok (.v (.int i)) st1 => match m' st1 with
    | .ok (.v (.int j)) st2 => .ok (i, j) st2
    | _ => .bad
  | _ => .bad
def rgOk (a b : Int) : Bool := decide (-16777216 ≤ a) && decide (a ≤ 16777216) && decide (-16777216 ≤ b) && decide (b ≤ 16777216) && decide (b - a ≤ 16777216)
def rgD (a b : Int) : List PyData := (List.range (b - a).toNat).map fun i => .int (a + (i : Nat))
def mLRg (m : S → R (Int × Int)) : S → R Slot := fun st => match m st with
  | .ok (a, b) st1 => if rgOk a b then .ok (.o (.list (rgD a b))) st1 else .bad
  | .bad => .bad
def mTRg (m : S → R (Int × Int)) : S → R Slot := fun st => match m st with
  | .ok (a, b) st1 => if rgOk a b then .ok (.v (.tuple (rgD a b))) st1 else .bad
  | .bad => .bad
abbrev TRg := L2.St → Hp → (Int → Int → Hp → Prop) → Prop
def tRg (K : PySem.W.Frag) (m : S → R (Int × Int)) : TRg := fun σ H Q => ∃ sa B F st r st', SR K sa B F H σ st ∧ m st = .ok r st' ∧ ∀ sa' F' H', Rch K B σ sa F st sa' F' H' st' → Q r.1 r.2 H'
theorem rgV_rp (F : Hp) (a b : Int) : RpL F (rgV a b) (rgD a b) := by
  unfold rgV rgD
  generalize List.range (b - a).toNat = l
  induction l with
  | nil => exact .nil
  | cons i l ih => exact .cons (.int _) ih
theorem rgOk_ok {a b : Int} (h : rgOk a b = true) : RgOk a b := by
  unfold rgOk at h
  simp only [Bool.and_eq_true, decide_eq_true_eq] at h
  refine ⟨by omega, by omega, by omega, by omega, ?_⟩
  have : (2 : Nat) ^ 24 = 16777216 := by decide
  omega
section
variable {K : PySem.W.Frag} {X : Cx} {e a b : Expr} {m m' : S → R Slot} {mr : S → R (Int × Int)} {p pos : Pos}
theorem imR {t t' : TRg} (h : PRg X e t) (i : ∀ σ H Q, t' σ H Q → t σ H Q) : PRg X e t' := fun pins s σ H Q I q => h pins s σ H Q I (i σ H _ q)
theorem g_1 (hg : Gl X "range") (hm : X.mg "range" = none) (ha : PE X a (tM K m)) (na : starEach [a] X.env = (false, eval a X.env) :: starEach [] X.env := by rfl) : PRg X (.Call (.Name "range" p) [a] [] pos) (tRg K (mRg1 m)) :=
  imR (prg_1 hg hm ha na) fun σ H Q ⟨sa, B, F, st, r', st', h0, h1, k⟩ => by
    unfold mRg1 at h1
    cases q : m st with
    | bad =>
      rw [q] at h1
      cases h1
    | ok r st1 =>
      rw [q] at h1
      cases r with
      | v d =>
        cases d with
        | int i =>
          cases h1
          exact ⟨sa, B, F, st, _, _, h0, q, fun sa' F' H' v R r => by
            cases (show Rp F' v (.int i) from r)
            exact ⟨_, rfl, k sa' F' H' R⟩⟩
        | _ => cases h1
      | _ => cases h1
theorem g_2 (hg : Gl X "range") (hm : X.mg "range" = none) (ha : PE X a (tM K m)) (hb : PE X b (tM K m')) (na : starEach [a, b] X.env = (false, eval a X.env) :: starEach [b] X.env := by rfl) (nb : starEach [b] X.env = (false, eval b X.env) :: starEach [] X.env := by rfl) (hp : (backTo pos (starEach [b] X.env)).any (·.1) = false := by rfl) : PRg X (.Call (.Name "range" p) [a, b] [] pos) (tRg K (mRg2 m m')) :=
  imR (prg_2 hg hm ha hb na nb hp) fun σ H Q ⟨sa, B, F, st, r', st', h0, h1, k⟩ => by
    unfold mRg2 at h1
    cases q : m st with
    | bad =>
      rw [q] at h1
      cases h1
    | ok r st1 =>
      rw [q] at h1
      cases r with
      | v d =>
        cases d with
        | int i =>
          cases q2 : m' st1 with
          | bad =>
            simp only [q2] at h1
            cases h1
          | ok r2 st2 =>
            simp only [q2] at h1
            cases r2 with
            | v d2 =>
              cases d2 with
              | int j =>
                cases h1
                refine ⟨sa, B, F, st, _, _, h0, q, fun sa1 F1 H1 v R1 r1 => ⟨sa1, B, F1, st1, _, _, R1.r, q2, fun sa2 F2 H2 v2 R2 r2 => ?_⟩⟩
                cases (show Rp F1 v (.int i) from r1)
                cases (show Rp F2 v2 (.int j) from r2)
                exact ⟨i, j, rfl, rfl, k sa2 F2 H2 (R1.trans R2)⟩
              | _ => cases h1
            | _ => cases h1
        | _ => cases h1
      | _ => cases h1
theorem d_lrg (hc : X.calm = true) (hg : Gl X "list") (hm : X.mg "list" = none) (h : PRg X e (tRg K mr)) (na : starEach [e] X.env = (false, eval e X.env) :: starEach [] X.env := by rfl) : PE X (.Call (.Name "list" p) [e] [] pos) (tM K (mLRg mr)) :=
  imE (pe_listRg hc hg hm h na) fun σ H Q ⟨sa, B, F, st, r', st', h0, h1, k⟩ => by
    unfold mLRg at h1
    cases q : mr st with
    | bad =>
      rw [q] at h1
      cases h1
    | ok r st1 =>
      obtain ⟨i, j⟩ := r
      simp only [q] at h1
      split at h1
      · rename_i hz
        cases h1
        refine ⟨sa, B, F, st, _, _, h0, q, fun sa1 F1 H1 R1 => ⟨rgOk_ok hz, fun p hp => ?_⟩⟩
        obtain ⟨a, b⟩ := R1.out (.o (.lst (rgV_rp _ i j)) hp)
        exact k _ _ _ _ a b
      · cases h1
theorem d_trg (hc : X.calm = true) (hg : Gl X "tuple") (hm : X.mg "tuple" = none) (h : PRg X e (tRg K mr)) (na : starEach [e] X.env = (false, eval e X.env) :: starEach [] X.env := by rfl) : PE X (.Call (.Name "tuple" p) [e] [] pos) (tM K (mTRg mr)) :=
  imE (pe_tupRg hc hg hm h na) fun σ H Q ⟨sa, B, F, st, r', st', h0, h1, k⟩ => by
    unfold mTRg at h1
    cases q : mr st with
    | bad =>
      rw [q] at h1
      cases h1
    | ok r st1 =>
      obtain ⟨i, j⟩ := r
      simp only [q] at h1
      split at h1
      · rename_i hz
        cases h1
        refine ⟨sa, B, F, st, _, _, h0, q, fun sa1 F1 H1 R1 => ⟨rgOk_ok hz, fun p hp => ?_⟩⟩
        obtain ⟨a, b⟩ := R1.out (.t (rgV_rp _ i j) hp)
        exact k _ _ _ _ a b
      · cases h1
end
end Pd
end
section
set_option linter.all false
set_option maxRecDepth 100000
/-! Pd, part H: enumerate over a tuple. -/
namespace Pd
open PySem PySem.Spec PyProof.Rows L2

set_option maxHeartbeats 1000000 in
theorem enum1_meets {v : Value} {o : Obj} {C : Heap → Prop} (B : Begins v o C) :
    Meets (Builtin.«enumerate.__new__» ⟨[.type "enumerate", v], []⟩) (fun _ R s => C s.heap ∧
      R (.ok (.ret (.ref (s.heap.push o).objs.size))) { s with heap := (s.heap.push o).push { cls := .type "enumerate", data := .fields #[.none, .bool false, .ref s.heap.objs.size, rawInt 0, .none, .none] } }) :=
  .of_wp fun prog w A R s h => by
    obtain ⟨hp, g, d, tk, os⟩ := s
    obtain ⟨h1, h⟩ := h
    have hsub := sub_enumerate
    have go : ∀ {A' : Around} {E : Value → Shared → Prop} {Q : Value → Shared → Prop}, Q (.ref hp.objs.size) ⟨hp.push o, g, d, tk, os⟩ →
        wpAny (model prog w) A' (pyIter v) Q E ⟨hp, g, d, tk, os⟩ := fun q => B.iter prog w _ _ ⟨hp, g, d, tk, os⟩ _ h1 q
    wp_walk using go
    refine wpAny_stack_any fun st => wpAny_pure ?_
    split
    · rename_i c _ _ _ _ _
      cases (c == Value.type "enumerate") <;> (wp_walk using go; exact ⟨_, rfl, h⟩)
    · wp_walk using go
      exact ⟨_, rfl, h⟩
section
variable {prog : Program} {w : World} {A : Around} {E : Value → Shared → Prop} {s : Shared}
theorem enum1_call {v : Value} {o : Obj} {C : Heap → Prop} {Q : Value → Shared → Prop} (B : Begins v o C) (hc : C s.heap)
    (h : ∀ h', IsEnum h' (s.heap.objs.size + 1) s.heap.objs.size 0 .none → h'.get? s.heap.objs.size = some o → (∀ b u, s.heap.get? b = some u → h'.get? b = some u) → Q (.ref (s.heap.objs.size + 1)) { s with heap := h' }) :
    wpAny (model prog w) A (call (.type "enumerate") [v]) Q E s := by
  refine callType_new F.called_enumerate (by decide) (F.typeCall_enumerate_1 _) (F.newCall_enumerate_1 _)
    (fun obj => F.args_object_init_2 obj _) F.entry_enumerate_new (enum1_meets B) ⟨hc, ?_⟩
  have hz : (s.heap.push o).objs.size = s.heap.objs.size + 1 := Heap.size_push ..
  show _ ∧ _
  rw [hz]
  have at2 := Heap.get?_push_size (s.heap.push o) (o := { cls := .type "enumerate", data := .fields #[.none, .bool false, .ref s.heap.objs.size, rawInt 0, .none, .none] }) rfl
  rw [hz] at at2
  exact ⟨⟨_, at2, rfl⟩, h _ at2 (Heap.get?_push_of_some _ (Heap.get?_push_size _ B.free)) fun b u q => Heap.get?_push_of_some _ (Heap.get?_push_of_some _ q)⟩
end

/-- the tuple at a, each item in a new pair -/
def ItE (K : PySem.W.Frag) (a : Addr) : It :=
  ⟨fun i H => ∃ (xs : List V) (x : V), SqT K H a xs ∧ xs[i]? = some x, fun i H v H' => ∃ T x, v = .ref T ∧ H T = none ∧ H' = upd H T (.tup [.int (i : Nat), x]) ∧ ∀ xs, SqT K H a xs → xs[i]? = some x,
    fun i H => ∃ xs : List V, SqT K H a xs ∧ xs.length = i⟩
theorem enumT_turn {P : Program} {w : World} {K : PySem.W.Frag} {elts : List Expr} {kk : Nat} {tpos : Pos} (a e it : Addr) (nai : a ≠ it) :
    Turn P w K (.Tuple elts kk tpos) (ItE K a) [e, it] e (fun i h => (∃ old, IsEnum h e it ((i : Nat) : Int) old) ∧ h.IsTupleIter it a i ∧ e ≠ it ∧ e ≠ a) where
  mem := by simp
  obj := fun i h st b hb => by
    obtain ⟨⟨old, he⟩, ⟨o, ho, hc, hd⟩, _⟩ := st
    rcases (show b = e ∨ b = it by simpa using hb) with rfl | rfl
    · exact ⟨_, he, fun v q => nomatch q⟩
    · exact ⟨o, ho, fun v q => by
        rw [hd] at q
        cases q⟩
  keep := fun i h h' ⟨⟨old, he⟩, hi, hne⟩ k => ⟨⟨old, k e (by simp) _ he⟩, hi.at fun o q => k it (by simp) o q, hne⟩
  item := by
    intro X hP hw hK hc i pins s σ H E I hf st hg
    subst hP hw hK
    obtain ⟨⟨old, he⟩, hit, hne, hea⟩ := st
    obtain ⟨xs, x, hq, hx⟩ := hg
    obtain ⟨its, rv, p, hz⟩ := I.tuple hq
    obtain ⟨u, hu, ru⟩ := rv.get hx
    have el := Heap.lt_size he
    have il : it < s.heap.objs.size := by
      obtain ⟨_, q, _⟩ := hit
      exact Heap.lt_size q
    have hlt : i < its.toArray.size := by
      have := (List.getElem?_eq_some_iff.mp hu).1
      simpa using this
    refine wpAny_pyNext_enum_itemD (Draws.tuple (A := X.A.in1) (I.ok.hd hc) it a nai its.toArray) he ⟨hit, p⟩ hlt hne (by simp [hne, hea]) fun y h' tk hy ho hit' hT hsz hk => ?_
    have ey : y = u := by
      have q : its.toArray[i]? = some y := hy
      rw [show its.toArray[i]? = some u by simpa using hu] at q
      exact (Option.some.inj q).symm
    subst ey
    refine ⟨_, rfl, wpAny_letOwnedTupleGo_enum (s := { s with heap := h', toks := tk + 1 }) ho fun h2 he' sb => ?_⟩
    have at2 : h2.get? s.heap.objs.size = some { cls := .type "tuple", data := .seq #[.int i tk, y] } := (sb.2 _ (Nat.ne_of_gt el)).trans hT
    have new : ObjOk X.prog X.w (upd H s.heap.objs.size (.tup [.int (i : Nat), x])) h2 s.heap.objs.size (.tup [.int (i : Nat), x]) :=
      ⟨by show 2 ≤ sizeLine; decide, [.int i tk, y], .cons ⟨_, rfl⟩ (.cons ru .nil), ⟨_, at2, rfl, _, rfl⟩⟩
    have I1 : Inv X pins σ (upd H s.heap.objs.size (.tup [.int (i : Nat), x])) { s with heap := h2, toks := tk + 1 } :=
      I.turnedNew (ch := [e, it]) (fun b ob hb q => (sb.2 b fun z => hb (by simp [z])).trans (hk b ob (fun z => hb (by simp [z])) (fun z => hb (by simp [z])) q)) hf (Nat.le_refl _) new
    refine ⟨.ref s.heap.objs.size, _, I1, rfl, ⟨_, x, rfl, I.hok.fresh (Nat.le_refl _), rfl, fun ys hy => by
      rw [I.tuple_inj hy hq]
      exact hx⟩, ⟨⟨y, ?_⟩, hit'.1.at fun o q => (sb.2 it (Ne.symm hne)).trans q, hne, hea⟩, fun b hb => ?_⟩
    · rw [show ((i + 1 : Nat) : Int) = (i : Int) + 1 by omega]
      exact he'
    · have lt : b < s.heap.objs.size := by
        rcases (show b = e ∨ b = it by simpa using hb) with rfl | rfl
        · exact el
        · exact il
      rw [upd_ne (Nat.ne_of_lt lt)]
      exact (hf b hb).1
  done := by
    intro X hP hw hK hc i pins s σ H E I hf st hg
    subst hP hw hK
    obtain ⟨⟨old, he⟩, hit, hne, hea⟩ := st
    obtain ⟨xs, hq, hx⟩ := hg
    obtain ⟨its, rv, p, hz⟩ := I.tuple hq
    obtain ⟨f0, f1, f2, f3, f4, f5⟩ := hf it (by simp)
    have e2 : i = its.toArray.size := by
      rw [List.size_toArray, ← rv.length]
      exact hx.symm
    subst e2
    exact wpAny_pyNext_enum_endD (Draws.tuple (A := X.A.in1) (I.ok.hd hc) it a nai its.toArray) he ⟨hit, p⟩ fun h' eb => ⟨rfl, I.turned (t' := s.toks) (fun b o hb q => eb b o hb q) f0 f1 f3 f4 f5⟩
  self := fun A i s Q E ⟨⟨_, he⟩, _⟩ h => wpAny_pyIter_enum he h
def iEnT (K : PySem.W.Frag) (ta : TA) : TI := fun σ H R => ta σ H fun vs H1 => ∃ a xs, vs = [.ref a] ∧ ((SqL K H1 a xs ∧ R (Ite K a) H1) ∨ (SqT K H1 a xs ∧ R (ItE K a) H1))
theorem pi_enT {X : Cx} {e : Expr} {ta : TA} {p pos tpos : Pos} {elts : List Expr} {kk : Nat} (hg : Gl X "enumerate") (hm : X.mg "enumerate" = none) (ha : PA X [e] ta) (hs : starEach [e] X.env = [(false, eval e X.env)] := by rfl) :
    PI X (.Tuple elts kk tpos) (.Call (.Name "enumerate" p) [e] [] pos) (iEnT X.K ta) := by
  refine ⟨fun pins s σ H R I h => ?_⟩
  refine Call_ (ld_blt I hg hm boot_enumerate (PyProof.Rows.callWith_type1
    (thn (ha.run pos pins s σ H _ I h) fun us s1 ⟨vs, H1, I1, r1, a, xs, ex, q1⟩ => ?_) hs rfl))
  subst ex
  cases r1 with
  | cons r rr =>
    cases rr
    cases r
    have two : ∀ b, b ∈ [s1.heap.objs.size + 1, s1.heap.objs.size] → FpOk X pins H1 b := fun b hb => by
      have le : s1.heap.objs.size ≤ b := by
        rcases (show b = s1.heap.objs.size + 1 ∨ b = s1.heap.objs.size by simpa using hb) with z | z <;> omega
      exact I1.fpOk le (I1.hok.fresh le)
    rcases q1 with ⟨hq, q⟩ | ⟨hq, q⟩
    · obtain ⟨its, rv, p', hz⟩ := I1.list hq
      refine call_enumerate_list p'.isList fun h' he hit hsz hk => wpAny_pyIter_enum he ?_
      exact ⟨s1.heap.objs.size + 1, [s1.heap.objs.size + 1, s1.heap.objs.size], _, _, H1, rfl, I1.kept (t' := s1.toks) hk,
        turn_enum a (s1.heap.objs.size + 1) s1.heap.objs.size, ⟨⟨.none, he⟩, hit, Nat.succ_ne_self _⟩, two, q⟩
    · obtain ⟨its, rv, p', hz⟩ := I1.tuple hq
      have la : a < s1.heap.objs.size := by
        obtain ⟨_, z, _⟩ := p'
        exact Heap.lt_size z
      refine enum1_call (begins_tuple a its.toArray) p' fun h' he hit hk => wpAny_pyIter_enum he ?_
      refine ⟨s1.heap.objs.size + 1, [s1.heap.objs.size + 1, s1.heap.objs.size], _, _, H1, rfl, I1.kept (t' := s1.toks) hk,
        enumT_turn a (s1.heap.objs.size + 1) s1.heap.objs.size (Nat.ne_of_lt la), ⟨⟨.none, he⟩, ⟨_, hit, rfl, rfl⟩, Nat.succ_ne_self _, fun z => ?_⟩, two, q⟩
      have z' : s1.heap.objs.size + 1 = a := z
      rw [← z'] at la
      exact absurd la (Nat.not_lt.mpr (Nat.le_succ _))
end Pd
end
section
set_option linter.all false
set_option maxRecDepth 100000
/-! Pd, part I: targets, statements. -/
namespace Pd
open PySem PySem.Spec PyProof.Rows L2

/-! ### a place is written -/
section
variable {K : PySem.W.Frag} {B : Hp} {σ : L2.St} {sa : Sa} {F H : Hp} {st : S}
/-- some places are forgotten -/
theorem SR.forget (h : SR K sa B F H σ st) {σ' : L2.St} {ss' : List Slot} (hl : σ'.length = ss'.length) (k : ∀ (i : Nat) (x : Slot), ss'[i]? = some x → x ≠ .no → st.ss[i]? = some x ∧ σ'[i]? = σ[i]?) : SR K sa B F H σ' { st with ss := ss' } where
  bh := h.bh
  fh := h.fh
  len := hl
  sl := fun i d e => by
    obtain ⟨e1, e2⟩ := k i _ e (fun z => nomatch z)
    rw [e2]
    exact h.sl i d e1
  so := fun i d e => by
    obtain ⟨e1, e2⟩ := k i _ e (fun z => nomatch z)
    rw [e2]
    exact h.so i d e1
  ap := fun i j d e a n q1 q2 q3 q4 => by
    obtain ⟨e1, e2⟩ := k i _ q1 (fun z => nomatch z)
    obtain ⟨e3, e4⟩ := k j _ q2 (fun z => nomatch z)
    rw [e2] at q3
    rw [e4] at q4
    exact h.ap i j d e a n e1 e3 q3 q4
  sx := fun i e => by
    obtain ⟨e1, e2⟩ := k i _ e (fun z => nomatch z)
    rw [e2]
    exact h.sx i e1
  sc := fun i ns e => by
    obtain ⟨e1, e2⟩ := k i _ e (fun z => nomatch z)
    rw [e2]
    exact h.sc i ns e1
  sr := h.sr
  sy := fun i e => by
    obtain ⟨e1, e2⟩ := k i _ e (fun z => nomatch z)
    rw [e2]
    exact h.sy i e1
theorem get_set {α : Type} {l : List α} {i j : Nat} {x y : α} (h : (l.set i x)[j]? = some y) : (j = i ∧ y = x) ∨ (j ≠ i ∧ l[j]? = some y) := by
  by_cases e : i = j
  · subst e
    have hl : i < (l.set i x).length := (List.getElem?_eq_some_iff.mp h).1
    rw [List.getElem?_set_self (by simpa using hl)] at h
    exact .inl ⟨rfl, (Option.some.inj h).symm⟩
  · rw [List.getElem?_set_ne e] at h
    exact .inr ⟨Ne.symm e, h⟩
/-- a result goes to place i -/
theorem SR.put (h : SR K sa B F H σ st) {i : Nat} {v : V} {r : Slot} (rr : RRep sa B F H σ st v r) : SR K sa B F H (σ.set i (some v)) { st with ss := st.ss.set i r } := by
  have len : (σ.set i (some v)).length = (st.ss.set i r).length := by simp [h.len]
  have at' : ∀ (j : Nat) (x : Slot), (st.ss.set i r)[j]? = some x → (j = i ∧ x = r ∧ (σ.set i (some v))[i]? = some (some v)) ∨ (j ≠ i ∧ st.ss[j]? = some x ∧ (σ.set i (some v))[j]? = σ[j]?) := fun j x q => by
    rcases get_set q with ⟨e1, e2⟩ | ⟨e1, e2⟩
    · subst e1
      have hl : j < (st.ss.set j r).length := (List.getElem?_eq_some_iff.mp q).1
      exact .inl ⟨rfl, e2, List.getElem?_set_self (by rw [h.len]; simpa using hl)⟩
    · exact .inr ⟨e1, e2, List.getElem?_set_ne (Ne.symm e1)⟩
  refine ⟨h.bh, h.fh, len, fun j d q => ?_, fun j d q => ?_, fun j k d e a n q1 q2 q3 q4 => ?_, fun j q => ?_, fun j ns q => ?_, h.sr, fun j q => ?_⟩
  · rcases at' j _ q with ⟨e1, e2, e3⟩ | ⟨e1, e2, e3⟩
    · subst e1
      subst e2
      exact ⟨v, e3, rr⟩
    · rw [e3]
      exact h.sl j d e2
  · rcases at' j _ q with ⟨e1, e2, e3⟩ | ⟨e1, e2, e3⟩
    · subst e1
      subst e2
      obtain ⟨a, o, rfl, h1, h2, h3, h4, h5, _⟩ := rr
      exact ⟨a, o, e3, h1, h2, h3, h4, h5⟩
    · rw [e3]
      exact h.so j d e2
  · rcases at' j _ q1 with ⟨e1, e2, e3⟩ | ⟨e1, e2, e3⟩
    · rcases at' k _ q2 with ⟨f1, f2, f3⟩ | ⟨f1, f2, f3⟩
      · exact n (e1.trans f1.symm)
      · subst e1
        subst e2
        obtain ⟨a', o, rfl, h1, h2, h3, h4, h5, h6⟩ := rr
        rw [e3] at q3
        cases q3
        rw [f3] at q4
        exact h6 k e f2 q4
    · rcases at' k _ q2 with ⟨f1, f2, f3⟩ | ⟨f1, f2, f3⟩
      · subst f1
        subst f2
        obtain ⟨a', o, rfl, h1, h2, h3, h4, h5, h6⟩ := rr
        rw [f3] at q4
        cases q4
        rw [e3] at q3
        exact h6 j d e2 q3
      · rw [e3] at q3
        rw [f3] at q4
        exact h.ap j k d e a n e2 f2 q3 q4
  · rcases at' j _ q with ⟨e1, e2, e3⟩ | ⟨e1, e2, e3⟩
    · subst e1
      subst e2
      exact ⟨rr.1, by rw [e3, rr.2]⟩
    · rw [e3]
      exact h.sx j e2
  · rcases at' j _ q with ⟨e1, e2, e3⟩ | ⟨e1, e2, e3⟩
    · subst e2
      exact False.elim rr
    · rw [e3]
      exact h.sc j ns e2
  · rcases at' j _ q with ⟨e1, e2, e3⟩ | ⟨e1, e2, e3⟩
    · subst e1
      subst e2
      exact ⟨rr.1, by rw [e3, rr.2]⟩
    · rw [e3]
      exact h.sy j e2
/-- the object that place i holds alone is changed -/
theorem SR.mut (h : SR K sa B F H σ st) {i : Nat} {d d' : PyData} {a : Addr} {o' : HO} (e : st.ss[i]? = some (.o d)) (ea : σ[i]? = some (some (.ref a))) (r : OR F o' d') : SR K sa B F (upd H a o') σ { st with ss := st.ss.set i (.o d') } := by
  obtain ⟨a', o, e1, e2, e3, e4, e5, e6⟩ := h.so i d e
  rw [ea] at e1
  cases e1
  have hi : i < st.ss.length := (List.getElem?_eq_some_iff.mp e).1
  have at' : ∀ (j : Nat) (x : Slot), (st.ss.set i (.o d'))[j]? = some x → (j = i ∧ x = .o d') ∨ (j ≠ i ∧ st.ss[j]? = some x) := fun j x q => get_set q
  refine ⟨h.bh.off e4, h.fh.off e5, by simp [h.len], fun j x q => ?_, fun j x q => ?_, fun j k x y b n q1 q2 q3 q4 => ?_, fun j q => ?_, fun j ns q => ?_, fun s q => ?_, fun j q => ?_⟩
  · rcases at' j _ q with ⟨_, z⟩ | ⟨n, z⟩
    · cases z
    · exact h.sl j x z
  · rcases at' j _ q with ⟨n, z⟩ | ⟨n, z⟩
    · subst n
      cases z
      exact ⟨a, o', ea, upd_same, r, e4, e5, e6⟩
    · obtain ⟨b, u, f1, f2, f3, f4, f5, f6⟩ := h.so j x z
      have nb : b ≠ a := fun w => h.ap j i x d b n z e f1 (by rw [w]; exact ea)
      exact ⟨b, u, f1, by rw [upd_ne nb]; exact f2, f3, f4, f5, f6⟩
  · have g : ∀ (l : Nat) (x : PyData), (st.ss.set i (.o d'))[l]? = some (.o x) → ∃ y, st.ss[l]? = some (.o y) := fun l x q => by
      rcases at' l _ q with ⟨n, z⟩ | ⟨n, z⟩
      · exact ⟨d, by rw [n]; exact e⟩
      · exact ⟨x, z⟩
    obtain ⟨x', z1⟩ := g j x q1
    obtain ⟨y', z2⟩ := g k y q2
    exact h.ap j k x' y' b n z1 z2 q3 q4
  · rcases at' j _ q with ⟨_, z⟩ | ⟨n, z⟩
    · cases z
    · exact h.sx j z
  · rcases at' j _ q with ⟨_, z⟩ | ⟨n, z⟩
    · cases z
    · exact h.sc j ns z
  · obtain ⟨f1, f2, f3, f4, f5⟩ := h.sr s q
    obtain ⟨n1, n2⟩ := e6 (by rw [q]; rfl)
    exact ⟨f1.off (Ne.symm n1) (Ne.symm n2), f2, f3, f4, f5⟩
  · rcases at' j _ q with ⟨_, z⟩ | ⟨n, z⟩
    · cases z
    · exact h.sy j z
end

/-! ### targets -/
/-- a target stores d; idx: the places that it may change -/
def tG (K : PySem.W.Frag) (idx : List Nat) (g : PyData → S → Option S) : TG := fun v σ H Q => ∃ sa B F st d st', SR K sa B F H σ st ∧ Rp F v d ∧ g d st = some st' ∧ ∀ σ', SR K sa B F H σ' st' → st'.src = st.src → wipe σ' idx = wipe σ idx → Q σ' H
def tGs (K : PySem.W.Frag) (idx : List Nat) (g : List PyData → S → Option S) : TGs := fun vs σ H Q => ∃ sa B F st ds st', SR K sa B F H σ st ∧ RpL F vs ds ∧ g ds st = some st' ∧ ∀ σ', SR K sa B F H σ' st' → st'.src = st.src → wipe σ' idx = wipe σ idx → Q σ' H
def gN (i : Nat) : PyData → S → Option S := fun d st => some { st with ss := st.ss.set i (.v d) }
def gNl : List PyData → S → Option S := fun ds st => match ds with
  | [] => some st
  | _ => none
def gCn (g : PyData → S → Option S) (gs : List PyData → S → Option S) : List PyData → S → Option S := fun ds st => match ds with
  | d :: r => match g d st with
    | some st1 => gs r st1
    | none => none
  | [] => none
def gTp (gs : List PyData → S → Option S) : PyData → S → Option S := fun d st => match d with
  | .tuple ds => gs ds st
  | .list ds => gs ds st
  | _ => none
theorem wipe_at {σ : L2.St} {i : Nat} {idx : List Nat} (h : i ∈ idx) (hi : i < σ.length) : (wipe σ idx)[i]? = some none := by
  induction idx with
  | nil => cases h
  | cons k idx ih =>
    unfold wipe
    by_cases e : k = i
    · subst e
      exact List.getElem?_set_self (by rw [wipe_length]; exact hi)
    · rw [List.getElem?_set_ne e]
      rcases List.mem_cons.mp h with z | z
      · exact absurd z.symm e
      · exact ih z
theorem wipe_set {σ : L2.St} {i : Nat} {x : Option V} {idx : List Nat} (h : i ∈ idx) : wipe (σ.set i x) idx = wipe σ idx := by
  apply List.ext_getElem?
  intro j
  by_cases m : j ∈ idx
  · by_cases hj : j < σ.length
    · rw [wipe_at m hj, wipe_at m (by simpa using hj)]
    · rw [List.getElem?_eq_none (by rw [wipe_length]; simpa using hj), List.getElem?_eq_none (by rw [wipe_length]; simpa using hj)]
  · rw [wipe_out m, wipe_out m, List.getElem?_set_ne]
    exact fun e => m (by rw [← e]; exact h)
section
variable {K : PySem.W.Frag} {X : Cx} {e : Expr} {es : List Expr} {idx : List Nat} {g : PyData → S → Option S} {gs : List PyData → S → Option S} {pos : Pos}
theorem imG {t t' : TG} (h : PG X e t) (i : ∀ v σ H Q, t' v σ H Q → t v σ H Q) : PG X e t' := ⟨fun pins s σ H v u Q I r q => h.run pins s σ H v u Q I r (i v σ H Q q)⟩
theorem imGs {t t' : TGs} (h : PGs X es t) (i : ∀ v σ H Q, t' v σ H Q → t v σ H Q) : PGs X es t' := ⟨fun pins s σ H v u Q I r q => h.run pins s σ H v u Q I r (i v σ H Q q)⟩
theorem q_name {i : Nat} (h : PG X e (gName i)) (hi : i ∈ idx) : PG X e (tG K idx (gN i)) := imG h fun v σ H Q ⟨sa, B, F, st, d, st', h0, r, e, k⟩ => by
  cases e
  exact k _ (h0.put (v := v) (r := .v d) r) rfl (wipe_set hi)
theorem q_nil : PGs X [] (tGs K idx gNl) := imGs pgs_nil fun v σ H Q ⟨sa, B, F, st, d, st', h0, r, e, k⟩ => by
  unfold gNl at e
  cases r with
  | nil =>
    cases e
    exact ⟨rfl, k σ h0 rfl rfl⟩
  | cons _ _ => cases e
theorem q_cons (h : PG X e (tG K idx g)) (h' : PGs X es (tGs K idx gs)) (hs : (assignEach (e :: es) X.env).map (·.2) = assign e X.env :: (assignEach es X.env).map (·.2) := by rfl) : PGs X (e :: es) (tGs K idx (gCn g gs)) := imGs (pgs_cons h h' hs) fun v σ H Q ⟨sa, B, F, st, d, st', h0, r, e, k⟩ => by
  unfold gCn at e
  cases r with
  | nil => cases e
  | @cons v vs d ds r1 r2 =>
    simp only at e
    cases q : g d st with
    | none =>
      rw [q] at e
      cases e
    | some st1 =>
      rw [q] at e
      exact ⟨v, vs, rfl, sa, B, F, st, d, st1, h0, r1, q, fun σ1 S1 e1 w1 => ⟨sa, B, F, st1, ds, st', S1, r2, e, fun σ2 S2 e2 w2 => k σ2 S2 (e2.trans e1) (w2.trans w1)⟩⟩
theorem pg_seq {k : Nat} {t : TGs} {n : Nat} (hc : X.calm = true) (h : PGs X es t) (hn : (assignEach es X.env).length = n := by rfl) (hst : (assignEach es X.env).findIdx? (·.1) = none := by rfl) :
    PG X (.Tuple es k pos) fun v σ H Q => gTup X.K n t v σ H Q ∨ gLst X.K n t v σ H Q := ⟨fun pins s σ H v u Q I r hw => by
  rcases hw with hw | hw
  · exact (pg_tup hc h hn hst).run pins s σ H v u Q I r hw
  · exact (pg_lst hc h hn hst).run pins s σ H v u Q I r hw⟩
/-- the number of items -/
theorem q_tup {k n : Nat} (hc : X.calm = true) (h : PGs X es (tGs X.K idx gs)) (hg : ∀ ds st st', gs ds st = some st' → ds.length = n) (hn : (assignEach es X.env).length = n := by rfl) (hst : (assignEach es X.env).findIdx? (·.1) = none := by rfl) : PG X (.Tuple es k pos) (tG X.K idx (gTp gs)) := imG (pg_seq hc h hn hst) fun v σ H Q ⟨sa, B, F, st, d, st', h0, r, e, k⟩ => by
  unfold gTp at e
  split at e
  · cases r with
    | tup e1 r1 => exact .inl ⟨_, _, rfl, .inl (.inl (h0.fh _ _ e1)), by rw [r1.length]; exact hg _ _ _ e, sa, B, F, st, _, st', h0, r1, e, k⟩
  · cases r with
    | lst e1 r1 => exact .inr ⟨_, _, rfl, .inl (.inl (h0.fh _ _ e1)), by rw [r1.length]; exact hg _ _ _ e, sa, B, F, st, _, st', h0, r1, e, k⟩
  · cases e
theorem gl_nil : ∀ ds st st', gNl ds st = some st' → ds.length = 0 := fun ds st st' h => by
  cases ds with
  | nil => rfl
  | cons _ _ => cases h
theorem gl_cons {n : Nat} (h : ∀ ds st st', gs ds st = some st' → ds.length = n) : ∀ ds st st', gCn g gs ds st = some st' → ds.length = n + 1 := fun ds st st' e => by
  cases ds with
  | nil => cases e
  | cons d ds =>
    unfold gCn at e
    simp only at e
    cases q : g d st with
    | none =>
      rw [q] at e
      cases e
    | some st1 =>
      rw [q] at e
      rw [List.length_cons, h _ _ _ e]
end

/-! ### statements -/
inductive RS where
  | nx (s : S) | ret (r : Slot) (s : S) | bk (s : S) | ct (s : S) | bad
/-- what is wanted of a statement's outcome -/
def rsK (K : PySem.W.Frag) (B : Hp) (sa : Sa) (F : Hp) (st : S) (D : Ends) : RS → Prop
  | .nx st' => ∀ sa' F' H' σ', Rch K B σ' sa F st sa' F' H' st' → D.nx σ' H'
  | .ret r st' => ∀ sa' F' H' σ' v, Rch K B σ' sa F st sa' F' H' st' → RRep sa' B F' H' σ' st' v r → D.rt v H'
  | .bk st' => ∀ sa' F' H' σ', Rch K B σ' sa F st sa' F' H' st' → D.bk σ' H'
  | .ct st' => ∀ sa' F' H' σ', Rch K B σ' sa F st sa' F' H' st' → D.ct σ' H'
  | .bad => False
def tMS (K : PySem.W.Frag) (m : S → RS) : TS := fun D σ H => ∃ sa B F st, SR K sa B F H σ st ∧ rsK K B sa F st D (m st)
theorem rsK.step {K : PySem.W.Frag} {B : Hp} {sa sa1 : Sa} {F F1 H1 : Hp} {σ1 : L2.St} {st st1 : S} {D : Ends} {r : RS} (R : Rch K B σ1 sa F st sa1 F1 H1 st1) (h : rsK K B sa F st D r) : rsK K B sa1 F1 st1 D r := by
  cases r with
  | nx st' => exact fun sa' F' H' σ' R2 => h sa' F' H' σ' (R.trans R2)
  | ret r st' => exact fun sa' F' H' σ' v R2 => h sa' F' H' σ' v (R.trans R2)
  | bk st' => exact fun sa' F' H' σ' R2 => h sa' F' H' σ' (R.trans R2)
  | ct st' => exact fun sa' F' H' σ' R2 => h sa' F' H' σ' (R.trans R2)
  | bad => exact h
/-- other ends -/
theorem rsK.ends {K : PySem.W.Frag} {B : Hp} {sa : Sa} {F : Hp} {st : S} {D D' : Ends} {r : RS} (h : rsK K B sa F st D r) (hr : ∀ v H, D.rt v H → D'.rt v H)
    (hn : ∀ st', r = .nx st' → (∀ sa' F' H' σ', Rch K B σ' sa F st sa' F' H' st' → D.nx σ' H') → ∀ sa' F' H' σ', Rch K B σ' sa F st sa' F' H' st' → D'.nx σ' H')
    (hb : ∀ st', r = .bk st' → (∀ sa' F' H' σ', Rch K B σ' sa F st sa' F' H' st' → D.bk σ' H') → ∀ sa' F' H' σ', Rch K B σ' sa F st sa' F' H' st' → D'.bk σ' H')
    (hc : ∀ st', r = .ct st' → (∀ sa' F' H' σ', Rch K B σ' sa F st sa' F' H' st' → D.ct σ' H') → ∀ sa' F' H' σ', Rch K B σ' sa F st sa' F' H' st' → D'.ct σ' H') : rsK K B sa F st D' r := by
  cases r with
  | nx st' => exact hn st' rfl h
  | ret r st' => exact fun sa' F' H' σ' v R q => hr v H' (h sa' F' H' σ' v R q)
  | bk st' => exact hb st' rfl h
  | ct st' => exact hc st' rfl h
  | bad => exact h

def sNil : S → RS := fun st => .nx st
def sSeq (m m' : S → RS) : S → RS := fun st => match m st with
  | .nx st1 => m' st1
  | r => r
def sIf (c : S → R Bool) (m m' : S → RS) : S → RS := fun st => match c st with
  | .ok true st1 => m st1
  | .ok false st1 => m' st1
  | .bad => .bad
def sSet (i : Nat) (m : S → R Slot) : S → RS := fun st => match m st with
  | .ok r st1 => .nx { st1 with ss := st1.ss.set i r }
  | .bad => .bad
def sAsg (m : S → R PyData) (g : PyData → S → Option S) : S → RS := fun st => match m st with
  | .ok d st1 => match g d st1 with
    | some st2 => .nx st2
    | none => .bad
  | .bad => .bad
def sRet (m : S → R Slot) : S → RS := fun st => match m st with
  | .ok r st1 => .ret r st1
  | .bad => .bad
def sRetN : S → RS := fun st => .ret (.v .none) st
def sDrop (m : S → R Slot) : S → RS := fun st => match m st with
  | .ok _ st1 => .nx st1
  | .bad => .bad
/-- a name's value, moved out of it -/
def mMv (i : Nat) : S → R Slot := fun st => match st.ss[i]? with
  | some (.v d) => .ok (.v d) st
  | some (.o d) => .ok (.o d) { st with ss := st.ss.set i .no }
  | some .src => .ok .src st
  | some .cel => .ok .cel st
  | _ => .bad
section
variable {K : PySem.W.Frag} {X : Cx} {e a b : Expr} {st : Stmt} {sts : List Stmt} {m : S → R Slot} {mf : S → R PyData} {c : S → R Bool} {s1 s2 : S → RS} {g : PyData → S → Option S} {idx : List Nat} {pos : Pos}
theorem b_nil : PSs X [] (tMS K sNil) := imB pss_nil fun D σ H ⟨sa, B, F, st, h0, h1⟩ => h1 sa F H σ (.refl h0)
theorem r_seq : ∀ D σ H, tMS K (sSeq s1 s2) D σ H → tSeq (tMS K s1) (tMS K s2) D σ H := fun D σ H ⟨sa, B, F, st, h0, h1⟩ => by
  refine ⟨sa, B, F, st, h0, ?_⟩
  unfold sSeq at h1
  cases q : s1 st with
  | nx st1 =>
    rw [q] at h1
    exact fun sa' F' H' σ' R => ⟨sa', B, F', st1, R.r, h1.step R⟩
  | ret r st1 =>
    rw [q] at h1
    exact h1
  | bk st1 =>
    rw [q] at h1
    exact h1
  | ct st1 =>
    rw [q] at h1
    exact h1
  | bad =>
    rw [q] at h1
    exact h1
theorem b_cons (h : PS X st (tMS K s1)) (h' : PSs X sts (tMS K s2)) : PSs X (st :: sts) (tMS K (sSeq s1 s2)) := imB (pss_cons h h') r_seq
theorem b_one (h : PS X st (tMS K s1)) : PSs X [st] (tMS K s1) := pss_one h
theorem s_pass : PS X (.Pass pos) (tMS K sNil) := imS ps_pass fun D σ H ⟨sa, B, F, st, h0, h1⟩ => h1 sa F H σ (.refl h0)
theorem s_break : PS X (.Break pos) (tMS K fun st => .bk st) := imS ps_break fun D σ H ⟨sa, B, F, st, h0, h1⟩ => h1 sa F H σ (.refl h0)
theorem s_cont : PS X (.Continue pos) (tMS K fun st => .ct st) := imS ps_continue fun D σ H ⟨sa, B, F, st, h0, h1⟩ => h1 sa F H σ (.refl h0)
theorem s_if {sa sb : List Stmt} (hc : PT X e (tMT K c)) (ha : PSs X sa (tMS K s1)) (hb : PSs X sb (tMS K s2)) : PS X (.If e sa sb pos) (tMS K (sIf c s1 s2)) := imS (ps_if hc ha hb) fun D σ H ⟨sa, B, F, st, h0, h1⟩ => by
  unfold sIf at h1
  cases q : c st with
  | bad =>
    rw [q] at h1
    exact h1.elim
  | ok b st1 =>
    rw [q] at h1
    refine ⟨sa, B, F, st, _, _, h0, q, fun sa1 F1 H1 R => ?_⟩
    cases b with
    | true =>
      try dsimp only
      rw [if_pos rfl]
      exact ⟨sa1, B, F1, st1, R.r, h1.step R⟩
    | false =>
      try dsimp only
      rw [if_neg Bool.false_ne_true]
      exact ⟨sa1, B, F1, st1, R.r, h1.step R⟩
/-- name = e, by an assignment's rule -/
theorem s_set {i : Nat} (h : PS X st (tAsg (tM K m) (gName i))) : PS X st (tMS K (sSet i m)) := imS h fun D σ H ⟨sa, B, F, st, h0, h1⟩ => by
  unfold sSet at h1
  cases q : m st with
  | bad =>
    rw [q] at h1
    exact h1.elim
  | ok r st1 =>
    rw [q] at h1
    refine ⟨sa, B, F, st, _, _, h0, q, fun sa1 F1 H1 v R rr => ?_⟩
    exact h1 sa1 F1 H1 _ ⟨R.r.put rr, R.x, R.k, R.s⟩
theorem s_asg (h : PS X st (tAsg (tF K mf) (tG K idx g))) : PS X st (tMS K (sAsg mf g)) := imS h fun D σ H ⟨sa, B, F, st, h0, h1⟩ => by
  unfold sAsg at h1
  cases q : mf st with
  | bad =>
    rw [q] at h1
    exact h1.elim
  | ok d st1 =>
    simp only [q] at h1
    cases q2 : g d st1 with
    | none =>
      simp only [q2] at h1
      exact h1.elim
    | some st2 =>
      simp only [q2] at h1
      refine ⟨sa, B, F, st, _, _, h0, q, fun sa1 F1 H1 v R rr => ⟨sa1, B, F1, st1, d, st2, R.r, rr, q2, fun σ' S' es _ => ?_⟩⟩
      exact h1 sa1 F1 H1 σ' ⟨S', R.x, R.k, fun z => by rw [es]; exact R.s z⟩
theorem s_ret (h : PE X e (tM K m)) : PS X (.Return (some e) pos) (tMS K (sRet m)) := imS (ps_ret h) fun D σ H ⟨sa, B, F, st, h0, h1⟩ => by
  unfold sRet at h1
  cases q : m st with
  | bad =>
    rw [q] at h1
    exact h1.elim
  | ok r st1 =>
    rw [q] at h1
    exact ⟨sa, B, F, st, _, _, h0, q, fun sa1 F1 H1 v R rr => h1 sa1 F1 H1 σ v R rr⟩
theorem s_retN : PS X (.Return none pos) (tMS K sRetN) := imS ps_retN fun D σ H ⟨sa, B, F, st, h0, h1⟩ => h1 sa F H σ .non (.refl h0) Rp.non
theorem s_expr (h : PE X e (tM K m)) (hs : swapsWith e none pos.line X.env = pure false := by rfl) : PS X (.Expr e pos) (tMS K (sDrop m)) := imS (ps_expr h hs) fun D σ H ⟨sa, B, F, st, h0, h1⟩ => by
  unfold sDrop at h1
  cases q : m st with
  | bad =>
    rw [q] at h1
    exact h1.elim
  | ok r st1 =>
    rw [q] at h1
    exact ⟨sa, B, F, st, _, _, h0, q, fun sa1 F1 H1 v R rr => h1 sa1 F1 H1 σ R⟩
theorem d_mv {i : Nat} (h : PE X e (tVar i)) : PE X e (tM K (mMv i)) := imE h fun σ H Q ⟨sa, B, F, st, r', st', h0, h1, k⟩ => by
  unfold mMv at h1
  cases q : st.ss[i]? with
  | none =>
    rw [q] at h1
    cases h1
  | some x =>
    rw [q] at h1
    cases x with
    | v d =>
      cases h1
      obtain ⟨v, e1, e2⟩ := h0.sl i d q
      exact ⟨v, e1, k sa F H v (.refl h0) e2⟩
    | o d =>
      cases h1
      obtain ⟨a, o, e1, e2, e3, e4, e5, e6⟩ := h0.so i d q
      have S' : SR K sa B F H σ { st with ss := st.ss.set i .no } := h0.forget (by rw [h0.len]; simp) fun j x qj hn => by
        rcases get_set qj with ⟨_, z⟩ | ⟨_, z⟩
        · exact absurd z hn
        · exact ⟨z, rfl⟩
      refine ⟨.ref a, e1, k sa F H _ ⟨S', FX.refl, fun _ => rfl, fun z => z⟩ ⟨a, o, rfl, e2, e3, e4, e5, e6, fun j x qj z => ?_⟩⟩
      rcases get_set qj with ⟨_, w⟩ | ⟨n, w⟩
      · cases w
      · exact h0.ap j i x d a n w q z e1
    | src =>
      cases h1
      obtain ⟨e1, e2⟩ := h0.sx i q
      exact ⟨_, e2, k sa F H _ (.refl h0) ⟨e1, rfl⟩⟩
    | cel =>
      cases h1
      obtain ⟨e1, e2⟩ := h0.sy i q
      exact ⟨_, e2, k sa F H _ (.refl h0) ⟨e1, rfl⟩⟩
    | no => cases h1
    | scr _ => cases h1

/-! ### two or three names at once -/
def sPar2 (i j : Nat) (m m' : S → R Slot) : S → RS := fun st => match m st with
  | .ok r st1 => match m' st1 with
    | .ok r' st2 => .nx { st2 with ss := (st2.ss.set i r).set j r' }
    | .bad => .bad
  | .bad => .bad
def sPar3 (i j l : Nat) (m m' m'' : S → R Slot) : S → RS := fun st => match m st with
  | .ok r st1 => match m' st1 with
    | .ok r' st2 => match m'' st2 with
      | .ok r'' st3 => .nx { st3 with ss := ((st3.ss.set i r).set j r').set l r'' }
      | .bad => .bad
    | .bad => .bad
  | .bad => .bad
/-- a result that waits is protected -/
theorem RRep.wait {B : Hp} {σ : L2.St} {sa : Sa} {F H : Hp} {st : S} {v : V} {r : Slot} (h : SR K sa B F H σ st) (rr : RRep sa B F H σ st v r) : ∃ B', Sub B B' ∧ SR K sa B' F H σ st ∧
    ∀ sa' F' H' st', Rch K B' σ sa F st sa' F' H' st' → RRep sa' B F' H' σ st' v r ∧ (∀ d, r = .o d → ∃ a, v = .ref a ∧ B' a ≠ none) := by
  cases r with
  | v d => exact ⟨B, Sub.refl B, h, fun sa' F' H' st' R => ⟨Rp.mono R.x.le rr, fun d e => nomatch e⟩⟩
  | src => exact ⟨B, Sub.refl B, h, fun sa' F' H' st' R => ⟨⟨R.s rr.1, by rw [R.k rr.1]; exact rr.2⟩, fun d e => nomatch e⟩⟩
  | cel => exact ⟨B, Sub.refl B, h, fun sa' F' H' st' R => ⟨⟨R.s rr.1, by rw [R.k rr.1]; exact rr.2⟩, fun d e => nomatch e⟩⟩
  | no => exact rr.elim
  | scr _ => exact rr.elim
  | o d =>
    obtain ⟨a, o, rfl, h1, h2, h3, h4, h5, h6⟩ := rr
    refine ⟨upd B a o, Sub.new h3, h.prot h1 h3 h5 h6, fun sa' F' H' st' R => ?_⟩
    have hB : (upd B a o) a ≠ none := by
      rw [upd_same]
      exact fun z => nomatch z
    refine ⟨⟨a, o, rfl, R.r.bh _ _ upd_same, h2.mono R.x.le, h3, R.x.out a h4 hB, fun z => ?_, fun j e q z => ?_⟩, fun d' _ => ⟨a, rfl, hB⟩⟩
    · obtain ⟨s, hs⟩ := Option.isSome_iff_exists.mp z
      obtain ⟨_, e2, e3, _⟩ := R.r.sr s hs
      exact ⟨fun w => hB (by
        rw [← w] at e2
        exact e2), fun w => hB (by
        rw [← w] at e3
        exact e3)⟩
    · obtain ⟨b, u, f1, f2, f3, f4, _⟩ := R.r.so j e q
      rw [z] at f1
      cases f1
      exact hB f4
/-- where another object is put, a result still is one -/
theorem RRep.beside {B : Hp} {σ : L2.St} {sa : Sa} {F H : Hp} {st : S} {v v' : V} {r r' : Slot} {i : Nat} (h : RRep sa B F H σ st v r) (hd : ∀ d d', r = .o d → r' = .o d' → v ≠ v') : RRep sa B F H (σ.set i (some v')) { st with ss := st.ss.set i r' } v r := by
  cases r with
  | v d => exact h
  | src => exact h
  | cel => exact h
  | no => exact h.elim
  | scr _ => exact h.elim
  | o d =>
    obtain ⟨a, o, rfl, h1, h2, h3, h4, h5, h6⟩ := h
    refine ⟨a, o, rfl, h1, h2, h3, h4, h5, fun j e q z => ?_⟩
    rcases get_set q with ⟨e1, e2⟩ | ⟨e1, e2⟩
    · subst e1
      rcases get_set z with ⟨_, w⟩ | ⟨w, _⟩
      · exact hd d e rfl e2.symm (Option.some.inj w)
      · exact w rfl
    · rw [List.getElem?_set_ne (Ne.symm e1)] at z
      exact h6 j e e2 z
theorem s_par2 {i j : Nat} {m' : S → R Slot} (hij : i ≠ j) (h : PS X st (tPar i j (tCons (tM K m) (tCons (tM K m') tNil)))) : PS X st (tMS K (sPar2 i j m m')) := imS h fun D σ H ⟨sa, B, F, st, h0, h1⟩ => by
  unfold sPar2 at h1
  cases q : m st with
  | bad =>
    simp only [q] at h1
    exact h1.elim
  | ok r st1 =>
    cases q2 : m' st1 with
    | bad =>
      simp only [q, q2] at h1
      exact h1.elim
    | ok r' st2 =>
      simp only [q, q2] at h1
      refine ⟨sa, B, F, st, r, st1, h0, q, fun sa1 F1 H1 v R1 rr1 => ?_⟩
      obtain ⟨B', sb, S1, kp⟩ := rr1.wait R1.r
      refine ⟨sa1, B', F1, st1, r', st2, S1, q2, fun sa2 F2 H2 w R2 rr2 => ⟨v, w, rfl, ?_⟩⟩
      obtain ⟨k1, k2⟩ := kp sa2 F2 H2 st2 R2
      have R : Rch K B σ sa F st sa2 F2 H2 st2 := R1.trans ⟨R2.r.less sb, R2.x.weak sb, R2.k, R2.s⟩
      have rr2' : RRep sa2 B F2 H2 σ st2 w r' := by
        cases r' with
        | v d => exact rr2
        | src => exact rr2
        | cel => exact rr2
        | no => exact rr2.elim
        | scr _ => exact rr2.elim
        | o d =>
          obtain ⟨a, o, e, t1, t2, t3, t4⟩ := rr2
          exact ⟨a, o, e, t1, t2, sb.none_of t3, t4⟩
      have ne : ∀ d d', r' = .o d → r = .o d' → w ≠ v := fun d d' e1 e2 z => by
        subst e1
        obtain ⟨a, ea, ha⟩ := k2 d' e2
        obtain ⟨a2, o, e, t1, t2, t3, t4⟩ := rr2
        rw [e, ea] at z
        cases z
        exact ha t3
      have S2 := (R.r.put k1).put (i := j) (rr2'.beside (i := i) ne)
      exact h1 sa2 F2 H2 _ ⟨S2, R.x, R.k, R.s⟩
end
end Pd
end
section
set_option linter.all false
set_option maxRecDepth 100000
/-! Pd, part J: what is walked; for, while, list comprehensions. -/
namespace Pd
open PySem PySem.Spec PyProof.Rows L2

/-! ### what is walked -/
def SrcAt (σ0 σ : L2.St) (st : S) : Opd → Prop
  | .s j d => st.ss[j]? = some (.o d) ∧ σ[j]? = σ0[j]?
  | _ => True
/-- the iterator yields the items ds -/
structure Drv (K : PySem.W.Frag) (J : It) (σ0 : L2.St) (o : Opd) (F0 : Hp) (ds : List PyData) : Prop where
  go : ∀ (i : Nat) (sa : Sa) (B F H : Hp) (σ : L2.St) (st : S), SR K sa B F H σ st → Sub F0 F → SrcAt σ0 σ st o → i < ds.length → J.go i H
  stop : ∀ (sa : Sa) (B F H : Hp) (σ : L2.St) (st : S), SR K sa B F H σ st → Sub F0 F → SrcAt σ0 σ st o → J.stop ds.length H
  yld : ∀ (i : Nat) (sa : Sa) (B F H : Hp) (σ : L2.St) (st : S) (x : V) (H' : Hp) (d : PyData), SR K sa B F H σ st → Sub F0 F → SrcAt σ0 σ st o → ds[i]? = some d → J.yld i H x H' → ∃ F', SR K sa B F' H' σ st ∧ FX B F F' ∧ Rp F' x d
def tI (K : PySem.W.Frag) (m : S → R (Opd × List PyData)) : TI := fun σ H R => ∃ sa B F st o ds st', SR K sa B F H σ st ∧ m st = .ok (o, ds) st' ∧
  ∀ sa' F' H' J, Rch K B σ sa F st sa' F' H' st' → SrcAt σ σ st' o → Drv K J σ o F' ds → R J H'
def frzO : Opd → Opd
  | .t d => .v d
  | x => x
def mSeq (m : S → R Opd) : S → R (Opd × List PyData) := fun st => match m st with
  | .ok x st1 => match seqD x.d with
    | some ds => .ok (frzO x, ds) st1
    | none => .bad
  | .bad => .bad
def enumD (ds : List PyData) : List PyData := ds.zipIdx.map fun p => .tuple [.int (p.2 : Nat), p.1]
def mEnum (m : S → R Opd) : S → R (Opd × List PyData) := fun st => match m st with
  | .ok x st1 => match seqD x.d with
    | some ds => .ok (frzO x, enumD ds) st1
    | none => .bad
  | .bad => .bad
def mRgI (m : S → R (List PyData)) : S → R (Opd × List PyData) := fun st => match m st with
  | .ok [.int n] st1 => if rgOk 0 n then .ok (.v .none, rgD 0 n) st1 else .bad
  | _ => .bad
def mRgI2 (m : S → R (List PyData)) : S → R (Opd × List PyData) := fun st => match m st with
  | .ok [.int a, .int b] st1 => if rgOk a b then .ok (.v .none, rgD a b) st1 else .bad
  | _ => .bad
def zipD (xs ys : List PyData) : List PyData := (xs.zip ys).map fun p => .tuple [p.1, p.2]
open Classical in
noncomputable def mZip (m m' : S → R Opd) : S → R (Opd × List PyData) := fun st => match m st with
  | .ok x st1 => match m' st1 with
    | .ok y st2 => match x, y with
      | .v (.list xs), .v (.list ys) => .ok (.v .none, zipD xs ys) st2
      | .v (.tuple xs), .v (.tuple ys) => .ok (.v .none, zipD xs ys) st2
      | _, _ => .bad
    | .bad => .bad
  | .bad => .bad
section
variable {K : PySem.W.Frag}
/-- a list or tuple at a holds the items -/
def HoldsL (K : PySem.W.Frag) (σ0 : L2.St) (o : Opd) (F0 : Hp) (a : Addr) (ds : List PyData) : Prop := ∀ (sa : Sa) (B F H : Hp) (σ : L2.St) (st : S), SR K sa B F H σ st → Sub F0 F → SrcAt σ0 σ st o → ∃ xs, H a = some (.lst xs) ∧ RpL F xs ds
theorem seq_src {B : Hp} {σ : L2.St} {sa sa' : Sa} {F F' H' : Hp} {st st' : S} {x : Opd} {v : V} {ds : List PyData} (R : Rch K B σ sa F st sa' F' H' st') (p : PRep sa' B F' H' σ st' v x) (e : seqD x.d = some ds) :
    ∃ F2 a, v = .ref a ∧ Rch K B σ sa F st sa' F2 H' st' ∧ SrcAt σ σ st' (frzO x) ∧ (((∃ xs, H' a = some (.lst xs)) ∧ HoldsL K σ (frzO x) F2 a ds) ∨ ∃ xs, F2 a = some (.tup xs) ∧ RpL F2 xs ds) := by
  have val : ∀ {F2 : Hp} {d : PyData}, Rch K B σ sa F st sa' F2 H' st' → Rp F2 v d → seqD d = some ds → ∃ F2 a, v = .ref a ∧ Rch K B σ sa F st sa' F2 H' st' ∧ SrcAt σ σ st' (.v d) ∧ (((∃ xs, H' a = some (.lst xs)) ∧ HoldsL K σ (.v d) F2 a ds) ∨ ∃ xs, F2 a = some (.tup xs) ∧ RpL F2 xs ds) := by
    intro F2 d R2 r e
    cases r with
    | lst e1 r1 =>
      cases e
      exact ⟨F2, _, rfl, R2, True.intro, .inl ⟨⟨_, R2.r.fh _ _ e1⟩, fun sa3 B3 F3 H3 σ3 st3 S3 s3 _ => ⟨_, S3.fh _ _ (s3 _ _ e1), r1.mono s3⟩⟩⟩
    | tup e1 r1 =>
      cases e
      exact ⟨F2, _, rfl, R2, True.intro, .inr ⟨_, e1, r1⟩⟩
    | _ => cases e
  cases x with
  | v d => exact val R p e
  | t d =>
    obtain ⟨F2, R2, r2⟩ := R.frz p
    exact val R2 r2 e
  | s j d =>
    obtain ⟨a, o, e1, e2, e3, _⟩ := R.r.so j d p.1
    have q := p.2
    rw [e1] at q
    have q' : V.ref a = v := Option.some.inj (Option.some.inj q)
    cases e3 with
    | lst r1 =>
      cases e
      refine ⟨F', a, q'.symm, R, ⟨p.1, rfl⟩, .inl ⟨⟨_, e2⟩, fun sa3 B3 F3 H3 σ3 st3 S3 s3 z => ?_⟩⟩
      obtain ⟨b, u, f1, f2, f3, _⟩ := S3.so j _ z.1
      rw [z.2, e1] at f1
      cases f1
      cases f3 with
      | lst r3 => exact ⟨_, f2, r3⟩
    | dK _ => cases e
    | dT _ => cases e
theorem drv_list {σ0 : L2.St} {o : Opd} {F0 : Hp} {a : Addr} {ds : List PyData} (h : HoldsL K σ0 o F0 a ds) : Drv K (Itl K a) σ0 o F0 ds where
  go := fun i sa B F H σ st S1 s1 z hi => by
    obtain ⟨xs, e, r⟩ := h sa B F H σ st S1 s1 z
    exact ⟨xs, _, .inl (.inl e), List.getElem?_eq_getElem (by rw [r.length]; exact hi)⟩
  stop := fun sa B F H σ st S1 s1 z => by
    obtain ⟨xs, e, r⟩ := h sa B F H σ st S1 s1 z
    exact ⟨xs, .inl (.inl e), Nat.le_of_eq r.length⟩
  yld := fun i sa B F H σ st x H' d S1 s1 z hd y => by
    obtain ⟨xs, e, r⟩ := h sa B F H σ st S1 s1 z
    obtain ⟨rfl, y2⟩ := y
    obtain ⟨v, h1, h2⟩ := r.get hd
    rw [y2 xs (.inl (.inl e))] at h1
    cases h1
    exact ⟨F, S1, FX.refl, h2⟩
theorem drv_tup {σ0 : L2.St} {o : Opd} {F0 : Hp} {a : Addr} {xs : List V} {ds : List PyData} (e : F0 a = some (.tup xs)) (r : RpL F0 xs ds) : Drv K (Itt K a) σ0 o F0 ds where
  go := fun i sa B F H σ st S1 s1 _ hi => ⟨xs, _, .inl (.inl (S1.fh _ _ (s1 _ _ e))), List.getElem?_eq_getElem (by rw [r.length]; exact hi)⟩
  stop := fun sa B F H σ st S1 s1 _ => ⟨xs, .inl (.inl (S1.fh _ _ (s1 _ _ e))), Nat.le_of_eq r.length⟩
  yld := fun i sa B F H σ st x H' d S1 s1 _ hd y => by
    obtain ⟨rfl, y2⟩ := y
    obtain ⟨v, h1, h2⟩ := r.get hd
    rw [y2 xs (.inl (.inl (S1.fh _ _ (s1 _ _ e))))] at h1
    cases h1
    exact ⟨F, S1, FX.refl, h2.mono s1⟩
theorem enumD_at {ds : List PyData} {i : Nat} {d : PyData} (h : (enumD ds)[i]? = some d) : ∃ y, ds[i]? = some y ∧ d = .tuple [.int (i : Nat), y] := by
  unfold enumD at h
  rw [List.getElem?_map, List.getElem?_zipIdx] at h
  cases q : ds[i]? with
  | none =>
    rw [q] at h
    cases h
  | some y =>
    rw [q] at h
    simp only [Option.map_some, Nat.zero_add] at h
    exact ⟨y, rfl, (Option.some.inj h).symm⟩
theorem enumD_len (ds : List PyData) : (enumD ds).length = ds.length := by simp [enumD]
/-- a new pair of what is held -/
theorem pair_new {sa : Sa} {B F H : Hp} {σ : L2.St} {st : S} {T : Addr} {x y : V} {dx dy : PyData} (S1 : SR K sa B F H σ st) (hT : H T = none) (rx : Rp F x dx) (ry : Rp F y dy) :
    ∃ F', SR K sa B F' (upd H T (.tup [x, y])) σ st ∧ FX B F F' ∧ Rp F' (.ref T) (.tuple [dx, dy]) := by
  obtain ⟨n1, n2⟩ := S1.news hT
  have hf := S1.fh.none_of hT
  exact ⟨upd F T (.tup [x, y]), (S1.alloc hT).freeze upd_same hf n1 n2, FX.new S1.bh hT S1.fh, .tup upd_same (.cons (rx.mono (Sub.new hf)) (.cons (ry.mono (Sub.new hf)) .nil))⟩
theorem drv_enL {σ0 : L2.St} {o : Opd} {F0 : Hp} {a : Addr} {ds : List PyData} (h : HoldsL K σ0 o F0 a ds) : Drv K (Ite K a) σ0 o F0 (enumD ds) where
  go := fun i sa B F H σ st S1 s1 z hi => by
    obtain ⟨xs, e, r⟩ := h sa B F H σ st S1 s1 z
    rw [enumD_len] at hi
    exact ⟨xs, _, .inl (.inl e), List.getElem?_eq_getElem (by rw [r.length]; exact hi)⟩
  stop := fun sa B F H σ st S1 s1 z => by
    obtain ⟨xs, e, r⟩ := h sa B F H σ st S1 s1 z
    exact ⟨xs, .inl (.inl e), by rw [enumD_len]; exact Nat.le_of_eq r.length⟩
  yld := fun i sa B F H σ st x H' d S1 s1 z hd y => by
    obtain ⟨xs, e, r⟩ := h sa B F H σ st S1 s1 z
    obtain ⟨y0, h0, rfl⟩ := enumD_at hd
    obtain ⟨T, u, rfl, hT, rfl, y2⟩ := y
    obtain ⟨v, h1, h2⟩ := r.get h0
    rw [y2 xs (.inl (.inl e))] at h1
    cases h1
    exact pair_new S1 hT (.int _) h2
theorem drv_enT {σ0 : L2.St} {o : Opd} {F0 : Hp} {a : Addr} {xs : List V} {ds : List PyData} (e : F0 a = some (.tup xs)) (r : RpL F0 xs ds) : Drv K (ItE K a) σ0 o F0 (enumD ds) where
  go := fun i sa B F H σ st S1 s1 _ hi => ⟨xs, _, .inl (.inl (S1.fh _ _ (s1 _ _ e))), List.getElem?_eq_getElem (by
    rw [enumD_len] at hi
    rw [r.length]
    exact hi)⟩
  stop := fun sa B F H σ st S1 s1 _ => ⟨xs, .inl (.inl (S1.fh _ _ (s1 _ _ e))), by rw [enumD_len]; exact r.length⟩
  yld := fun i sa B F H σ st x H' d S1 s1 _ hd y => by
    obtain ⟨y0, h0, rfl⟩ := enumD_at hd
    obtain ⟨T, u, rfl, hT, rfl, y2⟩ := y
    obtain ⟨v, h1, h2⟩ := r.get h0
    rw [y2 xs (.inl (.inl (S1.fh _ _ (s1 _ _ e))))] at h1
    cases h1
    exact pair_new S1 hT (.int _) (h2.mono s1)
theorem zipD_at {xs ys : List PyData} {i : Nat} {d : PyData} (h : (zipD xs ys)[i]? = some d) : ∃ x y, xs[i]? = some x ∧ ys[i]? = some y ∧ d = .tuple [x, y] := by
  unfold zipD at h
  rw [List.getElem?_map] at h
  obtain ⟨p, h1, h2⟩ := Option.map_eq_some_iff.mp h
  obtain ⟨a, b⟩ := p
  obtain ⟨h3, h4⟩ := List.getElem?_zip_eq_some.mp h1
  exact ⟨a, b, h3, h4, h2.symm⟩
theorem zipD_len (xs ys : List PyData) : (zipD xs ys).length = min xs.length ys.length := by simp [zipD]
theorem drv_zipL {σ0 : L2.St} {o : Opd} {F0 : Hp} {a b : Addr} {vs ws : List V} {xs ys : List PyData} (e : F0 a = some (.lst vs)) (r : RpL F0 vs xs) (e' : F0 b = some (.lst ws)) (r' : RpL F0 ws ys) : Drv K (Itz K a b) σ0 o F0 (zipD xs ys) where
  go := fun i sa B F H σ st S1 s1 _ hi => by
    rw [zipD_len] at hi
    exact ⟨vs, ws, _, _, .inl (.inl (S1.fh _ _ (s1 _ _ e))), .inl (.inl (S1.fh _ _ (s1 _ _ e'))), List.getElem?_eq_getElem (by rw [r.length]; omega), List.getElem?_eq_getElem (by rw [r'.length]; omega)⟩
  stop := fun sa B F H σ st S1 s1 _ => ⟨vs, ws, .inl (.inl (S1.fh _ _ (s1 _ _ e))), .inl (.inl (S1.fh _ _ (s1 _ _ e'))), by
    rw [zipD_len, r.length, r'.length]
    omega⟩
  yld := fun i sa B F H σ st x H' d S1 s1 _ hd y => by
    obtain ⟨x0, y0, h0, h0', rfl⟩ := zipD_at hd
    obtain ⟨T, u, u', rfl, hT, rfl, y2, y3⟩ := y
    obtain ⟨v, h1, h2⟩ := r.get h0
    obtain ⟨v', h1', h2'⟩ := r'.get h0'
    rw [y2 vs (.inl (.inl (S1.fh _ _ (s1 _ _ e))))] at h1
    rw [y3 ws (.inl (.inl (S1.fh _ _ (s1 _ _ e'))))] at h1'
    cases h1
    cases h1'
    exact pair_new S1 hT (h2.mono s1) (h2'.mono s1)
theorem drv_zipT {σ0 : L2.St} {o : Opd} {F0 : Hp} {a b : Addr} {vs ws : List V} {xs ys : List PyData} (e : F0 a = some (.tup vs)) (r : RpL F0 vs xs) (e' : F0 b = some (.tup ws)) (r' : RpL F0 ws ys) : Drv K (RZ.ItzT K a b) σ0 o F0 (zipD xs ys) where
  go := fun i sa B F H σ st S1 s1 _ hi => by
    rw [zipD_len] at hi
    exact ⟨vs, ws, _, _, .inl (.inl (S1.fh _ _ (s1 _ _ e))), .inl (.inl (S1.fh _ _ (s1 _ _ e'))), List.getElem?_eq_getElem (by rw [r.length]; omega), List.getElem?_eq_getElem (by rw [r'.length]; omega)⟩
  stop := fun sa B F H σ st S1 s1 _ => ⟨vs, ws, .inl (.inl (S1.fh _ _ (s1 _ _ e))), .inl (.inl (S1.fh _ _ (s1 _ _ e'))), by
    rw [zipD_len, r.length, r'.length]
    omega⟩
  yld := fun i sa B F H σ st x H' d S1 s1 _ hd y => by
    obtain ⟨x0, y0, h0, h0', rfl⟩ := zipD_at hd
    obtain ⟨T, u, u', rfl, hT, rfl, y2, y3⟩ := y
    obtain ⟨v, h1, h2⟩ := r.get h0
    obtain ⟨v', h1', h2'⟩ := r'.get h0'
    rw [y2 vs (.inl (.inl (S1.fh _ _ (s1 _ _ e))))] at h1
    rw [y3 ws (.inl (.inl (S1.fh _ _ (s1 _ _ e'))))] at h1'
    cases h1
    cases h1'
    exact pair_new S1 hT (h2.mono s1) (h2'.mono s1)
theorem drv_rng {σ0 : L2.St} {o : Opd} {F0 : Hp} {a b : Int} : Drv K (Itr a (b - a).toNat) σ0 o F0 (rgD a b) where
  go := fun i sa B F H σ st S1 s1 _ hi => by
    have e : (rgD a b).length = (b - a).toNat := by simp [rgD]
    rw [e] at hi
    exact hi
  stop := fun sa B F H σ st S1 s1 _ => by
    have e : (rgD a b).length = (b - a).toNat := by simp [rgD]
    rw [e]
    exact Nat.le_refl _
  yld := fun i sa B F H σ st x H' d S1 s1 _ hd y => by
    obtain ⟨rfl, rfl⟩ := y
    unfold rgD at hd
    rw [List.getElem?_map] at hd
    obtain ⟨j, h1, rfl⟩ := Option.map_eq_some_iff.mp hd
    have hj : j = i := by
      rw [List.getElem?_eq_some_iff] at h1
      obtain ⟨h2, h3⟩ := h1
      rw [List.getElem_range] at h3
      exact h3.symm
    subst hj
    exact ⟨F, S1, FX.refl, .int _⟩
end
section
variable {X : Cx} {tg e e' : Expr} {es : List Expr} {m m' : S → R Opd} {ma : S → R (List PyData)} {p pos tpos : Pos} {elts : List Expr} {kk : Nat}
theorem imI {wi wi' : TI} (h : PI X tg e wi) (i : ∀ σ H R, wi' σ H R → wi σ H R) : PI X tg e wi' := ⟨fun pins s σ H R I q => h.run pins s σ H R I (i σ H R q)⟩
/-- a list or a tuple is walked -/
theorem pi_any {tl : TE} (hl : PE X e tl) : PI X tg e fun σ H R => tl σ H fun x H1 => ∃ a, x = .ref a ∧ (((∃ xs, SqL X.K H1 a xs) ∧ R (Itl X.K a) H1) ∨ ((∃ xs, SqT X.K H1 a xs) ∧ R (Itt X.K a) H1)) := by
  refine ⟨fun pins s σ H R I h => thn (hl.run pins s σ H _ I h) fun v s1 ⟨x, H1, I1, r1, a, ex, q1⟩ => ?_⟩
  subst ex
  cases r1
  have one : ∀ b, b ∈ [s1.heap.objs.size] → FpOk X pins H1 b := fun b hb => by
    rw [show b = s1.heap.objs.size by simpa using hb]
    exact I1.fpOk (Nat.le_refl _) (I1.hok.fresh (Nat.le_refl _))
  rcases q1 with ⟨⟨xs, hq⟩, q⟩ | ⟨⟨xs, hq⟩, q⟩
  · obtain ⟨its, rv, pl, _⟩ := I1.list hq
    exact wpAny_pyIter_list pl.isList ⟨s1.heap.objs.size, [s1.heap.objs.size], _, _, H1, rfl, I1.kept (t' := s1.toks) fun b o z => Heap.get?_push_of_some _ z,
      turn_list a _, ⟨_, Heap.get?_push_size _ rfl, rfl, rfl⟩, one, q⟩
  · obtain ⟨its, rv, pl, _⟩ := I1.tuple hq
    exact wpAny_pyIter_tuple (show s1.heap.IsTuple a its.toArray from pl) ⟨s1.heap.objs.size, [s1.heap.objs.size], _, _, H1, rfl, I1.kept (t' := s1.toks) fun b o z => Heap.get?_push_of_some _ z,
      turn_tuple a _, ⟨_, Heap.get?_push_size _ rfl, rfl, rfl⟩, one, q⟩
theorem i_seq (h : PE X e (tP X.K m)) : PI X tg e (tI X.K (mSeq m)) := imI (pi_any h) fun σ H R ⟨sa, B, F, st, o, ds, st', h0, h1, k⟩ => by
  unfold mSeq at h1
  cases q : m st with
  | bad =>
    simp only [q] at h1
    cases h1
  | ok x st1 =>
    cases q2 : seqD x.d with
    | none =>
      simp only [q, q2] at h1
      cases h1
    | some ys =>
      simp only [q, q2] at h1
      cases h1
      refine ⟨sa, B, F, st, x, _, h0, q, fun sa1 F1 H1 v R1 p1 => ?_⟩
      obtain ⟨F2, a, rfl, R2, sc, ⟨⟨xs, e1⟩, hl⟩ | ⟨xs, e1, r1⟩⟩ := seq_src R1 p1 q2
      · exact ⟨a, rfl, .inl ⟨⟨xs, .inl (.inl e1)⟩, k sa1 F2 H1 _ R2 sc (drv_list hl)⟩⟩
      · exact ⟨a, rfl, .inr ⟨⟨xs, .inl (.inl (R2.r.fh _ _ e1))⟩, k sa1 F2 H1 _ R2 sc (drv_tup e1 r1)⟩⟩
theorem i_enum (hg : Gl X "enumerate") (hm : X.mg "enumerate" = none) (h : PE X e (tP X.K m)) (hs : starEach (e :: []) X.env = (false, eval e X.env) :: starEach [] X.env := by rfl) (hs1 : starEach [e] X.env = [(false, eval e X.env)] := by rfl) :
    PI X (.Tuple elts kk tpos) (.Call (.Name "enumerate" p) [e] [] pos) (tI X.K (mEnum m)) := imI (pi_enT hg hm (pa_cons h pa_nil hs) hs1) fun σ H R ⟨sa, B, F, st, o, ds, st', h0, h1, k⟩ => by
  unfold mEnum at h1
  cases q : m st with
  | bad =>
    simp only [q] at h1
    cases h1
  | ok x st1 =>
    cases q2 : seqD x.d with
    | none =>
      simp only [q, q2] at h1
      cases h1
    | some ys =>
      simp only [q, q2] at h1
      cases h1
      refine ⟨sa, B, F, st, x, _, h0, q, fun sa1 F1 H1 v R1 p1 => ?_⟩
      obtain ⟨F2, a, rfl, R2, sc, ⟨⟨xs, e1⟩, hl⟩ | ⟨xs, e1, r1⟩⟩ := seq_src R1 p1 q2
      · exact ⟨a, xs, rfl, .inl ⟨.inl (.inl e1), k sa1 F2 H1 _ R2 sc (drv_enL hl)⟩⟩
      · exact ⟨a, xs, rfl, .inr ⟨.inl (.inl (R2.r.fh _ _ e1)), k sa1 F2 H1 _ R2 sc (drv_enT e1 r1)⟩⟩
theorem i_zip (hg : Gl X "zip") (hm : X.mg "zip" = none) (h : PE X e (tP X.K m)) (h' : PE X e' (tP X.K m')) (hs : starEach (e :: [e']) X.env = (false, eval e X.env) :: starEach [e'] X.env := by rfl) (hs' : starEach (e' :: []) X.env = (false, eval e' X.env) :: starEach [] X.env := by rfl) (hs2 : ((backTo pos (starEach [e'] X.env)).any fun x => x.fst) = false := by rfl) :
    PI X (.Tuple elts kk tpos) (.Call (.Name "zip" p) [e, e'] [] pos) (tI X.K (mZip m m')) := imI (RZ.pi_zipA hg hm (pa_cons h (pa_cons h' pa_nil hs') hs) hs hs2) fun σ H R ⟨sa, B, F, st, o, ds, st', h0, h1, k⟩ => by
  unfold mZip at h1
  cases q : m st with
  | bad =>
    simp only [q] at h1
    cases h1
  | ok x st1 =>
    cases q2 : m' st1 with
    | bad =>
      simp only [q, q2] at h1
      cases h1
    | ok y st2 =>
      simp only [q, q2] at h1
      refine ⟨sa, B, F, st, x, _, h0, q, fun sa1 F1 H1 v R1 p1 => ⟨sa1, B, F1, st1, y, _, R1.r, q2, fun sa2 F2 H2 w R2 p2 => ?_⟩⟩
      split at h1
      · cases h1
        have r1 := Rp.mono R2.x.le (show Rp F1 v _ from p1)
        have r2 : Rp F2 w _ := p2
        cases r1 with
        | lst e1 r1 =>
          cases r2 with
          | lst e2 r2 => exact ⟨_, _, _, _, rfl, .inl ⟨.inl (.inl (R2.r.fh _ _ e1)), .inl (.inl (R2.r.fh _ _ e2)), k sa2 F2 H2 _ (R1.trans R2) True.intro (drv_zipL e1 r1 e2 r2)⟩⟩
      · cases h1
        have r1 := Rp.mono R2.x.le (show Rp F1 v _ from p1)
        have r2 : Rp F2 w _ := p2
        cases r1 with
        | tup e1 r1 =>
          cases r2 with
          | tup e2 r2 => exact ⟨_, _, _, _, rfl, .inr ⟨.inl (.inl (R2.r.fh _ _ e1)), .inl (.inl (R2.r.fh _ _ e2)), k sa2 F2 H2 _ (R1.trans R2) True.intro (drv_zipT e1 r1 e2 r2)⟩⟩
      · cases h1
theorem i_rng1 {a : Expr} (hg : Gl X "range") (hm : X.mg "range" = none) (h : PA X [a] (tAL X.K ma)) (hs : starEach [a] X.env = [(false, eval a X.env)] := by rfl) : PI X tg (.Call (.Name "range" p) [a] [] pos) (tI X.K (mRgI ma)) :=
  imI (pi_range1 hg hm h hs) fun σ H R ⟨sa, B, F, st, o, ds, st', h0, h1, k⟩ => by
    unfold mRgI at h1
    split at h1
    · rename_i n st1 q
      split at h1
      · rename_i hz
        cases h1
        refine ⟨sa, B, F, st, _, _, h0, q, fun sa1 F1 H1 vs R1 r1 => ?_⟩
        cases r1 with
        | cons r1 r2 =>
          cases r2
          cases r1
          obtain ⟨_, _, h3, h4, _⟩ := rgOk_ok hz
          refine ⟨n, rfl, h3, h4, ?_⟩
          have := k sa1 F1 H1 _ R1 True.intro (drv_rng (a := 0) (b := n))
          rw [Int.sub_zero] at this
          exact this
      · cases h1
    · cases h1
theorem i_rng2 {a b : Expr} (hg : Gl X "range") (hm : X.mg "range" = none) (h : PA X [a, b] (tAL X.K ma)) (hs : starEach [a, b] X.env = [(false, eval a X.env), (false, eval b X.env)] := by rfl) (hs2 : starEach [b] X.env = [(false, eval b X.env)] := by rfl) : PI X tg (.Call (.Name "range" p) [a, b] [] pos) (tI X.K (mRgI2 ma)) :=
  imI (pi_range2 hg hm h hs hs2) fun σ H R ⟨sa, B, F, st, o, ds, st', h0, h1, k⟩ => by
    unfold mRgI2 at h1
    split at h1
    · rename_i a' b' st1 q
      split at h1
      · rename_i hz
        cases h1
        refine ⟨sa, B, F, st, _, _, h0, q, fun sa1 F1 H1 vs R1 r1 => ?_⟩
        cases r1 with
        | cons r1 r2 =>
          cases r2 with
          | cons r2 r3 =>
            cases r3
            cases r1
            cases r2
            obtain ⟨h1, h2, h3, h4, _⟩ := rgOk_ok hz
            exact ⟨a', b', rfl, ⟨h1, h2, h3, h4⟩, k sa1 F1 H1 _ R1 True.intro (drv_rng (a := a') (b := b'))⟩
      · cases h1
    · cases h1
end
end Pd
end
section
set_option linter.all false
set_option maxRecDepth 100000
/-! Pd, part K: for, while, list comprehensions. -/
namespace Pd
open PySem PySem.Spec PyProof.Rows L2

/-! ### what is walked, frozen -/
def tL (K : PySem.W.Frag) (m : S → R (List PyData)) : TI := fun σ H R => ∃ sa B F st ds st', SR K sa B F H σ st ∧ m st = .ok ds st' ∧
  ∀ sa' F' H' J, Rch K B σ sa F st sa' F' H' st' → Drv K J σ (.v .none) F' ds → R J H'
def mV (m : S → R PyData) : S → R Opd := fun st => match m st with
  | .ok d st1 => .ok (.v d) st1
  | .bad => .bad
def jSeq (m : S → R PyData) : S → R (List PyData) := fun st => match m st with
  | .ok (.list ds) st1 => .ok ds st1
  | .ok (.tuple ds) st1 => .ok ds st1
  | _ => .bad
def jEnum (m : S → R PyData) : S → R (List PyData) := fun st => match m st with
  | .ok (.list ds) st1 => .ok (enumD ds) st1
  | .ok (.tuple ds) st1 => .ok (enumD ds) st1
  | _ => .bad
def jZip (m m' : S → R PyData) : S → R (List PyData) := fun st => match m st with
  | .ok (.list xs) st1 => match m' st1 with
    | .ok (.list ys) st2 => .ok (zipD xs ys) st2
    | _ => .bad
  | .ok (.tuple xs) st1 => match m' st1 with
    | .ok (.tuple ys) st2 => .ok (zipD xs ys) st2
    | _ => .bad
  | _ => .bad
def jRg (m : S → R (List PyData)) : S → R (List PyData) := fun st => match m st with
  | .ok [.int n] st1 => if rgOk 0 n then .ok (rgD 0 n) st1 else .bad
  | _ => .bad
def jRg2 (m : S → R (List PyData)) : S → R (List PyData) := fun st => match m st with
  | .ok [.int a, .int b] st1 => if rgOk a b then .ok (rgD a b) st1 else .bad
  | _ => .bad
section
variable {K : PySem.W.Frag} {X : Cx} {tg e e' : Expr} {mf mf' : S → R PyData} {ma : S → R (List PyData)} {p pos tpos : Pos} {elts : List Expr} {kk : Nat}
theorem r_v : ∀ σ H Q, tP K (mV mf) σ H Q → tF K mf σ H Q := fun σ H Q ⟨sa, B, F, st, r, st', h0, h1, k⟩ => by
  unfold mV at h1
  cases q : mf st with
  | bad =>
    rw [q] at h1
    cases h1
  | ok d st1 =>
    rw [q] at h1
    cases h1
    exact ⟨sa, B, F, st, d, _, h0, q, k⟩
theorem p_frz (h : PE X e (tF K mf)) : PE X e (tP K (mV mf)) := imE h r_v
theorem drv_v {J : It} {σ0 : L2.St} {d : PyData} {F0 : Hp} {ds : List PyData} (h : Drv K J σ0 (.v d) F0 ds) : Drv K J σ0 (.v .none) F0 ds := ⟨h.go, h.stop, h.yld⟩
theorem j_seq (h : PE X e (tF X.K mf)) : PI X tg e (tL X.K (jSeq mf)) := imI (i_seq (p_frz h)) fun σ H R ⟨sa, B, F, st, ds, st', h0, h1, k⟩ => by
  unfold jSeq at h1
  split at h1
  · rename_i q
    cases h1
    exact ⟨sa, B, F, st, _, _, _, h0, by simp only [mSeq, mV, q]; rfl, fun sa' F' H' J R1 _ D => k sa' F' H' J R1 (drv_v D)⟩
  · rename_i q
    cases h1
    exact ⟨sa, B, F, st, _, _, _, h0, by simp only [mSeq, mV, q]; rfl, fun sa' F' H' J R1 _ D => k sa' F' H' J R1 (drv_v D)⟩
  · cases h1
theorem j_enum (hg : Gl X "enumerate") (hm : X.mg "enumerate" = none) (h : PE X e (tF X.K mf)) (hs : starEach (e :: []) X.env = (false, eval e X.env) :: starEach [] X.env := by rfl) (hs1 : starEach [e] X.env = [(false, eval e X.env)] := by rfl) :
    PI X (.Tuple elts kk tpos) (.Call (.Name "enumerate" p) [e] [] pos) (tL X.K (jEnum mf)) := imI (i_enum hg hm (p_frz h) hs hs1) fun σ H R ⟨sa, B, F, st, ds, st', h0, h1, k⟩ => by
  unfold jEnum at h1
  split at h1
  · rename_i q
    cases h1
    exact ⟨sa, B, F, st, _, _, _, h0, by simp only [mEnum, mV, q]; rfl, fun sa' F' H' J R1 _ D => k sa' F' H' J R1 (drv_v D)⟩
  · rename_i q
    cases h1
    exact ⟨sa, B, F, st, _, _, _, h0, by simp only [mEnum, mV, q]; rfl, fun sa' F' H' J R1 _ D => k sa' F' H' J R1 (drv_v D)⟩
  · cases h1
theorem j_zip (hg : Gl X "zip") (hm : X.mg "zip" = none) (h : PE X e (tF X.K mf)) (h' : PE X e' (tF X.K mf')) (hs : starEach (e :: [e']) X.env = (false, eval e X.env) :: starEach [e'] X.env := by rfl) (hs' : starEach (e' :: []) X.env = (false, eval e' X.env) :: starEach [] X.env := by rfl) (hs2 : ((backTo pos (starEach [e'] X.env)).any fun x => x.fst) = false := by rfl) :
    PI X (.Tuple elts kk tpos) (.Call (.Name "zip" p) [e, e'] [] pos) (tL X.K (jZip mf mf')) := imI (i_zip hg hm (p_frz h) (p_frz h') hs hs' hs2) fun σ H R ⟨sa, B, F, st, ds, st', h0, h1, k⟩ => by
  unfold jZip at h1
  split at h1
  · rename_i q
    split at h1
    · rename_i q2
      cases h1
      exact ⟨sa, B, F, st, _, _, _, h0, by simp only [mZip, mV, q, q2]; rfl, fun sa' F' H' J R1 _ D => k sa' F' H' J R1 (drv_v D)⟩
    · cases h1
  · rename_i q
    split at h1
    · rename_i q2
      cases h1
      exact ⟨sa, B, F, st, _, _, _, h0, by simp only [mZip, mV, q, q2]; rfl, fun sa' F' H' J R1 _ D => k sa' F' H' J R1 (drv_v D)⟩
    · cases h1
  · cases h1
theorem j_rng1 {a : Expr} (hg : Gl X "range") (hm : X.mg "range" = none) (h : PA X [a] (tAL X.K ma)) (hs : starEach [a] X.env = [(false, eval a X.env)] := by rfl) : PI X tg (.Call (.Name "range" p) [a] [] pos) (tL X.K (jRg ma)) :=
  imI (i_rng1 hg hm h hs) fun σ H R ⟨sa, B, F, st, ds, st', h0, h1, k⟩ => by
    unfold jRg at h1
    split at h1
    · rename_i q
      split at h1
      · rename_i hz
        cases h1
        exact ⟨sa, B, F, st, _, _, _, h0, by simp only [mRgI, q, hz, if_true]; rfl, fun sa' F' H' J R1 _ D => k sa' F' H' J R1 (drv_v D)⟩
      · cases h1
    · cases h1
theorem j_rng2 {a b : Expr} (hg : Gl X "range") (hm : X.mg "range" = none) (h : PA X [a, b] (tAL X.K ma)) (hs : starEach [a, b] X.env = [(false, eval a X.env), (false, eval b X.env)] := by rfl) (hs2 : starEach [b] X.env = [(false, eval b X.env)] := by rfl) : PI X tg (.Call (.Name "range" p) [a, b] [] pos) (tL X.K (jRg2 ma)) :=
  imI (i_rng2 hg hm h hs hs2) fun σ H R ⟨sa, B, F, st, ds, st', h0, h1, k⟩ => by
    unfold jRg2 at h1
    split at h1
    · rename_i q
      split at h1
      · rename_i hz
        cases h1
        exact ⟨sa, B, F, st, _, _, _, h0, by simp only [mRgI2, q, hz, if_true]; rfl, fun sa' F' H' J R1 _ D => k sa' F' H' J R1 (drv_v D)⟩
      · cases h1
    · cases h1
end

/-! ### for -/
def forGo (g : PyData → S → Option S) (m : S → RS) : List PyData → S → RS
  | [], st => .nx st
  | d :: ds, st => match g d st with
    | some st1 => match m st1 with
      | .nx st2 => forGo g m ds st2
      | .ct st2 => forGo g m ds st2
      | .bk st2 => .nx st2
      | .ret r st2 => .ret r st2
      | .bad => .bad
    | none => .bad
def sFor (mi : S → R (List PyData)) (g : PyData → S → Option S) (m : S → RS) : S → RS := fun st => match mi st with
  | .ok ds st1 => forGo g m ds st1
  | .bad => .bad
section
variable {K : PySem.W.Frag} {X : Cx} {tg e : Expr} {body : List Stmt} {mi : S → R (List PyData)} {g : PyData → S → Option S} {mb : S → RS} {c : S → R Bool} {idx : List Nat} {pos : Pos}
theorem s_for (hp : PassesOwn (model X.prog X.w) X.A X.env X.xe) (hc : X.calm = true) (hi : PI X tg e (tL K mi)) (hg : PG X tg (tG K idx g)) (hb : PSs X body (tMS K mb)) (hs : ∀ x, foldedSetIterable e X.env x = pure x := by intro _; rfl) :
    PS X (.For tg e body [] pos) (tMS K (sFor mi g mb)) := imS (ps_for hp hc hi hg hb hs) fun D σ H ⟨sa, B, F, st, h0, h1⟩ => by
  unfold sFor at h1
  cases q : mi st with
  | bad =>
    simp only [q] at h1
    exact h1.elim
  | ok ds st1 =>
    simp only [q] at h1
    refine ⟨sa, B, F, st, ds, st1, h0, q, fun sa1 F1 H1 J R1 dr => ?_⟩
    refine ⟨fun i n σ' H' => ∃ sa2 F2 st2, SR K sa2 B F2 H' σ' st2 ∧ Sub F1 F2 ∧ (n = ds.length - i ∧ i ≤ ds.length) ∧ rsK K B sa2 F2 st2 D (forGo g mb (ds.drop i) st2), ⟨_, sa1, F1, st1, R1.r, Sub.refl _, ⟨rfl, Nat.zero_le _⟩, h1.step R1⟩, fun i n σ' H' ⟨sa2, F2, st2, S2, s2, e2, h2⟩ => ?_⟩
    by_cases hi : i < ds.length
    · rw [List.drop_eq_getElem_cons hi] at h2
      unfold forGo at h2
      cases q2 : g ds[i] st2 with
      | none =>
        simp only [q2] at h2
        exact h2.elim
      | some st3 =>
        simp only [q2] at h2
        refine .inr ⟨dr.go i sa2 B F2 H' σ' st2 S2 s2 True.intro hi, fun σ'' H'' => ∃ sa3 F3 st3, SR K sa3 B F3 H'' σ'' st3 ∧ Sub F1 F3 ∧ rsK K B sa3 F3 st3 D (forGo g mb (ds.drop (i + 1)) st3), fun σ'' H'' ⟨sa3, F3, st3, S3, s3, h3⟩ => ⟨ds.length - (i + 1), by omega, sa3, F3, st3, S3, s3, ⟨rfl, hi⟩, h3⟩, fun x H3 y => ?_⟩
        obtain ⟨F3, S3, x3, r3⟩ := dr.yld i sa2 B F2 H' σ' st2 x H3 ds[i] S2 s2 True.intro (List.getElem?_eq_getElem hi) y
        refine ⟨sa2, B, F3, st2, ds[i], st3, S3, r3, q2, fun σ4 S4 e4 _ => ⟨sa2, B, F3, st3, S4, ?_⟩⟩
        have h3 : rsK K B sa2 F3 st3 D (match mb st3 with
          | .nx st2 => forGo g mb (ds.drop (i + 1)) st2
          | .ct st2 => forGo g mb (ds.drop (i + 1)) st2
          | .bk st2 => .nx st2
          | .ret r st2 => .ret r st2
          | .bad => .bad) := h2.step (σ1 := σ4) (H1 := H3) ⟨S4, x3, fun _ => rfl, fun z => by rw [e4]; exact z⟩
        have s3 := s2.trans x3.le
        cases q3 : mb st3 with
        | nx st4 =>
          simp only [q3] at h3
          exact fun sa5 F5 H5 σ5 R5 => ⟨sa5, F5, st4, R5.r, s3.trans R5.x.le, h3.step R5⟩
        | ct st4 =>
          simp only [q3] at h3
          exact fun sa5 F5 H5 σ5 R5 => ⟨sa5, F5, st4, R5.r, s3.trans R5.x.le, h3.step R5⟩
        | bk st4 =>
          simp only [q3] at h3
          exact h3
        | ret r st4 =>
          simp only [q3] at h3
          exact h3
        | bad =>
          simp only [q3] at h3
          exact h3
    · have hl : i = ds.length := by omega
      subst hl
      rw [List.drop_length] at h2
      exact .inl ⟨dr.stop sa2 B F2 H' σ' st2 S2 s2 True.intro, h2 sa2 F2 H' σ' (.refl S2)⟩

/-! ### while -/
def whGo (c : S → R Bool) (m : S → RS) : Nat → S → RS
  | 0, _ => .bad
  | k + 1, st => match c st with
    | .ok true st1 => match m st1 with
      | .nx st2 => whGo c m k st2
      | .ct st2 => whGo c m k st2
      | .bk st2 => .nx st2
      | .ret r st2 => .ret r st2
      | .bad => .bad
    | .ok false st1 => .nx st1
    | .bad => .bad
open Classical in
noncomputable def sWhile (c : S → R Bool) (m : S → RS) : S → RS := fun st => if h : ∃ k, whGo c m k st ≠ .bad then whGo c m h.choose st else .bad
theorem whGo_more {c : S → R Bool} {m : S → RS} : ∀ {k l : Nat} {st : S}, whGo c m k st ≠ .bad → k ≤ l → whGo c m l st = whGo c m k st
  | 0, _, _, h, _ => absurd rfl h
  | k + 1, 0, _, _, h => by omega
  | k + 1, l + 1, st, h, hl => by
    have hl' : k ≤ l := by omega
    unfold whGo at h ⊢
    cases q : c st with
    | bad => rfl
    | ok b st1 =>
      cases b with
      | false => rfl
      | true =>
        simp only [q] at h ⊢
        cases q2 : m st1 with
        | nx st2 =>
          simp only [q2] at h ⊢
          exact whGo_more h hl'
        | ct st2 =>
          simp only [q2] at h ⊢
          exact whGo_more h hl'
        | bk st2 => rfl
        | ret r st2 => rfl
        | bad => rfl
theorem sWhile_of {c : S → R Bool} {m : S → RS} {k : Nat} {st : S} (h : whGo c m k st ≠ .bad) : sWhile c m st = whGo c m k st := by
  unfold sWhile
  have hx : ∃ k, whGo c m k st ≠ .bad := ⟨k, h⟩
  rw [dif_pos hx]
  rcases Nat.le_total k hx.choose with z | z
  · exact whGo_more h z
  · exact (whGo_more hx.choose_spec z).symm
theorem sWhile_fuel {c : S → R Bool} {m : S → RS} {st : S} : ∃ k, sWhile c m st = whGo c m k st := by
  by_cases h : ∃ k, whGo c m k st ≠ .bad
  · obtain ⟨k, hk⟩ := h
    exact ⟨k, sWhile_of hk⟩
  · exact ⟨0, by
      unfold sWhile
      rw [dif_neg h]
      rfl⟩
/-- a turn of while -/
theorem sWhile_turn {c : S → R Bool} {m : S → RS} {st : S} : sWhile c m st = match c st with
    | .ok true st1 => match m st1 with
      | .nx st2 => sWhile c m st2
      | .ct st2 => sWhile c m st2
      | .bk st2 => .nx st2
      | .ret r st2 => .ret r st2
      | .bad => .bad
    | .ok false st1 => .nx st1
    | .bad => .bad := by
  have one : ∀ k, whGo c m (k + 1) st = match c st with
    | .ok true st1 => match m st1 with
      | .nx st2 => whGo c m k st2
      | .ct st2 => whGo c m k st2
      | .bk st2 => .nx st2
      | .ret r st2 => .ret r st2
      | .bad => .bad
    | .ok false st1 => .nx st1
    | .bad => .bad := fun k => rfl
  have none_ : (∀ k, whGo c m (k + 1) st = .bad) → sWhile c m st = .bad := fun h => by
    unfold sWhile
    rw [dif_neg]
    rintro ⟨k, hk⟩
    cases k with
    | zero => exact hk rfl
    | succ k => exact hk (h k)
  cases q : c st with
  | bad => exact none_ fun k => by rw [one, q]
  | ok b st1 =>
    cases b with
    | false =>
      have : whGo c m 1 st = .nx st1 := by rw [one, q]
      rw [sWhile_of (k := 1) (by rw [this]; exact fun z => nomatch z), this]
    | true =>
      dsimp only
      cases q2 : m st1 with
      | nx st2 =>
        dsimp only
        have e : ∀ k, whGo c m (k + 1) st = whGo c m k st2 := fun k => by rw [one, q]; dsimp only; rw [q2]
        obtain ⟨k, hk⟩ := sWhile_fuel (c := c) (m := m) (st := st2)
        rw [hk]
        by_cases z : whGo c m k st2 = .bad
        · rw [z]
          refine none_ fun l => ?_
          rw [e]
          cases w : whGo c m l st2 with
          | bad => rfl
          | _ =>
            have := sWhile_of (k := l) (c := c) (m := m) (st := st2) (by rw [w]; exact fun z => nomatch z)
            rw [hk, z, w] at this
            cases this
        · rw [sWhile_of (k := k + 1) (by rw [e]; exact z), e]
      | ct st2 =>
        dsimp only
        have e : ∀ k, whGo c m (k + 1) st = whGo c m k st2 := fun k => by rw [one, q]; dsimp only; rw [q2]
        obtain ⟨k, hk⟩ := sWhile_fuel (c := c) (m := m) (st := st2)
        rw [hk]
        by_cases z : whGo c m k st2 = .bad
        · rw [z]
          refine none_ fun l => ?_
          rw [e]
          cases w : whGo c m l st2 with
          | bad => rfl
          | _ =>
            have := sWhile_of (k := l) (c := c) (m := m) (st := st2) (by rw [w]; exact fun z => nomatch z)
            rw [hk, z, w] at this
            cases this
        · rw [sWhile_of (k := k + 1) (by rw [e]; exact z), e]
      | bk st2 =>
        have : whGo c m 1 st = .nx st2 := by rw [one, q]; dsimp only; rw [q2]
        rw [sWhile_of (k := 1) (by rw [this]; exact fun z => nomatch z), this]
      | ret r st2 =>
        have : whGo c m 1 st = .ret r st2 := by rw [one, q]; dsimp only; rw [q2]
        rw [sWhile_of (k := 1) (by rw [this]; exact fun z => nomatch z), this]
      | bad => exact none_ fun k => by rw [one, q]; dsimp only; rw [q2]
theorem s_while (hp : PassesOwn (model X.prog X.w) X.A X.env X.xe) (hc : PT X e (tMT K c)) (hb : PSs X body (tMS K mb)) : PS X (.While e body [] pos) (tMS K (sWhile c mb)) := imS (ps_while hp hc hb) fun D σ H ⟨sa, B, F, st, h0, h1⟩ => by
  obtain ⟨k, hk⟩ := sWhile_fuel (c := c) (m := mb) (st := st)
  rw [hk] at h1
  refine ⟨fun n σ' H' => ∃ sa2 F2 st2, SR K sa2 B F2 H' σ' st2 ∧ rsK K B sa2 F2 st2 D (whGo c mb n st2), ⟨k, sa, F, st, h0, h1⟩, fun n σ' H' ⟨sa2, F2, st2, S2, h2⟩ => ?_⟩
  cases n with
  | zero => exact h2.elim
  | succ n =>
    unfold whGo at h2
    cases q : c st2 with
    | bad =>
      simp only [q] at h2
      exact h2.elim
    | ok b st3 =>
      refine ⟨sa2, B, F2, st2, b, st3, S2, q, fun sa3 F3 H3 R3 => ?_⟩
      cases b with
      | false =>
        simp only [q] at h2
        rw [if_neg Bool.false_ne_true]
        exact h2 sa3 F3 H3 σ' R3
      | true =>
        simp only [q] at h2
        rw [if_pos rfl]
        refine ⟨fun σ'' H'' => ∃ sa4 F4 st4, SR K sa4 B F4 H'' σ'' st4 ∧ rsK K B sa4 F4 st4 D (whGo c mb n st4), fun σ'' H'' z => ⟨n, Nat.lt_succ_self n, z⟩, sa3, B, F3, st3, R3.r, ?_⟩
        cases q3 : mb st3 with
        | nx st4 =>
          simp only [q3] at h2
          exact fun sa5 F5 H5 σ5 R5 => ⟨sa5, F5, st4, R5.r, (h2.step R3).step R5⟩
        | ct st4 =>
          simp only [q3] at h2
          exact fun sa5 F5 H5 σ5 R5 => ⟨sa5, F5, st4, R5.r, (h2.step R3).step R5⟩
        | bk st4 =>
          simp only [q3] at h2
          exact h2.step R3
        | ret r st4 =>
          simp only [q3] at h2
          exact h2.step R3
        | bad =>
          simp only [q3] at h2
          exact h2.step R3
end
end Pd
end
section
set_option linter.all false
set_option maxRecDepth 100000
/-! Pd, part L: list comprehensions. -/
namespace Pd
open PySem PySem.Spec PyProof.Rows L2

def wipeS (ss : List Slot) : List Nat → List Slot
  | [] => ss
  | v :: vs => (wipeS ss vs).set v .no
def backS : Option Slot → Slot
  | some (.v d) => .v d
  | some .src => .src
  | some .cel => .cel
  | some (.scr ns) => .scr ns
  | _ => .no
def restS (ss0 ss1 : List Slot) : List Nat → List Slot
  | [] => ss1
  | v :: vs => (restS ss0 ss1 vs).set v (backS ss0[v]?)
def S.wipe (st : S) (vs : List Nat) : S := { st with ss := wipeS st.ss vs }
def S.rest (st st0 : S) (vs : List Nat) : S := { st with ss := restS st0.ss st.ss vs }
theorem wipeS_length (ss : List Slot) : ∀ vs : List Nat, (wipeS ss vs).length = ss.length
  | [] => rfl
  | v :: vs => by
    unfold wipeS
    rw [List.length_set, wipeS_length ss vs]
theorem restS_length (ss0 ss : List Slot) : ∀ vs : List Nat, (restS ss0 ss vs).length = ss.length
  | [] => rfl
  | v :: vs => by
    unfold restS
    rw [List.length_set, restS_length ss0 ss vs]
theorem wipeS_at {ss : List Slot} {i : Nat} {x : Slot} : ∀ {vs : List Nat}, (wipeS ss vs)[i]? = some x → x ≠ .no → ss[i]? = some x ∧ i ∉ vs
  | [], h, _ => ⟨h, List.not_mem_nil⟩
  | v :: vs, h, n => by
    unfold wipeS at h
    rcases get_set h with ⟨_, z⟩ | ⟨z, w⟩
    · exact absurd z n
    · obtain ⟨h1, h2⟩ := wipeS_at w n
      exact ⟨h1, fun m => (List.mem_cons.mp m).elim z h2⟩
theorem restS_at {ss0 ss : List Slot} {i : Nat} {x : Slot} : ∀ {vs : List Nat}, (restS ss0 ss vs)[i]? = some x → (i ∈ vs ∧ x = backS ss0[i]?) ∨ (i ∉ vs ∧ ss[i]? = some x)
  | [], h => .inr ⟨List.not_mem_nil, h⟩
  | v :: vs, h => by
    unfold restS at h
    rcases get_set h with ⟨z, w⟩ | ⟨z, w⟩
    · subst z
      exact .inl ⟨List.mem_cons_self, w⟩
    · rcases restS_at w with ⟨h1, h2⟩ | ⟨h1, h2⟩
      · exact .inl ⟨List.mem_cons_of_mem _ h1, h2⟩
      · exact .inr ⟨fun m => (List.mem_cons.mp m).elim z h1, h2⟩
theorem wipe_off {σ : L2.St} {i : Nat} {vs : List Nat} (h : i ∉ vs) : (wipe σ vs)[i]? = σ[i]? := wipe_out h
theorem wipe_wipe {σ : L2.St} {vs ws : List Nat} (h : ∀ i ∈ ws, i ∈ vs) : wipe (wipe σ ws) vs = wipe σ vs := by
  apply List.ext_getElem?
  intro j
  by_cases m : j ∈ vs
  · by_cases hj : j < σ.length
    · rw [wipe_at m hj, wipe_at m (by rw [wipe_length]; exact hj)]
    · rw [List.getElem?_eq_none (by rw [wipe_length, wipe_length]; omega), List.getElem?_eq_none (by rw [wipe_length]; omega)]
  · rw [wipe_out m, wipe_out m, wipe_out fun z => m (h j z)]
section
variable {K : PySem.W.Frag} {B : Hp} {σ : L2.St} {sa : Sa} {F H : Hp} {st : S}
theorem SR.wipes (h : SR K sa B F H σ st) (vs : List Nat) : SR K sa B F H (wipe σ vs) (st.wipe vs) := h.forget (by rw [wipe_length, wipeS_length, h.len]) fun i x e n => by
  obtain ⟨h1, h2⟩ := wipeS_at e n
  exact ⟨h1, wipe_out h2⟩
theorem SR.rests {sa1 : Sa} {B1 F1 H1 : Hp} {st1 : S} {vs : List Nat} (h1 : SR K sa1 B1 F1 H1 σ st1) (h : SR K sa B F H (wipe σ vs) st) (s : Sub F1 F) (k : SaK st1 sa1 sa) (z : st1.src.isSome = true → st.src.isSome = true) : SR K sa B F H σ (st.rest st1 vs) := by
  have old : ∀ (i : Nat) (x : Slot), x = backS st1.ss[i]? → (∃ d, st1.ss[i]? = some (.v d) ∧ x = .v d) ∨ (st1.ss[i]? = some .src ∧ x = .src) ∨ (∃ ns, st1.ss[i]? = some (.scr ns) ∧ x = .scr ns) ∨ x = .no ∨ (st1.ss[i]? = some .cel ∧ x = .cel) := fun i x e => by
    cases q : st1.ss[i]? with
    | none =>
      rw [q] at e
      exact .inr (.inr (.inr (.inl e)))
    | some y =>
      rw [q] at e
      cases y with
      | v d => exact .inl ⟨d, rfl, e⟩
      | src => exact .inr (.inl ⟨rfl, e⟩)
      | scr ns => exact .inr (.inr (.inl ⟨ns, rfl, e⟩))
      | o d => exact .inr (.inr (.inr (.inl e)))
      | no => exact .inr (.inr (.inr (.inl e)))
      | cel => exact .inr (.inr (.inr (.inr ⟨rfl, e⟩)))
  have own : ∀ (i : Nat) (d : PyData), (restS st1.ss st.ss vs)[i]? = some (.o d) → i ∉ vs ∧ st.ss[i]? = some (.o d) ∧ (wipe σ vs)[i]? = σ[i]? := fun i d e => by
    rcases restS_at e with ⟨e1, e2⟩ | ⟨e1, e2⟩
    · rcases old i _ e2 with ⟨d, _, w⟩ | ⟨_, w⟩ | ⟨ns, _, w⟩ | w | ⟨_, w⟩ <;> cases w
    · exact ⟨e1, e2, wipe_out e1⟩
  refine ⟨h.bh, h.fh, by show σ.length = (restS st1.ss st.ss vs).length; rw [restS_length, ← h.len, wipe_length], fun i d e => ?_, fun i d e => ?_, fun i j d e a n q1 q2 q3 q4 => ?_, fun i e => ?_, fun i ns e => ?_, h.sr, fun i e => ?_⟩
  · rcases restS_at e with ⟨e1, e2⟩ | ⟨e1, e2⟩
    · rcases old i _ e2 with ⟨d', h', w⟩ | ⟨_, w⟩ | ⟨ns, _, w⟩ | w | ⟨_, w⟩
      · cases w
        obtain ⟨v, f1, f2⟩ := h1.sl i d h'
        exact ⟨v, f1, f2.mono s⟩
      all_goals cases w
    · obtain ⟨v, f1, f2⟩ := h.sl i d e2
      rw [wipe_out e1] at f1
      exact ⟨v, f1, f2⟩
  · obtain ⟨e1, e2, e3⟩ := own i d e
    rw [← e3]
    exact h.so i d e2
  · obtain ⟨_, e2, e3⟩ := own i d q1
    obtain ⟨_, f2, f3⟩ := own j e q2
    rw [← e3] at q3
    rw [← f3] at q4
    exact h.ap i j d e a n e2 f2 q3 q4
  · rcases restS_at e with ⟨e1, e2⟩ | ⟨e1, e2⟩
    · rcases old i _ e2 with ⟨d', _, w⟩ | ⟨h', w⟩ | ⟨ns, _, w⟩ | w | ⟨_, w⟩
      · cases w
      · obtain ⟨f1, f2⟩ := h1.sx i h'
        exact ⟨z f1, by rw [f2, k f1]⟩
      all_goals cases w
    · obtain ⟨f1, f2⟩ := h.sx i e2
      rw [wipe_out e1] at f2
      exact ⟨f1, f2⟩
  · rcases restS_at e with ⟨e1, e2⟩ | ⟨e1, e2⟩
    · rcases old i _ e2 with ⟨d', _, w⟩ | ⟨_, w⟩ | ⟨ns', h', w⟩ | w | ⟨_, w⟩
      · cases w
      · cases w
      · cases w
        obtain ⟨a, f1, f2⟩ := h1.sc i ns h'
        exact ⟨a, f1, sqL_mono s f2⟩
      · cases w
      · cases w
    · obtain ⟨a, f1, f2⟩ := h.sc i ns e2
      rw [wipe_out e1] at f1
      exact ⟨a, f1, f2⟩
  · rcases restS_at e with ⟨e1, e2⟩ | ⟨e1, e2⟩
    · rcases old i _ e2 with ⟨d', _, w⟩ | ⟨_, w⟩ | ⟨ns', _, w⟩ | w | ⟨h', w⟩
      · cases w
      · cases w
      · cases w
      · cases w
      · obtain ⟨f1, f2⟩ := h1.sy i h'
        exact ⟨z f1, by rw [f2, k f1]⟩
    · obtain ⟨f1, f2⟩ := h.sy i e2
      rw [wipe_out e1] at f2
      exact ⟨f1, f2⟩
/-- a protected object is changed -/
theorem SR.bump {D : Addr} {o o' : HO} (h : SR K sa (upd B D o) F H σ st) (hf : F D = none) : SR K sa (upd B D o') F (upd H D o') σ st where
  bh := fun a u e => by
    by_cases q : a = D
    · subst q
      rw [upd_same] at e ⊢
      exact e
    · rw [upd_ne q] at e ⊢
      exact h.bh a u (by rw [upd_ne q]; exact e)
  fh := h.fh.off hf
  len := h.len
  sl := h.sl
  so := fun i d e => by
    obtain ⟨a, u, e1, e2, e3, e4, e5, e6⟩ := h.so i d e
    have n : a ≠ D := fun z => by
      rw [z, upd_same] at e4
      cases e4
    rw [upd_ne n] at e4
    exact ⟨a, u, e1, by rw [upd_ne n]; exact e2, e3, by rw [upd_ne n]; exact e4, e5, e6⟩
  ap := h.ap
  sx := h.sx
  sy := h.sy
  sc := h.sc
  sr := fun x e => by
    obtain ⟨e1, e2, e3, e4, e5⟩ := h.sr x e
    have n1 : sa.1 ≠ D := fun z => by
      rw [z, upd_same] at e2
      cases e2
    have n2 : sa.2 ≠ D := fun z => by
      rw [z, upd_same] at e3
      cases e3
    rw [upd_ne n1] at e2
    rw [upd_ne n2] at e3
    exact ⟨e1.off n1 n2, by rw [upd_ne n1]; exact e2, by rw [upd_ne n2]; exact e3, e4, e5⟩
/-- what is protected apart -/
theorem SR.apart {D : Addr} {o : HO} (h : SR K sa (upd B D o) F H σ st) : (st.src.isSome = true → D ≠ sa.1 ∧ D ≠ sa.2) ∧ ∀ (i : Nat) (e : PyData), st.ss[i]? = some (.o e) → σ[i]? ≠ some (some (.ref D)) := by
  refine ⟨fun z => ?_, fun i e q z => ?_⟩
  · obtain ⟨s, hs⟩ := Option.isSome_iff_exists.mp z
    obtain ⟨_, e2, e3, _⟩ := h.sr s hs
    refine ⟨fun w => ?_, fun w => ?_⟩
    · rw [← w, upd_same] at e2
      cases e2
    · rw [← w, upd_same] at e3
      cases e3
  · obtain ⟨b, u, f1, f2, f3, f4, _⟩ := h.so i e q
    rw [z] at f1
    cases f1
    rw [upd_same] at f4
    cases f4
theorem FX.at {D : Addr} {o : HO} {F' : Hp} (h : FX (upd B D o) F F') (hf : F D = none) : F' D = none := h.out D hf (by
  rw [upd_same]
  exact fun z => nomatch z)
end

/-! ### one clause -/
def lcGo (vs : List Nat) (g : PyData → S → Option S) (t : S → R Bool) (e : S → R PyData) : List PyData → List PyData → S → R (List PyData)
  | [], acc, st => .ok acc st
  | d :: ds, acc, st => match g d st with
    | none => .bad
    | some st1 => match t st1 with
      | .bad => .bad
      | .ok false st2 => lcGo vs g t e ds acc (st2.wipe vs)
      | .ok true st2 => match e st2 with
        | .bad => .bad
        | .ok x st3 => lcGo vs g t e ds (acc ++ [x]) (st3.wipe vs)
def mLc (mi : S → R (List PyData)) (vs : List Nat) (g : PyData → S → Option S) (t : S → R Bool) (e : S → R PyData) : S → R Slot := fun st => match mi st with
  | .bad => .bad
  | .ok ds st1 => if okLen ds.length then match lcGo vs g t e ds [] (st1.wipe vs) with
      | .ok acc st2 => .ok (.o (.list acc)) (st2.rest st1 vs)
      | .bad => .bad
    else .bad
def tYesM : S → R Bool := fun st => .ok true st
section
variable {K : PySem.W.Frag} {X : Cx} {mi : S → R (List PyData)} {vs : List Nat} {g : PyData → S → Option S} {t : S → R Bool} {me : S → R PyData}
/-- where a comprehension's list is at D -/
structure LcI (K : PySem.W.Frag) (B : Hp) (σw : L2.St) (sa1 : Sa) (F1 : Hp) (st1 : S) (D : Addr) (H : Hp) (sa : Sa) (F : Hp) (st : S) (vacc : List V) (acc : List PyData) : Prop where
  r : SR K sa (upd B D (.lst vacc)) F H σw st
  x : FX B F1 F
  n : F D = none
  a : RpL F vacc acc
  k : SaK st1 sa1 sa
  s : st1.src.isSome = true → st.src.isSome = true
theorem LcI.at {B : Hp} {σw : L2.St} {sa1 : Sa} {F1 : Hp} {st1 : S} {D : Addr} {H : Hp} {sa : Sa} {F : Hp} {st : S} {vacc : List V} {acc : List PyData} (h : LcI K B σw sa1 F1 st1 D H sa F st vacc acc) : H D = some (.lst vacc) := h.r.bh _ _ upd_same
theorem LcI.go {B : Hp} {σw σ' : L2.St} {sa1 : Sa} {F1 : Hp} {st1 : S} {D : Addr} {H : Hp} {sa : Sa} {F : Hp} {st : S} {vacc : List V} {acc : List PyData} (hb : B D = none) (h : LcI K B σw sa1 F1 st1 D H sa F st vacc acc)
    {sa2 : Sa} {F2 H2 : Hp} {st2 : S} (R : Rch K (upd B D (.lst vacc)) σ' sa F st sa2 F2 H2 st2) : LcI K B σ' sa1 F1 st1 D H2 sa2 F2 st2 vacc acc :=
  ⟨R.r, h.x.trans (R.x.weak (Sub.new hb)), R.x.at h.n, h.a.mono R.x.le, fun z => (R.k (h.s z)).trans (h.k z), fun z => R.s (h.s z)⟩
theorem LcI.wip {B : Hp} {σ' : L2.St} {sa1 : Sa} {F1 : Hp} {st1 : S} {D : Addr} {H : Hp} {sa : Sa} {F : Hp} {st : S} {vacc : List V} {acc : List PyData} (vs : List Nat) (h : LcI K B σ' sa1 F1 st1 D H sa F st vacc acc) : LcI K B (wipe σ' vs) sa1 F1 st1 D H sa F (st.wipe vs) vacc acc :=
  ⟨h.r.wipes vs, h.x, h.n, h.a, h.k, h.s⟩
theorem LcI.more {B : Hp} {σ' : L2.St} {sa1 : Sa} {F1 : Hp} {st1 : S} {D : Addr} {H : Hp} {sa : Sa} {F : Hp} {st : S} {vacc : List V} {acc : List PyData} (h : LcI K B σ' sa1 F1 st1 D H sa F st vacc acc) {y : V} {d : PyData} (r : Rp F y d) :
    LcI K B σ' sa1 F1 st1 D (upd H D (.lst (vacc ++ [y]))) sa F st (vacc ++ [y]) (acc ++ [d]) :=
  ⟨h.r.bump h.n, h.x, h.n, h.a.snoc r, h.k, h.s⟩
theorem LcI.done {B : Hp} {σ : L2.St} {sa sa0 sa1 : Sa} {F0 F1 H1 : Hp} {st0 st1 st : S} {D : Addr} {H F : Hp} {vacc : List V} {acc : List PyData} {Q : VK} (R1 : Rch K B σ sa0 F0 st0 sa1 F1 H1 st1) (hb : B D = none) (h : LcI K B (wipe σ vs) sa1 F1 st1 D H sa F st vacc acc)
    (k : ∀ sa' F' H' v, Rch K B σ sa0 F0 st0 sa' F' H' (st.rest st1 vs) → RRep sa' B F' H' σ (st.rest st1 vs) v (.o (.list acc)) → Q v H') : Q (.ref D) H := by
  have S2 := R1.r.rests h.r h.x.le h.k h.s
  obtain ⟨p1, p2⟩ := S2.apart
  exact k sa F H _ ⟨S2.less (Sub.new hb), R1.x.trans h.x, fun z => (h.k (R1.s z)).trans (R1.k z), fun z => h.s (R1.s z)⟩ ⟨D, _, rfl, h.at, .lst h.a, hb, h.n, p1, p2⟩
theorem LcI.start {B : Hp} {σ : L2.St} {sa1 : Sa} {F1 H1 : Hp} {st1 : S} {D : Addr} (vs : List Nat) (h : SR K sa1 B F1 H1 σ st1) (hD : H1 D = none) : LcI K B (wipe σ vs) sa1 F1 st1 D (upd H1 D (.lst [])) sa1 F1 (st1.wipe vs) [] [] := by
  have S1 := h.wipes vs
  obtain ⟨n1, n2⟩ := S1.news hD
  exact ⟨(S1.alloc hD).prot upd_same (h.bh.none_of hD) n1 n2, FX.refl, h.fh.none_of hD, .nil, fun _ => rfl, fun z => z⟩
theorem lcGo_len : ∀ {ds acc : List PyData} {st st' : S} {r : List PyData}, lcGo vs g t me ds acc st = .ok r st' → True := fun _ => True.intro
theorem r_lc {wi : TI} {gg : TG} {tt : TT} {te : TE} (hi : wi = tL K mi) (hg : gg = tG K vs g) (ht : tt = tMT K t) (he : te = tF K me) : ∀ σ H Q, tM K (mLc mi vs g t me) σ H Q → tLc wi gg tt te vs σ H Q := fun σ H Q ⟨sa, B, F, st, r, st', h0, h1, k⟩ => by
  subst hi hg ht he
  unfold mLc at h1
  cases q : mi st with
  | bad =>
    simp only [q] at h1
    cases h1
  | ok ds st1 =>
    simp only [q] at h1
    split at h1
    · rename_i hz
      cases q2 : lcGo vs g t me ds [] (st1.wipe vs) with
      | bad =>
        simp only [q2] at h1
        cases h1
      | ok res st2 =>
        simp only [q2] at h1
        cases h1
        refine ⟨sa, B, F, st, ds, st1, h0, q, fun sa1 F1 H1 J R1 dr D hD => ?_⟩
        have hb : B D = none := R1.r.bh.none_of hD
        refine ⟨fun i n H' => ∃ sa2 F2 st2' vacc acc, LcI K B (wipe σ vs) sa1 F1 st1 D H' sa2 F2 st2' vacc acc ∧ (n = ds.length - i ∧ i ≤ ds.length) ∧ acc.length ≤ i ∧ lcGo vs g t me (ds.drop i) acc st2' = .ok res st2,
          ⟨_, sa1, F1, _, [], [], LcI.start vs R1.r hD, ⟨rfl, Nat.zero_le _⟩, Nat.le_refl _, q2⟩, fun i n H' ⟨sa2, F2, st2', vacc, acc, L, ⟨hn, hi⟩, hl, q3⟩ => ?_⟩
        by_cases hi' : i < ds.length
        · rw [List.drop_eq_getElem_cons hi'] at q3
          unfold lcGo at q3
          cases q4 : g ds[i] st2' with
          | none =>
            simp only [q4] at q3
            cases q3
          | some st3 =>
            simp only [q4] at q3
            refine .inr ⟨dr.go i sa2 _ F2 H' _ st2' L.r L.x.le True.intro hi', fun H'' => ∃ sa3 F3 st3' vacc' acc', LcI K B (wipe σ vs) sa1 F1 st1 D H'' sa3 F3 st3' vacc' acc' ∧ acc'.length ≤ i + 1 ∧ lcGo vs g t me (ds.drop (i + 1)) acc' st3' = .ok res st2,
              fun H'' ⟨sa3, F3, st3', vacc', acc', L', hl', q'⟩ => ⟨ds.length - (i + 1), by omega, sa3, F3, st3', vacc', acc', L', ⟨rfl, hi'⟩, hl', q'⟩, fun x H3 y => ?_⟩
            obtain ⟨F3, S3, x3, r3⟩ := dr.yld i sa2 _ F2 H' _ st2' x H3 ds[i] L.r L.x.le True.intro (List.getElem?_eq_getElem hi') y
            have L3 := L.go hb ⟨S3, x3, fun _ => rfl, fun z => z⟩
            refine ⟨sa2, _, F3, st2', ds[i], st3, S3, r3, q4, fun σ4 S4 e4 w4 => ?_⟩
            have L4 := L3.go hb (σ' := σ4) ⟨S4, FX.refl, fun _ => rfl, fun z => by rw [e4]; exact z⟩
            have w4' : wipe σ4 vs = wipe σ vs := w4.trans (wipe_wipe fun i h => h)
            refine ⟨w4', ?_⟩
            cases q5 : t st3 with
            | bad =>
              simp only [q5] at q3
              cases q3
            | ok b st5 =>
              refine ⟨sa2, _, F3, st3, b, st5, S4, q5, fun sa5 F5 H5 R5 => ?_⟩
              have L5 := L4.go hb R5
              cases b with
              | false =>
                simp only [q5] at q3
                try dsimp only
                rw [if_neg Bool.false_ne_true]
                have L6 := L5.wip vs
                rw [w4'] at L6
                exact ⟨sa5, F5, _, vacc, acc, L6, by omega, q3⟩
              | true =>
                simp only [q5] at q3
                try dsimp only
                rw [if_pos rfl]
                cases q6 : me st5 with
                | bad =>
                  simp only [q6] at q3
                  cases q3
                | ok d st7 =>
                  simp only [q6] at q3
                  refine ⟨sa5, _, F5, st5, d, st7, L5.r, q6, fun sa7 F7 H7 y7 R7 r7 => ?_⟩
                  have L7 := L5.go hb R7
                  have L8 := (L7.more r7).wip vs
                  rw [w4'] at L8
                  have hlen : vacc.length = acc.length := L.a.length
                  exact ⟨vacc, L7.at, by have := okLen_le hz; omega, sa7, F7, _, _, _, L8, by simp; omega, q3⟩
        · have hl' : i = ds.length := by omega
          subst hl'
          rw [List.drop_length] at q3
          cases q3
          exact .inl ⟨dr.stop sa2 _ F2 H' _ _ L.r L.x.le True.intro, L.done R1 hb k⟩
    · cases h1
variable {elt tg iter : Expr} {ifs : List Expr} {scope : Scope} {own : List (Str × Nat)} {pos : Pos}
theorem d_lc (hc : X.calm = true) (hN : X.N.Nodup) (hi : PI X tg iter (tL K mi)) (ok : BlkOk X.N X.env.scope scope own) (hvs : own.map (·.2) = vs)
    (hg : ∀ (s : Shared) (H : Hp) (C : Addr) (cl : List (Str × Addr)) (fp : List Addr), PG (X.blk s H scope (compEnvC scope cl C X.env) fp) tg (tG K vs g)) (ht : ∀ (s : Shared) (H : Hp) (C : Addr) (cl : List (Str × Addr)) (fp : List Addr), PTs (X.blk s H scope (compEnvC scope cl C X.env) fp) ifs (tMT K t))
    (he : ∀ (s : Shared) (H : Hp) (C : Addr) (cl : List (Str × Addr)) (fp : List Addr), PE (X.blk s H scope (compEnvC scope cl C X.env) fp) elt (tF K me)) (hs : ∀ x, foldedSetIterable iter X.env x = pure x := by intro _; rfl) :
    PE X (.ListComp elt [⟨tg, iter, ifs, 0⟩] scope pos) (tM K (mLc mi vs g t me)) := by
  subst hvs
  exact imE (pe_lc hc hN hi ok hg ht he hs) (r_lc rfl rfl rfl rfl)
theorem s_lc {i : Nat} {y : Str} {py spos : Pos} (hc : X.calm = true) (hN : X.N.Nodup) (hy : X.N[i]? = some y) (hyl : X.env.scope.names.lookup y = some .local)
    (hsw : swapsWith (.ListComp elt [⟨tg, iter, ifs, 0⟩] scope pos) (some (.Name y py)) spos.line X.env = pure true) (hi : PI X tg iter (tL K mi)) (ok : BlkOk X.N X.env.scope scope own) (hvs : own.map (·.2) = vs)
    (hg : ∀ (s : Shared) (H : Hp) (C : Addr) (cl : List (Str × Addr)) (fp : List Addr), PG (X.blk s H scope (compEnvC scope cl C X.env) fp) tg (tG K vs g)) (ht : ∀ (s : Shared) (H : Hp) (C : Addr) (cl : List (Str × Addr)) (fp : List Addr), PTs (X.blk s H scope (compEnvC scope cl C X.env) fp) ifs (tMT K t))
    (he : ∀ (s : Shared) (H : Hp) (C : Addr) (cl : List (Str × Addr)) (fp : List Addr), PE (X.blk s H scope (compEnvC scope cl C X.env) fp) elt (tF K me)) (hs : ∀ x, foldedSetIterable iter X.env x = pure x := by intro _; rfl) :
    PS X (.Assign [.Name y py] (.ListComp elt [⟨tg, iter, ifs, 0⟩] scope pos) spos) (tMS K (sSet i (mLc mi vs g t me))) := by
  subst hvs
  exact s_set (imS (ps_setLc hc hN hy hyl hsw hi ok hg ht he hs) fun D σ H h => r_lc rfl rfl rfl rfl σ H _ h)
theorem t_yes : PTs X [] (tMT K tYesM) := ⟨fun pins s σ H Q I ⟨sa, B, F, st, b, st', h0, h1, k⟩ => pts_nil.run pins s σ H Q I (by
  cases h1
  exact k sa F H (.refl h0))⟩
theorem t_one {c : Expr} {m : S → R Bool} (h : PT X c (tMT K m)) : PTs X [c] (tMT K m) := pts_one h

/-! ### two clauses -/
theorem lcGo_grow : ∀ {ds acc : List PyData} {st st' : S} {r : List PyData}, lcGo vs g t me ds acc st = .ok r st' → acc.length ≤ r.length
  | [], acc, st, st', r, h => by
    cases h
    exact Nat.le_refl _
  | d :: ds, acc, st, st', r, h => by
    unfold lcGo at h
    cases q : g d st with
    | none =>
      simp only [q] at h
      cases h
    | some st1 =>
      simp only [q] at h
      cases q2 : t st1 with
      | bad =>
        simp only [q2] at h
        cases h
      | ok b st2 =>
        cases b with
        | false =>
          simp only [q2] at h
          exact lcGo_grow h
        | true =>
          simp only [q2] at h
          cases q3 : me st2 with
          | bad =>
            simp only [q3] at h
            cases h
          | ok x st3 =>
            simp only [q3] at h
            have := lcGo_grow h
            simp at this
            omega
end
def lcGo2 (vs : List Nat) (g : PyData → S → Option S) (t : S → R Bool) (mi1 : S → R (List PyData)) (vs1 : List Nat) (g1 : PyData → S → Option S) (t1 : S → R Bool) (e : S → R PyData) : List PyData → List PyData → S → R (List PyData)
  | [], acc, st => .ok acc st
  | d :: ds, acc, st => match g d st with
    | none => .bad
    | some st1 => match t st1 with
      | .bad => .bad
      | .ok false st2 => lcGo2 vs g t mi1 vs1 g1 t1 e ds acc (st2.wipe vs)
      | .ok true st2 => match mi1 st2 with
        | .bad => .bad
        | .ok ds1 st3 => match lcGo vs1 g1 t1 e ds1 acc (st3.wipe vs1) with
          | .bad => .bad
          | .ok acc' st4 => lcGo2 vs g t mi1 vs1 g1 t1 e ds acc' (st4.wipe vs)
def mLc2 (mi : S → R (List PyData)) (vs : List Nat) (g : PyData → S → Option S) (t : S → R Bool) (mi1 : S → R (List PyData)) (vs1 : List Nat) (g1 : PyData → S → Option S) (t1 : S → R Bool) (e : S → R PyData) : S → R Slot := fun st => match mi st with
  | .bad => .bad
  | .ok ds st1 => match lcGo2 vs g t mi1 vs1 g1 t1 e ds [] (st1.wipe vs) with
      | .ok acc st2 => if okLen acc.length then .ok (.o (.list acc)) (st2.rest st1 vs) else .bad
      | .bad => .bad
section
variable {K : PySem.W.Frag} {X : Cx} {mi mi1 : S → R (List PyData)} {vs vs1 : List Nat} {g g1 : PyData → S → Option S} {t t1 : S → R Bool} {me : S → R PyData}
theorem lcGo2_grow : ∀ {ds acc : List PyData} {st st' : S} {r : List PyData}, lcGo2 vs g t mi1 vs1 g1 t1 me ds acc st = .ok r st' → acc.length ≤ r.length
  | [], acc, st, st', r, h => by
    cases h
    exact Nat.le_refl _
  | d :: ds, acc, st, st', r, h => by
    unfold lcGo2 at h
    cases q : g d st with
    | none =>
      simp only [q] at h
      cases h
    | some st1 =>
      simp only [q] at h
      cases q2 : t st1 with
      | bad =>
        simp only [q2] at h
        cases h
      | ok b st2 =>
        cases b with
        | false =>
          simp only [q2] at h
          exact lcGo2_grow h
        | true =>
          simp only [q2] at h
          cases q3 : mi1 st2 with
          | bad =>
            simp only [q3] at h
            cases h
          | ok ds1 st3 =>
            simp only [q3] at h
            cases q4 : lcGo vs1 g1 t1 me ds1 acc (st3.wipe vs1) with
            | bad =>
              simp only [q4] at h
              cases h
            | ok acc' st4 =>
              simp only [q4] at h
              exact Nat.le_trans (lcGo_grow q4) (lcGo2_grow h)
theorem r_lc2 {wi wi1 : TI} {gg gg1 : TG} {tt tt1 : TT} {te : TE} (hv : ∀ i ∈ vs1, i ∈ vs) (hi : wi = tL K mi) (hg : gg = tG K vs g) (ht : tt = tMT K t) (hi1 : wi1 = tL K mi1) (hg1 : gg1 = tG K vs1 g1) (ht1 : tt1 = tMT K t1) (he : te = tF K me) :
    ∀ σ H Q, tM K (mLc2 mi vs g t mi1 vs1 g1 t1 me) σ H Q → tLc2 wi gg tt wi1 gg1 tt1 te vs vs1 σ H Q := fun σ H Q ⟨sa, B, F, st, r, st', h0, h1, k⟩ => by
  subst hi hg ht hi1 hg1 ht1 he
  unfold mLc2 at h1
  cases q : mi st with
  | bad =>
    simp only [q] at h1
    cases h1
  | ok ds st1 =>
    simp only [q] at h1
    cases q2 : lcGo2 vs g t mi1 vs1 g1 t1 me ds [] (st1.wipe vs) with
    | bad =>
      simp only [q2] at h1
      cases h1
    | ok res st2 =>
      simp only [q2] at h1
      split at h1
      · rename_i hz
        have hz := okLen_le hz
        cases h1
        refine ⟨sa, B, F, st, ds, st1, h0, q, fun sa1 F1 H1 J R1 dr D hD => ?_⟩
        have hb : B D = none := R1.r.bh.none_of hD
        refine ⟨fun i n H' => ∃ sa2 F2 st2' vacc acc, LcI K B (wipe σ vs) sa1 F1 st1 D H' sa2 F2 st2' vacc acc ∧ (n = ds.length - i ∧ i ≤ ds.length) ∧ lcGo2 vs g t mi1 vs1 g1 t1 me (ds.drop i) acc st2' = .ok res st2,
          ⟨_, sa1, F1, _, [], [], LcI.start vs R1.r hD, ⟨rfl, Nat.zero_le _⟩, q2⟩, fun i n H' ⟨sa2, F2, st2', vacc, acc, L, ⟨hn, hi⟩, q3⟩ => ?_⟩
        by_cases hi' : i < ds.length
        · rw [List.drop_eq_getElem_cons hi'] at q3
          unfold lcGo2 at q3
          cases q4 : g ds[i] st2' with
          | none =>
            simp only [q4] at q3
            cases q3
          | some st3 =>
            simp only [q4] at q3
            refine .inr ⟨dr.go i sa2 _ F2 H' _ st2' L.r L.x.le True.intro hi', fun H'' => ∃ sa3 F3 st3' vacc' acc', LcI K B (wipe σ vs) sa1 F1 st1 D H'' sa3 F3 st3' vacc' acc' ∧ lcGo2 vs g t mi1 vs1 g1 t1 me (ds.drop (i + 1)) acc' st3' = .ok res st2,
              fun H'' ⟨sa3, F3, st3', vacc', acc', L', q'⟩ => ⟨ds.length - (i + 1), by omega, sa3, F3, st3', vacc', acc', L', ⟨rfl, hi'⟩, q'⟩, fun x H3 y => ?_⟩
            obtain ⟨F3, S3, x3, r3⟩ := dr.yld i sa2 _ F2 H' _ st2' x H3 ds[i] L.r L.x.le True.intro (List.getElem?_eq_getElem hi') y
            have L3 := L.go hb ⟨S3, x3, fun _ => rfl, fun z => z⟩
            refine ⟨sa2, _, F3, st2', ds[i], st3, S3, r3, q4, fun σ4 S4 e4 w4 => ?_⟩
            have L4 := L3.go hb (σ' := σ4) ⟨S4, FX.refl, fun _ => rfl, fun z => by rw [e4]; exact z⟩
            have w4' : wipe σ4 vs = wipe σ vs := w4.trans (wipe_wipe fun i h => h)
            refine ⟨w4', ?_⟩
            cases q5 : t st3 with
            | bad =>
              simp only [q5] at q3
              cases q3
            | ok b st5 =>
              refine ⟨sa2, _, F3, st3, b, st5, S4, q5, fun sa5 F5 H5 R5 => ?_⟩
              have L5 := L4.go hb R5
              cases b with
              | false =>
                simp only [q5] at q3
                try dsimp only
                rw [if_neg Bool.false_ne_true]
                have L6 := L5.wip vs
                rw [w4'] at L6
                exact ⟨sa5, F5, _, vacc, acc, L6, q3⟩
              | true =>
                simp only [q5] at q3
                try dsimp only
                rw [if_pos rfl]
                cases q6 : mi1 st5 with
                | bad =>
                  simp only [q6] at q3
                  cases q3
                | ok ds1 st6 =>
                  simp only [q6] at q3
                  cases q7 : lcGo vs1 g1 t1 me ds1 acc (st6.wipe vs1) with
                  | bad =>
                    simp only [q7] at q3
                    cases q3
                  | ok acc7 st7 =>
                    simp only [q7] at q3
                    have top : acc7.length ≤ res.length := lcGo2_grow q3
                    refine ⟨sa5, _, F5, st5, ds1, st6, L5.r, q6, fun sa6 F6 H6 J1 R6 dr1 => ?_⟩
                    have L6 := (L5.go hb R6).wip vs1
                    refine ⟨fun j n H' => ∃ sa2 F2 st2' vacc acc, LcI K B (wipe σ4 vs1) sa1 F1 st1 D H' sa2 F2 st2' vacc acc ∧ Sub F6 F2 ∧ (n = ds1.length - j ∧ j ≤ ds1.length) ∧ lcGo vs1 g1 t1 me (ds1.drop j) acc st2' = .ok acc7 st7,
                      ⟨_, sa6, F6, _, vacc, acc, L6, Sub.refl _, ⟨rfl, Nat.zero_le _⟩, q7⟩, fun j n1 H' ⟨sa2, F2, st2', vacc, acc, L, s2, ⟨hn1, hj⟩, q8⟩ => ?_⟩
                    by_cases hj' : j < ds1.length
                    · rw [List.drop_eq_getElem_cons hj'] at q8
                      unfold lcGo at q8
                      cases q9 : g1 ds1[j] st2' with
                      | none =>
                        simp only [q9] at q8
                        cases q8
                      | some st9 =>
                        simp only [q9] at q8
                        refine .inr ⟨dr1.go j sa2 _ F2 H' _ st2' L.r s2 True.intro hj', fun H'' => ∃ sa3 F3 st3' vacc' acc', LcI K B (wipe σ4 vs1) sa1 F1 st1 D H'' sa3 F3 st3' vacc' acc' ∧ Sub F6 F3 ∧ lcGo vs1 g1 t1 me (ds1.drop (j + 1)) acc' st3' = .ok acc7 st7,
                          fun H'' ⟨sa3, F3, st3', vacc', acc', L', s3, q'⟩ => ⟨ds1.length - (j + 1), by omega, sa3, F3, st3', vacc', acc', L', s3, ⟨rfl, hj'⟩, q'⟩, fun x H9 y => ?_⟩
                        obtain ⟨F9, S9, x9, r9⟩ := dr1.yld j sa2 _ F2 H' _ st2' x H9 ds1[j] L.r s2 True.intro (List.getElem?_eq_getElem hj') y
                        have L9 := L.go hb ⟨S9, x9, fun _ => rfl, fun z => z⟩
                        refine ⟨sa2, _, F9, st2', ds1[j], st9, S9, r9, q9, fun σ10 S10 e10 w10 => ?_⟩
                        have L10 := L9.go hb (σ' := σ10) ⟨S10, FX.refl, fun _ => rfl, fun z => by rw [e10]; exact z⟩
                        have w10' : wipe σ10 vs1 = wipe σ4 vs1 := w10.trans (wipe_wipe fun i h => h)
                        refine ⟨w10', ?_⟩
                        have s9 := s2.trans x9.le
                        cases q11 : t1 st9 with
                        | bad =>
                          simp only [q11] at q8
                          cases q8
                        | ok b st11 =>
                          refine ⟨sa2, _, F9, st9, b, st11, S10, q11, fun sa11 F11 H11 R11 => ?_⟩
                          have L11 := L10.go hb R11
                          cases b with
                          | false =>
                            simp only [q11] at q8
                            try dsimp only
                            rw [if_neg Bool.false_ne_true]
                            have L12 := L11.wip vs1
                            rw [w10'] at L12
                            exact ⟨sa11, F11, _, vacc, acc, L12, s9.trans R11.x.le, q8⟩
                          | true =>
                            simp only [q11] at q8
                            try dsimp only
                            rw [if_pos rfl]
                            cases q12 : me st11 with
                            | bad =>
                              simp only [q12] at q8
                              cases q8
                            | ok d st13 =>
                              simp only [q12] at q8
                              refine ⟨sa11, _, F11, st11, d, st13, L11.r, q12, fun sa13 F13 H13 y13 R13 r13 => ?_⟩
                              have L13 := L11.go hb R13
                              have L14 := (L13.more r13).wip vs1
                              rw [w10'] at L14
                              have hlen : vacc.length = acc.length := L.a.length
                              have hgr := lcGo_grow q8
                              simp only [List.length_append, List.length_singleton] at hgr
                              exact ⟨vacc, L13.at, by omega, sa13, F13, _, _, _, L14, (s9.trans R11.x.le).trans R13.x.le, q8⟩
                    · have hl' : j = ds1.length := by omega
                      subst hl'
                      rw [List.drop_length] at q8
                      cases q8
                      have L15 := L.wip vs
                      rw [wipe_wipe hv, w4'] at L15
                      exact .inl ⟨dr1.stop sa2 _ F2 H' _ _ L.r s2 True.intro, sa2, F2, _, vacc, _, L15, q3⟩
        · have hl' : i = ds.length := by omega
          subst hl'
          rw [List.drop_length] at q3
          cases q3
          exact .inl ⟨dr.stop sa2 _ F2 H' _ _ L.r L.x.le True.intro, L.done R1 hb k⟩
      · cases h1
variable {elt tg iter tg1 iter1 : Expr} {ifs ifs1 : List Expr} {scope : Scope} {own : List (Str × Nat)} {pos : Pos}
theorem d_lc2 (hc : X.calm = true) (hN : X.N.Nodup) (hi : PI X tg iter (tL K mi)) (ok : BlkOk X.N X.env.scope scope own) (hvs : own.map (·.2) = vs) (hv : ∀ i ∈ vs1, i ∈ vs)
    (hg : ∀ (s : Shared) (H : Hp) (C : Addr) (cl : List (Str × Addr)) (fp : List Addr), PG (X.blk s H scope (compEnvC scope cl C X.env) fp) tg (tG K vs g)) (ht : ∀ (s : Shared) (H : Hp) (C : Addr) (cl : List (Str × Addr)) (fp : List Addr), PTs (X.blk s H scope (compEnvC scope cl C X.env) fp) ifs (tMT K t))
    (hi1 : ∀ (s : Shared) (H : Hp) (C : Addr) (cl : List (Str × Addr)) (fp : List Addr), PI (X.blk s H scope (compEnvC scope cl C X.env) fp) tg1 iter1 (tL K mi1))
    (hg1 : ∀ (s : Shared) (H : Hp) (C : Addr) (cl : List (Str × Addr)) (fp : List Addr), PG (X.blk s H scope (compEnvC scope cl C X.env) fp) tg1 (tG K vs1 g1)) (ht1 : ∀ (s : Shared) (H : Hp) (C : Addr) (cl : List (Str × Addr)) (fp : List Addr), PTs (X.blk s H scope (compEnvC scope cl C X.env) fp) ifs1 (tMT K t1))
    (he : ∀ (s : Shared) (H : Hp) (C : Addr) (cl : List (Str × Addr)) (fp : List Addr), PE (X.blk s H scope (compEnvC scope cl C X.env) fp) elt (tF K me)) (hs : ∀ x, foldedSetIterable iter X.env x = pure x := by intro _; rfl) (hs1 : ∀ env x, foldedSetIterable iter1 env x = pure x := by intro _ _; rfl) :
    PE X (.ListComp elt [⟨tg, iter, ifs, 0⟩, ⟨tg1, iter1, ifs1, 0⟩] scope pos) (tM K (mLc2 mi vs g t mi1 vs1 g1 t1 me)) := by
  subst hvs
  exact imE (pe_lc2 hc hN hi ok hv hg ht hi1 hg1 ht1 he hs hs1) (r_lc2 hv rfl rfl rfl rfl rfl rfl rfl)
theorem s_lc2 {i : Nat} {y : Str} {py spos : Pos} (hc : X.calm = true) (hN : X.N.Nodup) (hy : X.N[i]? = some y) (hyl : X.env.scope.names.lookup y = some .local)
    (hsw : swapsWith (.ListComp elt [⟨tg, iter, ifs, 0⟩, ⟨tg1, iter1, ifs1, 0⟩] scope pos) (some (.Name y py)) spos.line X.env = pure true) (hi : PI X tg iter (tL K mi)) (ok : BlkOk X.N X.env.scope scope own) (hvs : own.map (·.2) = vs) (hv : ∀ i ∈ vs1, i ∈ vs)
    (hg : ∀ (s : Shared) (H : Hp) (C : Addr) (cl : List (Str × Addr)) (fp : List Addr), PG (X.blk s H scope (compEnvC scope cl C X.env) fp) tg (tG K vs g)) (ht : ∀ (s : Shared) (H : Hp) (C : Addr) (cl : List (Str × Addr)) (fp : List Addr), PTs (X.blk s H scope (compEnvC scope cl C X.env) fp) ifs (tMT K t))
    (hi1 : ∀ (s : Shared) (H : Hp) (C : Addr) (cl : List (Str × Addr)) (fp : List Addr), PI (X.blk s H scope (compEnvC scope cl C X.env) fp) tg1 iter1 (tL K mi1))
    (hg1 : ∀ (s : Shared) (H : Hp) (C : Addr) (cl : List (Str × Addr)) (fp : List Addr), PG (X.blk s H scope (compEnvC scope cl C X.env) fp) tg1 (tG K vs1 g1)) (ht1 : ∀ (s : Shared) (H : Hp) (C : Addr) (cl : List (Str × Addr)) (fp : List Addr), PTs (X.blk s H scope (compEnvC scope cl C X.env) fp) ifs1 (tMT K t1))
    (he : ∀ (s : Shared) (H : Hp) (C : Addr) (cl : List (Str × Addr)) (fp : List Addr), PE (X.blk s H scope (compEnvC scope cl C X.env) fp) elt (tF K me)) (hs : ∀ x, foldedSetIterable iter X.env x = pure x := by intro _; rfl) (hs1 : ∀ env x, foldedSetIterable iter1 env x = pure x := by intro _ _; rfl) :
    PS X (.Assign [.Name y py] (.ListComp elt [⟨tg, iter, ifs, 0⟩, ⟨tg1, iter1, ifs1, 0⟩] scope pos) spos) (tMS K (sSet i (mLc2 mi vs g t mi1 vs1 g1 t1 me))) := by
  subst hvs
  exact s_set (imS (ps_setLc2 hc hN hy hyl hsw hi ok hv hg ht hi1 hg1 ht1 he hs hs1) fun D σ H h => r_lc2 hv rfl rfl rfl rfl rfl rfl rfl σ H _ h)
end
end Pd
end
section
set_option linter.all false
set_option maxRecDepth 100000
/-! Pd, part M: what changes a list of one's own. -/
namespace Pd
open PySem PySem.Spec PyProof.Rows L2

def mMut (g : List PyData → List PyData → Option (PyData × List PyData)) (i : Nat) (ma : S → R (List PyData)) : S → R Slot := fun st => match st.ss[i]? with
  | some (.o (.list _)) => match ma st with
    | .ok as st1 => match st1.ss[i]? with
      | some (.o (.list ds)) => match g ds as with
        | some (d, ds') => .ok (.v d) { st1 with ss := st1.ss.set i (.o (.list ds')) }
        | none => .bad
      | _ => .bad
    | .bad => .bad
  | _ => .bad
/-- the heap rule does what g tells -/
def MutOk (r : V → List V → Hp → VK → Prop) (g : List PyData → List PyData → Option (PyData × List PyData)) : Prop :=
  ∀ (F H : Hp) (a : Addr) (xs vs : List V) (ds as : List PyData) (d : PyData) (ds' : List PyData) (Q : VK), Sub F H → H a = some (.lst xs) → F a = none → RpL F xs ds → RpL F vs as → g ds as = some (d, ds') →
    (∀ v xs', Rp F v d → RpL F xs' ds' → Q v (upd H a (.lst xs'))) → r (.ref a) vs H Q
def gApp : List PyData → List PyData → Option (PyData × List PyData) := fun ds as => match as with
  | [d] => if okLen (ds.length + 1) then some (.none, ds ++ [d]) else none
  | _ => none
def gExt : List PyData → List PyData → Option (PyData × List PyData) := fun ds as => match as with
  | [.list es] => if okLen (ds.length + es.length) then some (.none, ds ++ es) else none
  | _ => none
def gPop : List PyData → List PyData → Option (PyData × List PyData) := fun ds as => match as with
  | [] => match ds[ds.length - 1]? with
    | some d => some (d, ds.dropLast)
    | none => none
  | _ => none
def gPopAt : List PyData → List PyData → Option (PyData × List PyData) := fun ds as => match as with
  | [.int i] => if okLen ds.length then match ixN ds.length i with
      | some k => match ds[k]? with
        | some d => some (d, ds.eraseIdx k)
        | none => none
      | none => none
    else none
  | _ => none
def gIns : List PyData → List PyData → Option (PyData × List PyData) := fun ds as => match as with
  | [.int i, d] => if decide (0 ≤ i) && decide (i ≤ 16777216) && okLen (ds.length + 1) then some (.none, ds.take i.toNat ++ d :: ds.drop i.toNat) else none
  | _ => none
theorem RpL.one {F : Hp} {vs : List V} {d : PyData} (h : RpL F vs [d]) : ∃ v, vs = [v] ∧ Rp F v d := by
  cases h with
  | cons r r2 =>
    cases r2
    exact ⟨_, rfl, r⟩
theorem RpL.two {F : Hp} {vs : List V} {d e : PyData} (h : RpL F vs [d, e]) : ∃ v w, vs = [v, w] ∧ Rp F v d ∧ Rp F w e := by
  cases h with
  | cons r r2 =>
    cases r2 with
    | cons r' r3 =>
      cases r3
      exact ⟨_, _, rfl, r, r'⟩
theorem mo_app : MutOk rAppend gApp := fun F H a xs vs ds as d ds' Q s hH hF r ra e k => by
  unfold gApp at e
  split at e
  · split at e
    · rename_i hz
      cases e
      obtain ⟨v, rfl, rv⟩ := ra.one
      have := okLen_le hz
      exact ⟨a, xs, v, rfl, rfl, hH, by rw [r.length]; omega, k _ _ .non (r.snoc rv)⟩
    · cases e
  · cases e
theorem mo_ext : MutOk rExtend gExt := fun F H a xs vs ds as d ds' Q s hH hF r ra e k => by
  unfold gExt at e
  split at e
  · split at e
    · rename_i hz
      cases e
      obtain ⟨v, rfl, rv⟩ := ra.one
      cases rv with
      | lst e1 r1 =>
        have := okLen_le hz
        exact ⟨a, _, xs, _, rfl, rfl, hH, s _ _ e1, by rw [r.length, r1.length]; omega, k _ _ .non (r.append r1)⟩
    · cases e
  · cases e
theorem mo_pop : MutOk rPop gPop := fun F H a xs vs ds as d ds' Q s hH hF r ra e k => by
  unfold gPop at e
  split at e
  · split at e
    · rename_i d' q
      cases e
      cases ra
      rw [← r.length] at q
      obtain ⟨v, h1, h2⟩ := r.get q
      exact ⟨a, xs, v, rfl, rfl, hH, h1, k _ _ h2 r.dropLast⟩
    · cases e
  · cases e
theorem mo_popAt : MutOk rPopAt gPopAt := fun F H a xs vs ds as d ds' Q s hH hF r ra e k => by
  unfold gPopAt at e
  split at e
  · rename_i i
    split at e
    · rename_i hz
      have hz := okLen_le hz
      have hs : sizeLine = 16777216 := rfl
      cases q : ixN ds.length i with
      | none =>
        simp only [q] at e
        cases e
      | some j =>
        simp only [q] at e
        cases q2 : ds[j]? with
        | none =>
          simp only [q2] at e
          cases e
        | some d' =>
          simp only [q2] at e
          cases e
          obtain ⟨v, rfl, rv⟩ := ra.one
          cases rv
          rw [← r.length] at q hz
          obtain ⟨h1, h2, h3, h4⟩ := ixN_seq q
          obtain ⟨v, f1, f2⟩ := r.get q2
          exact ⟨a, xs, i, j, v, rfl, rfl, hH, by omega, by omega, h1, f1, k _ _ f2 (r.erase j)⟩
    · cases e
  · cases e
section
variable {X : Cx} {o e e' : Expr} {es : List Expr} {ma : S → R (List PyData)} {i : Nat} {name : Str} {apos cpos : Pos} {id : String} {r : V → List V → Hp → VK → Prop} {g : List PyData → List PyData → Option (PyData × List PyData)}
theorem m_mut (slot : PySem.Slot "list" name id) (hty : typeOf (.builtin id) = pure (.type "method_descriptor")) (hm : MtR X id r) (mo : MutOk r g) (ho : PE X o (tVar i)) (ha : PA X (e :: es) (tAL X.K ma))
    (hbase : attributeBase o name X.env (eval o X.env) = eval o X.env := by rfl)
    (hfew : ((backTo cpos (starEach (e :: es) X.env)).all (fun x => !x.1) && (backToKw cpos (keywordEach [] X.env)).all (fun x => x.1.isSome)
      && decide ((e :: es).length + ([] : List Keyword).length + (if ([] : List Keyword).isEmpty then 0 else 1) < 30)) = true := by rfl)
    (hline : (apos.endLine == cpos.line) = true := by rfl) (hs : starEach (e :: es) X.env = (false, eval e X.env) :: starEach es X.env := by rfl) (hplain : (backTo cpos (starEach es X.env)).any (·.1) = false := by rfl) :
    PE X (.Call (.Attribute o name apos) (e :: es) [] cpos) (tM X.K (mMut g i ma)) := imE (pe_bm PySem.F.plainAttrs_list slot hty hm ho ha hbase hfew hline hs hplain) fun σ H Q ⟨sa, B, F, st, r', st', h0, h1, k⟩ => by
  unfold mMut at h1
  split at h1
  · rename_i dd q
    cases q2 : ma st with
    | bad =>
      simp only [q2] at h1
      cases h1
    | ok as st1 =>
      simp only [q2] at h1
      split at h1
      · rename_i ds q3
        split at h1
        · rename_i d ds' q4
          cases h1
          obtain ⟨a, o, e1, e2, e3, _⟩ := h0.so i _ q
          cases e3 with
          | lst rr =>
            refine ⟨.ref a, e1, .inl ⟨rfl, _, .inl (.inl e2)⟩, sa, B, F, st, as, st1, h0, q2, fun sa1 F1 H1 vs R1 r1 => ?_⟩
            obtain ⟨b, u, f1, f2, f3, f4, f5, f6⟩ := R1.r.so i _ q3
            rw [e1] at f1
            cases f1
            cases f3 with
            | lst r3 =>
              refine mo F1 H1 a _ vs ds as d ds' Q R1.r.fh f2 f5 r3 r1 q4 fun v xs' rv rx => ?_
              exact k sa1 F1 _ v ⟨R1.r.mut q3 e1 (.lst rx), R1.x, R1.k, R1.s⟩ rv
        · cases h1
      · cases h1
  · cases h1
theorem m_mut0 (slot : PySem.Slot "list" name id) (hty : typeOf (.builtin id) = pure (.type "method_descriptor")) (hm : MtR X id r) (mo : MutOk r g) (ho : PE X o (tVar i))
    (hbase : attributeBase o name X.env (eval o X.env) = eval o X.env := by rfl) (hline : (apos.endLine == cpos.line) = true := by rfl) :
    PE X (.Call (.Attribute o name apos) [] [] cpos) (tM X.K (mMut g i mNil)) := imE (pe_bm0 PySem.F.plainAttrs_list slot hty hm ho hbase hline) fun σ H Q ⟨sa, B, F, st, r', st', h0, h1, k⟩ => by
  unfold mMut mNil at h1
  split at h1
  · rename_i dd q
    simp only [q] at h1
    split at h1
    · rename_i d ds' q4
      cases h1
      obtain ⟨a, o, e1, e2, e3, f4, f5, f6⟩ := h0.so i _ q
      cases e3 with
      | lst r3 =>
        refine ⟨.ref a, e1, .inl ⟨rfl, _, .inl (.inl e2)⟩, mo F H a _ [] _ [] d ds' Q h0.fh e2 f5 r3 .nil q4 fun v xs' rv rx => ?_⟩
        exact k sa F _ v ⟨h0.mut q e1 (.lst rx), FX.refl, fun _ => rfl, fun z => z⟩ rv
    · cases h1
  · cases h1
theorem m_app (ho : PE X o (tVar i)) (ha : PA X [e] (tAL X.K ma)) (hbase : attributeBase o "append" X.env (eval o X.env) = eval o X.env := by rfl)
    (hfew : ((backTo cpos (starEach (e :: []) X.env)).all (fun x => !x.1) && (backToKw cpos (keywordEach [] X.env)).all (fun x => x.1.isSome)
      && decide ((e :: []).length + ([] : List Keyword).length + (if ([] : List Keyword).isEmpty then 0 else 1) < 30)) = true := by rfl)
    (hline : (apos.endLine == cpos.line) = true := by rfl) (hs : starEach (e :: []) X.env = (false, eval e X.env) :: starEach [] X.env := by rfl) (hplain : (backTo cpos (starEach [] X.env)).any (·.1) = false := by rfl) :
    PE X (.Call (.Attribute o "append" apos) [e] [] cpos) (tM X.K (mMut gApp i ma)) := m_mut PySem.F.slot_list_append PySem.F.type_list_append mt_append mo_app ho ha hbase hfew hline hs hplain
theorem m_ext (ho : PE X o (tVar i)) (ha : PA X [e] (tAL X.K ma)) (hbase : attributeBase o "extend" X.env (eval o X.env) = eval o X.env := by rfl)
    (hfew : ((backTo cpos (starEach (e :: []) X.env)).all (fun x => !x.1) && (backToKw cpos (keywordEach [] X.env)).all (fun x => x.1.isSome)
      && decide ((e :: []).length + ([] : List Keyword).length + (if ([] : List Keyword).isEmpty then 0 else 1) < 30)) = true := by rfl)
    (hline : (apos.endLine == cpos.line) = true := by rfl) (hs : starEach (e :: []) X.env = (false, eval e X.env) :: starEach [] X.env := by rfl) (hplain : (backTo cpos (starEach [] X.env)).any (·.1) = false := by rfl) :
    PE X (.Call (.Attribute o "extend" apos) [e] [] cpos) (tM X.K (mMut gExt i ma)) := m_mut PySem.F.slot_list_extend PySem.F.type_list_extend mt_extend mo_ext ho ha hbase hfew hline hs hplain
theorem m_popAt (ho : PE X o (tVar i)) (ha : PA X [e] (tAL X.K ma)) (hbase : attributeBase o "pop" X.env (eval o X.env) = eval o X.env := by rfl)
    (hfew : ((backTo cpos (starEach (e :: []) X.env)).all (fun x => !x.1) && (backToKw cpos (keywordEach [] X.env)).all (fun x => x.1.isSome)
      && decide ((e :: []).length + ([] : List Keyword).length + (if ([] : List Keyword).isEmpty then 0 else 1) < 30)) = true := by rfl)
    (hline : (apos.endLine == cpos.line) = true := by rfl) (hs : starEach (e :: []) X.env = (false, eval e X.env) :: starEach [] X.env := by rfl) (hplain : (backTo cpos (starEach [] X.env)).any (·.1) = false := by rfl) :
    PE X (.Call (.Attribute o "pop" apos) [e] [] cpos) (tM X.K (mMut gPopAt i ma)) := m_mut PySem.F.slot_list_pop PySem.F.type_list_pop mt_popAt mo_popAt ho ha hbase hfew hline hs hplain
theorem m_pop (ho : PE X o (tVar i)) (hbase : attributeBase o "pop" X.env (eval o X.env) = eval o X.env := by rfl) (hline : (apos.endLine == cpos.line) = true := by rfl) :
    PE X (.Call (.Attribute o "pop" apos) [] [] cpos) (tM X.K (mMut gPop i mNil)) := m_mut0 PySem.F.slot_list_pop PySem.F.type_list_pop mt_pop mo_pop ho hbase hline
end
end Pd
end
section
set_option linter.all false
set_option maxRecDepth 100000
/-! Pd, part N: defs, calls, the law's own call. -/
namespace Pd
open PySem PySem.Spec PyProof.Rows L2

/-! ### what is handed in, what comes back -/
inductive SlR (K : PySem.W.Frag) (sa : Sa) (F : Hp) (src : Option Src) : V → Slot → Prop
  | v {x : V} {d : PyData} : Rp F x d → SlR K sa F src x (.v d)
  | src : src.isSome = true → SlR K sa F src (.ref sa.1) .src
  | scr {a : Addr} {ns : List Int} : SqL K F a (ns.map V.int) → SlR K sa F src (.ref a) (.scr ns)
inductive SlRs (K : PySem.W.Frag) (sa : Sa) (F : Hp) (src : Option Src) : List V → List Slot → Prop
  | nil : SlRs K sa F src [] []
  | cons {x : V} {xs : List V} {r : Slot} {rs : List Slot} : SlR K sa F src x r → SlRs K sa F src xs rs → SlRs K sa F src (x :: xs) (r :: rs)
def Slot.isSrc : Slot → Bool
  | .src => true
  | _ => false
theorem SlRs.length {K : PySem.W.Frag} {sa : Sa} {F : Hp} {src : Option Src} : ∀ {xs : List V} {rs : List Slot}, SlRs K sa F src xs rs → xs.length = rs.length
  | _, _, .nil => rfl
  | _, _, .cons _ t => congrArg Nat.succ (SlRs.length t)
theorem SlR.mono {K : PySem.W.Frag} {sa : Sa} {F G : Hp} {src : Option Src} {x : V} {r : Slot} (s : Sub F G) (h : SlR K sa F src x r) : SlR K sa G src x r := by
  cases h with
  | v r => exact .v (r.mono s)
  | src z => exact .src z
  | scr q => exact .scr (sqL_mono s q)
theorem SlRs.mono {K : PySem.W.Frag} {sa : Sa} {F G : Hp} {src : Option Src} (s : Sub F G) : ∀ {xs : List V} {rs : List Slot}, SlRs K sa F src xs rs → SlRs K sa G src xs rs
  | _, _, .nil => .nil
  | _, _, .cons h t => .cons (h.mono s) (SlRs.mono s t)
theorem SlRs.off {K : PySem.W.Frag} {sa : Sa} {F : Hp} {src : Option Src} : ∀ {xs : List V} {rs : List Slot}, SlRs K sa F src xs rs → rs.any Slot.isSrc = false → SlRs K sa F none xs rs
  | _, _, .nil, _ => .nil
  | _, _, .cons h t, e => by
    rw [List.any_cons, Bool.or_eq_false_iff] at e
    refine .cons ?_ (SlRs.off t e.2)
    cases h with
    | v r => exact .v r
    | src z => cases e.1
    | scr q => exact .scr q
theorem SlRs.on {K : PySem.W.Frag} {sa : Sa} {F : Hp} {src : Option Src} : ∀ {xs : List V} {rs : List Slot}, SlRs K sa F src xs rs → rs.any Slot.isSrc = true → src.isSome = true
  | _, _, .nil, e => by cases e
  | _, _, .cons h t, e => by
    rw [List.any_cons, Bool.or_eq_true_iff] at e
    rcases e with e | e
    · cases h with
      | v r => cases e
      | src z => exact z
      | scr q => cases e
    · exact SlRs.on t e
theorem SlRs.get {K : PySem.W.Frag} {sa : Sa} {F : Hp} {src : Option Src} : ∀ {xs : List V} {rs : List Slot} {i : Nat} {r : Slot}, SlRs K sa F src xs rs → rs[i]? = some r → ∃ x, xs[i]? = some x ∧ SlR K sa F src x r
  | _, _, 0, _, .cons a _, e => by
    cases e
    exact ⟨_, rfl, a⟩
  | _, _, i + 1, _, .cons _ b, e => by
    obtain ⟨v, h1, h2⟩ := SlRs.get (i := i) b (by simpa using e)
    exact ⟨v, by simpa using h1, h2⟩
  | _, _, _, _, .nil, e => by simp at e
/-- a call's end -/
structure CallEnd (sa : Sa) (F H : Hp) (src : Option Src) (sa' : Sa) (F' H' : Hp) (src' : Option Src) (v : V) (r : Slot) : Prop where
  fx : Sub F F'
  fh : Sub F' H'
  new : ∀ a, F a = none → H a ≠ none → F' a = none
  keep : ∀ a o, H a = some o → (src.isSome = true → a ≠ sa.1 ∧ a ≠ sa.2) → H' a = some o
  ks : src.isSome = true → sa' = sa ∧ src'.isSome = true
  sr : ∀ s, src' = some s → SrcR H' sa' s ∧ F' sa'.1 = none ∧ F' sa'.2 = none ∧ (src = none → H sa'.1 = none ∧ H sa'.2 = none)
  rr : match r with
    | .v d => Rp F' v d
    | .o d => ∃ a o, v = .ref a ∧ H' a = some o ∧ OR F' o d ∧ H a = none ∧ F' a = none ∧ (src'.isSome = true → a ≠ sa'.1 ∧ a ≠ sa'.2)
    | .src => src'.isSome = true ∧ v = .ref sa'.1
    | _ => False
abbrev GFn := List Slot → Option Src → Option (Slot × Option Src)
def spG (K : PySem.W.Frag) (n : Nat) (g : GFn) : Sp := fun vs H Q _ => ∃ (sa : Sa) (F : Hp) (src : Option Src) (as : List Slot) (r : Slot) (src' : Option Src),
  as.length = n ∧ Sub F H ∧ SlRs K sa F src vs as ∧ (∀ s, src = some s → SrcR H sa s ∧ F sa.1 = none ∧ F sa.2 = none) ∧ g as src = some (r, src') ∧
  ∀ sa' F' H' v, CallEnd sa F H src sa' F' H' src' v r → Q v H'

/-! ### a call's arguments -/
def tSL (K : PySem.W.Frag) (m : S → R (List Slot)) : TA := fun σ H Q => ∃ sa B F st as st', SR K sa B F H σ st ∧ m st = .ok as st' ∧ ∀ sa' F' H' vs, Rch K B σ sa F st sa' F' H' st' → SlRs K sa' F' st'.src vs as → Q vs H'
def xNil : S → R (List Slot) := fun st => .ok [] st
def xCons (m : S → R PyData) (ms : S → R (List Slot)) : S → R (List Slot) := fun st => match m st with
  | .ok d st1 => match ms st1 with
    | .ok as st2 => .ok (.v d :: as) st2
    | .bad => .bad
  | .bad => .bad
def xSrc (i : Nat) (ms : S → R (List Slot)) : S → R (List Slot) := fun st => match st.ss[i]? with
  | some .src => match ms st with
    | .ok as st2 => .ok (.src :: as) st2
    | .bad => .bad
  | some (.scr ns) => match ms st with
    | .ok as st2 => .ok (.scr ns :: as) st2
    | .bad => .bad
  | _ => .bad
section
variable {K : PySem.W.Frag} {X : Cx} {e : Expr} {es : List Expr} {mf : S → R PyData} {ms : S → R (List Slot)}
theorem x_nil : PA X [] (tSL K xNil) := imA pa_nil fun σ H Q ⟨sa, B, F, st, d, st', h0, h1, k⟩ => by
  cases h1
  exact k sa F H [] (.refl h0) .nil
theorem x_cons (h : PE X e (tF K mf)) (h' : PA X es (tSL K ms)) (hs : starEach (e :: es) X.env = (false, eval e X.env) :: starEach es X.env := by rfl) : PA X (e :: es) (tSL K (xCons mf ms)) := imA (pa_cons h h' hs) fun σ H Q ⟨sa, B, F, st, as, st', h0, h1, k⟩ => by
  unfold xCons at h1
  cases q : mf st with
  | bad =>
    simp only [q] at h1
    cases h1
  | ok d st1 =>
    cases q2 : ms st1 with
    | bad =>
      simp only [q, q2] at h1
      cases h1
    | ok as st2 =>
      simp only [q, q2] at h1
      cases h1
      exact ⟨sa, B, F, st, d, st1, h0, q, fun sa1 F1 H1 v R1 r1 => ⟨sa1, B, F1, st1, as, _, R1.r, q2, fun sa2 F2 H2 vs R2 r2 => k sa2 F2 H2 _ (R1.trans R2) (.cons (.v (r1.mono R2.x.le)) r2)⟩⟩
theorem x_src {i : Nat} (h : PE X e (tVar i)) (h' : PA X es (tSL K ms)) (hs : starEach (e :: es) X.env = (false, eval e X.env) :: starEach es X.env := by rfl) : PA X (e :: es) (tSL K (xSrc i ms)) := imA (pa_cons h h' hs) fun σ H Q ⟨sa, B, F, st, as, st', h0, h1, k⟩ => by
  unfold xSrc at h1
  split at h1
  · rename_i q
    cases q2 : ms st with
    | bad =>
      simp only [q2] at h1
      cases h1
    | ok as st2 =>
      simp only [q2] at h1
      cases h1
      obtain ⟨e1, e2⟩ := h0.sx i q
      refine ⟨_, e2, sa, B, F, st, as, _, h0, q2, fun sa2 F2 H2 vs R2 r2 => k sa2 F2 H2 _ R2 (.cons ?_ r2)⟩
      rw [← R2.k e1]
      exact .src (R2.s e1)
  · rename_i ns q
    cases q2 : ms st with
    | bad =>
      simp only [q2] at h1
      cases h1
    | ok as st2 =>
      simp only [q2] at h1
      cases h1
      obtain ⟨a, e1, e2⟩ := h0.sc i ns q
      exact ⟨_, e1, sa, B, F, st, as, _, h0, q2, fun sa2 F2 H2 vs R2 r2 => k sa2 F2 H2 _ R2 (.cons (.scr (sqL_mono R2.x.le e2)) r2)⟩
  · cases h1
end

/-! ### the call, as a state sees it -/
def mCall (g : GFn) (ms : S → R (List Slot)) : S → R Slot := fun st => match ms st with
  | .bad => .bad
  | .ok as st1 => if as.any Slot.isSrc then match g as st1.src with
      | some (r, some s) => .ok r { st1 with src := some s }
      | _ => .bad
    else match g as none with
      | some (r, none) => .ok r st1
      | some (r, some s) => match st1.src with
        | none => .ok r { st1 with src := some s }
        | some _ => .bad
      | none => .bad
theorem CallEnd.rch {K : PySem.W.Frag} {B F H F' H' : Hp} {σ : L2.St} {sa sa' : Sa} {st : S} {src' : Option Src} {v : V} {r : Slot} (S1 : SR K sa B F H σ st) (c : CallEnd sa F H st.src sa' F' H' src' v r) :
    Rch K B σ sa F st sa' F' H' { st with src := src' } ∧ RRep sa' B F' H' σ { st with src := src' } v r := by
  have sp : ∀ {s}, st.src = some s → st.src.isSome = true := fun e => by
    rw [e]
    rfl
  have nsrc : ∀ a o, H a = some o → (st.src.isSome = true → a ≠ sa.1 ∧ a ≠ sa.2) → (src'.isSome = true → a ≠ sa'.1 ∧ a ≠ sa'.2) := fun a o ha hn z => by
    cases q : st.src with
    | some s =>
      have w := sp q
      rw [(c.ks w).1]
      exact hn w
    | none =>
      obtain ⟨s', hs'⟩ := Option.isSome_iff_exists.mp z
      obtain ⟨_, _, _, f⟩ := c.sr s' hs'
      obtain ⟨f1, f2⟩ := f q
      refine ⟨fun w => ?_, fun w => ?_⟩
      · rw [← w, ha] at f1
        cases f1
      · rw [← w, ha] at f2
        cases f2
  have bsrc : ∀ a, B a ≠ none → st.src.isSome = true → a ≠ sa.1 ∧ a ≠ sa.2 := fun a hb z => by
    obtain ⟨s, hs⟩ := Option.isSome_iff_exists.mp z
    obtain ⟨_, e2, e3, _⟩ := S1.sr s hs
    exact ⟨fun w => hb (by rw [w]; exact e2), fun w => hb (by rw [w]; exact e3)⟩
  have SR' : SR K sa' B F' H' σ { st with src := src' } := by
    refine ⟨fun a o e => ?_, c.fh, S1.len, fun i d e => ?_, fun i d e => ?_, S1.ap, fun i e => ?_, fun i ns e => ?_, fun s e => ?_, fun i e => ?_⟩
    · exact c.keep a o (S1.bh a o e) (bsrc a (by
        rw [e]
        exact fun z => nomatch z))
    · obtain ⟨x, e1, e2⟩ := S1.sl i d e
      exact ⟨x, e1, e2.mono c.fx⟩
    · obtain ⟨a, o, e1, e2, e3, e4, e5, e6⟩ := S1.so i d e
      exact ⟨a, o, e1, c.keep a o e2 e6, e3.mono c.fx, e4, c.new a e5 (by
        rw [e2]
        exact fun z => nomatch z), nsrc a o e2 e6⟩
    · obtain ⟨e1, e2⟩ := S1.sx i e
      obtain ⟨e3, e4⟩ := c.ks e1
      exact ⟨e4, by rw [e3]; exact e2⟩
    · obtain ⟨a, e1, e2⟩ := S1.sc i ns e
      exact ⟨a, e1, sqL_mono c.fx e2⟩
    · obtain ⟨f1, f2, f3, f4⟩ := c.sr s e
      refine ⟨f1, ?_, ?_, f2, f3⟩
      · cases q : st.src with
        | some s0 =>
          rw [(c.ks (sp q)).1]
          exact (S1.sr s0 q).2.1
        | none => exact S1.bh.none_of (f4 q).1
      · cases q : st.src with
        | some s0 =>
          rw [(c.ks (sp q)).1]
          exact (S1.sr s0 q).2.2.1
        | none => exact S1.bh.none_of (f4 q).2
    · obtain ⟨e1, e2⟩ := S1.sy i e
      obtain ⟨e3, e4⟩ := c.ks e1
      exact ⟨e4, by rw [e3]; exact e2⟩
  refine ⟨⟨SR', ⟨c.fx, fun a n b => c.new a n fun z => b (S1.bh.none_of z)⟩, fun z => (c.ks z).1, fun z => (c.ks z).2⟩, ?_⟩
  have rr := c.rr
  cases r with
  | v d => exact rr
  | src => exact rr
  | no => exact rr
  | cel => exact rr.elim
  | scr _ => exact rr
  | o d =>
    obtain ⟨a, o, e1, e2, e3, e4, e5, e6⟩ := rr
    refine ⟨a, o, e1, e2, e3, S1.bh.none_of e4, e5, e6, fun i e q w => ?_⟩
    obtain ⟨b, u, f1, f2, _⟩ := S1.so i e q
    rw [w] at f1
    cases f1
    rw [e4] at f2
    cases f2
/-- without the source: it stays -/
theorem CallEnd.more {K : PySem.W.Frag} {B F H F' H' : Hp} {σ : L2.St} {sa sa' : Sa} {st : S} {v : V} {r : Slot} (S1 : SR K sa B F H σ st) (c : CallEnd sa F H none sa' F' H' none v r) : CallEnd sa F H st.src sa F' H' st.src v r := by
  have kp : ∀ a o, H a = some o → H' a = some o := fun a o e => c.keep a o e fun z => nomatch z
  have out : ∀ s, st.src = some s → SrcR H sa s := fun s e => (S1.sr s e).1
  refine ⟨c.fx, c.fh, c.new, fun a o e _ => kp a o e, fun z => ⟨rfl, z⟩, fun s e => ?_, ?_⟩
  · obtain ⟨e1, _, _, e4, e5⟩ := S1.sr s e
    refine ⟨⟨kp _ _ e1.1, kp _ _ e1.2⟩, c.new _ e4 e1.at1, c.new _ e5 e1.at2, fun z => ?_⟩
    rw [z] at e
    cases e
  · have rr := c.rr
    cases r with
    | v d => exact rr
    | no => exact rr
    | cel => exact rr
    | scr _ => exact rr
    | src => cases rr.1
    | o d =>
      obtain ⟨a, o, e1, e2, e3, e4, e5, e6⟩ := rr
      refine ⟨a, o, e1, e2, e3, e4, e5, fun z => ?_⟩
      obtain ⟨s, hs⟩ := Option.isSome_iff_exists.mp z
      have q := out s hs
      exact ⟨fun w => q.at1 (by rw [← w]; exact e4), fun w => q.at2 (by rw [← w]; exact e4)⟩
/-- a call's reading -/
theorem r_call {K : PySem.W.Frag} {n : Nat} {g : GFn} {ms : S → R (List Slot)} {E : XK} (hn : ∀ st as st', ms st = .ok as st' → as.length = n) : ∀ σ H Q, tM K (mCall g ms) σ H Q → tCall (spG K n g) [] E (tSL K ms) σ H Q := fun σ H Q ⟨sa, B, F, st, r, st', h0, h1, k⟩ => by
  unfold mCall at h1
  cases q : ms st with
  | bad =>
    simp only [q] at h1
    cases h1
  | ok as st1 =>
    simp only [q] at h1
    refine ⟨sa, B, F, st, as, st1, h0, q, fun sa1 F1 H1 vs R1 r1 => ?_⟩
    show spG K n g (vs ++ []) H1 Q E
    rw [List.append_nil]
    have S1 := R1.r
    split at h1
    · split at h1
      · rename_i r s q3
        cases h1
        refine ⟨sa1, F1, st1.src, as, _, some s, hn _ _ _ q, S1.fh, r1, fun s e => ?_, q3, fun sa2 F2 H2 v c => ?_⟩
        · obtain ⟨e1, _, _, e4, e5⟩ := S1.sr s e
          exact ⟨e1, e4, e5⟩
        · obtain ⟨R2, rr⟩ := c.rch S1
          exact k sa2 F2 H2 v (R1.trans R2) rr
      · cases h1
    · rename_i hno
      have r1' : SlRs K sa1 F1 none vs as := r1.off (by simpa using hno)
      split at h1
      · rename_i r q3
        cases h1
        refine ⟨sa1, F1, none, as, _, none, hn _ _ _ q, S1.fh, r1', fun s e => (nomatch e), q3, fun sa2 F2 H2 v c => ?_⟩
        obtain ⟨R2, rr⟩ := (c.more S1).rch S1
        exact k sa1 F2 H2 v (R1.trans R2) rr
      · rename_i r s q3
        cases q4 : st1.src with
        | some _ =>
          simp only [q4] at h1
          cases h1
        | none =>
          simp only [q4] at h1
          cases h1
          refine ⟨sa1, F1, none, as, _, some s, hn _ _ _ q, S1.fh, r1', fun s e => (nomatch e), q3, fun sa2 F2 H2 v c => ?_⟩
          have c' : CallEnd sa1 F1 H1 st1.src sa2 F2 H2 (some s) v r := by
            rw [q4]
            exact c
          obtain ⟨R2, rr⟩ := c'.rch S1
          exact k sa2 F2 H2 v (R1.trans R2) rr
      · cases h1

/-! ### a def's body -/
def startS (n : Nat) (as : List Slot) : List Slot := as ++ List.replicate (n - as.length) .no
def gOf (n : Nat) (m : S → RS) : GFn := fun as src => match m ⟨startS n as, src⟩ with
  | .ret .cel _ => none
  | .ret r st' => some (r, st'.src)
  | .nx st' => some (.v .none, st'.src)
  | _ => none
/-- what stands at the entry, beside the source -/
def besides (sa : Sa) (src : Option Src) (H : Hp) : Hp := fun a => if src.isSome = true ∧ (a = sa.1 ∨ a = sa.2) then none else H a
theorem besides_sub {sa : Sa} {src : Option Src} {H : Hp} : Sub (besides sa src H) H := fun a o e => by
  unfold besides at e
  split at e
  · cases e
  · exact e
theorem body_start {K : PySem.W.Frag} {sa : Sa} {F H : Hp} {src : Option Src} {vs : List V} {as : List Slot} {N : List Str} (s : Sub F H) (r : SlRs K sa F src vs as) (hs : ∀ s, src = some s → SrcR H sa s ∧ F sa.1 = none ∧ F sa.2 = none) :
    SR K sa (besides sa src H) F H (L2.start N vs) ⟨startS N.length as, src⟩ := by
  have hl := r.length
  have at' : ∀ (i : Nat) (x : Slot), (startS N.length as)[i]? = some x → x ≠ .no → as[i]? = some x ∧ ∃ v, (L2.start N vs)[i]? = some (some v) ∧ SlR K sa F src v x := fun i x e n => by
    unfold startS at e
    by_cases hi : i < as.length
    · rw [List.getElem?_append_left hi] at e
      obtain ⟨v, e1, e2⟩ := r.get e
      refine ⟨e, v, ?_, e2⟩
      unfold L2.start
      rw [List.getElem?_append_left (by rw [List.length_map, hl]; exact hi), List.getElem?_map, e1]
      rfl
    · rw [List.getElem?_append_right (by omega), List.getElem?_replicate] at e
      split at e
      · cases e
        exact absurd rfl n
      · cases e
  have noO : ∀ (i : Nat) (d : PyData), (startS N.length as)[i]? = some (.o d) → False := fun i d e => by
    obtain ⟨_, v, _, z⟩ := at' i _ e (fun z => nomatch z)
    cases z
  refine ⟨besides_sub, s, ?_, fun i d e => ?_, fun i d e => (noO i d e).elim, fun i j d e a n q1 q2 q3 q4 => (noO i d q1).elim, fun i e => ?_, fun i ns e => ?_, fun x e => ?_, fun i e => ?_⟩
  · show (L2.start N vs).length = (startS N.length as).length
    unfold L2.start startS
    simp [hl]
  · obtain ⟨_, v, e1, z⟩ := at' i _ e (fun z => nomatch z)
    cases z with
    | v r => exact ⟨v, e1, r⟩
  · obtain ⟨_, v, e1, z⟩ := at' i _ e (fun z => nomatch z)
    cases z with
    | src w => exact ⟨w, e1⟩
  · obtain ⟨_, v, e1, z⟩ := at' i _ e (fun z => nomatch z)
    cases z with
    | scr w => exact ⟨_, e1, w⟩
  · have e' : src = some x := e
    obtain ⟨e1, e2, e3⟩ := hs x e'
    exact ⟨e1, by unfold besides; rw [e', if_pos ⟨rfl, .inl rfl⟩], by unfold besides; rw [e', if_pos ⟨rfl, .inr rfl⟩], e2, e3⟩
  · obtain ⟨_, v, e1, z⟩ := at' i _ e (fun z => nomatch z)
    cases z
theorem body_end {K : PySem.W.Frag} {sa sa' : Sa} {F H F' H' : Hp} {src : Option Src} {st st' : S} {σ : L2.St} {v : V} {r : Slot} (hr : r ≠ .cel) (e : st.src = src) (hs : ∀ s, src = some s → SrcR H sa s ∧ F sa.1 = none ∧ F sa.2 = none)
    (R : Rch K (besides sa src H) σ sa F st sa' F' H' st') (rr : RRep sa' (besides sa src H) F' H' σ st' v r) : CallEnd sa F H src sa' F' H' st'.src v r := by
  subst e
  have bs : ∀ a, (st.src.isSome = true → a ≠ sa.1 ∧ a ≠ sa.2) → besides sa st.src H a = H a := fun a n => by
    unfold besides
    rw [if_neg]
    rintro ⟨z, w⟩
    obtain ⟨n1, n2⟩ := n z
    exact w.elim n1 n2
  have sub : ∀ a, (st'.src.isSome = true → a ≠ sa'.1 ∧ a ≠ sa'.2) → st.src.isSome = true → a ≠ sa.1 ∧ a ≠ sa.2 := fun a h z => by
    rw [← R.k z]
    exact h (R.s z)
  refine ⟨R.x.le, R.r.fh, fun a n h => ?_, fun a o e n => R.r.bh a o (by rw [bs a n]; exact e), fun z => ⟨R.k z, R.s z⟩, fun s e => ?_, ?_⟩
  · by_cases z : st.src.isSome = true ∧ (a = sa.1 ∨ a = sa.2)
    · obtain ⟨z1, z2⟩ := z
      obtain ⟨s', hs'⟩ := Option.isSome_iff_exists.mp (R.s z1)
      obtain ⟨_, _, _, e4, e5⟩ := R.r.sr s' hs'
      rw [R.k z1] at e4 e5
      rcases z2 with z2 | z2
      · rw [z2]
        exact e4
      · rw [z2]
        exact e5
    · refine R.x.out a n ?_
      unfold besides
      rw [if_neg z]
      exact h
  · obtain ⟨e1, e2, e3, e4, e5⟩ := R.r.sr s e
    refine ⟨e1, e4, e5, fun z => ?_⟩
    have nz : ∀ a, besides sa st.src H a = H a := fun a => bs a fun w => by
      rw [z] at w
      cases w
    rw [nz] at e2 e3
    exact ⟨e2, e3⟩
  · cases r with
    | v d => exact rr
    | src => exact rr
    | cel => exact absurd rfl hr
    | no => exact rr
    | scr _ => exact rr
    | o d =>
      obtain ⟨a, o, e1, e2, e3, e4, e5, e6, _⟩ := rr
      exact ⟨a, o, e1, e2, e3, by rw [← bs a (sub a e6)]; exact e4, e5, e6⟩
/-- the body's reading at the promise -/
theorem body_reads {K : PySem.W.Frag} {n : Nat} {N : List Str} {m : S → RS} {vs : List V} {H : Hp} {Q : VK} {E : XK} (h : spG K n (gOf N.length m) vs H Q E) : tMS K m { nx := fun _ H' => Q .non H', rt := Q } (L2.start N vs) H := by
  obtain ⟨sa, F, src, as, r0, src', hn, s, rs, hs, hg, k⟩ := h
  refine ⟨sa, _, F, _, body_start s rs hs, ?_⟩
  unfold gOf at hg
  cases q : m ⟨startS N.length as, src⟩ with
  | ret r st' =>
    rw [q] at hg
    have nc : r ≠ .cel := fun z => by
      rw [z] at hg
      cases hg
    have hg' : some (r, st'.src) = some (r0, src') := by
      cases r with
      | cel => exact absurd rfl nc
      | _ => exact hg
    cases hg'
    exact fun sa' F' H' σ' v R rr => k sa' F' H' v (body_end (st := ⟨startS N.length as, src⟩) nc rfl hs R rr)
  | nx st' =>
    rw [q] at hg
    cases hg
    exact fun sa' F' H' σ' R => k sa' F' H' .non (body_end (st := ⟨startS N.length as, src⟩) (σ := σ') (fun z => nomatch z) rfl hs R Rp.non)
  | bk st' =>
    rw [q] at hg
    cases hg
  | ct st' =>
    rw [q] at hg
    cases hg
  | bad =>
    rw [q] at hg
    cases hg
end Pd
end
section
set_option linter.all false
set_option maxRecDepth 100000
/-! Pd, part O: defs whose callers hold no guard (repr asks for that), the head for them. -/
namespace Pd
open PySem PySem.Spec PyProof.Rows L2

abbrev CXZ : CXT := fun _ _ _ _ _ _ => False
/-- a def, run where no guard is held -/
structure FnG (P : Program) (w : World) (K : PySem.W.Frag) (mg : Str → Option Value) (base : Heap) (k : Nat) (f : Addr) (fd : FuncData) (ps : List Str) (sp : Sp) : Prop where
  many : ∀ as H Q E, sp as H Q E → as.length = ps.length
  go : ∀ (A : Around) (fr : List Env) (s : Shared) (H : Hp) (ar : Args) (us : List Value) (as : List V) (Q : VK) (E : XK), A.guards = some [] → Room k A → Env0 P w K mg base A fr s H → BindsTo s fd ar (ps.zip us) → Vals as us → sp as H Q E →
    codeAny (model P w) A (.call (.ref f) ar) (CR CXZ fr P w H s Q E) s
theorem FnG.up {P : Program} {w : World} {K : PySem.W.Frag} {mg : Str → Option Value} {base : Heap} {j k : Nat} {f : Addr} {fd : FuncData} {ps : List Str} {sp : Sp} (F : FnG P w K mg base j f fd ps sp) (h : j ≤ k) : FnG P w K mg base k f fd ps sp :=
  ⟨F.many, fun A fr s H ar us as Q E hg hr => F.go A fr s H ar us as Q E hg (hr.mono h)⟩
/-- the context of a body -/
abbrev bodyX (P : Program) (w : World) (K : PySem.W.Frag) (mg : Str → Option Value) (base : Heap) (N : List Str) (qual : Str) (sc : Scope) (f : Addr) (cd : Value) (A : Around) (fr : List Env) (s : Shared) (H : Hp) (E : XK) : Cx := (cxOf CXZ P w K mg base N qual sc f cd A fr s H E).nox
theorem fn_okG {P : Program} {w : World} {K : PySem.W.Frag} {mg : Str → Option Value} {base : Heap} {x qual : Str} {params : Arguments} {body : List Stmt} {sc : Scope} {dvs : List V} {kws : List (Str × V)} {f : Addr} {fd : FuncData} {N ps : List Str} {k : Nat} {sp : Sp}
    (F : FunD K x qual params body sc dvs kws f fd) (S : FnScope N ps sc) (len : ∀ as H Q E, sp as H Q E → as.length = ps.length)
    (hb : ∀ (cd : Value) (A : Around) (fr : List Env) (s : Shared) (H : Hp) (as : List V) (Q : VK) (E : XK), A.guards = some [] → Room k (A.deeper (envOfC qual sc s.heap.objs.size f cd)) → sp as H Q E →
      ∃ t, PSs (bodyX P w K mg base N qual sc f cd A fr s H E) body t ∧ t { nx := fun _ H' => Q .non H', rt := Q } (L2.start N as) H) : FnG P w K mg base (k + 1) f fd ps sp := by
  obtain ⟨oc, od, dV, kV, doc, pm, an, cd, ct, osl, rfl, lk, hcd, _, _⟩ := F.ex
  refine ⟨len, fun A fr s H ar us as Q E hg hr e0 hbd r hsp => ?_⟩
  have inK : K.In s.heap := e0.mod.kin.keeps fun b o e => (e0.bs b o e).1
  have nl : s.heap.NoLimit := e0.mod.nolimit.keeps fun b o e => (e0.bs b o e).1
  refine codeAny_call_function hr.depth (inK _ _ lk) rfl S.co S.gen rfl (PySem.W.codeRec_of inK hcd) (hbd _ _ _ _ (wpAny_newFunctionEnv_cells S.kind (fun ⟨n, v⟩ hy => ?_) fun env he s1 x => ?_))
  · rcases S.par n (List.of_mem_zip hy).1 with q | q
    · exact .inl q
    · exact .inr ⟨q, PySem.W.cellsFrom_some _ _ _ (.inl q)⟩
  · subst he
    refine ⟨nl.keeps x.toInCall.keep, codeAny_func ?_⟩
    obtain ⟨t, ht, hq⟩ := hb cd A fr s H as Q E hg (hr.deeper _) hsp
    have I := inv_start (CX := CXZ) (E := E) S hr.hd e0 (len _ _ _ _ hsp) r x
    refine wpAny_mono (ht.nox.run [] s1 (L2.start N as) H _ I hq) (fun fl s' hs => ?_) fun e s' hs => hs
    cases fl with
    | ret u =>
      obtain ⟨v, σ', H', J, rv, q⟩ := hs
      exact ⟨v, H', J.os, J.bare, J.base, J.hok, rv, q⟩
    | next =>
      obtain ⟨σ', H', J, q⟩ := hs
      exact ⟨.non, H', J.os, J.bare, J.base, J.hok, rfl, q⟩
    | brk =>
      obtain ⟨σ', H', J, q⟩ := hs
      exact q.elim
    | cont =>
      obtain ⟨σ', H', J, q⟩ := hs
      exact q.elim
/-- the rule for a def, by its state function -/
theorem fn_okM {P : Program} {w : World} {K : PySem.W.Frag} {mg : Str → Option Value} {base : Heap} {x qual : Str} {params : Arguments} {body : List Stmt} {sc : Scope} {dvs : List V} {kws : List (Str × V)} {f : Addr} {fd : FuncData} {N ps : List Str} {k : Nat} {m : S → RS}
    (F : FunD K x qual params body sc dvs kws f fd) (S : FnScope N ps sc)
    (hb : ∀ (cd : Value) (A : Around) (fr : List Env) (s : Shared) (H : Hp) (E : XK), A.guards = some [] → Room k (A.deeper (envOfC qual sc s.heap.objs.size f cd)) → PSs (bodyX P w K mg base N qual sc f cd A fr s H E) body (tMS K m)) :
    FnG P w K mg base (k + 1) f fd ps (spG K ps.length (gOf N.length m)) :=
  fn_okG F S (fun as H Q E ⟨_, _, _, _, _, _, e, _, r, _⟩ => r.length.trans e) fun cd A fr s H as Q E hg hr h => ⟨_, hb cd A fr s H E hg hr, body_reads h⟩
section
variable {X : Cx} {k n : Nat} {f : Addr} {fd : FuncData} {ps : List Str} {sp : Sp} {E : XK} {x : Str} {p pos : Pos} {e : Expr} {es : List Expr} {t : TA} {g : GFn} {ms : S → R (List Slot)}
theorem run_g {pins : List (Addr × Obj)} {σ : L2.St} {H : Hp} {s : Shared} {Q : VK} {us : List Value} {as : List V} (F : FnG X.prog X.w X.K X.mg X.base k f fd ps sp) (hg : X.A.guards = some []) (hr : Room k X.A) (hb : Binds X.K fd ps []) (I : Inv X pins σ H s) (r : Vals as us) (h : sp (as ++ []) H Q E) :
    wpAny (model X.prog X.w) X.A (call (.ref f) us) (EP X pins σ Q) X.xe s := by
  rw [List.append_nil] at h
  have hl : (us ++ []).length = ps.length := by rw [List.append_nil, ← r.length]; exact F.many _ _ _ _ h
  have b := hb s us I.kIn hl
  rw [List.append_nil] at b
  refine wpAny_call (codeAny_mono (F.go X.A X.stack s H ⟨us, []⟩ us as Q E hg hr I.env0 b r h) fun o s' hq => ?_)
  cases o with
  | error e => exact hq.elim
  | ok fl =>
    cases fl with
    | ret u => exact I.after hq
    | next => exact hq.elim
    | brk => exact hq.elim
    | cont => exact hq.elim
theorem pe_g (F : FnG X.prog X.w X.K X.mg X.base k f fd ps sp) (hgd : X.A.guards = some []) (hr : Room k X.A) (hg : Gl X x) (hm : X.mg x = some (.ref f)) (hk : PySem.W.keepIn X.K (.ref f) = true) (hb : Binds X.K fd ps []) (ha : PA X (e :: es) t)
    (hdb : (x == ("__debug__" : Str)) = false := by decide) (he : starEach (e :: es) X.env = (false, eval e X.env) :: starEach es X.env := by rfl) (hpl : (backTo pos (starEach es X.env)).any (·.1) = false := by rfl) :
    PE X (.Call (.Name x p) (e :: es) [] pos) (tCall sp [] E t) := by
  refine ⟨fun pins s σ H Q I h => wpAny_Call_Name_kw (ld_glob I hg hm ?_ hdb)⟩
  exact PySem.W.callWith_K (h₀ := X.base) I.ok.mod.kin hk (thn (ha.run pos pins s σ H _ I h) fun us s1 ⟨vs, H1, I1, r, q⟩ => ⟨I1.kIn, run_g F hgd hr hb I1 r q⟩) he hpl
theorem pe_g0 (F : FnG X.prog X.w X.K X.mg X.base k f fd ps sp) (hgd : X.A.guards = some []) (hr : Room k X.A) (hg : Gl X x) (hm : X.mg x = some (.ref f)) (hk : PySem.W.keepIn X.K (.ref f) = true) (hb : Binds X.K fd ps [])
    (hdb : (x == ("__debug__" : Str)) = false := by decide) : PE X (.Call (.Name x p) [] [] pos) (tCall sp [] E tNil) := by
  refine ⟨fun pins s σ H Q I h => wpAny_Call_Name_kw (ld_glob I hg hm ?_ hdb)⟩
  exact PySem.W.callWith_K0 I.kIn hk (run_g (us := []) F hgd hr hb I .nil h)
/-- a call of a def -/
structure Def (P : Program) (w : World) (K : PySem.W.Frag) (mg : Str → Option Value) (base : Heap) (k n : Nat) (x : Str) (g : GFn) : Prop where
  ex : ∃ (f : Addr) (fd : FuncData) (ps : List Str), ps.length = n ∧ FnG P w K mg base k f fd ps (spG K n g) ∧ mg x = some (.ref f) ∧ PySem.W.keepIn K (.ref f) = true ∧ Binds K fd ps []
theorem d_call (F : Def X.prog X.w X.K X.mg X.base k n x g) (hgd : X.A.guards = some []) (hr : Room k X.A) (hg : Gl X x) (ha : PA X (e :: es) (tSL X.K ms)) (hn : ∀ st as st', ms st = .ok as st' → as.length = n)
    (hdb : (x == ("__debug__" : Str)) = false := by decide) (he : starEach (e :: es) X.env = (false, eval e X.env) :: starEach es X.env := by rfl) (hpl : (backTo pos (starEach es X.env)).any (·.1) = false := by rfl) :
    PE X (.Call (.Name x p) (e :: es) [] pos) (tM X.K (mCall g ms)) := by
  obtain ⟨f, fd, ps, hl, F, hm, hk, hb⟩ := F.ex
  exact imE (pe_g (E := fun _ _ _ => False) F hgd hr hg hm hk hb ha hdb he hpl) (r_call hn)
theorem d_call0 (F : Def X.prog X.w X.K X.mg X.base k 0 x g) (hgd : X.A.guards = some []) (hr : Room k X.A) (hg : Gl X x) (hdb : (x == ("__debug__" : Str)) = false := by decide) : PE X (.Call (.Name x p) [] [] pos) (tM X.K (mCall g xNil)) := by
  obtain ⟨f, fd, ps, hl, F, hm, hk, hb⟩ := F.ex
  refine imE (pe_g0 (E := fun _ _ _ => False) F hgd hr hg hm hk hb hdb) fun σ H Q h => ?_
  have h2 := r_call (n := 0) (E := fun _ _ _ => False) (fun st as st' e => by cases e; rfl) σ H Q h
  obtain ⟨sa, B, F2, st, as, st', h0, h1, k2⟩ := h2
  cases h1
  exact k2 sa F2 H [] (.refl h0) .nil
theorem xn_nil : ∀ st as st', xNil st = .ok as st' → as.length = 0 := fun st as st' h => by
  cases h
  rfl
theorem xn_cons {mf : S → R PyData} {ms : S → R (List Slot)} {n : Nat} (h : ∀ st as st', ms st = .ok as st' → as.length = n) : ∀ st as st', xCons mf ms st = .ok as st' → as.length = n + 1 := fun st as st' e => by
  unfold xCons at e
  cases q : mf st with
  | bad =>
    simp only [q] at e
    cases e
  | ok d st1 =>
    cases q2 : ms st1 with
    | bad =>
      simp only [q, q2] at e
      cases e
    | ok as st2 =>
      simp only [q, q2] at e
      cases e
      rw [List.length_cons, h _ _ _ q2]
theorem xn_src {i : Nat} {ms : S → R (List Slot)} {n : Nat} (h : ∀ st as st', ms st = .ok as st' → as.length = n) : ∀ st as st', xSrc i ms st = .ok as st' → as.length = n + 1 := fun st as st' e => by
  unfold xSrc at e
  split at e
  · cases q2 : ms st with
    | bad =>
      simp only [q2] at e
      cases e
    | ok as st2 =>
      simp only [q2] at e
      cases e
      rw [List.length_cons, h _ _ _ q2]
  · cases q2 : ms st with
    | bad =>
      simp only [q2] at e
      cases e
    | ok as st2 =>
      simp only [q2] at e
      cases e
      rw [List.length_cons, h _ _ _ q2]
  · cases e
end

/-! ### the law's own call -/
/-- the law's promise: it answers True -/
def spLaw (K : PySem.W.Frag) (n : Nat) : Sp := fun as H Q _ => ∃ (a : Addr) (ns : List Int), as = [.ref a] ∧ ns.length ≤ n ∧ Only H ∧ SqL K H a (ns.map V.int) ∧ ∀ H', Q (.bl true) H'
theorem spLaw_of {K : PySem.W.Frag} {n : Nat} {g : GFn} (h : ∀ ns : List Int, ns.length ≤ n → ∃ s, g [.scr ns] none = some (.v (.bool true), s)) : ∀ as H Q E, spLaw K n as H Q E → spG K 1 g as H Q E := fun as H Q E ⟨a, ns, e, hl, _, hq, k⟩ => by
  subst e
  obtain ⟨s, hs⟩ := h ns hl
  refine ⟨(0, 0), H, none, [.scr ns], _, s, rfl, Sub.refl H, .cons (.scr hq) .nil, fun s e => (nomatch e), hs, fun sa' F' H' v c => ?_⟩
  have rr : Rp F' v (.bool true) := c.rr
  cases rr
  exact k H'
theorem law_g {P : Program} {w : World} {K : PySem.W.Frag} {mg mb : Str → Option Value} {k : Nat} {fa a : Addr} {fd : FuncData} {x : Str} {sp : Sp} {s₁ : Shared} {cells : List Value} {ns : List Int}
    (inK : K.In s₁.heap) (hg : s₁.heap.Ns mainGlobals mg) (hb : s₁.heap.Ns builtinsNs mb) (hbb : ∀ y : Str, y ≠ "__name__" → mb y = bootBuiltins y) (nl : s₁.heap.NoLimit) (gens : s₁.gens = #[])
    (ha : s₁.heap.get? a = some { cls := .type "list", data := .seq cells.toArray }) (hi : IntsAre cells ns) (hl : ns.length ≤ sizeLine) (hr : Room k callerA)
    (F : ∀ bs : Heap, K.In bs → bs.Ns mainGlobals mg → FnG P w K mg bs k fa fd [x] sp) (hbd : ∀ (s : Shared) (u : Value), BindsTo s fd ⟨[u], []⟩ [(x, u)]) (hsp : ∀ H : Hp, Only H → SqL K H a (ns.map V.int) → sp [.ref a] H (fun v _ => v = .bl true) fun _ _ _ => False) :
    codeAny (model P w) callerA (.call (.ref fa) ⟨[.ref a], []⟩) (fun r s' => r = .ok (.ret (.bool true)) ∧ OldK s₁.heap s'.heap ∧ s'.os = s₁.os ∧ AllBare s'.gens) s₁ := by
  have rels := vals_ints hi
  have lens := hi.length
  have main : ∀ H : Hp, Only H → SqL K H a (ns.map V.int) → HOk P w H s₁.heap → (∀ b, H b ≠ none → b = a ∧ K.lookup a = none) →
      codeAny (model P w) callerA (.call (.ref fa) ⟨[.ref a], []⟩) (fun r s' => r = .ok (.ret (.bool true)) ∧ OldK s₁.heap s'.heap ∧ s'.os = s₁.os ∧ AllBare s'.gens) s₁ := fun H on sq ok one => by
    have seen : ∀ {b : Addr} {o : Obj}, s₁.heap.get? b = some o → H b = none → (hidT s₁.heap H).get? b = some o := fun e n => hidT_get e n
    have dictFree : ∀ {b : Addr} {o : Obj} {es : Array DictEntry} {ep : Nat}, s₁.heap.get? b = some o → o.data = .dict es ep → H b = none := fun {b o es ep} e d => by
      cases q : H b with
      | none => rfl
      | some u =>
        obtain ⟨e', _⟩ := one b (by rw [q]; exact fun z => nomatch z)
        rw [e', ha] at e
        cases e
        exact Data.noConfusion d
    have nsAt : ∀ {b : Addr} {m : Str → Option Value}, s₁.heap.Ns b m → (hidT s₁.heap H).Ns b m := fun {b m} ⟨o, es, ep, e, d, r⟩ => ⟨o, es, ep, seen e (dictFree e d), d, r⟩
    have inB : K.In (hidT s₁.heap H) := fun b o e => seen (inK b o e) (by
      cases q : H b with
      | none => rfl
      | some u =>
        obtain ⟨e1, e2⟩ := one b (by rw [q]; exact fun z => nomatch z)
        rw [e1, e2] at e
        cases e)
    have md : Mod K mg (hidT s₁.heap H) := ⟨inB, nsAt hg, ⟨mb, nsAt hb, hbb⟩, let ⟨mc, z1, z2⟩ := nl; ⟨mc, nsAt z1, z2⟩⟩
    have env : Env0 P w K mg (hidT s₁.heap H) callerA [] s₁ H := ⟨rfl, md, fun b o e => of_hidT e, Nat.le_of_eq (hidT_size _ _), trivial, fun b hb => (List.not_mem_nil (show b ∈ ([] : List Addr) from hb)).elim, ok, .of_eq gens⟩
    refine codeAny_mono ((F _ inB (nsAt hg)).go callerA [] s₁ H ⟨[.ref a], []⟩ [.ref a] [.ref a] _ _ rfl hr env (hbd s₁ (.ref a)) (.cons rfl .nil) (hsp H on sq)) fun r s' h => ?_
    cases r with
    | error e => exact h.elim
    | ok fl =>
      cases fl with
      | next => exact h.elim
      | brk => exact h.elim
      | cont => exact h.elim
      | ret u =>
        obtain ⟨v, H', os, bare, un, ok', rv, q⟩ := h
        cases (show v = .bl true from q)
        cases (show u = Value.bool true from rv)
        refine ⟨rfl, OldK.of_keep fun b o e => ?_, os, bare⟩
        rcases on b with z | ⟨ob, xs, z⟩
        · exact un.keep b o e z (fun m => by cases (show b ∈ ([] : List Addr) from m)) (by simp)
        · obtain ⟨e1, _⟩ := ok b _ z
          obtain ⟨e2, _⟩ := ok' b _ (un.frzs b ob _ z)
          rw [e] at e1
          cases e1
          exact e2
  cases hk : K.lookup a with
  | some o =>
    have e := inK a o hk
    rw [ha] at e
    cases e
    refine main (fun _ => none) (fun _ => .inl rfl) (.inr ⟨_, cells.toArray, _, hk, rfl, rfl, rfl, by rw [List.size_toArray, lens]; exact hl, by simpa using rels⟩) (fun b u z => by cases (show (none : Option HO) = some u from z)) fun b z => absurd rfl z
  | none =>
    refine main (fun b => if b = a then some (.frz { cls := .type "list", data := .seq cells.toArray } (.lst (ns.map V.int))) else none) (fun b => ?_) (.inl (.inr ⟨{ cls := .type "list", data := .seq cells.toArray }, if_pos rfl⟩)) (fun b u z => ?_) fun b z => ?_
    · by_cases q : b = a
      · exact .inr ⟨_, _, if_pos q⟩
      · exact .inl (if_neg q)
    · by_cases q : b = a
      · have z := (if_pos q).symm.trans z
        cases z
        rw [q]
        exact ⟨ha, by rw [List.length_map]; exact hl, cells, _, rels, ha⟩
      · cases (if_neg q).symm.trans z
    · by_cases q : b = a
      · exact ⟨q, hk⟩
      · exact absurd (if_neg q) z
theorem walk_g {l : PySem.W.OpenLaw} {n k : Nat} {q : Program} {loose : List Str} {XP : (Str → Option Value) → Heap → Prop} {YP : World → Heap → Prop} {d : DefRec} {x : Str} (hn : l.most = some n) (hn2 : n ≤ sizeLine) (hdf : d.params.defaults = []) (hr : Room k callerA)
    (F : ∀ (w : World) (mg : Str → Option Value) (fa : Addr) (h : Heap), YP w h → h.Ns mainGlobals mg → mg d.name = some (.ref fa) →
      ∃ (K : PySem.W.Frag) (fd : FuncData), K.In h ∧ (∀ (s : Shared) (u : Value), BindsTo s fd ⟨[u], []⟩ [(x, u)]) ∧ ∀ bs : Heap, K.In bs → bs.Ns mainGlobals mg → FnG l.prog w K mg bs k fa fd [x] (spLaw K n)) :
    PySem.W.WalkO q loose XP YP l.row.toRowW d [] (fun f vs => PySem.call f vs) := by
  refine Att.attach_call hn hdf fun w s₀ s₁ mg mb fa o pm cd doc a vs ns G Y ho hd hcd hmg hobj hints hlen hg => ?_
  obtain ⟨K, fd, inK, hb, hF⟩ := F w mg fa _ Y G.T.g hmg
  exact law_g inK G.T.g G.T.b G.T.builtins G.T.nolimit hg hobj hints (Nat.le_trans hlen hn2) hr hF hb fun H on sq => ⟨a, ns, rfl, hlen, on, sq, fun _ => rfl⟩
theorem FnG.imp {P : Program} {w : World} {K : PySem.W.Frag} {mg : Str → Option Value} {base : Heap} {k : Nat} {f : Addr} {fd : FuncData} {ps : List Str} {sp sp' : Sp} (F : FnG P w K mg base k f fd ps sp) (h : ∀ as H Q E, sp' as H Q E → sp as H Q E) : FnG P w K mg base k f fd ps sp' :=
  ⟨fun as H Q E q => F.many as H Q E (h _ _ _ _ q), fun A fr s H ar us as Q E hg hr e hb hv hs => F.go A fr s H ar us as Q E hg hr e hb hv (h _ _ _ _ hs)⟩
end Pd
end
section
set_option linter.all false
set_option maxRecDepth 100000
/-! Pd, part P: the law's source: how it is made, read, changed; the script walked; x[::-1]. -/
namespace Pd
open PySem PySem.Spec PyProof.Rows L2

def srcKvs (c : Addr) (s : Src) : List (Key × V) := [(.inr (Str.ofString "cells"), .ref c), (.inr (Str.ofString "left"), .int s.left), (.inr (Str.ofString "mixed"), .int s.mixed), (.inr (Str.ofString "turn"), .int s.turn)]
/-- a key's number -/
structure KeyI (key : Str) (p : Src → Int) (u : Int → Src → Src) : Prop where
  get : ∀ c s, valV (srcKvs c s) (.inr key) = some (.int (p s))
  put : ∀ c s n, putK (srcKvs c s) (.inr key) (.int n) = srcKvs c (u n s)
  cells : ∀ s n, (u n s).cells = s.cells
def uLeft (n : Int) (s : Src) : Src := { s with left := n }
def uMixed (n : Int) (s : Src) : Src := { s with mixed := n }
def uTurn (n : Int) (s : Src) : Src := { s with turn := n }
theorem key_left : KeyI (Str.ofString "left") Src.left uLeft := ⟨fun _ _ => rfl, fun _ _ _ => rfl, fun _ _ => rfl⟩
theorem key_mixed : KeyI (Str.ofString "mixed") Src.mixed uMixed := ⟨fun _ _ => rfl, fun _ _ _ => rfl, fun _ _ => rfl⟩
theorem key_turn : KeyI (Str.ofString "turn") Src.turn uTurn := ⟨fun _ _ => rfl, fun _ _ _ => rfl, fun _ _ => rfl⟩
theorem key_cells (c : Addr) (s : Src) : valV (srcKvs c s) (.inr (Str.ofString "cells")) = some (.ref c) := rfl
section
variable {K : PySem.W.Frag} {sa : Sa} {B F H H' : Hp} {σ : L2.St} {st : S} {s s' : Src}
theorem SR.srcTo (h : SR K sa B F H σ st) (e : st.src = some s) (off : ∀ a, a ≠ sa.1 → a ≠ sa.2 → H' a = H a) (r : SrcR H' sa s') : SR K sa B F H' σ { st with src := some s' } := by
  have yes : st.src.isSome = true := by
    rw [e]
    rfl
  obtain ⟨_, e2, e3, e4, e5⟩ := h.sr s e
  have kp : ∀ {G : Hp} {a : Addr} {o : HO}, G sa.1 = none → G sa.2 = none → G a = some o → H a = some o → H' a = some o := fun {G a o} g1 g2 g h => by
    rw [off a (fun z => by
      rw [z, g1] at g
      cases g) fun z => by
      rw [z, g2] at g
      cases g]
    exact h
  refine ⟨fun a o q => kp e2 e3 q (h.bh a o q), fun a o q => kp e4 e5 q (h.fh a o q), h.len, h.sl, fun i d q => ?_, h.ap, fun i q => ⟨rfl, (h.sx i q).2⟩, h.sc, fun x q => ?_, fun i q => ⟨rfl, (h.sy i q).2⟩⟩
  · obtain ⟨a, o, f1, f2, f3, f4, f5, f6⟩ := h.so i d q
    obtain ⟨n1, n2⟩ := f6 yes
    exact ⟨a, o, f1, by rw [off a n1 n2]; exact f2, f3, f4, f5, fun _ => ⟨n1, n2⟩⟩
  · cases q
    exact ⟨r, e2, e3, e4, e5⟩
end
def mGetS (p : Src → Int) (mo : S → R Slot) : S → R Slot := fun st => match mo st with
  | .ok .src st1 => match st1.src with
    | some s => .ok (.v (.int (p s))) st1
    | none => .bad
  | _ => .bad
def mCel (mo : S → R Slot) : S → R Slot := fun st => match mo st with
  | .ok .src st1 => match st1.src with
    | some s => .ok .cel st1
    | none => .bad
  | _ => .bad
def mCelLen (mo : S → R Slot) : S → R Slot := fun st => match mo st with
  | .ok .cel st1 => match st1.src with
    | some s => .ok (.v (.int s.cells.length)) st1
    | none => .bad
  | _ => .bad
def mCelPop (mo : S → R Slot) : S → R Slot := fun st => match mo st with
  | .ok .cel st1 => match st1.src with
    | some s => match s.cells[s.cells.length - 1]? with
      | some n => .ok (.v (.int n)) { st1 with src := some { s with cells := s.cells.dropLast } }
      | none => .bad
    | none => .bad
  | _ => .bad
def sPutS (u : Int → Src → Src) (mo : S → R Slot) (mv : S → R PyData) : S → RS := fun st => match mv st with
  | .ok (.int n) st1 => match mo st1 with
    | .ok .src st2 => match st2.src with
      | some s => .nx { st2 with src := some (u n s) }
      | none => .bad
    | _ => .bad
  | _ => .bad
def intsOf : List PyData → Option (List Int)
  | [] => some []
  | .int i :: r => match intsOf r with
    | some l => some (i :: l)
    | none => none
  | _ => none
theorem intsOf_rp {F : Hp} : ∀ {vs : List V} {ds : List PyData} {ns : List Int}, RpL F vs ds → intsOf ds = some ns → vs = ns.map V.int
  | _, _, _, .nil, e => by
    cases e
    rfl
  | _, _, _, .cons (d := d) (ds := ds) r t, e => by
    cases d with
    | int i =>
      unfold intsOf at e
      cases q : intsOf ds with
      | none =>
        rw [q] at e
        cases e
      | some l =>
        rw [q] at e
        cases e
        cases r
        rw [intsOf_rp t q]
        rfl
    | _ => cases e
theorem intsOf_map (ns : List Int) : intsOf (ns.map PyData.int) = some ns := by
  induction ns with
  | nil => rfl
  | cons i l ih =>
    rw [List.map_cons]
    unfold intsOf
    rw [ih]
/-- {'cells': .., 'left': .., 'mixed': .., 'turn': ..} -/
def mNewS (mc : S → R Slot) (ml mm mt : S → R PyData) : S → R Slot := fun st => match mc st with
  | .ok (.o (.list ds)) st1 => match intsOf ds with
    | some ns => match ml st1 with
      | .ok (.int l) st2 => match mm st2 with
        | .ok (.int m) st3 => match mt st3 with
          | .ok (.int t) st4 => match st4.src with
            | none => .ok .src { st4 with src := some ⟨ns, l, m, t⟩ }
            | some _ => .bad
          | _ => .bad
        | _ => .bad
      | _ => .bad
    | none => .bad
  | _ => .bad
section
variable {X : Cx} {o e : Expr} {mo mc : S → R Slot} {mv ml mm mt : S → R PyData} {key : Str} {p : Src → Int} {u : Int → Src → Src} {j : Nat} {ps pos pos' apos : Pos}
theorem k_get (hu : X.A.units + 1 < cLine) (hk : KeyI key p u) (ho : PE X o (tM X.K mo)) (hs : NoSl (.Constant (.str key) j ps) := by intro _ _; rfl) : PE X (.Subscript o (.Constant (.str key) j ps) pos) (tM X.K (mGetS p mo)) :=
  imE (pe_dget hu ho pe_str hs) fun σ H Q ⟨sa, B, F, st, r', st', h0, h1, k⟩ => by
    unfold mGetS at h1
    split at h1
    · rename_i st1 q
      cases q2 : st1.src with
      | none =>
        simp only [q2] at h1
        cases h1
      | some s =>
        simp only [q2] at h1
        cases h1
        refine ⟨sa, B, F, st, _, _, h0, q, fun sa1 F1 H1 v R1 rr => ?_⟩
        obtain ⟨_, rfl⟩ := rr
        have sr := (R1.r.sr s q2).1
        have g : DGet H1 sa1.1 (kV (.inr key)) (valV (srcKvs sa1.2 s) (.inr key)) := DGet.k sr.1
        rw [hk.get sa1.2 s] at g
        exact ⟨sa1.1, _, rfl, g, k sa1 F1 H1 _ R1 (.int (p s))⟩
    · cases h1
theorem k_cel (hu : X.A.units + 1 < cLine) (ho : PE X o (tM X.K mo)) (hs : NoSl (.Constant (.str (Str.ofString "cells")) j ps) := by intro _ _; rfl) : PE X (.Subscript o (.Constant (.str (Str.ofString "cells")) j ps) pos) (tM X.K (mCel mo)) :=
  imE (pe_dget hu ho pe_str hs) fun σ H Q ⟨sa, B, F, st, r', st', h0, h1, k⟩ => by
    unfold mCel at h1
    split at h1
    · rename_i st1 q
      cases q2 : st1.src with
      | none =>
        simp only [q2] at h1
        cases h1
      | some s =>
        simp only [q2] at h1
        cases h1
        refine ⟨sa, B, F, st, _, _, h0, q, fun sa1 F1 H1 v R1 rr => ?_⟩
        obtain ⟨yes, rfl⟩ := rr
        have sr := (R1.r.sr s q2).1
        have g : DGet H1 sa1.1 (kV (.inr (Str.ofString "cells"))) (valV (srcKvs sa1.2 s) (.inr (Str.ofString "cells"))) := DGet.k sr.1
        rw [key_cells sa1.2 s] at g
        exact ⟨sa1.1, _, rfl, g, k sa1 F1 H1 _ R1 ⟨yes, rfl⟩⟩
    · cases h1
theorem k_len (hg : Gl X "len") (hm : X.mg "len" = none) (ho : PE X e (tM X.K mc)) (hs : starEach (e :: []) X.env = (false, eval e X.env) :: starEach [] X.env := by rfl) (hpl : (backTo pos (starEach [] X.env)).any (·.1) = false := by rfl) (hdb : ((Str.ofString "len") == ("__debug__" : Str)) = false := by decide) :
    PE X (.Call (.Name "len" ps) [e] [] pos) (tM X.K (mCelLen mc)) := imE (pe_callB call_len hg hm boot_len (pa_cons ho pa_nil hs) (he := hs) (hpl := hpl)) fun σ H Q ⟨sa, B, F, st, r', st', h0, h1, k⟩ => by
  unfold mCelLen at h1
  split at h1
  · rename_i st1 q
    cases q2 : st1.src with
    | none =>
      simp only [q2] at h1
      cases h1
    | some s =>
      simp only [q2] at h1
      cases h1
      refine ⟨sa, B, F, st, _, _, h0, q, fun sa1 F1 H1 v R1 rr => ?_⟩
      obtain ⟨yes, rfl⟩ := rr
      have sr := (R1.r.sr s q2).1
      exact ⟨_, s.cells.length, rfl, .inl ⟨_, .inl (.inl sr.2), by rw [List.length_map]⟩, k sa1 F1 H1 _ R1 (.int _)⟩
  · cases h1
theorem k_pop (ho : PE X o (tM X.K mc)) (hbase : attributeBase o "pop" X.env (eval o X.env) = eval o X.env := by rfl) (hline : (apos.endLine == pos.line) = true := by rfl) :
    PE X (.Call (.Attribute o "pop" apos) [] [] pos) (tM X.K (mCelPop mc)) := imE (pe_bm0 PySem.F.plainAttrs_list PySem.F.slot_list_pop PySem.F.type_list_pop mt_pop ho hbase hline) fun σ H Q ⟨sa, B, F, st, r', st', h0, h1, k⟩ => by
  unfold mCelPop at h1
  split at h1
  · rename_i st1 q
    cases q2 : st1.src with
    | none =>
      simp only [q2] at h1
      cases h1
    | some s =>
      simp only [q2] at h1
      cases q3 : s.cells[s.cells.length - 1]? with
      | none =>
        simp only [q3] at h1
        cases h1
      | some n =>
        simp only [q3] at h1
        cases h1
        refine ⟨sa, B, F, st, _, _, h0, q, fun sa1 F1 H1 v R1 rr => ?_⟩
        obtain ⟨yes, rfl⟩ := rr
        have sr := (R1.r.sr s q2).1
        refine ⟨.inl ⟨rfl, _, .inl (.inl sr.2)⟩, sa1.2, _, .int n, rfl, rfl, sr.2, ?_, ?_⟩
        · rw [List.length_map, List.getElem?_map, q3]
          rfl
        · have S2 := R1.r.srcTo q2 (H' := upd H1 sa1.2 (.lst (s.cells.map V.int).dropLast)) (s' := { s with cells := s.cells.dropLast }) (fun a _ n => upd_ne n) ⟨by rw [upd_ne sr.ne]; exact sr.1, by rw [upd_same, List.map_dropLast]⟩
          exact k sa1 F1 _ _ ⟨S2, R1.x, R1.k, fun z => rfl⟩ (.int n)
  · cases h1
theorem s_put (hu : X.A.units + 1 < cLine) (hk : KeyI key p u) (ho : PE X o (tM X.K mo)) (hv : PE X e (tF X.K mv)) (hs : swapsWith e (some (.Subscript o (.Constant (.str key) j ps) pos')) pos.line X.env = pure false := by rfl) :
    PS X (.Assign [.Subscript o (.Constant (.str key) j ps) pos'] e pos) (tMS X.K (sPutS u mo mv)) := imS (ps_dput hu ho pe_str hv hs) fun D σ H ⟨sa, B, F, st, h0, h1⟩ => by
  unfold sPutS at h1
  split at h1
  · rename_i n st1 q
    split at h1
    · rename_i st2 q1
      cases q2 : st2.src with
      | none =>
        simp only [q2] at h1
        exact h1.elim
      | some s =>
        simp only [q2] at h1
        refine ⟨sa, B, F, st, _, _, h0, q, fun sa1 F1 H1 v R1 r1 => ⟨sa1, B, F1, st1, _, _, R1.r, q1, fun sa2 F2 H2 w R2 rr => ?_⟩⟩
        obtain ⟨yes, rfl⟩ := rr
        cases r1
        have sr := (R2.r.sr s q2).1
        have g := DPut.k (k := .inr key) (v := .int n) sr.1 (by show 4 < sizeLine; rw [show sizeLine = 16777216 from rfl]; omega)
        have g : DPut H2 sa2.1 (kV (.inr key)) (.int n) (upd H2 sa2.1 (.dK (putK (srcKvs sa2.2 s) (.inr key) (.int n)))) := g
        rw [hk.put sa2.2 s n] at g
        refine ⟨sa2.1, _, rfl, g, ?_⟩
        have S2 := R2.r.srcTo q2 (H' := upd H2 sa2.1 (.dK (srcKvs sa2.2 (u n s)))) (s' := u n s) (fun a n _ => upd_ne n) ⟨upd_same, by rw [upd_ne (Ne.symm sr.ne), sr.2, hk.cells]⟩
        exact h1 sa2 F2 _ σ ⟨S2, (R1.trans R2).x, (R1.trans R2).k, fun z => rfl⟩
    · exact h1.elim
  · exact h1.elim
end

/-! ### x[::-1] -/
def gRev : PyData → Option Slot
  | .list ds => some (.o (.list ds.reverse))
  | _ => none
section
variable {X : Cx} {e : Expr} {m : S → R Opd} {k : Nat} {p1 p2 p3 pos : Pos}
theorem d_rev (he : PE X e (tP X.K m)) : PE X (.Subscript e (.Slice none none (some (.UnaryOp .USub (.Constant (.int 1) k p1) p2)) p3) pos) (tM X.K (m1 gRev m)) := imE (pe_revL he) fun σ H Q ⟨sa, B, F, st, r', st', h0, h1, kk⟩ => by
  unfold m1 at h1
  cases q : m st with
  | bad =>
    simp only [q] at h1
    cases h1
  | ok x st1 =>
    simp only [q] at h1
    unfold gRev at h1
    split at h1
    · rename_i sl q2
      split at q2
      · rename_i ds q3
        cases q2
        cases h1
        refine ⟨sa, B, F, st, x, _, h0, q, fun sa1 F1 H1 v R1 p1 => ?_⟩
        have rd := p1.rd R1.r
        rw [q3] at rd
        obtain ⟨a, xs, rfl, e1, r1⟩ := rd.lst R1.r.fh
        refine ⟨a, xs, rfl, .inl (.inl e1), fun D hD => ?_⟩
        obtain ⟨n1, n2⟩ := R1.r.news hD
        exact kk sa1 F1 _ _ ⟨R1.r.alloc hD, R1.x, R1.k, R1.s⟩ ⟨D, _, rfl, upd_same, .lst r1.reverse, R1.r.bh.none_of hD, R1.r.fh.none_of hD, n1, n2⟩
      · cases q2
    · cases h1
end

/-! ### the script walked -/
def jScr (i : Nat) : S → R (List PyData) := fun st => match st.ss[i]? with
  | some (.scr ns) => .ok (ns.map PyData.int) st
  | _ => .bad
section
variable {X : Cx} {tg e : Expr} {i : Nat}
theorem rp_ints {F : Hp} : ∀ ns : List Int, RpL F (ns.map V.int) (ns.map PyData.int)
  | [] => .nil
  | n :: ns => .cons (.int n) (rp_ints ns)
theorem sqL_one {K : PySem.W.Frag} {F : Hp} {a : Addr} {xs : List V} (h : SqL K F a xs) {J : It} (e : J = Itl K a) {i : Nat} {x : V} {H' H : Hp} (s : Sub F H) (y : (Itl K a).yld i H x H') : H' = H ∧ xs[i]? = some x := by
  obtain ⟨rfl, y2⟩ := y
  exact ⟨rfl, y2 xs (sqL_mono s h)⟩
theorem i_scr (h : PE X e (tVar i)) : PI X tg e (tL X.K (jScr i)) := imI (pi_any h) fun σ H R ⟨sa, B, F, st, ds, st', h0, h1, k⟩ => by
  unfold jScr at h1
  split at h1
  · rename_i ns q
    cases h1
    obtain ⟨a, e1, e2⟩ := h0.sc i ns q
    refine ⟨_, e1, a, rfl, .inl ⟨⟨_, sqL_mono h0.fh e2⟩, k sa F H _ (.refl h0) ⟨fun j sa B F' H σ st S1 s1 _ hj => ?_, fun sa B F' H σ st S1 s1 _ => ?_, fun j sa B F' H σ st x H' d S1 s1 _ hd y => ?_⟩⟩⟩
    · rw [List.length_map] at hj
      exact ⟨_, _, sqL_mono (s1.trans S1.fh) e2, List.getElem?_eq_getElem (by rw [List.length_map]; exact hj)⟩
    · exact ⟨_, sqL_mono (s1.trans S1.fh) e2, by rw [List.length_map, List.length_map]; exact Nat.le_refl _⟩
    · obtain ⟨rfl, h3⟩ := sqL_one e2 rfl (s1.trans S1.fh) y
      obtain ⟨v, f1, f2⟩ := (rp_ints (F := F') ns).get hd
      rw [h3] at f1
      cases f1
      exact ⟨F', S1, FX.refl, f2⟩
  · cases h1
end
end Pd
end
section
set_option linter.all false
set_option maxRecDepth 100000
/-! Pd, part Q: the law's source is made. -/
namespace Pd
open PySem PySem.Spec PyProof.Rows L2
section
variable {X : Cx} {ec el em et : Expr} {mc : S → R Slot} {ml mm mt : S → R PyData} {j1 j2 j3 j4 : Nat} {p1 p2 p3 p4 pos : Pos}
theorem k_new (hc : PE X ec (tM X.K mc)) (hl : PE X el (tF X.K ml)) (hm : PE X em (tF X.K mm)) (ht : PE X et (tF X.K mt)) :
    PE X (.Dict [some (.Constant (.str (Str.ofString "cells")) j1 p1), some (.Constant (.str (Str.ofString "left")) j2 p2), some (.Constant (.str (Str.ofString "mixed")) j3 p3), some (.Constant (.str (Str.ofString "turn")) j4 p4)] [ec, el, em, et] pos) (tM X.K (mNewS mc ml mm mt)) :=
  imE (pe_disp (pps_cons pe_str hc (pps_cons pe_str hl (pps_cons pe_str hm (pps_cons pe_str ht pps_nil)))) rfl rfl (fun z => nomatch z) (by simp)) fun σ H Q ⟨sa, B, F, st, r', st', h0, h1, k⟩ D hD => by
    unfold mNewS at h1
    split at h1
    · rename_i ds st1 q1
      cases qi : intsOf ds with
      | none =>
        simp only [qi] at h1
        cases h1
      | some ns =>
        simp only [qi] at h1
        split at h1
        · rename_i l st2 q2
          split at h1
          · rename_i m st3 q3
            split at h1
            · rename_i t st4 q4
              cases q5 : st4.src with
              | some _ =>
                simp only [q5] at h1
                cases h1
              | none =>
                simp only [q5] at h1
                cases h1
                obtain ⟨n1, n2⟩ := h0.news hD
                have hB := h0.bh.none_of hD
                have S0 : SR X.K sa (upd B D (.dK [])) F (upd H D (.dK [])) σ st := (h0.alloc hD).prot upd_same hB n1 n2
                refine ⟨sa, _, F, st, _, st1, S0, q1, fun sa1 F1 H1 v R1 rr => ?_⟩
                obtain ⟨a, o, rfl, e2, e3, e4, e5, e6, e7⟩ := rr
                have ne : a ≠ D := fun z => by
                  rw [z, upd_same] at e4
                  cases e4
                have S1 : SR X.K sa1 (upd (upd B D (.dK [])) a o) F1 H1 σ st1 := R1.r.prot e2 e4 e6 e7
                refine ⟨sa1, _, F1, st1, _, st2, S1, q2, fun sa2 F2 H2 v2 R2 r2 => ⟨sa2, _, F2, st2, _, st3, R2.r, q3, fun sa3 F3 H3 v3 R3 r3 => ⟨sa3, _, F3, st3, _, st4, R3.r, q4, fun sa4 F4 H4 v4 R4 r4 => ?_⟩⟩⟩
                cases r2
                cases r3
                cases r4
                have R := (R2.trans R3).trans R4
                have atD : (upd (upd B D (.dK [])) a o) D = some (.dK []) := by
                  rw [upd_ne (Ne.symm ne), upd_same]
                have sub0 : Sub B (upd B D (.dK [])) := Sub.new hB
                have sub : Sub B (upd (upd B D (.dK [])) a o) := sub0.trans (Sub.new e4)
                have FD : F4 D = none := R.x.out D (R1.x.out D (h0.fh.none_of hD) (by
                  rw [upd_same]
                  exact fun z => nomatch z)) (by
                  rw [atD]
                  exact fun z => nomatch z)
                have Fa : F4 a = none := R.x.out a e5 (by
                  rw [upd_same]
                  exact fun z => nomatch z)
                have HD : H4 D = some (.dK []) := R.r.bh _ _ atD
                have Ha : H4 a = some o := R.r.bh _ _ upd_same
                have no : st.src.isSome = true → False := fun z => by
                  have w := R.s (R1.s z)
                  rw [q5] at w
                  cases w
                cases e3 with
                | lst rl =>
                  rw [intsOf_rp rl qi] at Ha
                  have fin : SR X.K (D, a) B F4 (upd H4 D (.dK (srcKvs a ⟨ns, l, m, t⟩))) σ { st4 with src := some ⟨ns, l, m, t⟩ } := by
                    refine ⟨(sub.trans R.r.bh).off hB, R.r.fh.off FD, R.r.len, R.r.sl, fun i d e => ?_, R.r.ap, fun i e => ?_, R.r.sc, fun s e => ?_, fun i e => ?_⟩
                    · obtain ⟨b, u, f1, f2, f3, f4, f5, f6⟩ := R.r.so i d e
                      have nD : b ≠ D := fun z => by
                        rw [z, atD] at f4
                        cases f4
                      have na : b ≠ a := fun z => by
                        rw [z, upd_same] at f4
                        cases f4
                      exact ⟨b, u, f1, by rw [upd_ne nD]; exact f2, f3, sub.none_of f4, f5, fun _ => ⟨nD, na⟩⟩
                    · have w := (R.r.sx i e).1
                      rw [q5] at w
                      cases w
                    · cases e
                      exact ⟨⟨upd_same, by rw [upd_ne ne]; exact Ha⟩, hB, sub0.none_of e4, FD, Fa⟩
                    · have w := (R.r.sy i e).1
                      rw [q5] at w
                      cases w
                  refine ⟨HD, [(.inr (Str.ofString "cells"), .ref a), (.inr (Str.ofString "left"), .int l), (.inr (Str.ofString "mixed"), .int m), (.inr (Str.ofString "turn"), .int t)], rfl, by simp, ?_⟩
                  exact k (D, a) F4 _ _ ⟨fin, (R1.x.weak sub0).trans (R.x.weak sub), fun z => (no z).elim, fun _ => rfl⟩ ⟨rfl, rfl⟩
            · cases h1
          · cases h1
        · cases h1
    · cases h1
end
end Pd
end
section
set_option linter.all false
set_option maxRecDepth 100000
/-! Pd, part R: three names at once; numbers counted up; truth of values. -/
namespace Pd
open PySem PySem.Spec PyProof.Rows L2
abbrev gLt : PyData → PyData → Option Slot := gOrd (fun i j => decide (i < j)) PySem.W.dataLt
abbrev gGt : PyData → PyData → Option Slot := gOrd (fun i j => decide (j < i)) fun a b => PySem.W.dataLt b a
abbrev gLe : PyData → PyData → Option Slot := gOrd (fun i j => decide (i ≤ j)) fun a b => !PySem.W.dataLt b a
abbrev gGe : PyData → PyData → Option Slot := gOrd (fun i j => decide (j ≤ i)) fun a b => !PySem.W.dataLt a b
abbrev gIsInt : PyData → Option Slot := fun d => some (.v (.bool d.isInt))
abbrev gIsBool : PyData → Option Slot := fun d => some (.v (.bool d.isBool))
abbrev gIsTuple : PyData → Option Slot := fun d => some (.v (.bool d.isTuple))
abbrev gIsList : PyData → Option Slot := fun d => some (.v (.bool d.isList))
abbrev gIsDict : PyData → Option Slot := fun d => some (.v (.bool d.isDict))
abbrev gIsStr : PyData → Option Slot := fun d => some (.v (.bool d.isStr))
section
variable {K : PySem.W.Frag} {X : Cx} {st : Stmt} {m m' m'' : S → R Slot}
theorem RRep.less {sa : Sa} {B C F H : Hp} {σ : L2.St} {st : S} {v : V} {r : Slot} (s : Sub B C) (h : RRep sa C F H σ st v r) : RRep sa B F H σ st v r := by
  cases r with
  | v d => exact h
  | src => exact h
  | cel => exact h
  | no => exact h.elim
  | scr _ => exact h.elim
  | o d =>
    obtain ⟨a, o, e, t1, t2, t3, t4⟩ := h
    exact ⟨a, o, e, t1, t2, s.none_of t3, t4⟩
theorem s_par3 {i j l : Nat} (h : PS X st (tPar3 i j l (tCons (tM K m) (tCons (tM K m') (tCons (tM K m'') tNil))))) : PS X st (tMS K (sPar3 i j l m m' m'')) := imS h fun D σ H ⟨sa, B, F, st, h0, h1⟩ => by
  unfold sPar3 at h1
  cases q : m st with
  | bad =>
    simp only [q] at h1
    exact h1.elim
  | ok r st1 =>
    cases q2 : m' st1 with
    | bad =>
      simp only [q, q2] at h1
      exact h1.elim
    | ok r' st2 =>
      cases q3 : m'' st2 with
      | bad =>
        simp only [q, q2, q3] at h1
        exact h1.elim
      | ok r'' st3 =>
        simp only [q, q2, q3] at h1
        refine ⟨sa, B, F, st, r, st1, h0, q, fun sa1 F1 H1 v R1 rr1 => ?_⟩
        obtain ⟨B1, sb1, S1, kp1⟩ := rr1.wait R1.r
        refine ⟨sa1, B1, F1, st1, r', st2, S1, q2, fun sa2 F2 H2 w R2 rr2 => ?_⟩
        obtain ⟨B2, sb2, S2, kp2⟩ := rr2.wait R2.r
        refine ⟨sa2, B2, F2, st2, r'', st3, S2, q3, fun sa3 F3 H3 x R3 rr3 => ⟨v, w, x, rfl, ?_⟩⟩
        have R3' : Rch K B1 σ sa2 F2 st2 sa3 F3 H3 st3 := ⟨R3.r.less sb2, R3.x.weak sb2, R3.k, R3.s⟩
        obtain ⟨a1, a2⟩ := kp1 sa3 F3 H3 st3 (R2.trans R3')
        obtain ⟨b1, b2⟩ := kp2 sa3 F3 H3 st3 R3
        have R : Rch K B σ sa F st sa3 F3 H3 st3 := by
          have R23 := R2.trans R3'
          exact R1.trans ⟨R23.r.less sb1, R23.x.weak sb1, R23.k, R23.s⟩
        have n1 : ∀ d d', r' = .o d → r = .o d' → w ≠ v := fun d d' e1 e2 z => by
          subst e1
          obtain ⟨a, ea, ha⟩ := a2 d' e2
          obtain ⟨c, o, e, t1, t2, t3, t4⟩ := rr2
          rw [e, ea] at z
          cases z
          exact ha t3
        have n2 : ∀ d d', r'' = .o d → r = .o d' → x ≠ v := fun d d' e1 e2 z => by
          subst e1
          obtain ⟨a, ea, ha⟩ := a2 d' e2
          obtain ⟨c, o, e, t1, t2, t3, t4⟩ := rr3
          rw [e, ea] at z
          cases z
          exact ha (sb2.none_of t3)
        have n3 : ∀ d d', r'' = .o d → r' = .o d' → x ≠ w := fun d d' e1 e2 z => by
          subst e1
          obtain ⟨a, ea, ha⟩ := b2 d' e2
          obtain ⟨c, o, e, t1, t2, t3, t4⟩ := rr3
          rw [e, ea] at z
          cases z
          exact ha t3
        have b1' := b1.less sb1
        have rr3' := (rr3.less sb2).less sb1
        have Sa := R.r.put (i := i) a1
        have Sb := Sa.put (i := j) (b1'.beside (i := i) n1)
        have Sc := Sb.put (i := l) ((rr3'.beside (i := i) n2).beside (i := j) n3)
        exact h1 sa3 F3 H3 _ ⟨Sc, R.x, R.k, R.s⟩
end
end Pd
end
section
set_option linter.all false
set_option maxRecDepth 100000
/-! Pd, part S: state functions at data with a Lean type. -/
namespace Pd
open PySem PySem.Spec PyProof.Rows L2

abbrev toD {α : Type} [DecidableEq α] [PySem.W.Datum α] (a : α) : PyData := PySem.W.Datum.toD a
abbrev dep (α : Type) [DecidableEq α] [PySem.W.Datum α] : Nat := PySem.W.Datum.depth α
section
variable {α : Type} [DecidableEq α] [PySem.W.Datum α]
theorem shp_toD (h : dep α ≤ 60) (a : α) : shp (toD a) = true := by
  unfold shp
  rw [PySem.W.Datum.plain a, Bool.true_and]
  exact decide_eq_true (Nat.le_trans (PySem.W.Datum.depth_le a) h)
theorem gEq_toD (h : dep α ≤ 60) (a b : α) : gEq (toD a) (toD b) = some (.v (.bool (decide (a = b)))) := by
  unfold gEq
  rw [shp_toD h, shp_toD h, PySem.W.Datum.eqv]
  rfl
theorem gNe_toD (h : dep α ≤ 60) (a b : α) : gNe (toD a) (toD b) = some (.v (.bool (!decide (a = b)))) := by
  unfold gNe
  rw [shp_toD h, shp_toD h, PySem.W.Datum.eqv]
  rfl
theorem gIn_list (h : dep α ≤ 60) (neg : Bool) (a : α) (xs : List α) : gIn neg (toD a) (.list (xs.map toD)) = some (.v (.bool (neg.xor (decide (a ∈ xs))))) := by
  show (if (shp (toD a) && PyData.plainAll (xs.map toD)) = true then some (Slot.v (.bool (neg ^^ (xs.map toD).any fun z => PyData.eqv z (toD a)))) else none) = _
  rw [shp_toD h, PySem.W.plainAll_map, PySem.W.any_datum]
  rfl
theorem gIn_tup (h : dep α ≤ 60) (neg : Bool) (a : α) (xs : List α) : gIn neg (toD a) (.tuple (xs.map toD)) = some (.v (.bool (neg.xor (decide (a ∈ xs))))) := by
  show (if (shp (toD a) && PyData.plainAll (xs.map toD)) = true then some (Slot.v (.bool (neg ^^ (xs.map toD).any fun z => PyData.eqv z (toD a)))) else none) = _
  rw [shp_toD h, PySem.W.plainAll_map, PySem.W.any_datum]
  rfl
end
theorem gIn_int_tup (neg : Bool) (a : Int) (xs : List Int) : gIn neg (.int a) (.tuple (xs.map PyData.int)) = some (.v (.bool (neg.xor (decide (a ∈ xs))))) := gIn_tup (α := Int) (by decide) neg a xs
theorem gIn_int_list (neg : Bool) (a : Int) (xs : List Int) : gIn neg (.int a) (.list (xs.map PyData.int)) = some (.v (.bool (neg.xor (decide (a ∈ xs))))) := gIn_list (α := Int) (by decide) neg a xs
theorem gEq_int (a b : Int) : gEq (.int a) (.int b) = some (.v (.bool (decide (a = b)))) := gEq_toD (α := Int) (by decide) a b
theorem gNe_int (a b : Int) : gNe (.int a) (.int b) = some (.v (.bool (!decide (a = b)))) := gNe_toD (α := Int) (by decide) a b
theorem gEq_bool (a b : Bool) : gEq (.bool a) (.bool b) = some (.v (.bool (a == b))) := by
  rw [show gEq (.bool a) (.bool b) = some (.v (.bool (decide (a = b)))) from gEq_toD (α := Bool) (by decide) a b]
  cases a <;> cases b <;> rfl
theorem gNe_bool (a b : Bool) : gNe (.bool a) (.bool b) = some (.v (.bool (a != b))) := by
  rw [show gNe (.bool a) (.bool b) = some (.v (.bool (!decide (a = b)))) from gNe_toD (α := Bool) (by decide) a b]
  cases a <;> cases b <;> rfl
theorem gNe_str (a b : Str) : gNe (.str a) (.str b) = some (.v (.bool (!decide (a = b)))) := gNe_toD (α := Str) (by decide) a b
theorem gEq_str (a b : Str) : gEq (.str a) (.str b) = some (.v (.bool (decide (a = b)))) := gEq_toD (α := Str) (by decide) a b
/-! ### comprehensions at typed items -/
theorem lcGo_map {α : Type} {vs : List Nat} {g : PyData → S → Option S} {t : S → R Bool} {e : S → R PyData} (w : S) (φ : α → PyData) (p : α → Bool) (f : α → PyData) : ∀ (xs : List α) (acc : List PyData)
    (h : ∀ x ∈ xs, ∃ s1 s2, g (φ x) w = some s1 ∧ t s1 = .ok (p x) s2 ∧ (p x = false → s2.wipe vs = w) ∧ (p x = true → ∃ s3, e s2 = .ok (f x) s3 ∧ s3.wipe vs = w)),
    lcGo vs g t e (xs.map φ) acc w = .ok (acc ++ (xs.filter p).map f) w
  | [], acc, _ => by
    simp [lcGo]
  | x :: xs, acc, h => by
    obtain ⟨s1, s2, h1, h2, h3, h4⟩ := h x List.mem_cons_self
    have ih := fun acc => lcGo_map w φ p f xs acc fun y hy => h y (List.mem_cons_of_mem _ hy)
    rw [List.map_cons]
    unfold lcGo
    rw [h1]
    simp only [h2]
    cases q : p x with
    | false =>
      simp only
      rw [h3 q, ih, List.filter_cons_of_neg (by rw [q]; exact Bool.false_ne_true)]
    | true =>
      obtain ⟨s3, h5, h6⟩ := h4 q
      simp only [h5]
      rw [h6, ih, List.filter_cons_of_pos q, List.map_cons, List.append_assoc]
      rfl
theorem okLen_of {n : Nat} (h : n ≤ 16777216) : okLen n = true := decide_eq_true h
theorem mLc_map {α : Type} {mi : S → R (List PyData)} {vs : List Nat} {g : PyData → S → Option S} {t : S → R Bool} {e : S → R PyData} {st st1 : S} (xs : List α) (φ : α → PyData) (p : α → Bool) (f : α → PyData) (hi : mi st = .ok (xs.map φ) st1) (hl : xs.length ≤ 16777216)
    (h : ∀ x ∈ xs, ∃ s1 s2, g (φ x) (st1.wipe vs) = some s1 ∧ t s1 = .ok (p x) s2 ∧ (p x = false → s2.wipe vs = st1.wipe vs) ∧ (p x = true → ∃ s3, e s2 = .ok (f x) s3 ∧ s3.wipe vs = st1.wipe vs)) :
    mLc mi vs g t e st = .ok (.o (.list ((xs.filter p).map f))) ((st1.wipe vs).rest st1 vs) := by
  unfold mLc
  rw [hi]
  simp only [List.length_map, okLen_of hl, if_true]
  rw [lcGo_map (st1.wipe vs) φ p f xs [] h]
  rfl
/-- the items of enumerate -/
theorem enumD_map {α : Type} (φ : α → PyData) (xs : List α) : enumD (xs.map φ) = xs.zipIdx.map fun q => .tuple [.int (q.2 : Nat), φ q.1] := by
  unfold enumD
  rw [List.zipIdx_map, List.map_map]
  rfl
end Pd
end
section
set_option linter.all false
set_option maxRecDepth 100000
/-! Pd, part T: what state functions come to, applied. -/
namespace Pd
open PySem PySem.Spec PyProof.Rows L2
section
variable {st st' st1 : S} {m m' m'' : S → R Slot} {mf : S → R PyData} {mp mp' : S → R Opd} {c c' : S → R Bool} {s1 s2 : S → RS} {ss : List Slot} {src : Option Src}
theorem v_C (d : PyData) : mC d st = .ok (.v d) st := rfl
theorem v_Var (i : Nat) : mVar i st = (match st.ss[i]? with
  | some (.v d) => .ok (.v d) st
  | some (.o d) => .ok (.v d) { st with ss := st.ss.set i (.v d) }
  | some .src => .ok .src st
  | some .cel => .ok .cel st
  | _ => .bad) := rfl
theorem v_Mv (i : Nat) : mMv i st = (match st.ss[i]? with
  | some (.v d) => .ok (.v d) st
  | some (.o d) => .ok (.o d) { st with ss := st.ss.set i .no }
  | some .src => .ok .src st
  | some .cel => .ok .cel st
  | _ => .bad) := rfl
theorem v_Pk (i : Nat) : mPk i st = (match st.ss[i]? with
  | some (.v d) => .ok (.v d) st
  | some (.o d) => .ok (.s i d) st
  | _ => .bad) := rfl
theorem v_O : mO m st = (match m st with
  | .ok (.v d) st' => .ok (.v d) st'
  | .ok (.o d) st' => .ok (.t d) st'
  | _ => .bad) := rfl
theorem v_F : mF m st = (match m st with
  | .ok (.v d) st' => .ok d st'
  | .ok (.o d) st' => .ok d st'
  | _ => .bad) := rfl
theorem v_B : mB m st = (match m st with
  | .ok (.v (.bool b)) st' => .ok b st'
  | _ => .bad) := rfl
theorem v_m1 (g : PyData → Option Slot) : m1 g mp st = (match mp st with
  | .ok x st1 => match g x.d with
    | some r => .ok r st1
    | none => .bad
  | .bad => .bad) := rfl
open Classical in
theorem v_m2 (g : PyData → PyData → Option Slot) : m2 g mp mp' st = (match mp st with
  | .ok x st1 => match mp' st1 with
    | .ok y st2 => if still x st2 then (match g x.d y.d with
      | some r => .ok r st2
      | none => .bad) else .bad
    | .bad => .bad
  | .bad => .bad) := rfl
theorem still_v (d : PyData) : still (.v d) st = True := rfl
theorem still_t (d : PyData) : still (.t d) st = True := rfl
theorem still_s (i : Nat) (d : PyData) : still (.s i d) st = (st.ss[i]? = some (.o d) ∨ st.ss[i]? = some (.v d)) := rfl
theorem d_v (d : PyData) : (Opd.v d).d = d := rfl
theorem d_t (d : PyData) : (Opd.t d).d = d := rfl
theorem d_s (i : Nat) (d : PyData) : (Opd.s i d).d = d := rfl
theorem v_Seq : sSeq s1 s2 st = (match s1 st with
  | .nx st1 => s2 st1
  | r => r) := rfl
theorem v_Nil : sNil st = .nx st := rfl
theorem v_If : sIf c s1 s2 st = (match c st with
  | .ok true st1 => s1 st1
  | .ok false st1 => s2 st1
  | .bad => .bad) := rfl
theorem v_Set (i : Nat) : sSet i m st = (match m st with
  | .ok r st1 => .nx { st1 with ss := st1.ss.set i r }
  | .bad => .bad) := rfl
theorem v_Ret : sRet m st = (match m st with
  | .ok r st1 => .ret r st1
  | .bad => .bad) := rfl
theorem v_Drop : sDrop m st = (match m st with
  | .ok _ st1 => .nx st1
  | .bad => .bad) := rfl
theorem v_Asg (g : PyData → S → Option S) : sAsg mf g st = (match mf st with
  | .ok d st1 => match g d st1 with
    | some st2 => .nx st2
    | none => .bad
  | .bad => .bad) := rfl
theorem v_Par2 (i j : Nat) : sPar2 i j m m' st = (match m st with
  | .ok r st1 => match m' st1 with
    | .ok r' st2 => .nx { st2 with ss := (st2.ss.set i r).set j r' }
    | .bad => .bad
  | .bad => .bad) := rfl
theorem v_Par3 (i j l : Nat) : sPar3 i j l m m' m'' st = (match m st with
  | .ok r st1 => match m' st1 with
    | .ok r' st2 => match m'' st2 with
      | .ok r'' st3 => .nx { st3 with ss := ((st3.ss.set i r).set j r').set l r'' }
      | .bad => .bad
    | .bad => .bad
  | .bad => .bad) := rfl
theorem v_And : mAnd c c' st = (match c st with
  | .ok true st1 => c' st1
  | .ok false st1 => .ok false st1
  | .bad => .bad) := by
  unfold mAnd
  rfl
theorem v_Or : mOr c c' st = (match c st with
  | .ok true st1 => .ok true st1
  | .ok false st1 => c' st1
  | .bad => .bad) := by
  unfold mOr
  rfl
theorem v_Not : mNot c st = (match c st with
  | .ok b st1 => .ok (!b) st1
  | .bad => .bad) := by
  unfold mNot
  cases c st with
  | bad => rfl
  | ok b s => cases b <;> rfl
theorem v_IfE : mIf c m m' st = (match c st with
  | .ok true st1 => m st1
  | .ok false st1 => m' st1
  | .bad => .bad) := by
  unfold mIf
  rfl
theorem v_Yes : tYesM st = .ok true st := rfl
theorem v_nil : mNil st = .ok [] st := rfl
theorem v_cons {ms : S → R (List PyData)} : mCons mf ms st = (match mf st with
  | .ok d st1 => match ms st1 with
    | .ok ds st2 => .ok (d :: ds) st2
    | .bad => .bad
  | .bad => .bad) := by
  unfold mCons
  rfl
theorem v_tup {ms : S → R (List PyData)} : mTup ms st = (match ms st with
  | .ok ds st1 => if okLen ds.length then .ok (.v (.tuple ds)) st1 else .bad
  | .bad => .bad) := by
  unfold mTup
  rfl
theorem v_lst {ms : S → R (List PyData)} : mLst ms st = (match ms st with
  | .ok ds st1 => if okLen ds.length then .ok (.o (.list ds)) st1 else .bad
  | .bad => .bad) := by
  unfold mLst
  rfl
theorem v_N (i : Nat) (d : PyData) : gN i d st = some { st with ss := st.ss.set i (.v d) } := rfl
theorem v_Nl : gNl [] st = some st := rfl
theorem v_Cn (g : PyData → S → Option S) (gs : List PyData → S → Option S) (d : PyData) (r : List PyData) : gCn g gs (d :: r) st = (match g d st with
  | some st1 => gs r st1
  | none => none) := rfl
theorem v_Tp (gs : List PyData → S → Option S) (ds : List PyData) : gTp gs (.tuple ds) st = gs ds st := rfl
theorem v_TpL (gs : List PyData → S → Option S) (ds : List PyData) : gTp gs (.list ds) st = gs ds st := rfl
theorem v_jSeq : jSeq mf st = (match mf st with
  | .ok (.list ds) st1 => .ok ds st1
  | .ok (.tuple ds) st1 => .ok ds st1
  | _ => .bad) := rfl
theorem v_jEnum : jEnum mf st = (match mf st with
  | .ok (.list ds) st1 => .ok (enumD ds) st1
  | .ok (.tuple ds) st1 => .ok (enumD ds) st1
  | _ => .bad) := rfl
theorem v_jRg {ma : S → R (List PyData)} : jRg ma st = (match ma st with
  | .ok [.int n] st1 => if rgOk 0 n then .ok (rgD 0 n) st1 else .bad
  | _ => .bad) := rfl
theorem v_jRg2 {ma : S → R (List PyData)} : jRg2 ma st = (match ma st with
  | .ok [.int a, .int b] st1 => if rgOk a b then .ok (rgD a b) st1 else .bad
  | _ => .bad) := rfl
theorem v_For (mi : S → R (List PyData)) (g : PyData → S → Option S) : sFor mi g s1 st = (match mi st with
  | .ok ds st1 => forGo g s1 ds st1
  | .bad => .bad) := rfl
theorem v_Call (g : GFn) (ms : S → R (List Slot)) : mCall g ms st = (match ms st with
  | .bad => .bad
  | .ok as st1 => if as.any Slot.isSrc then match g as st1.src with
      | some (r, some s) => .ok r { st1 with src := some s }
      | _ => .bad
    else match g as none with
      | some (r, none) => .ok r st1
      | some (r, some s) => match st1.src with
        | none => .ok r { st1 with src := some s }
        | some _ => .bad
      | none => .bad) := rfl
theorem v_xNil : xNil st = .ok [] st := rfl
theorem v_xCons {ms : S → R (List Slot)} : xCons mf ms st = (match mf st with
  | .ok d st1 => match ms st1 with
    | .ok as st2 => .ok (.v d :: as) st2
    | .bad => .bad
  | .bad => .bad) := rfl
theorem v_xSrc (i : Nat) {ms : S → R (List Slot)} : xSrc i ms st = (match st.ss[i]? with
  | some .src => (match ms st with
    | .ok as st2 => .ok (.src :: as) st2
    | .bad => .bad)
  | some (.scr ns) => (match ms st with
    | .ok as st2 => .ok (.scr ns :: as) st2
    | .bad => .bad)
  | _ => .bad) := rfl
theorem v_Mut (g : List PyData → List PyData → Option (PyData × List PyData)) (i : Nat) {ma : S → R (List PyData)} : mMut g i ma st = (match st.ss[i]? with
  | some (.o (.list _)) => (match ma st with
    | .ok as st1 => match st1.ss[i]? with
      | some (.o (.list ds)) => match g ds as with
        | some (d, ds') => .ok (.v d) { st1 with ss := st1.ss.set i (.o (.list ds')) }
        | none => .bad
      | _ => .bad
    | .bad => .bad)
  | _ => .bad) := rfl
/-! ### a def's answer -/
theorem g_of {n : Nat} {ms : S → RS} {as : List Slot} {d : PyData} {src' : Option Src} {ss' : List Slot} (hs : startS n as = ss) (h : ms ⟨ss, src⟩ = .ret (.v d) ⟨ss', src'⟩) : gOf n ms as src = some (.v d, src') := by
  unfold gOf
  rw [hs, h]
theorem g_ofO {n : Nat} {ms : S → RS} {as : List Slot} {d : PyData} {src' : Option Src} {ss' : List Slot} (hs : startS n as = ss) (h : ms ⟨ss, src⟩ = .ret (.o d) ⟨ss', src'⟩) : gOf n ms as src = some (.o d, src') := by
  unfold gOf
  rw [hs, h]
end
end Pd
end
section
set_option linter.all false
set_option maxRecDepth 100000
/-! Pd, part U: ints, pairs, rows of ints: order, sorting, least. -/
namespace Pd
open PySem PySem.Spec PyProof.Rows L2

abbrev lkD (p : Int × Int) : PyData := .tuple [.int p.1, .int p.2]
abbrev lotD (l : List Int) : PyData := .tuple (l.map PyData.int)
/-! ### orders -/
abbrev leI (a b : Int) : Bool := decide (a ≤ b)
abbrev leK (p q : Int × Int) : Bool := decide (p.1 < q.1 ∨ (p.1 = q.1 ∧ p.2 ≤ q.2))
abbrev leL (a b : List Int) : Bool := decide (a ≤ b)
theorem le_ints (a b : Int) : PySem.W.dataLe false id (.int a) (.int b) = leI a b := by
  show (!PySem.W.dataLt (.int b) (.int a)) = _
  rw [PySem.W.dataLt_int, PySem.W.not_lt_int]
theorem le_links (p q : Int × Int) : PySem.W.dataLe false id (lkD p) (lkD q) = leK p q := by
  have := congrFun (congrFun (PySem.W.dataLe_ii (β := Int × Int) (fun p => p.1) (fun p => p.2)) p) q
  exact this
theorem le_lots (a b : List Int) : PySem.W.dataLe false id (lotD a) (lotD b) = leL a b := by
  show (!PySem.W.dataLt (.tuple (b.map .int)) (.tuple (a.map .int))) = _
  rw [PySem.W.dataLt_tuple]
  show (!PySem.W.rowLt (b.map .int) (a.map .int)) = _
  rw [PySem.W.dataLt_ints]
  by_cases h : b < a
  · have h' : ¬ a ≤ b := fun r => List.not_lt.mpr r h
    simp [h, h']
  · have h' : a ≤ b := List.not_lt.mp h
    simp [h, h']
theorem tr_I (a b c : Int) : leI a b = true → leI b c = true → leI a c = true := by
  simp only [leI, decide_eq_true_eq]
  omega
theorem to_I (a b : Int) : (leI a b || leI b a) = true := by
  simp only [leI, Bool.or_eq_true, decide_eq_true_eq]
  omega
theorem tr_K (a b c : Int × Int) : leK a b = true → leK b c = true → leK a c = true := by
  simp only [leK, decide_eq_true_eq]
  omega
theorem to_K (a b : Int × Int) : (leK a b || leK b a) = true := by
  simp only [leK, Bool.or_eq_true, decide_eq_true_eq]
  omega
theorem an_K (a b : Int × Int) : leK a b = true → leK b a = true → a = b := by
  simp only [leK, decide_eq_true_eq]
  intro h1 h2
  exact Prod.ext (by omega) (by omega)
theorem tr_L (a b c : List Int) : leL a b = true → leL b c = true → leL a c = true := by
  simp only [leL, decide_eq_true_eq]
  exact List.le_trans
theorem to_L (a b : List Int) : (leL a b || leL b a) = true := by
  simp only [leL, Bool.or_eq_true, decide_eq_true_eq]
  exact List.le_total a b
theorem an_L (a b : List Int) : leL a b = true → leL b a = true → a = b := by
  simp only [leL, decide_eq_true_eq]
  exact List.le_antisymm
abbrev srtI (l : List Int) : List Int := l.mergeSort leI
abbrev srtK (l : List (Int × Int)) : List (Int × Int) := l.mergeSort leK
abbrev srtL (l : List (List Int)) : List (List Int) := l.mergeSort leL
theorem sort_ints (l : List Int) : sortD (l.map PyData.int) = (srtI l).map PyData.int :=
  (List.map_mergeSort (fun a _ b _ => (le_ints a b).symm)).symm
theorem sort_links (l : List (Int × Int)) : sortD (l.map lkD) = (srtK l).map lkD :=
  (List.map_mergeSort (fun a _ b _ => (le_links a b).symm)).symm
theorem sort_lots (l : List (List Int)) : sortD (l.map lotD) = (srtL l).map lotD :=
  (List.map_mergeSort (fun a _ b _ => (le_lots a b).symm)).symm
/-- sorting and leaving out may be exchanged -/
theorem sort_filter {α : Type} {le : α → α → Bool} (tr : ∀ a b c, le a b = true → le b c = true → le a c = true) (to : ∀ a b, (le a b || le b a) = true) (an : ∀ a b, le a b = true → le b a = true → a = b) (p : α → Bool) (l : List α) :
    (l.mergeSort le).filter p = (l.filter p).mergeSort le := by
  refine List.Perm.eq_of_pairwise (le := fun a b => le a b = true) (fun a b _ _ h1 h2 => an a b h1 h2) ?_ ?_ ?_
  · exact (List.pairwise_mergeSort tr to l).filter _
  · exact List.pairwise_mergeSort tr to _
  · exact ((List.mergeSort_perm l le).filter p).trans (List.mergeSort_perm _ le).symm
theorem srtL_filter (p : List Int → Bool) (l : List (List Int)) : (srtL l).filter p = srtL (l.filter p) := sort_filter tr_L to_L an_L p l
theorem srt_mem {α : Type} {le : α → α → Bool} {l : List α} {a : α} : a ∈ l.mergeSort le ↔ a ∈ l := List.mem_mergeSort
/-! ### may be sorted -/
theorem sb_ints (l : List Int) : sortB (l.map PyData.int) = true := by
  unfold sortB
  simp only [List.all_map, Bool.and_eq_true, List.all_eq_true, Bool.or_eq_true, Function.comp]
  refine ⟨⟨fun a _ b _ => by simp [PySem.W.alike], .inr fun a _ => by simp⟩, fun a _ => by simp [PyData.depth]⟩
theorem sb_links (l : List (Int × Int)) : sortB (l.map lkD) = true := by
  unfold sortB
  simp only [List.all_map, Bool.and_eq_true, List.all_eq_true, Bool.or_eq_true, Function.comp]
  refine ⟨⟨fun a _ b _ => by simp [PySem.W.alike, PySem.W.alikeAll], .inl fun a _ => by simp⟩, fun a _ => by simp [PyData.depth, PyData.depthAll]⟩
theorem sb_lots (l : List (List Int)) (h : ∀ x ∈ l, x ≠ []) : sortB (l.map lotD) = true := by
  unfold sortB
  simp only [List.all_map, Bool.and_eq_true, List.all_eq_true, Bool.or_eq_true, Function.comp]
  refine ⟨⟨fun a _ b _ => ?_, .inl fun a ha => ?_⟩, fun a _ => ?_⟩
  · simp [PySem.W.alike, PySem.W.alike_ints]
  · cases a with
    | nil => exact absurd rfl (h _ ha)
    | cons x r => rfl
  · simp [PyData.depth, PySem.W.depth_ints]
theorem gSorted_ints (l : List Int) : gSorted (.list (l.map PyData.int)) = some (.o (.list ((srtI l).map PyData.int))) := by
  show (if sortB (l.map PyData.int) then some (Slot.o (.list (sortD (l.map PyData.int)))) else none) = _
  rw [sb_ints, sort_ints]
  rfl
theorem gSorted_links (l : List (Int × Int)) : gSorted (.list (l.map lkD)) = some (.o (.list ((srtK l).map lkD))) := by
  show (if sortB (l.map lkD) then some (Slot.o (.list (sortD (l.map lkD)))) else none) = _
  rw [sb_links, sort_links]
  rfl
theorem gSorted_lots (l : List (List Int)) (h : ∀ x ∈ l, x ≠ []) : gSorted (.list (l.map lotD)) = some (.o (.list ((srtL l).map lotD))) := by
  show (if sortB (l.map lotD) then some (Slot.o (.list (sortD (l.map lotD)))) else none) = _
  rw [sb_lots l h, sort_lots]
  rfl
/-! ### the least -/
theorem ab_ints (l : List Int) : alikeB (l.map PyData.int) = true := by
  unfold alikeB
  simp only [List.all_map, Bool.and_eq_true, List.all_eq_true, Function.comp, decide_eq_true_eq]
  refine ⟨⟨fun a _ b _ => by simp [PySem.W.alike], fun a _ => rfl⟩, ?_⟩
  rw [PySem.W.depth_ints]
  omega
/-- the least of a list (0 of none) -/
def leastI : List Int → Int
  | [] => 0
  | a :: l => l.foldl min a
theorem gMin_ints {l : List Int} (h : l ≠ []) : gMin (.list (l.map PyData.int)) = some (.v (.int (leastI l))) := by
  cases l with
  | nil => exact absurd rfl h
  | cons a l =>
    show (if alikeB ((a :: l).map PyData.int) then some (Slot.v (PySem.W.minD (.int a) (l.map PyData.int))) else none) = _
    rw [ab_ints, PySem.W.minD_ints]
    rfl
theorem fold_min_le : ∀ (l : List Int) (a : Int), l.foldl min a ≤ a ∧ (∀ x ∈ l, l.foldl min a ≤ x) ∧ (l.foldl min a = a ∨ l.foldl min a ∈ l)
  | [], a => ⟨Int.le_refl _, fun x hx => (nomatch hx), .inl rfl⟩
  | b :: l, a => by
    obtain ⟨h1, h2, h3⟩ := fold_min_le l (min a b)
    rw [List.foldl_cons]
    refine ⟨Int.le_trans h1 (Int.min_le_left a b), fun x hx => ?_, ?_⟩
    · rcases List.mem_cons.mp hx with e | e
      · rw [e]
        exact Int.le_trans h1 (Int.min_le_right a b)
      · exact h2 x e
    · rcases h3 with e | e
      · rcases Int.le_total a b with z | z
        · rw [Int.min_eq_left z] at e ⊢
          exact .inl e
        · rw [Int.min_eq_right z] at e ⊢
          exact .inr (List.mem_cons.mpr (.inl e))
      · exact .inr (List.mem_cons_of_mem _ e)
theorem leastI_le {l : List Int} {x : Int} (h : x ∈ l) : leastI l ≤ x := by
  cases l with
  | nil => cases h
  | cons a l =>
    obtain ⟨h1, h2, _⟩ := fold_min_le l a
    rcases List.mem_cons.mp h with e | e
    · rw [e]
      exact h1
    · exact h2 x e
theorem leastI_mem {l : List Int} (h : l ≠ []) : leastI l ∈ l := by
  cases l with
  | nil => exact absurd rfl h
  | cons a l =>
    obtain ⟨_, _, h3⟩ := fold_min_le l a
    rcases h3 with e | e
    · show l.foldl min a ∈ _
      rw [e]
      exact List.mem_cons_self
    · exact List.mem_cons_of_mem _ e
/-! ### small steps -/
theorem at0 (a : PyData) (r : List PyData) : gIx (.tuple (a :: r)) (.int 0) = some (.v a) := by
  simp [gIx, atI, ixN]
theorem at1 (a b : PyData) (r : List PyData) : gIx (.tuple (a :: b :: r)) (.int 1) = some (.v b) := by
  have : (1 : Int) < (r.length : Int) + 1 + 1 := by omega
  simp [gIx, atI, ixN, this]
theorem gTuple_list (ds : List PyData) : gTuple (.list ds) = some (.v (.tuple ds)) := rfl
theorem gLen_list (ds : List PyData) : gLen (.list ds) = some (.v (.int (ds.length : Nat))) := rfl
theorem gLen_tup (ds : List PyData) : gLen (.tuple ds) = some (.v (.int (ds.length : Nat))) := rfl
theorem gAdd_int (a b : Int) : gAdd (.int a) (.int b) = some (.v (.int (a + b))) := rfl
theorem gSub_int (a b : Int) : gSub (.int a) (.int b) = some (.v (.int (a - b))) := rfl
theorem gAdd_list {a b : List PyData} (h : a.length + b.length ≤ 16777216) : gAdd (.list a) (.list b) = some (.o (.list (a ++ b))) := by
  show (if okLen (a.length + b.length) then some (Slot.o (.list (a ++ b))) else none) = _
  rw [okLen_of h]
  rfl
theorem gAdd_tup {a b : List PyData} (h : a.length + b.length ≤ 16777216) : gAdd (.tuple a) (.tuple b) = some (.v (.tuple (a ++ b))) := by
  show (if okLen (a.length + b.length) then some (Slot.v (.tuple (a ++ b))) else none) = _
  rw [okLen_of h]
  rfl
theorem rgOk_of {a b : Int} (h1 : -16777216 ≤ a) (h2 : a ≤ 16777216) (h3 : -16777216 ≤ b) (h4 : b ≤ 16777216) (h5 : b - a ≤ 16777216) : rgOk a b = true := by
  unfold rgOk
  simp [h1, h2, h3, h4, h5]
theorem gLt_int (a b : Int) : gLt (.int a) (.int b) = some (.v (.bool (decide (a < b)))) := rfl
theorem gGt_int (a b : Int) : gGt (.int a) (.int b) = some (.v (.bool (decide (b < a)))) := rfl
theorem gLe_int (a b : Int) : gLe (.int a) (.int b) = some (.v (.bool (decide (a ≤ b)))) := rfl
theorem gGe_int (a b : Int) : gGe (.int a) (.int b) = some (.v (.bool (decide (b ≤ a)))) := rfl
theorem gEq_lot (a b : List Int) : gEq (lotD a) (lotD b) = some (.v (.bool (decide (a = b)))) := by
  have := gEq_toD (α := PySem.W.Tup Int) (by decide) ⟨a⟩ ⟨b⟩
  rw [show decide (a = b) = decide ((⟨a⟩ : PySem.W.Tup Int) = ⟨b⟩) from decide_eq_decide.mpr ⟨fun e => by rw [e], fun e => by cases e; rfl⟩]
  exact this
theorem gNe_lot (a b : List Int) : gNe (lotD a) (lotD b) = some (.v (.bool (!decide (a = b)))) := by
  have := gNe_toD (α := PySem.W.Tup Int) (by decide) ⟨a⟩ ⟨b⟩
  rw [show decide (a = b) = decide ((⟨a⟩ : PySem.W.Tup Int) = ⟨b⟩) from decide_eq_decide.mpr ⟨fun e => by rw [e], fun e => by cases e; rfl⟩]
  exact this
theorem gIn_lot (neg : Bool) (a : List Int) (xs : List (List Int)) : gIn neg (lotD a) (.list (xs.map lotD)) = some (.v (.bool (neg.xor (decide (a ∈ xs))))) := by
  have := gIn_list (α := PySem.W.Tup Int) (by decide) neg ⟨a⟩ (xs.map PySem.W.Tup.mk)
  rw [List.map_map] at this
  rw [show decide (a ∈ xs) = decide ((⟨a⟩ : PySem.W.Tup Int) ∈ xs.map PySem.W.Tup.mk) from decide_eq_decide.mpr (by
    rw [List.mem_map]
    exact ⟨fun e => ⟨a, e, rfl⟩, fun ⟨b, e1, e2⟩ => by cases e2; exact e1⟩)]
  exact this
theorem gIn_ilist (neg : Bool) (a : List Int) (xs : List (List Int)) : gIn neg (.list (a.map PyData.int)) (.list (xs.map fun l => .list (l.map PyData.int))) = some (.v (.bool (neg.xor (decide (a ∈ xs))))) := (gIn_list (α := List Int) (by decide) neg a xs).trans (by congr)
theorem gNe_ilist (a b : List Int) : gNe (.list (a.map PyData.int)) (.list (b.map PyData.int)) = some (.v (.bool (!decide (a = b)))) := gNe_toD (α := List Int) (by decide) a b
/-! ### for, over typed items -/
theorem forGo_fold {α β : Type} {g : PyData → S → Option S} {m : S → RS} (φ : α → PyData) (f : β → α → β) (Rel : β → S → Prop) : ∀ (xs : List α) (b : β) (st : S),
    (∀ x ∈ xs, ∀ b st, Rel b st → ∃ st1 st2, g (φ x) st = some st1 ∧ (m st1 = .nx st2 ∨ m st1 = .ct st2) ∧ Rel (f b x) st2) → Rel b st → ∃ st', forGo g m (xs.map φ) st = .nx st' ∧ Rel (xs.foldl f b) st'
  | [], b, st, _, h => ⟨st, rfl, h⟩
  | x :: xs, b, st, k, h => by
    obtain ⟨st1, st2, h1, h2, h3⟩ := k x List.mem_cons_self b st h
    obtain ⟨st', h4, h5⟩ := forGo_fold φ f Rel xs (f b x) st2 (fun y hy => k y (List.mem_cons_of_mem _ hy)) h3
    refine ⟨st', ?_, h5⟩
    rw [List.map_cons]
    unfold forGo
    rw [h1]
    rcases h2 with h2 | h2
    · simp only [h2]
      exact h4
    · simp only [h2]
      exact h4
end Pd
end
set_option linter.all false
set_option maxRecDepth 100000
/-! Pd, part V: the law's picks (the second kind). -/
noncomputable section
namespace Pd
open PySem PySem.Spec PyProof.Rows L2
section
variable {st : S} {mo mc : S → R Slot} {mv : S → R PyData}
theorem v_GetS (p : Src → Int) : mGetS p mo st = (match mo st with
  | .ok .src st1 => match st1.src with
    | some s => .ok (.v (.int (p s))) st1
    | none => .bad
  | _ => .bad) := rfl
theorem v_Cel : mCel mo st = (match mo st with
  | .ok .src st1 => match st1.src with
    | some s => .ok .cel st1
    | none => .bad
  | _ => .bad) := rfl
theorem v_CelLen : mCelLen mo st = (match mo st with
  | .ok .cel st1 => match st1.src with
    | some s => .ok (.v (.int s.cells.length)) st1
    | none => .bad
  | _ => .bad) := rfl
theorem v_CelPop : mCelPop mo st = (match mo st with
  | .ok .cel st1 => match st1.src with
    | some s => match s.cells[s.cells.length - 1]? with
      | some n => .ok (.v (.int n)) { st1 with src := some { s with cells := s.cells.dropLast } }
      | none => .bad
    | none => .bad
  | _ => .bad) := rfl
theorem v_PutS (u : Int → Src → Src) : sPutS u mo mv st = (match mv st with
  | .ok (.int n) st1 => match mo st1 with
    | .ok .src st2 => match st2.src with
      | some s => .nx { st2 with src := some (u n s) }
      | none => .bad
    | _ => .bad
  | _ => .bad) := rfl
end
theorem gInt_int (a : Int) : gInt (.int a) = some (.v (.int a)) := rfl
theorem gDiv_int {a b : Int} (h1 : 0 < b) (h2 : b < 1073741824) : gDiv (.int a) (.int b) = some (.v (.int (a / b))) := by
  show (if decide (0 < b) && decide (b < 1073741824) then some (Slot.v (.int (a / b))) else none) = _
  simp [h1, h2]
theorem gMod_int {a b : Int} (h1 : 0 < b) : gMod (.int a) (.int b) = some (.v (.int (a % b))) := by
  show (if decide (0 < b) then some (Slot.v (.int (a % b))) else none) = _
  simp [h1]
theorem gMul_int {a b : Int} (h : mulOk a b = true) : gMul (.int a) (.int b) = some (.v (.int (a * b))) := by
  show (if mulOk a b then some (Slot.v (.int (a * b))) else none) = _
  simp [h]
theorem mulOk_r {a b : Int} (h1 : -(2 ^ 64) < b) (h2 : b < 2 ^ 64) : mulOk a b = true := by
  unfold mulOk
  simp only [Bool.or_eq_true, Bool.and_eq_true, decide_eq_true_eq]
  omega
theorem mulOk_l {a b : Int} (h1 : -(2 ^ 64) < a) (h2 : a < 2 ^ 64) : mulOk a b = true := by
  unfold mulOk
  simp only [Bool.or_eq_true, Bool.and_eq_true, decide_eq_true_eq]
  omega
def pick2 : S → RS := (sSeq (sIf (mB (m2 gLt (mPk 1) (mO (mC (.int 2))))) (sRet (mC (.int 0))) sNil)
  (sSeq (sSet 2 (mCel (mVar 0)))
  (sSeq (sWhile (mAnd (mB (m2 gLt (mO (mGetS Src.left (mVar 0))) (mO (mC (.int 2))))) (mB (m2 gGt (mO (mCelLen (mVar 2))) (mO (mC (.int 0)))))) (sPutS uLeft (mVar 0) (mF (mCelPop (mVar 2)))))
  (sSeq (sSet 3 (mGetS Src.left (mVar 0)))
  (sSeq (sIf (mB (m2 gGt (mPk 3) (mO (mC (.int 1))))) (sSeq (sPutS uLeft (mVar 0) (mF (m2 gDiv (mPk 3) (mPk 1))))
  (sRet (m2 gMod (mO (m1 gInt (mPk 3))) (mPk 1)))) sNil)
  (sSeq (sPutS uTurn (mVar 0) (mF (m2 gAdd (mO (mGetS Src.turn (mVar 0))) (mO (mC (.int 1))))))
  (sSeq (sSet 4 (mGetS Src.turn (mVar 0)))
  (sSeq (sSet 5 (m2 gMod (mO (m1 gInt (mO (m2 gAdd (mO (mGetS Src.mixed (mVar 0))) (mO (m2 gMul (mPk 4) (mO (mC (.int 104729))))))))) (mO (mC (.int 998244353)))))
  (sSeq (sSet 5 (m2 gMod (mO (m1 gInt (mO (m2 gAdd (mO (m2 gMul (mPk 5) (mPk 5))) (mO (m2 gMul (mPk 4) (mO (mC (.int 17))))))))) (mO (mC (.int 2147483647)))))
  (sRet (m2 gMod (mO (m1 gInt (mO (m2 gDiv (mPk 5) (mO (mC (.int 16))))))) (mPk 1))))))))))))
def wC : S → R Bool := (mAnd (mB (m2 gLt (mO (mGetS Src.left (mVar 0))) (mO (mC (.int 2))))) (mB (m2 gGt (mO (mCelLen (mVar 2))) (mO (mC (.int 0))))))
def wB : S → RS := (sPutS uLeft (mVar 0) (mF (mCelPop (mVar 2))))
theorem pick2_while (m : Int) : ∀ (k : Nat) (s : Src), s.cells.length = k → ∃ s', sWhile wC wB ⟨[.src, .v (.int m), .cel, .no, .no, .no], some s⟩ = .nx ⟨[.src, .v (.int m), .cel, .no, .no, .no], some s'⟩
  | 0, s, h => by
    refine ⟨s, ?_⟩
    have p0 : (0 : Int) < ((0 : Nat) : Int) ↔ False := by decide
    have c1 : wC ⟨[.src, .v (.int m), .cel, .no, .no, .no], some s⟩ = .ok false ⟨[.src, .v (.int m), .cel, .no, .no, .no], some s⟩ := by
      unfold wC
      by_cases z : s.left < 2
      · simp only [v_GetS, v_Cel, v_CelLen, v_CelPop, v_PutS, v_C, v_Var, v_Mv, v_Pk, v_O, v_F, v_B, v_m1, v_m2, still_v, still_t, still_s, d_v, d_t, d_s, v_Seq, v_Nil, v_If, v_Set, v_Ret, v_Drop, v_Asg, v_Par2, v_Par3, v_And, v_Or, v_Not, v_IfE, v_Yes, v_nil, v_cons, v_tup, v_lst, v_N, v_Nl, v_Cn, v_Tp, v_TpL, v_jSeq, v_jEnum, v_jRg, v_jRg2, v_For, v_Call, v_xNil, v_xCons, v_xSrc, v_Mut, S.wipe, wipeS, S.rest, restS, backS, List.set_cons_zero, List.set_cons_succ, List.getElem?_cons_zero, List.getElem?_cons_succ, List.any_cons, List.any_nil, Slot.isSrc, if_true, Bool.or_false, Bool.false_or, Bool.or_true, Bool.true_or, true_or, or_true, List.length_cons, List.length_nil, Bool.false_eq_true, if_false, reduceIte, reduceCtorEq, gLt_int, gGt_int, h, z, decide_true, decide_false, p0]
      · simp only [v_GetS, v_Cel, v_CelLen, v_CelPop, v_PutS, v_C, v_Var, v_Mv, v_Pk, v_O, v_F, v_B, v_m1, v_m2, still_v, still_t, still_s, d_v, d_t, d_s, v_Seq, v_Nil, v_If, v_Set, v_Ret, v_Drop, v_Asg, v_Par2, v_Par3, v_And, v_Or, v_Not, v_IfE, v_Yes, v_nil, v_cons, v_tup, v_lst, v_N, v_Nl, v_Cn, v_Tp, v_TpL, v_jSeq, v_jEnum, v_jRg, v_jRg2, v_For, v_Call, v_xNil, v_xCons, v_xSrc, v_Mut, S.wipe, wipeS, S.rest, restS, backS, List.set_cons_zero, List.set_cons_succ, List.getElem?_cons_zero, List.getElem?_cons_succ, List.any_cons, List.any_nil, Slot.isSrc, if_true, Bool.or_false, Bool.false_or, Bool.or_true, Bool.true_or, true_or, or_true, List.length_cons, List.length_nil, Bool.false_eq_true, if_false, reduceIte, reduceCtorEq, gLt_int, gGt_int, h, z, decide_true, decide_false, p0]
    rw [sWhile_turn, c1]
  | k + 1, s, h => by
    rw [sWhile_turn]
    by_cases z : s.left < 2
    · have hk : s.cells.length - 1 < s.cells.length := by omega
      have e : s.cells[s.cells.length - 1]? = some s.cells[s.cells.length - 1] := List.getElem?_eq_getElem hk
      obtain ⟨s', h'⟩ := pick2_while m k (uLeft s.cells[s.cells.length - 1] { s with cells := s.cells.dropLast }) (by
        show s.cells.dropLast.length = k
        rw [List.length_dropLast, h]
        rfl)
      refine ⟨s', ?_⟩
      have pos : (0 : Int) < (s.cells.length : Int) := by omega
      have c1 : wC ⟨[.src, .v (.int m), .cel, .no, .no, .no], some s⟩ = .ok true ⟨[.src, .v (.int m), .cel, .no, .no, .no], some s⟩ := by
        unfold wC
        simp only [v_GetS, v_Cel, v_CelLen, v_CelPop, v_PutS, v_C, v_Var, v_Mv, v_Pk, v_O, v_F, v_B, v_m1, v_m2, still_v, still_t, still_s, d_v, d_t, d_s, v_Seq, v_Nil, v_If, v_Set, v_Ret, v_Drop, v_Asg, v_Par2, v_Par3, v_And, v_Or, v_Not, v_IfE, v_Yes, v_nil, v_cons, v_tup, v_lst, v_N, v_Nl, v_Cn, v_Tp, v_TpL, v_jSeq, v_jEnum, v_jRg, v_jRg2, v_For, v_Call, v_xNil, v_xCons, v_xSrc, v_Mut, S.wipe, wipeS, S.rest, restS, backS, List.set_cons_zero, List.set_cons_succ, List.getElem?_cons_zero, List.getElem?_cons_succ, List.any_cons, List.any_nil, Slot.isSrc, if_true, Bool.or_false, Bool.false_or, Bool.or_true, Bool.true_or, true_or, or_true, List.length_cons, List.length_nil, Bool.false_eq_true, if_false, reduceIte, reduceCtorEq, gLt_int, gGt_int, z, decide_true, pos]
      have c2 : wB ⟨[.src, .v (.int m), .cel, .no, .no, .no], some s⟩ = .nx ⟨[.src, .v (.int m), .cel, .no, .no, .no], some (uLeft s.cells[s.cells.length - 1] { s with cells := s.cells.dropLast })⟩ := by
        unfold wB
        simp only [v_GetS, v_Cel, v_CelLen, v_CelPop, v_PutS, v_C, v_Var, v_Mv, v_Pk, v_O, v_F, v_B, v_m1, v_m2, still_v, still_t, still_s, d_v, d_t, d_s, v_Seq, v_Nil, v_If, v_Set, v_Ret, v_Drop, v_Asg, v_Par2, v_Par3, v_And, v_Or, v_Not, v_IfE, v_Yes, v_nil, v_cons, v_tup, v_lst, v_N, v_Nl, v_Cn, v_Tp, v_TpL, v_jSeq, v_jEnum, v_jRg, v_jRg2, v_For, v_Call, v_xNil, v_xCons, v_xSrc, v_Mut, S.wipe, wipeS, S.rest, restS, backS, List.set_cons_zero, List.set_cons_succ, List.getElem?_cons_zero, List.getElem?_cons_succ, List.any_cons, List.any_nil, Slot.isSrc, if_true, Bool.or_false, Bool.false_or, Bool.or_true, Bool.true_or, true_or, or_true, List.length_cons, List.length_nil, Bool.false_eq_true, if_false, reduceIte, reduceCtorEq, e]
      rw [c1]
      simp only [c2]
      exact h'
    · refine ⟨s, ?_⟩
      have c1 : wC ⟨[.src, .v (.int m), .cel, .no, .no, .no], some s⟩ = .ok false ⟨[.src, .v (.int m), .cel, .no, .no, .no], some s⟩ := by
        unfold wC
        simp only [v_GetS, v_Cel, v_CelLen, v_CelPop, v_PutS, v_C, v_Var, v_Mv, v_Pk, v_O, v_F, v_B, v_m1, v_m2, still_v, still_t, still_s, d_v, d_t, d_s, v_Seq, v_Nil, v_If, v_Set, v_Ret, v_Drop, v_Asg, v_Par2, v_Par3, v_And, v_Or, v_Not, v_IfE, v_Yes, v_nil, v_cons, v_tup, v_lst, v_N, v_Nl, v_Cn, v_Tp, v_TpL, v_jSeq, v_jEnum, v_jRg, v_jRg2, v_For, v_Call, v_xNil, v_xCons, v_xSrc, v_Mut, S.wipe, wipeS, S.rest, restS, backS, List.set_cons_zero, List.set_cons_succ, List.getElem?_cons_zero, List.getElem?_cons_succ, List.any_cons, List.any_nil, Slot.isSrc, if_true, Bool.or_false, Bool.false_or, Bool.or_true, Bool.true_or, true_or, or_true, List.length_cons, List.length_nil, Bool.false_eq_true, if_false, reduceIte, reduceCtorEq, gLt_int, gGt_int, z, decide_true, decide_false]
      rw [c1]
theorem pick2_is (m : Int) (hm : m < 1073741824) (s : Src) : ∃ r s', gOf 6 pick2 [.src, .v (.int m)] (some s) = some (.v (.int r), some s') ∧ 0 ≤ r ∧ (2 ≤ m → r < m) ∧ (m < 2 → r = 0) := by
  by_cases z : m < 2
  · refine ⟨0, s, g_of (ss := [.src, .v (.int m), .no, .no, .no, .no]) (ss' := [.src, .v (.int m), .no, .no, .no, .no]) rfl ?_, Int.le_refl _, fun h => absurd z (by omega), fun _ => rfl⟩
    unfold pick2
    simp only [v_GetS, v_Cel, v_CelLen, v_CelPop, v_PutS, v_C, v_Var, v_Mv, v_Pk, v_O, v_F, v_B, v_m1, v_m2, still_v, still_t, still_s, d_v, d_t, d_s, v_Seq, v_Nil, v_If, v_Set, v_Ret, v_Drop, v_Asg, v_Par2, v_Par3, v_And, v_Or, v_Not, v_IfE, v_Yes, v_nil, v_cons, v_tup, v_lst, v_N, v_Nl, v_Cn, v_Tp, v_TpL, v_jSeq, v_jEnum, v_jRg, v_jRg2, v_For, v_Call, v_xNil, v_xCons, v_xSrc, v_Mut, S.wipe, wipeS, S.rest, restS, backS, List.set_cons_zero, List.set_cons_succ, List.getElem?_cons_zero, List.getElem?_cons_succ, List.any_cons, List.any_nil, Slot.isSrc, if_true, Bool.or_false, Bool.false_or, Bool.or_true, Bool.true_or, true_or, or_true, List.length_cons, List.length_nil, Bool.false_eq_true, if_false, reduceIte, reduceCtorEq, gLt_int, z, decide_true]
  · have m0 : 0 < m := by omega
    obtain ⟨s1, hw⟩ := pick2_while m _ s rfl
    unfold wC wB at hw
    by_cases o : 1 < s1.left
    · refine ⟨s1.left % m, uLeft (s1.left / m) s1, g_of (ss := [.src, .v (.int m), .no, .no, .no, .no]) (ss' := [.src, .v (.int m), .cel, .v (.int s1.left), .no, .no]) rfl ?_, Int.emod_nonneg _ (by omega), fun _ => Int.emod_lt_of_pos _ m0, fun h => absurd h z⟩
      unfold pick2
      simp only [v_GetS, v_Cel, v_CelLen, v_CelPop, v_PutS, v_C, v_Var, v_Mv, v_Pk, v_O, v_F, v_B, v_m1, v_m2, still_v, still_t, still_s, d_v, d_t, d_s, v_Seq, v_Nil, v_If, v_Set, v_Ret, v_Drop, v_Asg, v_Par2, v_Par3, v_And, v_Or, v_Not, v_IfE, v_Yes, v_nil, v_cons, v_tup, v_lst, v_N, v_Nl, v_Cn, v_Tp, v_TpL, v_jSeq, v_jEnum, v_jRg, v_jRg2, v_For, v_Call, v_xNil, v_xCons, v_xSrc, v_Mut, S.wipe, wipeS, S.rest, restS, backS, List.set_cons_zero, List.set_cons_succ, List.getElem?_cons_zero, List.getElem?_cons_succ, List.any_cons, List.any_nil, Slot.isSrc, if_true, Bool.or_false, Bool.false_or, Bool.or_true, Bool.true_or, true_or, or_true, List.length_cons, List.length_nil, Bool.false_eq_true, if_false, reduceIte, reduceCtorEq, gLt_int, gGt_int, z, decide_false, hw, o, decide_true, gDiv_int m0 hm, gMod_int m0, gInt_int]
    · have q1 : (0 : Int) < 998244353 := by decide
      have q2 : (0 : Int) < 2147483647 := by decide
      have q3 : (0 : Int) < 16 := by decide
      have q4 : (16 : Int) < 1073741824 := by decide
      have a1 := Int.emod_nonneg (s1.mixed + (s1.turn + 1) * 104729) (show (998244353 : Int) ≠ 0 by decide)
      have a2 := Int.emod_lt_of_pos (s1.mixed + (s1.turn + 1) * 104729) q1
      have mm := mulOk_l (a := (s1.mixed + (s1.turn + 1) * 104729) % 998244353) (b := (s1.mixed + (s1.turn + 1) * 104729) % 998244353) (by omega) (by omega)
      refine ⟨((((s1.mixed + (s1.turn + 1) * 104729) % 998244353) * ((s1.mixed + (s1.turn + 1) * 104729) % 998244353) + (s1.turn + 1) * 17) % 2147483647 / 16) % m, uTurn (s1.turn + 1) s1, g_of (ss := [.src, .v (.int m), .no, .no, .no, .no]) (ss' := [.src, .v (.int m), .cel, .v (.int s1.left), .v (.int (s1.turn + 1)), .v (.int ((((s1.mixed + (s1.turn + 1) * 104729) % 998244353) * ((s1.mixed + (s1.turn + 1) * 104729) % 998244353) + (s1.turn + 1) * 17) % 2147483647))]) rfl ?_, Int.emod_nonneg _ (by omega), fun _ => Int.emod_lt_of_pos _ m0, fun h => absurd h z⟩
      unfold pick2
      simp only [v_GetS, v_Cel, v_CelLen, v_CelPop, v_PutS, v_C, v_Var, v_Mv, v_Pk, v_O, v_F, v_B, v_m1, v_m2, still_v, still_t, still_s, d_v, d_t, d_s, v_Seq, v_Nil, v_If, v_Set, v_Ret, v_Drop, v_Asg, v_Par2, v_Par3, v_And, v_Or, v_Not, v_IfE, v_Yes, v_nil, v_cons, v_tup, v_lst, v_N, v_Nl, v_Cn, v_Tp, v_TpL, v_jSeq, v_jEnum, v_jRg, v_jRg2, v_For, v_Call, v_xNil, v_xCons, v_xSrc, v_Mut, S.wipe, wipeS, S.rest, restS, backS, List.set_cons_zero, List.set_cons_succ, List.getElem?_cons_zero, List.getElem?_cons_succ, List.any_cons, List.any_nil, Slot.isSrc, if_true, Bool.or_false, Bool.false_or, Bool.or_true, Bool.true_or, true_or, or_true, List.length_cons, List.length_nil, Bool.false_eq_true, if_false, reduceIte, reduceCtorEq, gLt_int, gGt_int, z, decide_false, hw, o, decide_true, gDiv_int q3 q4, gMod_int m0, gMod_int q1, gMod_int q2, gInt_int, gAdd_int, gMul_int mm, gMul_int (mulOk_r (a := s1.turn + 1) (b := 104729) (by decide) (by decide)), gMul_int (mulOk_r (a := s1.turn + 1) (b := 17) (by decide) (by decide)), uTurn]
end Pd
end
section
set_option linter.all false
set_option maxRecDepth 100000
/-! Pd, part W: what repr takes. -/
namespace Pd
open PySem PySem.Spec PyProof.Rows L2
structure Sh (k w : Nat) (d : PyData) : Prop where
  lay : PyData.canLay0 d = true
  short : PyData.intsShort 13 d = true
  sh : PyData.showable d = true
  dep : PyData.depth d ≤ k
  wt : PyData.weight d ≤ w
  nd : PyData.hasDict d = false
theorem log_40 {m : Nat} (h : m < 2 ^ 40) : m.log2 < 40 := by
  by_cases z : m = 0
  · subst z
    decide
  · exact (Nat.log2_lt z).mpr h
theorem Sh.int {i : Int} (h1 : -999999999999 ≤ i) (h2 : i ≤ 999999999999) : Sh 0 40 (.int i) := by
  have h3 := log_40 (m := i.natAbs) (by
    have : (2 : Nat) ^ 40 = 1099511627776 := by decide
    omega)
  refine ⟨by simp [PyData.canLay0], ?_, ?_, by simp [PyData.depth], ?_, by simp [PyData.hasDict]⟩
  · simp only [PyData.intsShort, decide_eq_true_eq]
    exact PyData.shown_int_le2 h1 h2
  · simp only [PyData.showable, decide_eq_true_eq]
    omega
  · simp only [PyData.weight]
    split
    · omega
    · omega
theorem Sh.all {k w : Nat} : ∀ {xs : List PyData}, (∀ x ∈ xs, Sh k w x) → PyData.canLayAll0 xs = true ∧ PyData.intsShortAll 13 xs = true ∧ PyData.showableAll xs = true ∧ PyData.depthAll xs ≤ k ∧ PyData.weightAll xs ≤ xs.length * (w + 1) ∧ PyData.hasDictAll xs = false
  | [], _ => by simp [PyData.canLayAll0, PyData.intsShortAll, PyData.showableAll, PyData.depthAll, PyData.weightAll, PyData.hasDictAll]
  | x :: xs, h => by
    have hx := h x List.mem_cons_self
    obtain ⟨a, b, c, d, e, f⟩ := Sh.all (xs := xs) fun y hy => h y (List.mem_cons_of_mem _ hy)
    refine ⟨?_, ?_, ?_, ?_, ?_, ?_⟩
    · rw [PyData.canLayAll0, hx.lay, a]
      rfl
    · rw [PyData.intsShortAll, hx.short, b]
      rfl
    · rw [PyData.showableAll, hx.sh, c]
      rfl
    · rw [PyData.depthAll]
      exact Nat.max_le.mpr ⟨hx.dep, d⟩
    · rw [PyData.weightAll, List.length_cons, Nat.add_mul]
      have := hx.wt
      omega
    · rw [PyData.hasDictAll, hx.nd, f]
      rfl
theorem Sh.tup {k w m : Nat} {xs : List PyData} (h : ∀ x ∈ xs, Sh k w x) (hm : xs.length * (w + 1) ≤ m) : Sh (k + 1) m (.tuple xs) := by
  obtain ⟨a, b, c, d, e, f⟩ := Sh.all h
  refine ⟨by rw [PyData.canLay0]; exact a, by rw [PyData.intsShort]; exact b, by rw [PyData.showable]; exact c, ?_, ?_, by rw [PyData.hasDict]; exact f⟩
  · rw [PyData.depth]
    omega
  · rw [PyData.weight]
    omega
theorem Sh.lst {k w m : Nat} {xs : List PyData} (h : ∀ x ∈ xs, Sh k w x) (hm : xs.length * (w + 1) ≤ m) : Sh (k + 1) m (.list xs) := by
  obtain ⟨a, b, c, d, e, f⟩ := Sh.all h
  refine ⟨by rw [PyData.canLay0]; exact a, by rw [PyData.intsShort]; exact b, by rw [PyData.showable]; exact c, ?_, ?_, by rw [PyData.hasDict]; exact f⟩
  · rw [PyData.depth]
    omega
  · rw [PyData.weight]
    omega
theorem Sh.more {k w k' w' : Nat} {d : PyData} (h : Sh k w d) (hk : k ≤ k') (hw : w ≤ w') : Sh k' w' d := ⟨h.lay, h.short, h.sh, Nat.le_trans h.dep hk, Nat.le_trans h.wt hw, h.nd⟩
theorem Sh.ok {k w : Nat} {d : PyData} (h : Sh k w d) (hk : k ≤ 60) (hw : w ≤ 1048576) : reprOk d = true := by
  have e : (2 : Nat) ^ 20 = 1048576 := by decide
  have l : PyData.layable0 d = true := by
    unfold PyData.layable0
    have h1 := h.dep
    have h2 := h.wt
    simp only [h.lay, Bool.true_and, Bool.and_eq_true, decide_eq_true_eq]
    omega
  have s := PyProof.Rows.shown_le13 l h.short
  have h1 := h.dep
  unfold reprOk
  rw [h.sh, h.nd, okLen_of (by omega)]
  simp
  omega
theorem gRepr_ok {k w : Nat} {d : PyData} (h : Sh k w d) (hk : k ≤ 60) (hw : w ≤ 1048576) : gRepr d = some (.v (.str d.shown)) := by
  unfold gRepr
  rw [h.ok hk hw]
  rfl
theorem Sh.lot {l : List Int} (h : ∀ x ∈ l, -999999999999 ≤ x ∧ x ≤ 999999999999) {m : Nat} (hm : l.length * 41 ≤ m) : Sh 1 m (lotD l) := Sh.tup (k := 0) (w := 40) (fun x hx => by
  obtain ⟨i, hi, rfl⟩ := List.mem_map.mp hx
  exact Sh.int (h i hi).1 (h i hi).2) (by rw [List.length_map]; exact hm)
end Pd
end
set_option linter.all false
set_option maxRecDepth 100000
set_option maxHeartbeats 0
/-! the walk of this law, printed by gen.py -/
noncomputable section
namespace K98
open PySem PySem.Spec PyProof.Rows L2 Pd
def top (i : Nat) : Stmt := PySem.Challenge.pw_waysandcuts_k98_whole_two_least_lots.main.body.getD i (.Pass ⟨0, 0, 0, 0⟩)
structure Bl (mg : Str → Option Value) : Prop where
  range : mg "range" = none
  enumerate : mg "enumerate" = none
  tuple : mg "tuple" = none
  len : mg "len" = none
  min : mg "min" = none
  sorted : mg "sorted" = none
  int : mg "int" = none
  max : mg "max" = none
  abs : mg "abs" = none
  repr : mg "repr" = none
abbrev st_proper_side_lots : Stmt := top 1
def m_proper_side_lots : S → RS := (sSeq (sSet 1 (mLst (mCons (mF (mTup mNil)) mNil)))
  (sSeq (sFor (jRg2 (mCons (mF (mC (.int 1))) (mCons (mF (mVar 0)) mNil))) (gN 2) (sSet 1 (m2 gAdd (mPk 1) (mO (mLc (jSeq (mF (mVar 1))) [3] (gN 3) tYesM (mF (m2 gAdd (mPk 3) (mO (mTup (mCons (mF (mVar 2)) mNil))))))))))
  (sRet (mLc (jSeq (mF (mVar 1))) [3] (gN 3) (mB (m2 gNe (mPk 3) (mO (mTup mNil)))) (mF (mVar 3))))))
def g_proper_side_lots : GFn := gOf 4 m_proper_side_lots
abbrev st_side_cut : Stmt := top 2
def m_side_cut : S → RS := (sRet (m1 gTuple (mO (mLc (jEnum (mF (m2 gIx (mPk 0) (mO (mC (.int 1)))))) [2, 3, 4] (gTp (gCn (gN 2) (gCn (gTp (gCn (gN 3) (gCn (gN 4) gNl))) gNl))) (mB (m2 gNe (mO (m2 (gIn false) (mPk 3) (mPk 1))) (mO (m2 (gIn false) (mPk 4) (mPk 1))))) (mF (mVar 2))))))
def g_side_cut : GFn := gOf 5 m_side_cut
abbrev st_held_by_lots : Stmt := top 3
def m_held_by_lots : S → RS := (sRet (m1 gMin (mO (mLc (jSeq (mF (mCall g_proper_side_lots (xCons (mF (m2 gIx (mPk 0) (mO (mC (.int 0))))) xNil)))) [1] (gN 1) tYesM (mF (m1 gLen (mO (mCall g_side_cut (xCons (mF (mVar 0)) (xCons (mF (mVar 1)) xNil))))))))))
def g_held_by_lots : GFn := gOf 2 m_held_by_lots
abbrev st_least_lots : Stmt := top 4
def m_least_lots : S → RS := (sSeq (sSet 1 (mCall g_held_by_lots (xCons (mF (mVar 0)) xNil)))
  (sRet (m1 gTuple (mO (m1 gSorted (mO (mLc (jSeq (mF (mCall g_proper_side_lots (xCons (mF (m2 gIx (mPk 0) (mO (mC (.int 0))))) xNil)))) [2] (gN 2) (mB (m2 gEq (mO (m1 gLen (mO (mCall g_side_cut (xCons (mF (mVar 0)) (xCons (mF (mVar 2)) xNil)))))) (mPk 1))) (mF (mVar 2)))))))))
def g_least_lots : GFn := gOf 3 m_least_lots
abbrev st_lots_cross : Stmt := top 5
def m_lots_cross : S → RS := (sSeq (sSet 2 (mLc (jSeq (mF (mVar 0))) [3] (gN 3) (mB (m2 (gIn false) (mPk 3) (mPk 1))) (mF (mVar 3))))
  (sRet (mAndV (m2 gNe (mPk 2) (mO (mLst mNil))) (mAndV (m2 gLt (mO (m1 gLen (mPk 2))) (mO (m1 gLen (mPk 0)))) (m2 gLt (mO (m1 gLen (mPk 2))) (mO (m1 gLen (mPk 1))))))))
def g_lots_cross : GFn := gOf 4 m_lots_cross
abbrev st_crossing_lots : Stmt := top 6
def m_crossing_lots : S → RS := (sSeq (sPar2 1 2 (mCall g_least_lots (xCons (mF (mVar 0)) xNil)) (mLst mNil))
  (sSeq (sFor (jEnum (mF (mVar 1))) (gTp (gCn (gN 3) (gCn (gN 4) gNl))) (sSet 2 (m2 gAdd (mPk 2) (mO (mLc (jSeq (mF (mSl (mPk 1) (mP (m2 gAdd (mPk 3) (mO (mC (.int 1))))) mNoP))) [5] (gN 5) (mB (mCall g_lots_cross (xCons (mF (mVar 4)) (xCons (mF (mVar 5)) xNil)))) (mF (mTup (mCons (mF (mVar 4)) (mCons (mF (mVar 5)) mNil)))))))))
  (sRet (m1 gTuple (mPk 2)))))
def g_crossing_lots : GFn := gOf 6 m_crossing_lots
abbrev st_law_links : Stmt := top 16
def m_law_links : S → RS := (sRet (m1 gLen (mO (mLc (jSeq (mF (m2 gIx (mPk 0) (mO (mC (.int 1)))))) [3, 4] (gTp (gCn (gN 3) (gCn (gN 4) gNl))) (mOr (mAnd (mB (m2 (gIn false) (mPk 3) (mPk 1))) (mB (m2 (gIn false) (mPk 4) (mPk 2)))) (mAnd (mB (m2 (gIn false) (mPk 3) (mPk 2))) (mB (m2 (gIn false) (mPk 4) (mPk 1))))) (mF (mC (.int 1)))))))
def g_law_links : GFn := gOf 5 m_law_links
abbrev st_law_both : Stmt := top 15
def m_law_both : S → RS := (sRet (mLst (mCons (mF (mTup (mCons (mF (mC (.bool true))) (mCons (mF (mC (.bool true))) mNil)))) (mCons (mF (mTup (mCons (mF (mC (.bool true))) (mCons (mF (mC (.bool false))) mNil)))) (mCons (mF (mTup (mCons (mF (mC (.bool false))) (mCons (mF (mC (.bool true))) mNil)))) (mCons (mF (mTup (mCons (mF (mC (.bool false))) (mCons (mF (mC (.bool false))) mNil)))) mNil))))))
def g_law_both : GFn := gOf 0 m_law_both
abbrev st_law_all_lots : Stmt := top 11
def m_law_all_lots : S → RS := (sSeq (sSet 1 (mLst (mCons (mF (mTup mNil)) mNil)))
  (sSeq (sFor (jRg2 (mCons (mF (mC (.int 1))) (mCons (mF (mVar 0)) mNil))) (gN 2) (sSet 1 (m2 gAdd (mPk 1) (mO (mLc (jSeq (mF (mVar 1))) [3] (gN 3) tYesM (mF (m2 gAdd (mPk 3) (mO (mTup (mCons (mF (mVar 2)) mNil))))))))))
  (sRet (m1 gSorted (mO (mLc (jSeq (mF (mVar 1))) [3] (gN 3) (mB (m2 gNe (mPk 3) (mO (mTup mNil)))) (mF (mVar 3))))))))
def g_law_all_lots : GFn := gOf 4 m_law_all_lots
abbrev st_law_cut : Stmt := top 12
def m_law_cut : S → RS := (sRet (mLc (jEnum (mF (m2 gIx (mPk 0) (mO (mC (.int 1)))))) [2, 3, 4] (gTp (gCn (gN 2) (gCn (gTp (gCn (gN 3) (gCn (gN 4) gNl))) gNl))) (mB (m2 gNe (mO (m2 (gIn false) (mPk 3) (mPk 1))) (mO (m2 (gIn false) (mPk 4) (mPk 1))))) (mF (mVar 2))))
def g_law_cut : GFn := gOf 5 m_law_cut
abbrev st_law_least : Stmt := top 13
def m_law_least : S → RS := (sSeq (sSet 1 (mLc (jSeq (mF (mCall g_law_all_lots (xCons (mF (m2 gIx (mPk 0) (mO (mC (.int 0))))) xNil)))) [3] (gN 3) tYesM (mF (mTup (mCons (mF (m1 gLen (mO (mCall g_law_cut (xCons (mF (mVar 0)) (xCons (mF (mVar 3)) xNil)))))) (mCons (mF (mVar 3)) mNil))))))
  (sSeq (sSet 2 (m1 gMin (mO (mLc (jSeq (mF (mVar 1))) [4, 3] (gTp (gCn (gN 4) (gCn (gN 3) gNl))) tYesM (mF (mVar 4))))))
  (sRet (mTup (mCons (mF (mVar 2)) (mCons (mF (mLc (jSeq (mF (mVar 1))) [4, 3] (gTp (gCn (gN 4) (gCn (gN 3) gNl))) (mB (m2 gEq (mPk 4) (mPk 2))) (mF (mVar 3)))) mNil))))))
def g_law_least : GFn := gOf 5 m_law_least
abbrev st_law_pick : Stmt := top 9
def m_law_pick : S → RS := (sSeq (sIf (mB (m2 gLt (mPk 1) (mO (mC (.int 2))))) (sRet (mC (.int 0))) sNil)
  (sSeq (sSet 2 (mCel (mVar 0)))
  (sSeq (sWhile (mAnd (mB (m2 gLt (mO (mGetS Src.left (mVar 0))) (mO (mC (.int 2))))) (mB (m2 gGt (mO (mCelLen (mVar 2))) (mO (mC (.int 0)))))) (sPutS uLeft (mVar 0) (mF (mCelPop (mVar 2)))))
  (sSeq (sSet 3 (mGetS Src.left (mVar 0)))
  (sSeq (sIf (mB (m2 gGt (mPk 3) (mO (mC (.int 1))))) (sSeq (sPutS uLeft (mVar 0) (mF (m2 gDiv (mPk 3) (mPk 1))))
  (sRet (m2 gMod (mO (m1 gInt (mPk 3))) (mPk 1)))) sNil)
  (sSeq (sPutS uTurn (mVar 0) (mF (m2 gAdd (mO (mGetS Src.turn (mVar 0))) (mO (mC (.int 1))))))
  (sSeq (sSet 4 (mGetS Src.turn (mVar 0)))
  (sSeq (sSet 5 (m2 gMod (mO (m1 gInt (mO (m2 gAdd (mO (mGetS Src.mixed (mVar 0))) (mO (m2 gMul (mPk 4) (mO (mC (.int 104729))))))))) (mO (mC (.int 998244353)))))
  (sSeq (sSet 5 (m2 gMod (mO (m1 gInt (mO (m2 gAdd (mO (m2 gMul (mPk 5) (mPk 5))) (mO (m2 gMul (mPk 4) (mO (mC (.int 17))))))))) (mO (mC (.int 2147483647)))))
  (sRet (m2 gMod (mO (m1 gInt (mO (m2 gDiv (mPk 5) (mO (mC (.int 16))))))) (mPk 1))))))))))))
def g_law_pick : GFn := gOf 6 m_law_pick
abbrev st_law_draw_net : Stmt := top 14
def m_law_draw_net : S → RS := (sSeq (sAsg (mF (mTup (mCons (mF (m2 gAdd (mO (mC (.int 2))) (mO (mCall g_law_pick (xSrc 0 (xCons (mF (m2 gSub (mPk 1) (mO (mC (.int 1))))) xNil)))))) (mCons (mF (mCall g_law_pick (xSrc 0 (xCons (mF (mC (.int 4))) xNil)))) (mCons (mF (mLst mNil)) mNil))))) (gTp (gCn (gN 2) (gCn (gN 3) (gCn (gN 4) gNl)))))
  (sSeq (sIf (mAnd (mB (m2 gEq (mPk 3) (mO (mC (.int 0))))) (mB (m2 gGt (mPk 2) (mO (mC (.int 2)))))) (sSet 4 (mLc (jRg (mCons (mF (mVar 2)) mNil)) [8] (gN 8) tYesM (mF (m1 gTuple (mO (m1 gSorted (mO (mLst (mCons (mF (mVar 8)) (mCons (mF (m2 gMod (mO (m1 gInt (mO (m2 gAdd (mPk 8) (mO (mC (.int 1))))))) (mPk 2))) mNil)))))))))) sNil)
  (sSeq (sFor (jRg (mCons (mF (mCall g_law_pick (xSrc 0 (xCons (mF (mIf (mB (m2 gGt (mPk 3) (mO (mC (.int 0))))) (m2 gSub (mO (m2 gMul (mO (mC (.int 3))) (mPk 2))) (mO (mC (.int 2)))) (mC (.int 3)))) xNil)))) mNil)) (gN 5) (sSeq (sSet 6 (mCall g_law_pick (xSrc 0 (xCons (mF (mVar 2)) xNil))))
  (sSeq (sSet 7 (mCall g_law_pick (xSrc 0 (xCons (mF (mVar 2)) xNil))))
  (sSeq (sIf (mAnd (mB (m2 gEq (mPk 3) (mO (mC (.int 3))))) (mAnd (mB (m2 gNe (mO (m2 gLt (mPk 6) (mO (m2 gDiv (mPk 2) (mO (mC (.int 2))))))) (mO (m2 gLt (mPk 7) (mO (m2 gDiv (mPk 2) (mO (mC (.int 2))))))))) (mB (m2 gGt (mO (mCall g_law_pick (xSrc 0 (xCons (mF (mC (.int 3))) xNil)))) (mO (mC (.int 0))))))) (sSet 7 (mVar 6)) sNil)
  (sSet 4 (m2 gAdd (mPk 4) (mO (mIf (mB (m2 gNe (mPk 6) (mPk 7))) (mLst (mCons (mF (mTup (mCons (mF (m2 gMin2 (mPk 6) (mPk 7))) (mCons (mF (m2 gMax2 (mPk 6) (mPk 7))) mNil)))) mNil)) (mLst mNil)))))))))
  (sRet (mTup (mCons (mF (mVar 2)) (mCons (mF (m1 gTuple (mO (m1 gSorted (mPk 4))))) mNil)))))))
def g_law_draw_net : GFn := gOf 9 m_law_draw_net
abbrev st_law_open_cells : Stmt := top 8
def m_law_open_cells : S → RS := (sSeq (sSet 1 (mC (.int 11)))
  (sSeq (sFor (jScr 0) (gN 2) (sSet 1 (m2 gMod (mO (m1 gInt (mO (m2 gAdd (mO (m2 gAdd (mO (m2 gMul (mPk 1) (mO (mC (.int 69069))))) (mO (m2 gMul (mPk 2) (mO (mC (.int 31))))))) (mO (mC (.int 5))))))) (mO (mC (.int 2147483629))))))
  (sSeq (sSet 3 (mLc (jScr 0) [2] (gN 2) tYesM (mF (m1 gAbs (mPk 2)))))
  (sRet (mNewS (m1 gRev (mPk 3)) (mF (mC (.int 1))) (mF (mVar 1)) (mF (mC (.int 0))))))))
def g_law_open_cells : GFn := gOf 4 m_law_open_cells
abbrev st_law : Stmt := top 17
def m_law : S → RS := (sSeq (sSet 1 (mCall g_law_open_cells (xSrc 0 xNil)))
  (sSeq (sFor (jRg (mCons (mF (mC (.int 4))) mNil)) (gN 2) (sSeq (sSet 3 (mCall g_law_draw_net (xSrc 1 (xCons (mF (m2 gIx (mO (mLst (mCons (mF (mC (.int 4))) (mCons (mF (mC (.int 5))) (mCons (mF (mC (.int 6))) (mCons (mF (mC (.int 6))) mNil)))))) (mPk 2))) xNil))))
  (sSeq (sAsg (mF (mTup (mCons (mF (m2 gIx (mPk 3) (mO (mC (.int 0))))) (mCons (mF (mCall g_law_least (xCons (mF (mVar 3)) xNil))) mNil)))) (gTp (gCn (gN 4) (gCn (gTp (gCn (gN 5) (gCn (gN 6) gNl))) gNl))))
  (sSeq (sSet 7 (mLst mNil))
  (sSeq (sFor (jEnum (mF (mVar 6))) (gTp (gCn (gN 8) (gCn (gN 9) gNl))) (sFor (jSeq (mF (mSl (mPk 6) (mP (m2 gAdd (mPk 8) (mO (mC (.int 1))))) mNoP))) (gN 10) (sSeq (sSet 11 (mLc (jSeq (mF (mCall g_law_both xNil))) [18, 19] (gTp (gCn (gN 18) (gCn (gN 19) gNl))) tYesM (mF (mLc (jRg (mCons (mF (mVar 4)) mNil)) [20] (gN 20) (mAnd (mB (m2 gEq (mO (m2 (gIn false) (mPk 20) (mPk 9))) (mPk 18))) (mB (m2 gEq (mO (m2 (gIn false) (mPk 20) (mPk 10))) (mPk 19)))) (mF (mVar 20))))))
  (sSeq (sIf (mB (m2 (gIn false) (mO (mLst mNil)) (mPk 11))) (fun st => .ct st) sNil)
  (sSeq (sDrop (mMut gApp 7 (mCons (mF (mTup (mCons (mF (mVar 9)) (mCons (mF (mVar 10)) mNil)))) mNil)))
  (sSeq (sAsg (mF (mVar 11)) (gTp (gCn (gN 12) (gCn (gN 13) (gCn (gN 14) (gCn (gN 15) gNl))))))
  (sSeq (sSet 16 (m1 gTuple (mO (m1 gSorted (mO (m2 gAdd (mO (m2 gAdd (mPk 12) (mPk 13))) (mPk 14)))))))
  (sSeq (sIf (mB (m2 gNe (mO (mLc (jSeq (mF (mTup (mCons (mF (m1 gTuple (mPk 12))) (mCons (mF (m1 gTuple (mPk 13))) (mCons (mF (m1 gTuple (mPk 14))) (mCons (mF (mVar 16)) mNil))))))) [21] (gN 21) (mB (m2 (gIn true) (mPk 21) (mPk 6))) (mF (mVar 21)))) (mO (mLst mNil)))) (sRet (mC (.bool false))) sNil)
  (sSeq (sIf (mOr (mB (m2 gNe (mO (mCall g_law_links (xCons (mF (mVar 3)) (xCons (mF (mVar 12)) (xCons (mF (mVar 15)) xNil))))) (mO (mC (.int 0))))) (mB (m2 gNe (mO (mCall g_law_links (xCons (mF (mVar 3)) (xCons (mF (mVar 13)) (xCons (mF (mVar 14)) xNil))))) (mO (mC (.int 0)))))) (sRet (mC (.bool false))) sNil)
  (sSeq (sSet 17 (mLst (mCons (mF (mTup (mCons (mF (mVar 12)) (mCons (mF (mVar 13)) mNil)))) (mCons (mF (mTup (mCons (mF (mVar 12)) (mCons (mF (mVar 14)) mNil)))) (mCons (mF (mTup (mCons (mF (mVar 13)) (mCons (mF (mVar 15)) mNil)))) (mCons (mF (mTup (mCons (mF (mVar 14)) (mCons (mF (mVar 15)) mNil)))) mNil))))))
  (sIf (mB (m2 gNe (mO (mLc (jSeq (mF (mVar 17))) [22, 23] (gTp (gCn (gN 22) (gCn (gN 23) gNl))) (mB (m2 gNe (mO (m2 gMul (mO (mC (.int 2))) (mO (mCall g_law_links (xCons (mF (mVar 3)) (xCons (mF (mVar 22)) (xCons (mF (mVar 23)) xNil))))))) (mPk 5))) (mF (mC (.int 1))))) (mO (mLst mNil)))) (sRet (mC (.bool false))) sNil)))))))))))
  (sSeq (sIf (mOr (mB (m2 gNe (mO (m1 gRepr (mO (mCall g_crossing_lots (xCons (mF (mVar 3)) xNil))))) (mO (m1 gRepr (mO (m1 gTuple (mPk 7))))))) (mAnd (mB (m2 gEq (mO (m2 gMod (mO (m1 gInt (mPk 5))) (mO (mC (.int 2))))) (mO (mC (.int 1))))) (mB (m2 gNe (mPk 7) (mO (mLst mNil)))))) (sRet (mC (.bool false))) sNil)
  (sIf (mB (m2 gNe (mO (m1 gRepr (mO (mLst (mCons (mF (mCall g_held_by_lots (xCons (mF (mVar 3)) xNil))) (mCons (mF (mCall g_least_lots (xCons (mF (mVar 3)) xNil))) mNil)))))) (mO (m1 gRepr (mO (mLst (mCons (mF (mVar 5)) (mCons (mF (m1 gTuple (mPk 6))) mNil)))))))) (sRet (mC (.bool false))) sNil)))))))
  (sRet (mC (.bool true)))))
def g_law : GFn := gOf 24 m_law
section
variable {P : Program} {w : World} {K : PySem.W.Frag} {mg : Str → Option Value} {base : Heap} {f : Addr} {fd : FuncData}
theorem sc_proper_side_lots : FnScope ["n", "found", "station", "lot"] ["n"] (defScope st_proper_side_lots) := ⟨rfl, rfl, rfl, by decide +kernel, rfl, by decide +kernel, by decide +kernel⟩
theorem ok_proper_side_lots (F : FunD K "proper_side_lots" "proper_side_lots" (defArgs st_proper_side_lots) (defBody st_proper_side_lots) (defScope st_proper_side_lots) [] [] f fd) (bl : Bl mg)  : FnG P w K mg base 1 f fd ["n"] (spG K 1 g_proper_side_lots) :=
  have sc := sc_proper_side_lots
  fn_okM (N := ["n", "found", "station", "lot"]) (ps := ["n"]) (m := m_proper_side_lots) F sc fun cd A fr s H E hg hr => by
    have hu6 : (A.deeper (envOfC "proper_side_lots" (defScope st_proper_side_lots) s.heap.objs.size f cd)).units + 66 < cLine := by have := hr.un; omega
    have hu4 : (A.deeper (envOfC "proper_side_lots" (defScope st_proper_side_lots) s.heap.objs.size f cd)).units + 64 < cLine := by have := hr.un; omega
    have hu1 : (A.deeper (envOfC "proper_side_lots" (defScope st_proper_side_lots) s.heap.objs.size f cd)).units + 1 < cLine := by have := hr.un; omega
    exact (b_cons (s_set (i := 1) (ps_set sc.nd rfl (.inl rfl) (d_lst (a_cons (f_of (d_tup a_nil)) a_nil))))
      (b_cons (s_for (idx := [2]) PassesOwn.never rfl (j_rng2 rfl bl.range (a_cons (f_of d_int) (a_cons (f_of (d_var (pe_var (i := 0) rfl (.inl rfl)))) a_nil))) (q_name (pg_name (i := 2) sc.nd rfl (.inr rfl)) (by decide)) (b_one (s_set (i := 1) (ps_set sc.nd rfl (.inl rfl) (d_bin o_add (p_var (pe_var (i := 1) rfl (.inl rfl))) (p_of (d_lc rfl sc.nd (j_seq (f_of (d_var (pe_var (i := 1) rfl (.inl rfl))))) (blkOk_by (own := [("lot", 3)]) (by kernel_rfl)) rfl (fun _ _ _ _ _ => (q_name (pg_name (i := 3) sc.nd rfl (.inl rfl)) (by decide))) (fun _ _ _ _ _ => t_yes) (fun _ _ _ _ _ => (f_of (d_bin o_add (p_var (pe_var (i := 3) rfl (.inl rfl))) (p_of (d_tup (a_cons (f_of (d_var (pe_var (i := 2) rfl (.inr (.inl rfl))))) a_nil)))))))))))))
      (b_one (s_ret (d_lc rfl sc.nd (j_seq (f_of (d_var (pe_var (i := 1) rfl (.inl rfl))))) (blkOk_by (own := [("lot", 3)]) (by kernel_rfl)) rfl (fun _ _ _ _ _ => (q_name (pg_name (i := 3) sc.nd rfl (.inl rfl)) (by decide))) (fun _ _ _ _ _ => (t_one (t_cmp (o_ne hu4) (p_var (pe_var (i := 3) rfl (.inl rfl))) (p_of (d_tup a_nil)) (nomark _)))) (fun _ _ _ _ _ => (f_of (d_var (pe_var (i := 3) rfl (.inl rfl))))))))))
theorem sc_side_cut : FnScope ["net", "lot", "k", "a", "b"] ["net", "lot"] (defScope st_side_cut) := ⟨rfl, rfl, rfl, by decide +kernel, rfl, by decide +kernel, by decide +kernel⟩
theorem ok_side_cut (F : FunD K "side_cut" "side_cut" (defArgs st_side_cut) (defBody st_side_cut) (defScope st_side_cut) [] [] f fd) (bl : Bl mg)  : FnG P w K mg base 1 f fd ["net", "lot"] (spG K 2 g_side_cut) :=
  have sc := sc_side_cut
  fn_okM (N := ["net", "lot", "k", "a", "b"]) (ps := ["net", "lot"]) (m := m_side_cut) F sc fun cd A fr s H E hg hr => by
    have hu6 : (A.deeper (envOfC "side_cut" (defScope st_side_cut) s.heap.objs.size f cd)).units + 66 < cLine := by have := hr.un; omega
    have hu4 : (A.deeper (envOfC "side_cut" (defScope st_side_cut) s.heap.objs.size f cd)).units + 64 < cLine := by have := hr.un; omega
    have hu1 : (A.deeper (envOfC "side_cut" (defScope st_side_cut) s.heap.objs.size f cd)).units + 1 < cLine := by have := hr.un; omega
    exact (b_one (s_ret (d_t1 c_tuple rfl bl.tuple boot_tuple (p_of (d_lc rfl sc.nd (j_enum rfl bl.enumerate (f_of (d_ix (p_var (pe_var (i := 0) rfl (.inl rfl))) (p_of d_int) fun _ _ => rfl))) (blkOk_by (own := [("k", 2), ("a", 3), ("b", 4)]) (by kernel_rfl)) rfl (fun _ _ _ _ _ => (q_tup rfl (q_cons (q_name (pg_name (i := 2) sc.nd rfl (.inl rfl)) (by decide)) (q_cons (q_tup rfl (q_cons (q_name (pg_name (i := 3) sc.nd rfl (.inl rfl)) (by decide)) (q_cons (q_name (pg_name (i := 4) sc.nd rfl (.inl rfl)) (by decide)) q_nil)) (gl_cons (gl_cons gl_nil))) q_nil)) (gl_cons (gl_cons gl_nil)))) (fun _ _ _ _ _ => (t_one (t_cmp (o_ne hu4) (p_of (d_cmp (o_in hu6) (p_var (pe_var (i := 3) rfl (.inl rfl))) (p_var (pe_var (i := 1) rfl (.inr (.inl rfl)))) rfl)) (p_of (d_cmp (o_in hu6) (p_var (pe_var (i := 4) rfl (.inl rfl))) (p_var (pe_var (i := 1) rfl (.inr (.inl rfl)))) rfl)) (nomark _)))) (fun _ _ _ _ _ => (f_of (d_var (pe_var (i := 2) rfl (.inl rfl))))))))))
theorem sc_held_by_lots : FnScope ["net", "lot"] ["net"] (defScope st_held_by_lots) := ⟨rfl, rfl, rfl, by decide +kernel, rfl, by decide +kernel, by decide +kernel⟩
theorem ok_held_by_lots (F : FunD K "held_by_lots" "held_by_lots" (defArgs st_held_by_lots) (defBody st_held_by_lots) (defScope st_held_by_lots) [] [] f fd) (bl : Bl mg) (Dproper_side_lots : Def P w K mg base 1 1 "proper_side_lots" g_proper_side_lots) (Dside_cut : Def P w K mg base 1 2 "side_cut" g_side_cut) : FnG P w K mg base 2 f fd ["net"] (spG K 1 g_held_by_lots) :=
  have sc := sc_held_by_lots
  fn_okM (N := ["net", "lot"]) (ps := ["net"]) (m := m_held_by_lots) F sc fun cd A fr s H E hg hr => by
    have hu6 : (A.deeper (envOfC "held_by_lots" (defScope st_held_by_lots) s.heap.objs.size f cd)).units + 66 < cLine := by have := hr.un; omega
    have hu4 : (A.deeper (envOfC "held_by_lots" (defScope st_held_by_lots) s.heap.objs.size f cd)).units + 64 < cLine := by have := hr.un; omega
    have hu1 : (A.deeper (envOfC "held_by_lots" (defScope st_held_by_lots) s.heap.objs.size f cd)).units + 1 < cLine := by have := hr.un; omega
    exact (b_one (s_ret (d_b1 (c_min rfl hu4) rfl bl.min boot_min (p_of (d_lc rfl sc.nd (j_seq (f_of (d_call Dproper_side_lots hg (hr.mono (by decide)) rfl (x_cons (f_of (d_ix (p_var (pe_var (i := 0) rfl (.inr (.inl rfl)))) (p_of d_int) fun _ _ => rfl)) x_nil) (xn_cons xn_nil)))) (blkOk_by (own := [("lot", 1)]) (by kernel_rfl)) rfl (fun _ _ _ _ _ => (q_name (pg_name (i := 1) sc.nd rfl (.inl rfl)) (by decide))) (fun _ _ _ _ _ => t_yes) (fun _ _ _ _ _ => (f_of (d_b1 c_len rfl bl.len boot_len (p_of (d_call Dside_cut hg (hr.mono (by decide)) rfl (x_cons (f_of (d_var (pe_var (i := 0) rfl (.inr (.inl rfl))))) (x_cons (f_of (d_var (pe_var (i := 1) rfl (.inl rfl)))) x_nil)) (xn_cons (xn_cons xn_nil))))))))))))
theorem sc_least_lots : FnScope ["net", "held", "lot"] ["net"] (defScope st_least_lots) := ⟨rfl, rfl, rfl, by decide +kernel, rfl, by decide +kernel, by decide +kernel⟩
theorem ok_least_lots (F : FunD K "least_lots" "least_lots" (defArgs st_least_lots) (defBody st_least_lots) (defScope st_least_lots) [] [] f fd) (bl : Bl mg) (Dproper_side_lots : Def P w K mg base 1 1 "proper_side_lots" g_proper_side_lots) (Dside_cut : Def P w K mg base 1 2 "side_cut" g_side_cut) (Dheld_by_lots : Def P w K mg base 2 1 "held_by_lots" g_held_by_lots) : FnG P w K mg base 3 f fd ["net"] (spG K 1 g_least_lots) :=
  have sc := sc_least_lots
  fn_okM (N := ["net", "held", "lot"]) (ps := ["net"]) (m := m_least_lots) F sc fun cd A fr s H E hg hr => by
    have hu6 : (A.deeper (envOfC "least_lots" (defScope st_least_lots) s.heap.objs.size f cd)).units + 66 < cLine := by have := hr.un; omega
    have hu4 : (A.deeper (envOfC "least_lots" (defScope st_least_lots) s.heap.objs.size f cd)).units + 64 < cLine := by have := hr.un; omega
    have hu1 : (A.deeper (envOfC "least_lots" (defScope st_least_lots) s.heap.objs.size f cd)).units + 1 < cLine := by have := hr.un; omega
    exact (b_cons (s_set (i := 1) (ps_set sc.nd rfl (.inr rfl) (d_call Dheld_by_lots hg (hr.mono (by decide)) rfl (x_cons (f_of (d_var (pe_var (i := 0) rfl (.inr (.inl rfl))))) x_nil) (xn_cons xn_nil))))
      (b_one (s_ret (d_t1 c_tuple rfl bl.tuple boot_tuple (p_of (d_b1 (c_sorted hu6) rfl bl.sorted boot_sorted (p_of (d_lc rfl sc.nd (j_seq (f_of (d_call Dproper_side_lots hg (hr.mono (by decide)) rfl (x_cons (f_of (d_ix (p_var (pe_var (i := 0) rfl (.inr (.inl rfl)))) (p_of d_int) fun _ _ => rfl)) x_nil) (xn_cons xn_nil)))) (blkOk_by (own := [("lot", 2)]) (by kernel_rfl)) rfl (fun _ _ _ _ _ => (q_name (pg_name (i := 2) sc.nd rfl (.inl rfl)) (by decide))) (fun _ _ _ _ _ => (t_one (t_cmp (o_eq hu4) (p_of (d_b1 c_len rfl bl.len boot_len (p_of (d_call Dside_cut hg (hr.mono (by decide)) rfl (x_cons (f_of (d_var (pe_var (i := 0) rfl (.inr (.inl rfl))))) (x_cons (f_of (d_var (pe_var (i := 2) rfl (.inl rfl)))) x_nil)) (xn_cons (xn_cons xn_nil)))))) (p_var (pe_var (i := 1) rfl (.inr (.inl rfl)))) (nomark _)))) (fun _ _ _ _ _ => (f_of (d_var (pe_var (i := 2) rfl (.inl rfl)))))))))))))
theorem sc_lots_cross : FnScope ["one", "other", "both", "x"] ["one", "other"] (defScope st_lots_cross) := ⟨rfl, rfl, rfl, by decide +kernel, rfl, by decide +kernel, by decide +kernel⟩
theorem ok_lots_cross (F : FunD K "lots_cross" "lots_cross" (defArgs st_lots_cross) (defBody st_lots_cross) (defScope st_lots_cross) [] [] f fd) (bl : Bl mg)  : FnG P w K mg base 1 f fd ["one", "other"] (spG K 2 g_lots_cross) :=
  have sc := sc_lots_cross
  fn_okM (N := ["one", "other", "both", "x"]) (ps := ["one", "other"]) (m := m_lots_cross) F sc fun cd A fr s H E hg hr => by
    have hu6 : (A.deeper (envOfC "lots_cross" (defScope st_lots_cross) s.heap.objs.size f cd)).units + 66 < cLine := by have := hr.un; omega
    have hu4 : (A.deeper (envOfC "lots_cross" (defScope st_lots_cross) s.heap.objs.size f cd)).units + 64 < cLine := by have := hr.un; omega
    have hu1 : (A.deeper (envOfC "lots_cross" (defScope st_lots_cross) s.heap.objs.size f cd)).units + 1 < cLine := by have := hr.un; omega
    exact (b_cons (s_lc rfl sc.nd rfl rfl (sw_true rfl rfl rfl rfl) (j_seq (f_of (d_var (pe_var (i := 0) rfl (.inl rfl))))) (blkOk_by (own := [("x", 3)]) (by kernel_rfl)) rfl (fun _ _ _ _ _ => (q_name (pg_name (i := 3) sc.nd rfl (.inl rfl)) (by decide))) (fun _ _ _ _ _ => (t_one (t_cmp (o_in hu6) (p_var (pe_var (i := 3) rfl (.inl rfl))) (p_var (pe_var (i := 1) rfl (.inr (.inl rfl)))) rfl))) (fun _ _ _ _ _ => (f_of (d_var (pe_var (i := 3) rfl (.inl rfl))))))
      (b_one (s_ret (d_and (d_cmp (o_ne hu4) (p_var (pe_var (i := 2) rfl (.inl rfl))) (p_of (d_lst a_nil)) (nomark _)) (d_and (d_cmp (o_lt hu4) (p_of (d_b1 c_len rfl bl.len boot_len (p_var (pe_var (i := 2) rfl (.inl rfl))))) (p_of (d_b1 c_len rfl bl.len boot_len (p_var (pe_var (i := 0) rfl (.inl rfl))))) (nomark _)) (d_one (d_cmp (o_lt hu4) (p_of (d_b1 c_len rfl bl.len boot_len (p_var (pe_var (i := 2) rfl (.inl rfl))))) (p_of (d_b1 c_len rfl bl.len boot_len (p_var (pe_var (i := 1) rfl (.inr (.inl rfl)))))) (nomark _))))))))
theorem sc_crossing_lots : FnScope ["net", "lots", "found", "i", "one", "other"] ["net"] (defScope st_crossing_lots) := ⟨rfl, rfl, rfl, by decide +kernel, rfl, by decide +kernel, by decide +kernel⟩
theorem ok_crossing_lots (F : FunD K "crossing_lots" "crossing_lots" (defArgs st_crossing_lots) (defBody st_crossing_lots) (defScope st_crossing_lots) [] [] f fd) (bl : Bl mg) (Dlots_cross : Def P w K mg base 1 2 "lots_cross" g_lots_cross) (Dleast_lots : Def P w K mg base 3 1 "least_lots" g_least_lots) : FnG P w K mg base 4 f fd ["net"] (spG K 1 g_crossing_lots) :=
  have sc := sc_crossing_lots
  fn_okM (N := ["net", "lots", "found", "i", "one", "other"]) (ps := ["net"]) (m := m_crossing_lots) F sc fun cd A fr s H E hg hr => by
    have hu6 : (A.deeper (envOfC "crossing_lots" (defScope st_crossing_lots) s.heap.objs.size f cd)).units + 66 < cLine := by have := hr.un; omega
    have hu4 : (A.deeper (envOfC "crossing_lots" (defScope st_crossing_lots) s.heap.objs.size f cd)).units + 64 < cLine := by have := hr.un; omega
    have hu1 : (A.deeper (envOfC "crossing_lots" (defScope st_crossing_lots) s.heap.objs.size f cd)).units + 1 < cLine := by have := hr.un; omega
    exact (b_cons (s_par2 (by decide) (ps_par (i := 1) (j := 2) rfl sc.nd rfl rfl (by decide) rfl rfl (pa_cons (d_call Dleast_lots hg (hr.mono (by decide)) rfl (x_cons (f_of (d_var (pe_var (i := 0) rfl (.inl rfl)))) x_nil) (xn_cons xn_nil)) (pa_cons (d_lst a_nil) pa_nil)) rfl))
      (b_cons (s_for (idx := [3, 4]) PassesOwn.never rfl (j_enum rfl bl.enumerate (f_of (d_var (pe_var (i := 1) rfl (.inl rfl))))) (q_tup rfl (q_cons (q_name (pg_name (i := 3) sc.nd rfl (.inl rfl)) (by decide)) (q_cons (q_name (pg_name (i := 4) sc.nd rfl (.inr rfl)) (by decide)) q_nil)) (gl_cons (gl_cons gl_nil))) (b_one (s_set (i := 2) (ps_set sc.nd rfl (.inl rfl) (d_bin o_add (p_var (pe_var (i := 2) rfl (.inl rfl))) (p_of (d_lc rfl sc.nd (j_seq (f_of (d_sl (p_var (pe_var (i := 1) rfl (.inl rfl))) (o_some (d_bin o_add (p_var (pe_var (i := 3) rfl (.inl rfl))) (p_of d_int))) o_none))) (blkOk_by (own := [("other", 5)]) (by kernel_rfl)) rfl (fun _ _ _ _ _ => (q_name (pg_name (i := 5) sc.nd rfl (.inl rfl)) (by decide))) (fun _ _ _ _ _ => (t_one (t_val (d_call Dlots_cross hg (hr.mono (by decide)) rfl (x_cons (f_of (d_var (pe_var (i := 4) rfl (.inr (.inl rfl))))) (x_cons (f_of (d_var (pe_var (i := 5) rfl (.inl rfl)))) x_nil)) (xn_cons (xn_cons xn_nil)))))) (fun _ _ _ _ _ => (f_of (d_tup (a_cons (f_of (d_var (pe_var (i := 4) rfl (.inr (.inl rfl))))) (a_cons (f_of (d_var (pe_var (i := 5) rfl (.inl rfl)))) a_nil))))))))))))
      (b_one (s_ret (d_t1 c_tuple rfl bl.tuple boot_tuple (p_var (pe_var (i := 2) rfl (.inl rfl))))))))
theorem sc_law_links : FnScope ["net", "here", "there", "a", "b"] ["net", "here", "there"] (defScope st_law_links) := ⟨rfl, rfl, rfl, by decide +kernel, rfl, by decide +kernel, by decide +kernel⟩
theorem ok_law_links (F : FunD K "_law_links" "_law_links" (defArgs st_law_links) (defBody st_law_links) (defScope st_law_links) [] [] f fd) (bl : Bl mg)  : FnG P w K mg base 1 f fd ["net", "here", "there"] (spG K 3 g_law_links) :=
  have sc := sc_law_links
  fn_okM (N := ["net", "here", "there", "a", "b"]) (ps := ["net", "here", "there"]) (m := m_law_links) F sc fun cd A fr s H E hg hr => by
    have hu6 : (A.deeper (envOfC "_law_links" (defScope st_law_links) s.heap.objs.size f cd)).units + 66 < cLine := by have := hr.un; omega
    have hu4 : (A.deeper (envOfC "_law_links" (defScope st_law_links) s.heap.objs.size f cd)).units + 64 < cLine := by have := hr.un; omega
    have hu1 : (A.deeper (envOfC "_law_links" (defScope st_law_links) s.heap.objs.size f cd)).units + 1 < cLine := by have := hr.un; omega
    exact (b_one (s_ret (d_b1 c_len rfl bl.len boot_len (p_of (d_lc rfl sc.nd (j_seq (f_of (d_ix (p_var (pe_var (i := 0) rfl (.inl rfl))) (p_of d_int) fun _ _ => rfl))) (blkOk_by (own := [("a", 3), ("b", 4)]) (by kernel_rfl)) rfl (fun _ _ _ _ _ => (q_tup rfl (q_cons (q_name (pg_name (i := 3) sc.nd rfl (.inl rfl)) (by decide)) (q_cons (q_name (pg_name (i := 4) sc.nd rfl (.inl rfl)) (by decide)) q_nil)) (gl_cons (gl_cons gl_nil)))) (fun _ _ _ _ _ => (t_one (PW.pt (w_or (PW.pt (w_and (t_cmp (o_in hu6) (p_var (pe_var (i := 3) rfl (.inl rfl))) (p_var (pe_var (i := 1) rfl (.inr (.inl rfl)))) rfl) (w_and1 (t_cmp (o_in hu6) (p_var (pe_var (i := 4) rfl (.inl rfl))) (p_var (pe_var (i := 2) rfl (.inr (.inl rfl)))) rfl)))) (w_or1 (PW.pt (w_and (t_cmp (o_in hu6) (p_var (pe_var (i := 3) rfl (.inl rfl))) (p_var (pe_var (i := 2) rfl (.inr (.inl rfl)))) rfl) (w_and1 (t_cmp (o_in hu6) (p_var (pe_var (i := 4) rfl (.inl rfl))) (p_var (pe_var (i := 1) rfl (.inr (.inl rfl)))) rfl))))))))) (fun _ _ _ _ _ => (f_of d_int)))))))
theorem sc_law_both : FnScope [] [] (defScope st_law_both) := ⟨rfl, rfl, rfl, by decide +kernel, rfl, by decide +kernel, by decide +kernel⟩
theorem ok_law_both (F : FunD K "_law_both" "_law_both" (defArgs st_law_both) (defBody st_law_both) (defScope st_law_both) [] [] f fd) (bl : Bl mg)  : FnG P w K mg base 1 f fd [] (spG K 0 g_law_both) :=
  have sc := sc_law_both
  fn_okM (N := []) (ps := []) (m := m_law_both) F sc fun cd A fr s H E hg hr => by
    have hu6 : (A.deeper (envOfC "_law_both" (defScope st_law_both) s.heap.objs.size f cd)).units + 66 < cLine := by have := hr.un; omega
    have hu4 : (A.deeper (envOfC "_law_both" (defScope st_law_both) s.heap.objs.size f cd)).units + 64 < cLine := by have := hr.un; omega
    have hu1 : (A.deeper (envOfC "_law_both" (defScope st_law_both) s.heap.objs.size f cd)).units + 1 < cLine := by have := hr.un; omega
    exact (b_one (s_ret (d_lst (a_cons (f_of (d_tup (a_cons (f_of d_bl) (a_cons (f_of d_bl) a_nil)))) (a_cons (f_of (d_tup (a_cons (f_of d_bl) (a_cons (f_of d_bl) a_nil)))) (a_cons (f_of (d_tup (a_cons (f_of d_bl) (a_cons (f_of d_bl) a_nil)))) (a_cons (f_of (d_tup (a_cons (f_of d_bl) (a_cons (f_of d_bl) a_nil)))) a_nil)))))))
theorem sc_law_all_lots : FnScope ["n", "found", "station", "lot"] ["n"] (defScope st_law_all_lots) := ⟨rfl, rfl, rfl, by decide +kernel, rfl, by decide +kernel, by decide +kernel⟩
theorem ok_law_all_lots (F : FunD K "_law_all_lots" "_law_all_lots" (defArgs st_law_all_lots) (defBody st_law_all_lots) (defScope st_law_all_lots) [] [] f fd) (bl : Bl mg)  : FnG P w K mg base 1 f fd ["n"] (spG K 1 g_law_all_lots) :=
  have sc := sc_law_all_lots
  fn_okM (N := ["n", "found", "station", "lot"]) (ps := ["n"]) (m := m_law_all_lots) F sc fun cd A fr s H E hg hr => by
    have hu6 : (A.deeper (envOfC "_law_all_lots" (defScope st_law_all_lots) s.heap.objs.size f cd)).units + 66 < cLine := by have := hr.un; omega
    have hu4 : (A.deeper (envOfC "_law_all_lots" (defScope st_law_all_lots) s.heap.objs.size f cd)).units + 64 < cLine := by have := hr.un; omega
    have hu1 : (A.deeper (envOfC "_law_all_lots" (defScope st_law_all_lots) s.heap.objs.size f cd)).units + 1 < cLine := by have := hr.un; omega
    exact (b_cons (s_set (i := 1) (ps_set sc.nd rfl (.inl rfl) (d_lst (a_cons (f_of (d_tup a_nil)) a_nil))))
      (b_cons (s_for (idx := [2]) PassesOwn.never rfl (j_rng2 rfl bl.range (a_cons (f_of d_int) (a_cons (f_of (d_var (pe_var (i := 0) rfl (.inl rfl)))) a_nil))) (q_name (pg_name (i := 2) sc.nd rfl (.inr rfl)) (by decide)) (b_one (s_set (i := 1) (ps_set sc.nd rfl (.inl rfl) (d_bin o_add (p_var (pe_var (i := 1) rfl (.inl rfl))) (p_of (d_lc rfl sc.nd (j_seq (f_of (d_var (pe_var (i := 1) rfl (.inl rfl))))) (blkOk_by (own := [("lot", 3)]) (by kernel_rfl)) rfl (fun _ _ _ _ _ => (q_name (pg_name (i := 3) sc.nd rfl (.inl rfl)) (by decide))) (fun _ _ _ _ _ => t_yes) (fun _ _ _ _ _ => (f_of (d_bin o_add (p_var (pe_var (i := 3) rfl (.inl rfl))) (p_of (d_tup (a_cons (f_of (d_var (pe_var (i := 2) rfl (.inr (.inl rfl))))) a_nil)))))))))))))
      (b_one (s_ret (d_b1 (c_sorted hu6) rfl bl.sorted boot_sorted (p_of (d_lc rfl sc.nd (j_seq (f_of (d_var (pe_var (i := 1) rfl (.inl rfl))))) (blkOk_by (own := [("lot", 3)]) (by kernel_rfl)) rfl (fun _ _ _ _ _ => (q_name (pg_name (i := 3) sc.nd rfl (.inl rfl)) (by decide))) (fun _ _ _ _ _ => (t_one (t_cmp (o_ne hu4) (p_var (pe_var (i := 3) rfl (.inl rfl))) (p_of (d_tup a_nil)) (nomark _)))) (fun _ _ _ _ _ => (f_of (d_var (pe_var (i := 3) rfl (.inl rfl))))))))))))
theorem sc_law_cut : FnScope ["net", "lot", "k", "a", "b"] ["net", "lot"] (defScope st_law_cut) := ⟨rfl, rfl, rfl, by decide +kernel, rfl, by decide +kernel, by decide +kernel⟩
theorem ok_law_cut (F : FunD K "_law_cut" "_law_cut" (defArgs st_law_cut) (defBody st_law_cut) (defScope st_law_cut) [] [] f fd) (bl : Bl mg)  : FnG P w K mg base 1 f fd ["net", "lot"] (spG K 2 g_law_cut) :=
  have sc := sc_law_cut
  fn_okM (N := ["net", "lot", "k", "a", "b"]) (ps := ["net", "lot"]) (m := m_law_cut) F sc fun cd A fr s H E hg hr => by
    have hu6 : (A.deeper (envOfC "_law_cut" (defScope st_law_cut) s.heap.objs.size f cd)).units + 66 < cLine := by have := hr.un; omega
    have hu4 : (A.deeper (envOfC "_law_cut" (defScope st_law_cut) s.heap.objs.size f cd)).units + 64 < cLine := by have := hr.un; omega
    have hu1 : (A.deeper (envOfC "_law_cut" (defScope st_law_cut) s.heap.objs.size f cd)).units + 1 < cLine := by have := hr.un; omega
    exact (b_one (s_ret (d_lc rfl sc.nd (j_enum rfl bl.enumerate (f_of (d_ix (p_var (pe_var (i := 0) rfl (.inl rfl))) (p_of d_int) fun _ _ => rfl))) (blkOk_by (own := [("k", 2), ("a", 3), ("b", 4)]) (by kernel_rfl)) rfl (fun _ _ _ _ _ => (q_tup rfl (q_cons (q_name (pg_name (i := 2) sc.nd rfl (.inl rfl)) (by decide)) (q_cons (q_tup rfl (q_cons (q_name (pg_name (i := 3) sc.nd rfl (.inl rfl)) (by decide)) (q_cons (q_name (pg_name (i := 4) sc.nd rfl (.inl rfl)) (by decide)) q_nil)) (gl_cons (gl_cons gl_nil))) q_nil)) (gl_cons (gl_cons gl_nil)))) (fun _ _ _ _ _ => (t_one (t_cmp (o_ne hu4) (p_of (d_cmp (o_in hu6) (p_var (pe_var (i := 3) rfl (.inl rfl))) (p_var (pe_var (i := 1) rfl (.inr (.inl rfl)))) rfl)) (p_of (d_cmp (o_in hu6) (p_var (pe_var (i := 4) rfl (.inl rfl))) (p_var (pe_var (i := 1) rfl (.inr (.inl rfl)))) rfl)) (nomark _)))) (fun _ _ _ _ _ => (f_of (d_var (pe_var (i := 2) rfl (.inl rfl))))))))
theorem sc_law_least : FnScope ["net", "rows", "held", "lot", "many"] ["net"] (defScope st_law_least) := ⟨rfl, rfl, rfl, by decide +kernel, rfl, by decide +kernel, by decide +kernel⟩
theorem ok_law_least (F : FunD K "_law_least" "_law_least" (defArgs st_law_least) (defBody st_law_least) (defScope st_law_least) [] [] f fd) (bl : Bl mg) (Dlaw_all_lots : Def P w K mg base 1 1 "_law_all_lots" g_law_all_lots) (Dlaw_cut : Def P w K mg base 1 2 "_law_cut" g_law_cut) : FnG P w K mg base 2 f fd ["net"] (spG K 1 g_law_least) :=
  have sc := sc_law_least
  fn_okM (N := ["net", "rows", "held", "lot", "many"]) (ps := ["net"]) (m := m_law_least) F sc fun cd A fr s H E hg hr => by
    have hu6 : (A.deeper (envOfC "_law_least" (defScope st_law_least) s.heap.objs.size f cd)).units + 66 < cLine := by have := hr.un; omega
    have hu4 : (A.deeper (envOfC "_law_least" (defScope st_law_least) s.heap.objs.size f cd)).units + 64 < cLine := by have := hr.un; omega
    have hu1 : (A.deeper (envOfC "_law_least" (defScope st_law_least) s.heap.objs.size f cd)).units + 1 < cLine := by have := hr.un; omega
    exact (b_cons (s_lc rfl sc.nd rfl rfl (sw_true rfl rfl rfl rfl) (j_seq (f_of (d_call Dlaw_all_lots hg (hr.mono (by decide)) rfl (x_cons (f_of (d_ix (p_var (pe_var (i := 0) rfl (.inr (.inl rfl)))) (p_of d_int) fun _ _ => rfl)) x_nil) (xn_cons xn_nil)))) (blkOk_by (own := [("lot", 3)]) (by kernel_rfl)) rfl (fun _ _ _ _ _ => (q_name (pg_name (i := 3) sc.nd rfl (.inl rfl)) (by decide))) (fun _ _ _ _ _ => t_yes) (fun _ _ _ _ _ => (f_of (d_tup (a_cons (f_of (d_b1 c_len rfl bl.len boot_len (p_of (d_call Dlaw_cut hg (hr.mono (by decide)) rfl (x_cons (f_of (d_var (pe_var (i := 0) rfl (.inr (.inl rfl))))) (x_cons (f_of (d_var (pe_var (i := 3) rfl (.inl rfl)))) x_nil)) (xn_cons (xn_cons xn_nil)))))) (a_cons (f_of (d_var (pe_var (i := 3) rfl (.inl rfl)))) a_nil))))))
      (b_cons (s_set (i := 2) (ps_set sc.nd rfl (.inr rfl) (d_b1 (c_min rfl hu4) rfl bl.min boot_min (p_of (d_lc rfl sc.nd (j_seq (f_of (d_var (pe_var (i := 1) rfl (.inl rfl))))) (blkOk_by (own := [("many", 4), ("lot", 3)]) (by kernel_rfl)) rfl (fun _ _ _ _ _ => (q_tup rfl (q_cons (q_name (pg_name (i := 4) sc.nd rfl (.inl rfl)) (by decide)) (q_cons (q_name (pg_name (i := 3) sc.nd rfl (.inl rfl)) (by decide)) q_nil)) (gl_cons (gl_cons gl_nil)))) (fun _ _ _ _ _ => t_yes) (fun _ _ _ _ _ => (f_of (d_var (pe_var (i := 4) rfl (.inl rfl))))))))))
      (b_one (s_ret (d_tup (a_cons (f_of (d_var (pe_var (i := 2) rfl (.inr (.inl rfl))))) (a_cons (f_of (d_lc rfl sc.nd (j_seq (f_of (d_var (pe_var (i := 1) rfl (.inl rfl))))) (blkOk_by (own := [("many", 4), ("lot", 3)]) (by kernel_rfl)) rfl (fun _ _ _ _ _ => (q_tup rfl (q_cons (q_name (pg_name (i := 4) sc.nd rfl (.inl rfl)) (by decide)) (q_cons (q_name (pg_name (i := 3) sc.nd rfl (.inl rfl)) (by decide)) q_nil)) (gl_cons (gl_cons gl_nil)))) (fun _ _ _ _ _ => (t_one (t_cmp (o_eq hu4) (p_var (pe_var (i := 4) rfl (.inl rfl))) (p_var (pe_var (i := 2) rfl (.inr (.inl rfl)))) (nomark _)))) (fun _ _ _ _ _ => (f_of (d_var (pe_var (i := 3) rfl (.inl rfl))))))) a_nil)))))))
theorem sc_law_pick : FnScope ["source", "most", "cells", "others", "lap", "stirred"] ["source", "most"] (defScope st_law_pick) := ⟨rfl, rfl, rfl, by decide +kernel, rfl, by decide +kernel, by decide +kernel⟩
theorem ok_law_pick (F : FunD K "_law_pick" "_law_pick" (defArgs st_law_pick) (defBody st_law_pick) (defScope st_law_pick) [] [] f fd) (bl : Bl mg)  : FnG P w K mg base 1 f fd ["source", "most"] (spG K 2 g_law_pick) :=
  have sc := sc_law_pick
  fn_okM (N := ["source", "most", "cells", "others", "lap", "stirred"]) (ps := ["source", "most"]) (m := m_law_pick) F sc fun cd A fr s H E hg hr => by
    have hu6 : (A.deeper (envOfC "_law_pick" (defScope st_law_pick) s.heap.objs.size f cd)).units + 66 < cLine := by have := hr.un; omega
    have hu4 : (A.deeper (envOfC "_law_pick" (defScope st_law_pick) s.heap.objs.size f cd)).units + 64 < cLine := by have := hr.un; omega
    have hu1 : (A.deeper (envOfC "_law_pick" (defScope st_law_pick) s.heap.objs.size f cd)).units + 1 < cLine := by have := hr.un; omega
    exact (b_cons (s_if (t_cmp (o_lt hu4) (p_var (pe_var (i := 1) rfl (.inl rfl))) (p_of d_int) (nomark _)) (b_one (s_ret d_int)) b_nil)
      (b_cons (s_set (i := 2) (ps_set sc.nd rfl (.inl rfl) (k_cel hu1 (d_var (pe_var (i := 0) rfl (.inl rfl))))))
      (b_cons (s_while PassesOwn.never (PW.pt (w_and (t_cmp (o_lt hu4) (p_of (k_get hu1 key_left (d_var (pe_var (i := 0) rfl (.inl rfl))))) (p_of d_int) (nomark _)) (w_and1 (t_cmp (o_gt hu4) (p_of (k_len rfl bl.len (d_var (pe_var (i := 2) rfl (.inl rfl))))) (p_of d_int) (nomark _))))) (b_one (s_put hu1 key_left (d_var (pe_var (i := 0) rfl (.inl rfl))) (f_of (k_pop (d_var (pe_var (i := 2) rfl (.inl rfl))))))))
      (b_cons (s_set (i := 3) (ps_set sc.nd rfl (.inl rfl) (k_get hu1 key_left (d_var (pe_var (i := 0) rfl (.inl rfl))))))
      (b_cons (s_if (t_cmp (o_gt hu4) (p_var (pe_var (i := 3) rfl (.inl rfl))) (p_of d_int) (nomark _)) (b_cons (s_put hu1 key_left (d_var (pe_var (i := 0) rfl (.inl rfl))) (f_of (d_bin o_div (p_var (pe_var (i := 3) rfl (.inl rfl))) (p_var (pe_var (i := 1) rfl (.inl rfl))))))
      (b_one (s_ret (d_bin o_mod (p_of (d_t1 c_int rfl bl.int boot_int (p_var (pe_var (i := 3) rfl (.inl rfl))))) (p_var (pe_var (i := 1) rfl (.inl rfl))))))) b_nil)
      (b_cons (s_put hu1 key_turn (d_var (pe_var (i := 0) rfl (.inl rfl))) (f_of (d_bin o_add (p_of (k_get hu1 key_turn (d_var (pe_var (i := 0) rfl (.inl rfl))))) (p_of d_int))))
      (b_cons (s_set (i := 4) (ps_set sc.nd rfl (.inl rfl) (k_get hu1 key_turn (d_var (pe_var (i := 0) rfl (.inl rfl))))))
      (b_cons (s_set (i := 5) (ps_set sc.nd rfl (.inl rfl) (d_bin o_mod (p_of (d_t1 c_int rfl bl.int boot_int (p_of (d_bin o_add (p_of (k_get hu1 key_mixed (d_var (pe_var (i := 0) rfl (.inl rfl))))) (p_of (d_bin o_mul (p_var (pe_var (i := 4) rfl (.inl rfl))) (p_of d_int))))))) (p_of d_int))))
      (b_cons (s_set (i := 5) (ps_set sc.nd rfl (.inl rfl) (d_bin o_mod (p_of (d_t1 c_int rfl bl.int boot_int (p_of (d_bin o_add (p_of (d_bin o_mul (p_var (pe_var (i := 5) rfl (.inl rfl))) (p_var (pe_var (i := 5) rfl (.inl rfl))))) (p_of (d_bin o_mul (p_var (pe_var (i := 4) rfl (.inl rfl))) (p_of d_int))))))) (p_of d_int))))
      (b_one (s_ret (d_bin o_mod (p_of (d_t1 c_int rfl bl.int boot_int (p_of (d_bin o_div (p_var (pe_var (i := 5) rfl (.inl rfl))) (p_of d_int))))) (p_var (pe_var (i := 1) rfl (.inl rfl)))))))))))))))
theorem sc_law_draw_net : FnScope ["source", "most", "n", "road", "links", "lap", "a", "b", "x"] ["source", "most"] (defScope st_law_draw_net) := ⟨rfl, rfl, rfl, by decide +kernel, rfl, by decide +kernel, by decide +kernel⟩
theorem ok_law_draw_net (F : FunD K "_law_draw_net" "_law_draw_net" (defArgs st_law_draw_net) (defBody st_law_draw_net) (defScope st_law_draw_net) [] [] f fd) (bl : Bl mg) (Dlaw_pick : Def P w K mg base 1 2 "_law_pick" g_law_pick) : FnG P w K mg base 2 f fd ["source", "most"] (spG K 2 g_law_draw_net) :=
  have sc := sc_law_draw_net
  fn_okM (N := ["source", "most", "n", "road", "links", "lap", "a", "b", "x"]) (ps := ["source", "most"]) (m := m_law_draw_net) F sc fun cd A fr s H E hg hr => by
    have hu6 : (A.deeper (envOfC "_law_draw_net" (defScope st_law_draw_net) s.heap.objs.size f cd)).units + 66 < cLine := by have := hr.un; omega
    have hu4 : (A.deeper (envOfC "_law_draw_net" (defScope st_law_draw_net) s.heap.objs.size f cd)).units + 64 < cLine := by have := hr.un; omega
    have hu1 : (A.deeper (envOfC "_law_draw_net" (defScope st_law_draw_net) s.heap.objs.size f cd)).units + 1 < cLine := by have := hr.un; omega
    exact (b_cons (s_asg (idx := [2, 3, 4]) (ps_asg (f_of (d_tup (a_cons (f_of (d_bin o_add (p_of d_int) (p_of (d_call Dlaw_pick hg (hr.mono (by decide)) rfl (x_src (pe_var (i := 0) rfl (.inl rfl)) (x_cons (f_of (d_bin o_sub (p_var (pe_var (i := 1) rfl (.inl rfl))) (p_of d_int))) x_nil)) (xn_src (xn_cons xn_nil)))))) (a_cons (f_of (d_call Dlaw_pick hg (hr.mono (by decide)) rfl (x_src (pe_var (i := 0) rfl (.inl rfl)) (x_cons (f_of d_int) x_nil)) (xn_src (xn_cons xn_nil)))) (a_cons (f_of (d_lst a_nil)) a_nil))))) (q_tup rfl (q_cons (q_name (pg_name (i := 2) sc.nd rfl (.inr rfl)) (by decide)) (q_cons (q_name (pg_name (i := 3) sc.nd rfl (.inl rfl)) (by decide)) (q_cons (q_name (pg_name (i := 4) sc.nd rfl (.inl rfl)) (by decide)) q_nil))) (gl_cons (gl_cons (gl_cons gl_nil))))))
      (b_cons (s_if (PW.pt (w_and (t_cmp (o_eq hu4) (p_var (pe_var (i := 3) rfl (.inl rfl))) (p_of d_int) (nomark _)) (w_and1 (t_cmp (o_gt hu4) (p_var (pe_var (i := 2) rfl (.inr (.inl rfl)))) (p_of d_int) (nomark _))))) (b_one (s_lc rfl sc.nd rfl rfl (sw_true rfl rfl rfl rfl) (j_rng1 rfl bl.range (a_cons (f_of (d_var (pe_var (i := 2) rfl (.inr (.inl rfl))))) a_nil)) (blkOk_by (own := [("x", 8)]) (by kernel_rfl)) rfl (fun _ _ _ _ _ => (q_name (pg_name (i := 8) sc.nd rfl (.inl rfl)) (by decide))) (fun _ _ _ _ _ => t_yes) (fun _ _ _ _ _ => (f_of (d_t1 c_tuple rfl bl.tuple boot_tuple (p_of (d_b1 (c_sorted hu6) rfl bl.sorted boot_sorted (p_of (d_lst (a_cons (f_of (d_var (pe_var (i := 8) rfl (.inl rfl)))) (a_cons (f_of (d_bin o_mod (p_of (d_t1 c_int rfl bl.int boot_int (p_of (d_bin o_add (p_var (pe_var (i := 8) rfl (.inl rfl))) (p_of d_int))))) (p_var (pe_var (i := 2) rfl (.inr (.inl rfl)))))) a_nil))))))))))) b_nil)
      (b_cons (s_for (idx := [5]) PassesOwn.never rfl (j_rng1 rfl bl.range (a_cons (f_of (d_call Dlaw_pick hg (hr.mono (by decide)) rfl (x_src (pe_var (i := 0) rfl (.inl rfl)) (x_cons (f_of (d_if (t_cmp (o_gt hu4) (p_var (pe_var (i := 3) rfl (.inl rfl))) (p_of d_int) (nomark _)) (d_bin o_sub (p_of (d_bin o_mul (p_of d_int) (p_var (pe_var (i := 2) rfl (.inr (.inl rfl)))))) (p_of d_int)) d_int)) x_nil)) (xn_src (xn_cons xn_nil)))) a_nil)) (q_name (pg_name (i := 5) sc.nd rfl (.inl rfl)) (by decide)) (b_cons (s_set (i := 6) (ps_set sc.nd rfl (.inl rfl) (d_call Dlaw_pick hg (hr.mono (by decide)) rfl (x_src (pe_var (i := 0) rfl (.inl rfl)) (x_cons (f_of (d_var (pe_var (i := 2) rfl (.inr (.inl rfl))))) x_nil)) (xn_src (xn_cons xn_nil)))))
      (b_cons (s_set (i := 7) (ps_set sc.nd rfl (.inl rfl) (d_call Dlaw_pick hg (hr.mono (by decide)) rfl (x_src (pe_var (i := 0) rfl (.inl rfl)) (x_cons (f_of (d_var (pe_var (i := 2) rfl (.inr (.inl rfl))))) x_nil)) (xn_src (xn_cons xn_nil)))))
      (b_cons (s_if (PW.pt (w_and (t_cmp (o_eq hu4) (p_var (pe_var (i := 3) rfl (.inl rfl))) (p_of d_int) (nomark _)) (w_and (t_cmp (o_ne hu4) (p_of (d_cmp (o_lt hu4) (p_var (pe_var (i := 6) rfl (.inl rfl))) (p_of (d_bin o_div (p_var (pe_var (i := 2) rfl (.inr (.inl rfl)))) (p_of d_int))) (nomark _))) (p_of (d_cmp (o_lt hu4) (p_var (pe_var (i := 7) rfl (.inl rfl))) (p_of (d_bin o_div (p_var (pe_var (i := 2) rfl (.inr (.inl rfl)))) (p_of d_int))) (nomark _))) (nomark _)) (w_and1 (t_cmp (o_gt hu4) (p_of (d_call Dlaw_pick hg (hr.mono (by decide)) rfl (x_src (pe_var (i := 0) rfl (.inl rfl)) (x_cons (f_of d_int) x_nil)) (xn_src (xn_cons xn_nil)))) (p_of d_int) (nomark _)))))) (b_one (s_set (i := 7) (ps_set sc.nd rfl (.inl rfl) (d_var (pe_var (i := 6) rfl (.inl rfl)))))) b_nil)
      (b_one (s_set (i := 4) (ps_set sc.nd rfl (.inl rfl) (d_bin o_add (p_var (pe_var (i := 4) rfl (.inl rfl))) (p_of (d_if (t_cmp (o_ne hu4) (p_var (pe_var (i := 6) rfl (.inl rfl))) (p_var (pe_var (i := 7) rfl (.inl rfl))) (nomark _)) (d_lst (a_cons (f_of (d_tup (a_cons (f_of (d_b2 (c_min2 rfl) rfl bl.min boot_min (p_var (pe_var (i := 6) rfl (.inl rfl))) (p_var (pe_var (i := 7) rfl (.inl rfl))))) (a_cons (f_of (d_b2 (c_max2 rfl) rfl bl.max boot_max (p_var (pe_var (i := 6) rfl (.inl rfl))) (p_var (pe_var (i := 7) rfl (.inl rfl))))) a_nil)))) a_nil)) (d_lst a_nil)))))))))))
      (b_one (s_ret (d_tup (a_cons (f_of (d_var (pe_var (i := 2) rfl (.inr (.inl rfl))))) (a_cons (f_of (d_t1 c_tuple rfl bl.tuple boot_tuple (p_of (d_b1 (c_sorted hu6) rfl bl.sorted boot_sorted (p_var (pe_var (i := 4) rfl (.inl rfl))))))) a_nil))))))))
theorem sc_law_open_cells : FnScope ["script", "stirred", "cell", "cells"] ["script"] (defScope st_law_open_cells) := ⟨rfl, rfl, rfl, by decide +kernel, rfl, by decide +kernel, by decide +kernel⟩
theorem ok_law_open_cells (F : FunD K "_law_open_cells" "_law_open_cells" (defArgs st_law_open_cells) (defBody st_law_open_cells) (defScope st_law_open_cells) [] [] f fd) (bl : Bl mg)  : FnG P w K mg base 1 f fd ["script"] (spG K 1 g_law_open_cells) :=
  have sc := sc_law_open_cells
  fn_okM (N := ["script", "stirred", "cell", "cells"]) (ps := ["script"]) (m := m_law_open_cells) F sc fun cd A fr s H E hg hr => by
    have hu6 : (A.deeper (envOfC "_law_open_cells" (defScope st_law_open_cells) s.heap.objs.size f cd)).units + 66 < cLine := by have := hr.un; omega
    have hu4 : (A.deeper (envOfC "_law_open_cells" (defScope st_law_open_cells) s.heap.objs.size f cd)).units + 64 < cLine := by have := hr.un; omega
    have hu1 : (A.deeper (envOfC "_law_open_cells" (defScope st_law_open_cells) s.heap.objs.size f cd)).units + 1 < cLine := by have := hr.un; omega
    exact (b_cons (s_set (i := 1) (ps_set sc.nd rfl (.inl rfl) d_int))
      (b_cons (s_for (idx := [2]) PassesOwn.never rfl (i_scr (pe_var (i := 0) rfl (.inl rfl))) (q_name (pg_name (i := 2) sc.nd rfl (.inl rfl)) (by decide)) (b_one (s_set (i := 1) (ps_set sc.nd rfl (.inl rfl) (d_bin o_mod (p_of (d_t1 c_int rfl bl.int boot_int (p_of (d_bin o_add (p_of (d_bin o_add (p_of (d_bin o_mul (p_var (pe_var (i := 1) rfl (.inl rfl))) (p_of d_int))) (p_of (d_bin o_mul (p_var (pe_var (i := 2) rfl (.inl rfl))) (p_of d_int))))) (p_of d_int))))) (p_of d_int))))))
      (b_cons (s_lc rfl sc.nd rfl rfl (sw_true rfl rfl rfl rfl) (i_scr (pe_var (i := 0) rfl (.inl rfl))) (blkOk_by (own := [("cell", 2)]) (by kernel_rfl)) rfl (fun _ _ _ _ _ => (q_name (pg_name (i := 2) sc.nd rfl (.inl rfl)) (by decide))) (fun _ _ _ _ _ => t_yes) (fun _ _ _ _ _ => (f_of (d_b1 c_abs rfl bl.abs boot_abs (p_var (pe_var (i := 2) rfl (.inl rfl)))))))
      (b_one (s_ret (k_new (d_rev (p_var (pe_var (i := 3) rfl (.inl rfl)))) (f_of d_int) (f_of (d_var (pe_var (i := 1) rfl (.inl rfl)))) (f_of d_int)))))))
theorem sc_law : FnScope ["script", "source", "lap", "net", "n", "held", "lots", "due", "i", "one", "other", "sides", "both", "first", "second", "outside", "union", "rows", "p", "q", "x", "lot", "here", "there"] ["script"] (defScope st_law) := ⟨rfl, rfl, rfl, by decide +kernel, rfl, by decide +kernel, by decide +kernel⟩
theorem ok_law (F : FunD K "law" "law" (defArgs st_law) (defBody st_law) (defScope st_law) [] [] f fd) (bl : Bl mg) (Dleast_lots : Def P w K mg base 3 1 "least_lots" g_least_lots) (Dheld_by_lots : Def P w K mg base 2 1 "held_by_lots" g_held_by_lots) (Dcrossing_lots : Def P w K mg base 4 1 "crossing_lots" g_crossing_lots) (Dlaw_links : Def P w K mg base 1 3 "_law_links" g_law_links) (Dlaw_both : Def P w K mg base 1 0 "_law_both" g_law_both) (Dlaw_least : Def P w K mg base 2 1 "_law_least" g_law_least) (Dlaw_draw_net : Def P w K mg base 2 2 "_law_draw_net" g_law_draw_net) (Dlaw_open_cells : Def P w K mg base 1 1 "_law_open_cells" g_law_open_cells) : FnG P w K mg base 5 f fd ["script"] (spG K 1 g_law) :=
  have sc := sc_law
  fn_okM (N := ["script", "source", "lap", "net", "n", "held", "lots", "due", "i", "one", "other", "sides", "both", "first", "second", "outside", "union", "rows", "p", "q", "x", "lot", "here", "there"]) (ps := ["script"]) (m := m_law) F sc fun cd A fr s H E hg hr => by
    have hu6 : (A.deeper (envOfC "law" (defScope st_law) s.heap.objs.size f cd)).units + 66 < cLine := by have := hr.un; omega
    have hu4 : (A.deeper (envOfC "law" (defScope st_law) s.heap.objs.size f cd)).units + 64 < cLine := by have := hr.un; omega
    have hu1 : (A.deeper (envOfC "law" (defScope st_law) s.heap.objs.size f cd)).units + 1 < cLine := by have := hr.un; omega
    exact (b_cons (s_set (i := 1) (ps_set sc.nd rfl (.inl rfl) (d_call Dlaw_open_cells hg (hr.mono (by decide)) rfl (x_src (pe_var (i := 0) rfl (.inl rfl)) x_nil) (xn_src xn_nil))))
      (b_cons (s_for (idx := [2]) PassesOwn.never rfl (j_rng1 rfl bl.range (a_cons (f_of d_int) a_nil)) (q_name (pg_name (i := 2) sc.nd rfl (.inl rfl)) (by decide)) (b_cons (s_set (i := 3) (ps_set sc.nd rfl (.inr rfl) (d_call Dlaw_draw_net hg (hr.mono (by decide)) rfl (x_src (pe_var (i := 1) rfl (.inl rfl)) (x_cons (f_of (d_ix (p_of (d_lst (a_cons (f_of d_int) (a_cons (f_of d_int) (a_cons (f_of d_int) (a_cons (f_of d_int) a_nil)))))) (p_var (pe_var (i := 2) rfl (.inl rfl))) fun _ _ => rfl)) x_nil)) (xn_src (xn_cons xn_nil)))))
      (b_cons (s_asg (idx := [4, 5, 6]) (ps_asg (f_of (d_tup (a_cons (f_of (d_ix (p_var (pe_var (i := 3) rfl (.inr (.inl rfl)))) (p_of d_int) fun _ _ => rfl)) (a_cons (f_of (d_call Dlaw_least hg (hr.mono (by decide)) rfl (x_cons (f_of (d_var (pe_var (i := 3) rfl (.inr (.inl rfl))))) x_nil) (xn_cons xn_nil))) a_nil)))) (q_tup rfl (q_cons (q_name (pg_name (i := 4) sc.nd rfl (.inr rfl)) (by decide)) (q_cons (q_tup rfl (q_cons (q_name (pg_name (i := 5) sc.nd rfl (.inr rfl)) (by decide)) (q_cons (q_name (pg_name (i := 6) sc.nd rfl (.inr rfl)) (by decide)) q_nil)) (gl_cons (gl_cons gl_nil))) q_nil)) (gl_cons (gl_cons gl_nil)))))
      (b_cons (s_set (i := 7) (ps_set sc.nd rfl (.inl rfl) (d_lst a_nil)))
      (b_cons (s_for (idx := [8, 9]) PassesOwn.never rfl (j_enum rfl bl.enumerate (f_of (d_var (pe_var (i := 6) rfl (.inr (.inl rfl)))))) (q_tup rfl (q_cons (q_name (pg_name (i := 8) sc.nd rfl (.inl rfl)) (by decide)) (q_cons (q_name (pg_name (i := 9) sc.nd rfl (.inr rfl)) (by decide)) q_nil)) (gl_cons (gl_cons gl_nil))) (b_one (s_for (idx := [10]) PassesOwn.never rfl (j_seq (f_of (d_sl (p_var (pe_var (i := 6) rfl (.inr (.inl rfl)))) (o_some (d_bin o_add (p_var (pe_var (i := 8) rfl (.inl rfl))) (p_of d_int))) o_none))) (q_name (pg_name (i := 10) sc.nd rfl (.inr rfl)) (by decide)) (b_cons (s_lc rfl sc.nd rfl rfl (sw_true rfl rfl rfl rfl) (j_seq (f_of (d_call0 Dlaw_both hg (hr.mono (by decide)) rfl))) (blkOk_by (own := [("p", 18), ("q", 19)]) (by kernel_rfl)) rfl (fun _ _ _ _ _ => (q_tup rfl (q_cons (q_name (pg_name (i := 18) sc.nd rfl (.inr rfl)) (by decide)) (q_cons (q_name (pg_name (i := 19) sc.nd rfl (.inr rfl)) (by decide)) q_nil)) (gl_cons (gl_cons gl_nil)))) (fun _ _ _ _ _ => t_yes) (fun _ _ _ _ _ => (f_of (d_lc rfl sc.nd (j_rng1 rfl bl.range (a_cons (f_of (d_var (pe_var (i := 4) rfl (.inr (.inl rfl))))) a_nil)) (blkOk_by (own := [("x", 20)]) (by kernel_rfl)) rfl (fun _ _ _ _ _ => (q_name (pg_name (i := 20) sc.nd rfl (.inl rfl)) (by decide))) (fun _ _ _ _ _ => (t_one (PW.pt (w_and (t_cmp (o_eq hu4) (p_of (d_cmp (o_in hu6) (p_var (pe_var (i := 20) rfl (.inl rfl))) (p_var (pe_var (i := 9) rfl (.inr (.inl rfl)))) rfl)) (p_var (pe_var (i := 18) rfl (.inr (.inl rfl)))) (nomark _)) (w_and1 (t_cmp (o_eq hu4) (p_of (d_cmp (o_in hu6) (p_var (pe_var (i := 20) rfl (.inl rfl))) (p_var (pe_var (i := 10) rfl (.inr (.inl rfl)))) rfl)) (p_var (pe_var (i := 19) rfl (.inr (.inl rfl)))) (nomark _))))))) (fun _ _ _ _ _ => (f_of (d_var (pe_var (i := 20) rfl (.inl rfl)))))))))
      (b_cons (s_if (t_cmp (o_in hu6) (p_of (d_lst a_nil)) (p_var (pe_var (i := 11) rfl (.inl rfl))) rfl) (b_one s_cont) b_nil)
      (b_cons (s_expr (m_app (pe_var (i := 7) rfl (.inl rfl)) (a_cons (f_of (d_tup (a_cons (f_of (d_var (pe_var (i := 9) rfl (.inr (.inl rfl))))) (a_cons (f_of (d_var (pe_var (i := 10) rfl (.inr (.inl rfl))))) a_nil)))) a_nil)))
      (b_cons (s_asg (idx := [12, 13, 14, 15]) (ps_asg (f_of (d_var (pe_var (i := 11) rfl (.inl rfl)))) (q_tup rfl (q_cons (q_name (pg_name (i := 12) sc.nd rfl (.inl rfl)) (by decide)) (q_cons (q_name (pg_name (i := 13) sc.nd rfl (.inl rfl)) (by decide)) (q_cons (q_name (pg_name (i := 14) sc.nd rfl (.inl rfl)) (by decide)) (q_cons (q_name (pg_name (i := 15) sc.nd rfl (.inl rfl)) (by decide)) q_nil)))) (gl_cons (gl_cons (gl_cons (gl_cons gl_nil)))))))
      (b_cons (s_set (i := 16) (ps_set sc.nd rfl (.inl rfl) (d_t1 c_tuple rfl bl.tuple boot_tuple (p_of (d_b1 (c_sorted hu6) rfl bl.sorted boot_sorted (p_of (d_bin o_add (p_of (d_bin o_add (p_var (pe_var (i := 12) rfl (.inl rfl))) (p_var (pe_var (i := 13) rfl (.inl rfl))))) (p_var (pe_var (i := 14) rfl (.inl rfl))))))))))
      (b_cons (s_if (t_cmp (o_ne hu4) (p_of (d_lc rfl sc.nd (j_seq (f_of (d_tup (a_cons (f_of (d_t1 c_tuple rfl bl.tuple boot_tuple (p_var (pe_var (i := 12) rfl (.inl rfl))))) (a_cons (f_of (d_t1 c_tuple rfl bl.tuple boot_tuple (p_var (pe_var (i := 13) rfl (.inl rfl))))) (a_cons (f_of (d_t1 c_tuple rfl bl.tuple boot_tuple (p_var (pe_var (i := 14) rfl (.inl rfl))))) (a_cons (f_of (d_var (pe_var (i := 16) rfl (.inl rfl)))) a_nil))))))) (blkOk_by (own := [("lot", 21)]) (by kernel_rfl)) rfl (fun _ _ _ _ _ => (q_name (pg_name (i := 21) sc.nd rfl (.inl rfl)) (by decide))) (fun _ _ _ _ _ => (t_one (t_cmp (o_notIn hu6) (p_var (pe_var (i := 21) rfl (.inl rfl))) (p_var (pe_var (i := 6) rfl (.inr (.inl rfl)))) rfl))) (fun _ _ _ _ _ => (f_of (d_var (pe_var (i := 21) rfl (.inl rfl))))))) (p_of (d_lst a_nil)) (nomark _)) (b_one (s_ret d_bl)) b_nil)
      (b_cons (s_if (PW.pt (w_or (t_cmp (o_ne hu4) (p_of (d_call Dlaw_links hg (hr.mono (by decide)) rfl (x_cons (f_of (d_var (pe_var (i := 3) rfl (.inr (.inl rfl))))) (x_cons (f_of (d_var (pe_var (i := 12) rfl (.inl rfl)))) (x_cons (f_of (d_var (pe_var (i := 15) rfl (.inl rfl)))) x_nil))) (xn_cons (xn_cons (xn_cons xn_nil))))) (p_of d_int) (nomark _)) (w_or1 (t_cmp (o_ne hu4) (p_of (d_call Dlaw_links hg (hr.mono (by decide)) rfl (x_cons (f_of (d_var (pe_var (i := 3) rfl (.inr (.inl rfl))))) (x_cons (f_of (d_var (pe_var (i := 13) rfl (.inl rfl)))) (x_cons (f_of (d_var (pe_var (i := 14) rfl (.inl rfl)))) x_nil))) (xn_cons (xn_cons (xn_cons xn_nil))))) (p_of d_int) (nomark _))))) (b_one (s_ret d_bl)) b_nil)
      (b_cons (s_set (i := 17) (ps_set sc.nd rfl (.inl rfl) (d_lst (a_cons (f_of (d_tup (a_cons (f_of (d_var (pe_var (i := 12) rfl (.inl rfl)))) (a_cons (f_of (d_var (pe_var (i := 13) rfl (.inl rfl)))) a_nil)))) (a_cons (f_of (d_tup (a_cons (f_of (d_var (pe_var (i := 12) rfl (.inl rfl)))) (a_cons (f_of (d_var (pe_var (i := 14) rfl (.inl rfl)))) a_nil)))) (a_cons (f_of (d_tup (a_cons (f_of (d_var (pe_var (i := 13) rfl (.inl rfl)))) (a_cons (f_of (d_var (pe_var (i := 15) rfl (.inl rfl)))) a_nil)))) (a_cons (f_of (d_tup (a_cons (f_of (d_var (pe_var (i := 14) rfl (.inl rfl)))) (a_cons (f_of (d_var (pe_var (i := 15) rfl (.inl rfl)))) a_nil)))) a_nil)))))))
      (b_one (s_if (t_cmp (o_ne hu4) (p_of (d_lc rfl sc.nd (j_seq (f_of (d_var (pe_var (i := 17) rfl (.inl rfl))))) (blkOk_by (own := [("here", 22), ("there", 23)]) (by kernel_rfl)) rfl (fun _ _ _ _ _ => (q_tup rfl (q_cons (q_name (pg_name (i := 22) sc.nd rfl (.inl rfl)) (by decide)) (q_cons (q_name (pg_name (i := 23) sc.nd rfl (.inl rfl)) (by decide)) q_nil)) (gl_cons (gl_cons gl_nil)))) (fun _ _ _ _ _ => (t_one (t_cmp (o_ne hu4) (p_of (d_bin o_mul (p_of d_int) (p_of (d_call Dlaw_links hg (hr.mono (by decide)) rfl (x_cons (f_of (d_var (pe_var (i := 3) rfl (.inr (.inl rfl))))) (x_cons (f_of (d_var (pe_var (i := 22) rfl (.inl rfl)))) (x_cons (f_of (d_var (pe_var (i := 23) rfl (.inl rfl)))) x_nil))) (xn_cons (xn_cons (xn_cons xn_nil))))))) (p_var (pe_var (i := 5) rfl (.inr (.inl rfl)))) (nomark _)))) (fun _ _ _ _ _ => (f_of d_int)))) (p_of (d_lst a_nil)) (nomark _)) (b_one (s_ret d_bl)) b_nil)))))))))))))
      (b_cons (s_if (PW.pt (w_or (t_cmp (o_ne hu4) (p_of (d_b1 (c_repr hg hu4) rfl bl.repr boot_repr (p_of (d_call Dcrossing_lots hg (hr.mono (by decide)) rfl (x_cons (f_of (d_var (pe_var (i := 3) rfl (.inr (.inl rfl))))) x_nil) (xn_cons xn_nil))))) (p_of (d_b1 (c_repr hg hu4) rfl bl.repr boot_repr (p_of (d_t1 c_tuple rfl bl.tuple boot_tuple (p_var (pe_var (i := 7) rfl (.inl rfl))))))) (nomark _)) (w_or1 (PW.pt (w_and (t_cmp (o_eq hu4) (p_of (d_bin o_mod (p_of (d_t1 c_int rfl bl.int boot_int (p_var (pe_var (i := 5) rfl (.inr (.inl rfl)))))) (p_of d_int))) (p_of d_int) (nomark _)) (w_and1 (t_cmp (o_ne hu4) (p_var (pe_var (i := 7) rfl (.inl rfl))) (p_of (d_lst a_nil)) (nomark _)))))))) (b_one (s_ret d_bl)) b_nil)
      (b_one (s_if (t_cmp (o_ne hu4) (p_of (d_b1 (c_repr hg hu4) rfl bl.repr boot_repr (p_of (d_lst (a_cons (f_of (d_call Dheld_by_lots hg (hr.mono (by decide)) rfl (x_cons (f_of (d_var (pe_var (i := 3) rfl (.inr (.inl rfl))))) x_nil) (xn_cons xn_nil))) (a_cons (f_of (d_call Dleast_lots hg (hr.mono (by decide)) rfl (x_cons (f_of (d_var (pe_var (i := 3) rfl (.inr (.inl rfl))))) x_nil) (xn_cons xn_nil))) a_nil)))))) (p_of (d_b1 (c_repr hg hu4) rfl bl.repr boot_repr (p_of (d_lst (a_cons (f_of (d_var (pe_var (i := 5) rfl (.inr (.inl rfl))))) (a_cons (f_of (d_t1 c_tuple rfl bl.tuple boot_tuple (p_var (pe_var (i := 6) rfl (.inr (.inl rfl)))))) a_nil)))))) (nomark _)) (b_one (s_ret d_bl)) b_nil))))))))
      (b_one (s_ret d_bl))))
end
def dd_proper_side_lots : He.DefD := ⟨("proper_side_lots", none), "proper_side_lots", "proper_side_lots", defArgs st_proper_side_lots, defBody st_proper_side_lots, defScope st_proper_side_lots, [], []⟩
def dd_side_cut : He.DefD := ⟨("side_cut", none), "side_cut", "side_cut", defArgs st_side_cut, defBody st_side_cut, defScope st_side_cut, [], []⟩
def dd_held_by_lots : He.DefD := ⟨("held_by_lots", none), "held_by_lots", "held_by_lots", defArgs st_held_by_lots, defBody st_held_by_lots, defScope st_held_by_lots, [], []⟩
def dd_least_lots : He.DefD := ⟨("least_lots", none), "least_lots", "least_lots", defArgs st_least_lots, defBody st_least_lots, defScope st_least_lots, [], []⟩
def dd_lots_cross : He.DefD := ⟨("lots_cross", none), "lots_cross", "lots_cross", defArgs st_lots_cross, defBody st_lots_cross, defScope st_lots_cross, [], []⟩
def dd_crossing_lots : He.DefD := ⟨("crossing_lots", none), "crossing_lots", "crossing_lots", defArgs st_crossing_lots, defBody st_crossing_lots, defScope st_crossing_lots, [], []⟩
def dd_law_links : He.DefD := ⟨("_law_links", none), "_law_links", "_law_links", defArgs st_law_links, defBody st_law_links, defScope st_law_links, [], []⟩
def dd_law_both : He.DefD := ⟨("_law_both", none), "_law_both", "_law_both", defArgs st_law_both, defBody st_law_both, defScope st_law_both, [], []⟩
def dd_law_all_lots : He.DefD := ⟨("_law_all_lots", none), "_law_all_lots", "_law_all_lots", defArgs st_law_all_lots, defBody st_law_all_lots, defScope st_law_all_lots, [], []⟩
def dd_law_cut : He.DefD := ⟨("_law_cut", none), "_law_cut", "_law_cut", defArgs st_law_cut, defBody st_law_cut, defScope st_law_cut, [], []⟩
def dd_law_least : He.DefD := ⟨("_law_least", none), "_law_least", "_law_least", defArgs st_law_least, defBody st_law_least, defScope st_law_least, [], []⟩
def dd_law_pick : He.DefD := ⟨("_law_pick", none), "_law_pick", "_law_pick", defArgs st_law_pick, defBody st_law_pick, defScope st_law_pick, [], []⟩
def dd_law_draw_net : He.DefD := ⟨("_law_draw_net", none), "_law_draw_net", "_law_draw_net", defArgs st_law_draw_net, defBody st_law_draw_net, defScope st_law_draw_net, [], []⟩
def dd_law_open_cells : He.DefD := ⟨("_law_open_cells", none), "_law_open_cells", "_law_open_cells", defArgs st_law_open_cells, defBody st_law_open_cells, defScope st_law_open_cells, [], []⟩
def dd_law : He.DefD := ⟨("law", none), "law", "law", defArgs st_law, defBody st_law, defScope st_law, [], []⟩
def fn : List He.DefD := [dd_proper_side_lots, dd_side_cut, dd_held_by_lots, dd_least_lots, dd_lots_cross, dd_crossing_lots, dd_law_links, dd_law_both, dd_law_all_lots, dd_law_cut, dd_law_least, dd_law_pick, dd_law_draw_net, dd_law_open_cells, dd_law]
def fa : List He.Fa := [.glo "proper_side_lots", .glo "side_cut", .glo "held_by_lots", .glo "least_lots", .glo "lots_cross", .glo "crossing_lots", .glo "_law_links", .glo "_law_both", .glo "_law_all_lots", .glo "_law_cut", .glo "_law_least", .glo "_law_pick", .glo "_law_draw_net", .glo "_law_open_cells", .glo "law", .free "range", .free "enumerate", .free "tuple", .free "len", .free "min", .free "sorted", .free "int", .free "max", .free "abs", .free "repr"]
abbrev R : PySem.W.OpenRow := PySem.W.OpenLaw.row PySem.Challenge.rw_waysandcuts_k98_whole_two_least_lots
abbrev hk : PySem.W.Hook := He.hookD 4 fa fn
def ob (s : PySem.W.SharedT) : He.AlD := He.obsDG 4 fa fn (HandSHeadRun.getT s)
theorem ob_eq (s : PySem.W.SharedT) : ob s = hk.obs s.abs := He.obsDG_eq (HandSHeadRun.getT_eq s)
def loose : List Str := ["proper_side_lots", "side_cut", "held_by_lots", "least_lots", "lots_cross", "crossing_lots", "_law_open_cells", "_law_pick", "_law_any_order", "_law_all_lots", "_law_cut", "_law_least", "_law_draw_net", "_law_both", "_law_links"]
theorem run (w : World) : HandSHeadRun.RunEq R (PySem.W.view R.prog [17]) hk ob 4000 loose w := by
  intro os
  kernel_rfl
theorem facts {P : Program} {w : World} {K : PySem.W.Frag} {h : Heap} {mg : Str → Option Value} {f : Addr} (X : K.In h) (G : h.Ns mainGlobals mg) (hfa : mg ("law" : Str) = some (.ref f)) (c : He.SaysD fa fn K)
    (good : ∀ ns : List Int, ns.length ≤ 63 → ∃ s, g_law [.scr ns] none = some (.v (.bool true), s)) :
    ∃ fd : FuncData, (∀ (s : Shared) (v : Value), BindsTo s fd ⟨[v], []⟩ [("script", v)]) ∧ ∀ base : Heap, K.In base → base.Ns mainGlobals mg → FnG P w K mg base 5 f fd ["script"] (spLaw K 63) := by
  obtain ⟨f0, F0⟩ := c.def_ 0 (d := dd_proper_side_lots) rfl
  obtain ⟨f1, F1⟩ := c.def_ 1 (d := dd_side_cut) rfl
  obtain ⟨f2, F2⟩ := c.def_ 2 (d := dd_held_by_lots) rfl
  obtain ⟨f3, F3⟩ := c.def_ 3 (d := dd_least_lots) rfl
  obtain ⟨f4, F4⟩ := c.def_ 4 (d := dd_lots_cross) rfl
  obtain ⟨f5, F5⟩ := c.def_ 5 (d := dd_crossing_lots) rfl
  obtain ⟨f6, F6⟩ := c.def_ 6 (d := dd_law_links) rfl
  obtain ⟨f7, F7⟩ := c.def_ 7 (d := dd_law_both) rfl
  obtain ⟨f8, F8⟩ := c.def_ 8 (d := dd_law_all_lots) rfl
  obtain ⟨f9, F9⟩ := c.def_ 9 (d := dd_law_cut) rfl
  obtain ⟨f10, F10⟩ := c.def_ 10 (d := dd_law_least) rfl
  obtain ⟨f11, F11⟩ := c.def_ 11 (d := dd_law_pick) rfl
  obtain ⟨f12, F12⟩ := c.def_ 12 (d := dd_law_draw_net) rfl
  obtain ⟨f13, F13⟩ := c.def_ 13 (d := dd_law_open_cells) rfl
  obtain ⟨f14, F14⟩ := c.def_ 14 (d := dd_law) rfl
  have e := hfa.symm.trans (He.glo_ok X G (c.fact 14 (f := .glo "law") rfl))
  cases e
  have bl : Bl mg := ⟨He.free_ok X G (c.fact 15 (f := .free "range") rfl), He.free_ok X G (c.fact 16 (f := .free "enumerate") rfl), He.free_ok X G (c.fact 17 (f := .free "tuple") rfl), He.free_ok X G (c.fact 18 (f := .free "len") rfl), He.free_ok X G (c.fact 19 (f := .free "min") rfl), He.free_ok X G (c.fact 20 (f := .free "sorted") rfl), He.free_ok X G (c.fact 21 (f := .free "int") rfl), He.free_ok X G (c.fact 22 (f := .free "max") rfl), He.free_ok X G (c.fact 23 (f := .free "abs") rfl), He.free_ok X G (c.fact 24 (f := .free "repr") rfl)⟩
  have b := FunD.bindsA (ps := ["script"]) F14 fun _ _ _ _ _ _ us hl => match us, hl with | [_], _ => rfl
  refine ⟨f14, fun s v => b s [v] rfl, fun base _ _ => ?_⟩
  have Dproper_side_lots : Def P w K mg base 1 1 "proper_side_lots" g_proper_side_lots := ⟨_, f0, ["n"], rfl, ok_proper_side_lots F0 bl , He.glo_ok X G (c.fact 0 (f := .glo "proper_side_lots") rfl), F0.kp, F0.bindsN fun _ _ _ _ _ _ us hl => match us, hl with | [_], _ => rfl⟩
  have Dside_cut : Def P w K mg base 1 2 "side_cut" g_side_cut := ⟨_, f1, ["net", "lot"], rfl, ok_side_cut F1 bl , He.glo_ok X G (c.fact 1 (f := .glo "side_cut") rfl), F1.kp, F1.bindsN fun _ _ _ _ _ _ us hl => match us, hl with | [_, _], _ => rfl⟩
  have Dheld_by_lots : Def P w K mg base 2 1 "held_by_lots" g_held_by_lots := ⟨_, f2, ["net"], rfl, ok_held_by_lots F2 bl Dproper_side_lots Dside_cut, He.glo_ok X G (c.fact 2 (f := .glo "held_by_lots") rfl), F2.kp, F2.bindsN fun _ _ _ _ _ _ us hl => match us, hl with | [_], _ => rfl⟩
  have Dleast_lots : Def P w K mg base 3 1 "least_lots" g_least_lots := ⟨_, f3, ["net"], rfl, ok_least_lots F3 bl Dproper_side_lots Dside_cut Dheld_by_lots, He.glo_ok X G (c.fact 3 (f := .glo "least_lots") rfl), F3.kp, F3.bindsN fun _ _ _ _ _ _ us hl => match us, hl with | [_], _ => rfl⟩
  have Dlots_cross : Def P w K mg base 1 2 "lots_cross" g_lots_cross := ⟨_, f4, ["one", "other"], rfl, ok_lots_cross F4 bl , He.glo_ok X G (c.fact 4 (f := .glo "lots_cross") rfl), F4.kp, F4.bindsN fun _ _ _ _ _ _ us hl => match us, hl with | [_, _], _ => rfl⟩
  have Dcrossing_lots : Def P w K mg base 4 1 "crossing_lots" g_crossing_lots := ⟨_, f5, ["net"], rfl, ok_crossing_lots F5 bl Dlots_cross Dleast_lots, He.glo_ok X G (c.fact 5 (f := .glo "crossing_lots") rfl), F5.kp, F5.bindsN fun _ _ _ _ _ _ us hl => match us, hl with | [_], _ => rfl⟩
  have Dlaw_links : Def P w K mg base 1 3 "_law_links" g_law_links := ⟨_, f6, ["net", "here", "there"], rfl, ok_law_links F6 bl , He.glo_ok X G (c.fact 6 (f := .glo "_law_links") rfl), F6.kp, F6.bindsN fun _ _ _ _ _ _ us hl => match us, hl with | [_, _, _], _ => rfl⟩
  have Dlaw_both : Def P w K mg base 1 0 "_law_both" g_law_both := ⟨_, f7, [], rfl, ok_law_both F7 bl , He.glo_ok X G (c.fact 7 (f := .glo "_law_both") rfl), F7.kp, F7.bindsN fun _ _ _ _ _ _ us hl => match us, hl with | [], _ => rfl⟩
  have Dlaw_all_lots : Def P w K mg base 1 1 "_law_all_lots" g_law_all_lots := ⟨_, f8, ["n"], rfl, ok_law_all_lots F8 bl , He.glo_ok X G (c.fact 8 (f := .glo "_law_all_lots") rfl), F8.kp, F8.bindsN fun _ _ _ _ _ _ us hl => match us, hl with | [_], _ => rfl⟩
  have Dlaw_cut : Def P w K mg base 1 2 "_law_cut" g_law_cut := ⟨_, f9, ["net", "lot"], rfl, ok_law_cut F9 bl , He.glo_ok X G (c.fact 9 (f := .glo "_law_cut") rfl), F9.kp, F9.bindsN fun _ _ _ _ _ _ us hl => match us, hl with | [_, _], _ => rfl⟩
  have Dlaw_least : Def P w K mg base 2 1 "_law_least" g_law_least := ⟨_, f10, ["net"], rfl, ok_law_least F10 bl Dlaw_all_lots Dlaw_cut, He.glo_ok X G (c.fact 10 (f := .glo "_law_least") rfl), F10.kp, F10.bindsN fun _ _ _ _ _ _ us hl => match us, hl with | [_], _ => rfl⟩
  have Dlaw_pick : Def P w K mg base 1 2 "_law_pick" g_law_pick := ⟨_, f11, ["source", "most"], rfl, ok_law_pick F11 bl , He.glo_ok X G (c.fact 11 (f := .glo "_law_pick") rfl), F11.kp, F11.bindsN fun _ _ _ _ _ _ us hl => match us, hl with | [_, _], _ => rfl⟩
  have Dlaw_draw_net : Def P w K mg base 2 2 "_law_draw_net" g_law_draw_net := ⟨_, f12, ["source", "most"], rfl, ok_law_draw_net F12 bl Dlaw_pick, He.glo_ok X G (c.fact 12 (f := .glo "_law_draw_net") rfl), F12.kp, F12.bindsN fun _ _ _ _ _ _ us hl => match us, hl with | [_, _], _ => rfl⟩
  have Dlaw_open_cells : Def P w K mg base 1 1 "_law_open_cells" g_law_open_cells := ⟨_, f13, ["script"], rfl, ok_law_open_cells F13 bl , He.glo_ok X G (c.fact 13 (f := .glo "_law_open_cells") rfl), F13.kp, F13.bindsN fun _ _ _ _ _ _ us hl => match us, hl with | [_], _ => rfl⟩
  exact (ok_law F14 bl Dleast_lots Dheld_by_lots Dcrossing_lots Dlaw_links Dlaw_both Dlaw_least Dlaw_draw_net Dlaw_open_cells).imp (spLaw_of good)
end K98
open PySem PySem.W PySem.Calls PyProof.Rows
theorem K98.closes (good : ∀ ns : List Int, ns.length ≤ 63 → ∃ s, K98.g_law [.scr ns] none = some (.v (.bool true), s)) : PySem.Challenge.rw_waysandcuts_k98_whole_two_least_lots.Holds := by
  w_on; o_law
  refine HandSHeadRun.head_any (r := OpenLaw.row PySem.Challenge.rw_waysandcuts_k98_whole_two_least_lots) (q := view (OpenLaw.row PySem.Challenge.rw_waysandcuts_k98_whole_two_least_lots).prog [17]) (H := K98.hk) (ob := K98.ob) (M := 4000) (loose := K98.loose) (d := HandSHeadRun.topDef (OpenLaw.row PySem.Challenge.rw_waysandcuts_k98_whole_two_least_lots).prog 17) (kwd := []) K98.ob_eq (by kernel_rfl) (fun s => by kernel_rfl) K98.run (by kernel_rfl) (by kernel_rfl) (by kernel_rfl) (by rfl) (by first | assumption | decide +kernel) (by decide +kernel) ⟨rfl, rfl, rfl, rfl, rfl, by decide +kernel⟩ ?hw ?hc
  case hw => w_witness2
  case hc =>
    refine Pd.walk_g (l := PySem.Challenge.rw_waysandcuts_k98_whole_two_least_lots) (n := 63) (k := 5) (x := "script") rfl (by decide) (by kernel_rfl) ⟨rfl, by decide, by decide⟩ ?F
    intro w mg fa h Y G hmg0
    obtain ⟨K, KX, c⟩ := Y
    have hmg : mg ("law" : PySem.Str) = some (.ref fa) := by
      have e : (HandSHeadRun.topDef (OpenLaw.row PySem.Challenge.rw_waysandcuts_k98_whole_two_least_lots).prog 17).name = ("law" : PySem.Str) := by kernel_rfl
      rw [← e]
      exact hmg0
    obtain ⟨fd, hb, hF⟩ := K98.facts (P := (PySem.Challenge.rw_waysandcuts_k98_whole_two_least_lots).prog) (w := w) KX G hmg c good
    exact ⟨K, fd, KX, hb, hF⟩
end
set_option linter.all false
set_option maxRecDepth 100000
set_option maxHeartbeats 4000000
noncomputable section
namespace K98
open PySem PySem.Spec PyProof.Rows L2 Pd
def crosses (l : List Int) (p : Int × Int) : Bool := decide (p.1 ∈ l) != decide (p.2 ∈ l)
def cutI (E : List (Int × Int)) (l : List Int) : List Int := (E.zipIdx.filter fun q => crosses l q.1).map fun q => ((q.2 : Nat) : Int)
/-! ### all lots -/
def stepL (L : List (List Int)) (k : Int) : List (List Int) := L ++ L.map (· ++ [k])
def upTo (n : Int) : List Int := (List.range (n - 1).toNat).map fun i => 1 + ((i : Nat) : Int)
def lotsF (n : Int) : List (List Int) := (upTo n).foldl stepL [[]]
theorem stepL_len (L : List (List Int)) (k : Int) : (stepL L k).length = L.length + L.length := by
  unfold stepL
  rw [List.length_append, List.length_map]
theorem stepL_mem {L : List (List Int)} {k : Int} {l : List Int} (h : l ∈ stepL L k) : l ∈ L ∨ ∃ m ∈ L, l = m ++ [k] := by
  unfold stepL at h
  rcases List.mem_append.mp h with h | h
  · exact .inl h
  · obtain ⟨m, h1, h2⟩ := List.mem_map.mp h
    exact .inr ⟨m, h1, h2.symm⟩
theorem upTo_len (n : Int) : (upTo n).length = (n - 1).toNat := by
  unfold upTo
  rw [List.length_map, List.length_range]
def allL (n : Int) : List (List Int) := (lotsF n).filter fun l => !decide (l = [])
def lawL (n : Int) : List (List Int) := srtL (allL n)
theorem allL_ne {n : Int} {l : List Int} (h : l ∈ allL n) : l ≠ [] := by
  unfold allL at h
  simpa using (List.mem_filter.mp h).2
/-! ### held, least lots -/
def cutN (E : List (Int × Int)) (l : List Int) : Int := ((cutI E l).length : Nat)
def heldL (n : Int) (E : List (Int × Int)) : Int := leastI ((allL n).map (cutN E))
def leastF (n : Int) (E : List (Int × Int)) : List (List Int) := (lawL n).filter fun l => decide (cutN E l = heldL n E)
theorem leastF_eq (n : Int) (E : List (Int × Int)) : leastF n E = srtL ((allL n).filter fun l => decide (cutN E l = heldL n E)) := srtL_filter _ _
/-! ### lots as parts of what there is -/
theorem fold_in : ∀ (xs : List Int) (L : List (List Int)) (m : List Int) (p : Int → Bool), m ∈ L → m ++ xs.filter p ∈ xs.foldl stepL L
  | [], L, m, p, h => by simpa using h
  | x :: xs, L, m, p, h => by
    rw [List.foldl_cons]
    cases q : p x with
    | true =>
      rw [List.filter_cons_of_pos q, ← List.singleton_append, ← List.append_assoc]
      exact fold_in xs _ _ p (List.mem_append.mpr (.inr (List.mem_map.mpr ⟨m, h, rfl⟩)))
    | false =>
      rw [List.filter_cons_of_neg (by rw [q]; exact Bool.false_ne_true)]
      exact fold_in xs _ _ p (List.mem_append.mpr (.inl h))
theorem fold_out : ∀ (xs : List Int) (L : List (List Int)) (l : List Int), xs.Nodup → l ∈ xs.foldl stepL L → ∃ m ∈ L, ∃ p : Int → Bool, l = m ++ xs.filter p
  | [], L, l, _, h => ⟨l, h, fun _ => true, by simp⟩
  | x :: xs, L, l, nd, h => by
    rw [List.foldl_cons] at h
    obtain ⟨nx, nd'⟩ := List.nodup_cons.mp nd
    obtain ⟨m', hm, p, e⟩ := fold_out xs _ l nd' h
    have cg : ∀ b : Bool, xs.filter p = xs.filter fun y => if y = x then b else p y := fun b => by
      refine List.filter_congr fun y hy => ?_
      rw [if_neg (fun z => nx (by rw [← z]; exact hy))]
    rcases stepL_mem hm with z | ⟨m, z1, z2⟩
    · refine ⟨m', z, fun y => if y = x then false else p y, ?_⟩
      rw [List.filter_cons_of_neg (by simp), ← cg, e]
    · refine ⟨m, z1, fun y => if y = x then true else p y, ?_⟩
      rw [List.filter_cons_of_pos (by simp), ← cg, e, z2, List.append_assoc]
      rfl
theorem upTo_mem {n x : Int} : x ∈ upTo n ↔ 1 ≤ x ∧ x < n := by
  unfold upTo
  simp only [List.mem_map, List.mem_range]
  refine ⟨fun ⟨i, h1, h2⟩ => by omega, fun ⟨h1, h2⟩ => ⟨(x - 1).toNat, by omega, by omega⟩⟩
theorem upTo_lt (n : Int) : (upTo n).Pairwise (· < ·) := by
  unfold upTo
  rw [List.pairwise_map]
  exact List.pairwise_lt_range.imp fun h => by omega
theorem upTo_nodup (n : Int) : (upTo n).Nodup := (upTo_lt n).imp fun h e => by omega
theorem lots_form {n : Int} {l : List Int} (h : l ∈ lotsF n) : l = (upTo n).filter fun x => decide (x ∈ l) := by
  obtain ⟨m, hm, p, e⟩ := fold_out _ _ _ (upTo_nodup n) h
  rw [List.mem_singleton] at hm
  subst hm
  rw [List.nil_append] at e
  subst e
  refine List.filter_congr fun x hx => ?_
  simp [List.mem_filter, hx]
theorem lots_all (n : Int) (p : Int → Bool) : (upTo n).filter p ∈ lotsF n := by
  have := fold_in (upTo n) [[]] [] p List.mem_cons_self
  rwa [List.nil_append] at this
theorem lots_in {n : Int} {l : List Int} (h : l ∈ lotsF n) {x : Int} (hx : x ∈ l) : 1 ≤ x ∧ x < n := by
  rw [lots_form h] at hx
  exact upTo_mem.mp (List.mem_filter.mp hx).1
theorem allL_mem {n : Int} {l : List Int} : l ∈ allL n ↔ l ∈ lotsF n ∧ l ≠ [] := by
  unfold allL
  simp [List.mem_filter]
theorem allL_has {n : Int} (h : 2 ≤ n) : allL n ≠ [] := by
  have : (upTo n).filter (fun _ => true) ∈ allL n := allL_mem.mpr ⟨lots_all n _, fun e => by
    have : (1 : Int) ∈ (upTo n).filter (fun _ => true) := List.mem_filter.mpr ⟨upTo_mem.mpr ⟨Int.le_refl _, by omega⟩, rfl⟩
    rw [e] at this
    cases this⟩
  intro z
  rw [z] at this
  cases this
/-! ### the least -/
theorem leastI_eq {l m : List Int} (hl : l ≠ []) (h : ∀ x, x ∈ l ↔ x ∈ m) : leastI l = leastI m := by
  have hm : m ≠ [] := fun e => by
    cases l with
    | nil => exact hl rfl
    | cons a l =>
      have := (h a).mp List.mem_cons_self
      rw [e] at this
      cases this
  exact Int.le_antisymm (leastI_le ((h _).mpr (leastI_mem hm))) (leastI_le ((h _).mp (leastI_mem hl)))
theorem held_sorted {n : Int} (E : List (Int × Int)) (h : 2 ≤ n) : leastI ((lawL n).map (cutN E)) = heldL n E := by
  unfold heldL
  refine (leastI_eq (fun e => allL_has h (List.map_eq_nil_iff.mp e)) fun x => ?_).symm
  simp only [List.mem_map, lawL, srt_mem]
theorem held_le {n : Int} {E : List (Int × Int)} {l : List Int} (h : l ∈ allL n) : heldL n E ≤ cutN E l := leastI_le (List.mem_map.mpr ⟨l, h, rfl⟩)
theorem leastF_mem {n : Int} {E : List (Int × Int)} {l : List Int} : l ∈ leastF n E ↔ l ∈ allL n ∧ cutN E l = heldL n E := by
  unfold leastF lawL
  rw [List.mem_filter, srt_mem, decide_eq_true_eq]
/-! ### counting links -/
theorem cutN_count (E : List (Int × Int)) (l : List Int) : cutN E l = ((E.countP (crosses l) : Nat) : Int) := by
  unfold cutN cutI
  rw [List.length_map]
  have : ∀ (F : List (Int × Int)) (k : Nat), ((F.zipIdx k).filter fun q => crosses l q.1).length = F.countP (crosses l) := fun F => by
    induction F with
    | nil => intro k; rfl
    | cons p F ih =>
      intro k
      rw [List.zipIdx_cons, List.filter_cons, List.countP_cons]
      cases q : crosses l p with
      | true =>
        rw [if_pos rfl, if_pos rfl, List.length_cons, ih]
      | false =>
        rw [if_neg Bool.false_ne_true, if_neg Bool.false_ne_true, ih]
        rfl
  rw [this E 0]
/-- a count by where both ends stand -/
def cnt4 (A B : List Int) (E : List (Int × Int)) (f : Bool → Bool → Bool → Bool → Bool) : Nat := E.countP fun p => f (decide (p.1 ∈ A)) (decide (p.1 ∈ B)) (decide (p.2 ∈ A)) (decide (p.2 ∈ B))
theorem cnt4_cons (A B : List Int) (p : Int × Int) (E : List (Int × Int)) (f : Bool → Bool → Bool → Bool → Bool) : cnt4 A B (p :: E) f = cnt4 A B E f + (f (decide (p.1 ∈ A)) (decide (p.1 ∈ B)) (decide (p.2 ∈ A)) (decide (p.2 ∈ B))).toNat := by
  unfold cnt4
  rw [List.countP_cons]
  cases f (decide (p.1 ∈ A)) (decide (p.1 ∈ B)) (decide (p.2 ∈ A)) (decide (p.2 ∈ B)) <;> rfl
theorem cnt4_id (A B : List Int) {f1 f2 f3 f4 f5 : Bool → Bool → Bool → Bool → Bool} (h : ∀ a b c d, (f1 a b c d).toNat + (f2 a b c d).toNat = (f3 a b c d).toNat + (f4 a b c d).toNat + 2 * (f5 a b c d).toNat) : ∀ E : List (Int × Int), cnt4 A B E f1 + cnt4 A B E f2 = cnt4 A B E f3 + cnt4 A B E f4 + 2 * cnt4 A B E f5
  | [] => rfl
  | p :: E => by
    have ih := cnt4_id A B h E
    have hp := h (decide (p.1 ∈ A)) (decide (p.1 ∈ B)) (decide (p.2 ∈ A)) (decide (p.2 ∈ B))
    simp only [cnt4_cons]
    omega
theorem cnt4_3 (A B : List Int) {f1 f2 f3 f4 : Bool → Bool → Bool → Bool → Bool} (h : ∀ a b c d, (f1 a b c d).toNat = (f2 a b c d).toNat + (f3 a b c d).toNat + (f4 a b c d).toNat) : ∀ E : List (Int × Int), cnt4 A B E f1 = cnt4 A B E f2 + cnt4 A B E f3 + cnt4 A B E f4
  | [] => rfl
  | p :: E => by
    have ih := cnt4_3 A B h E
    have hp := h (decide (p.1 ∈ A)) (decide (p.1 ∈ B)) (decide (p.2 ∈ A)) (decide (p.2 ∈ B))
    simp only [cnt4_cons]
    omega
theorem cnt4_4 (A B : List Int) {f1 f2 f3 f4 f5 : Bool → Bool → Bool → Bool → Bool} (h : ∀ a b c d, (f1 a b c d).toNat = (f2 a b c d).toNat + (f3 a b c d).toNat + (f4 a b c d).toNat + (f5 a b c d).toNat) : ∀ E : List (Int × Int), cnt4 A B E f1 = cnt4 A B E f2 + cnt4 A B E f3 + cnt4 A B E f4 + cnt4 A B E f5
  | [] => rfl
  | p :: E => by
    have ih := cnt4_4 A B h E
    have hp := h (decide (p.1 ∈ A)) (decide (p.1 ∈ B)) (decide (p.2 ∈ A)) (decide (p.2 ∈ B))
    simp only [cnt4_cons]
    omega
/-- a link between two lots -/
def linkB (A B : List Int) (p : Int × Int) : Bool := (decide (p.1 ∈ A) && decide (p.2 ∈ B)) || (decide (p.1 ∈ B) && decide (p.2 ∈ A))
def linksN (E : List (Int × Int)) (A B : List Int) : Nat := E.countP (linkB A B)
def rngL (n : Int) : List Int := (List.range n.toNat).map fun i => 0 + ((i : Nat) : Int)
theorem rngL_mem {n x : Int} : x ∈ rngL n ↔ 0 ≤ x ∧ x < n := by
  unfold rngL
  simp only [List.mem_map, List.mem_range]
  refine ⟨fun ⟨i, h1, h2⟩ => by omega, fun ⟨h1, h2⟩ => ⟨x.toNat, by omega, by omega⟩⟩
theorem rngL_eq {n : Int} (h : 1 ≤ n) : rngL n = 0 :: upTo n := by
  unfold rngL upTo
  obtain ⟨k, rfl⟩ : ∃ k : Nat, n = (k : Int) + 1 := ⟨(n - 1).toNat, by omega⟩
  rw [show ((k : Int) + 1).toNat = k + 1 by omega, show ((k : Int) + 1 - 1).toNat = k by omega, List.range_succ_eq_map, List.map_cons, List.map_map]
  refine congrArg (List.cons (0 : Int)) (List.map_congr_left fun i _ => ?_)
  show (0 : Int) + ((i + 1 : Nat) : Int) = 1 + (i : Int)
  omega
/-- stations by how they stand to both lots -/
def part (n : Int) (A B : List Int) (p q : Bool) : List Int := (rngL n).filter fun x => (decide (x ∈ A) == p) && (decide (x ∈ B) == q)
theorem part_mem {n : Int} {A B : List Int} {p q : Bool} {x : Int} : x ∈ part n A B p q ↔ (0 ≤ x ∧ x < n) ∧ decide (x ∈ A) = p ∧ decide (x ∈ B) = q := by
  unfold part
  simp [List.mem_filter, rngL_mem]
structure Ok (n : Int) (E : List (Int × Int)) : Prop where
  at_ : ∀ p ∈ E, (0 ≤ p.1 ∧ p.1 < n) ∧ (0 ≤ p.2 ∧ p.2 < n)
theorem cnt_part {n : Int} {E : List (Int × Int)} (ok : Ok n E) (A B : List Int) (p q p' q' : Bool) : linksN E (part n A B p q) (part n A B p' q') = cnt4 A B E fun a b c d => ((a == p && b == q) && (c == p' && d == q')) || ((a == p' && b == q') && (c == p && d == q)) := by
  unfold linksN cnt4
  refine List.countP_congr fun x hx => ?_
  obtain ⟨h1, h2⟩ := ok.at_ x hx
  unfold linkB
  have m1 : ∀ p q, decide (x.1 ∈ part n A B p q) = (decide (x.1 ∈ A) == p && decide (x.1 ∈ B) == q) := fun p q => by
    rw [Bool.eq_iff_iff, decide_eq_true_eq, part_mem, Bool.and_eq_true, beq_iff_eq, beq_iff_eq]
    exact ⟨fun h => h.2, fun h => ⟨h1, h⟩⟩
  have m2 : ∀ p q, decide (x.2 ∈ part n A B p q) = (decide (x.2 ∈ A) == p && decide (x.2 ∈ B) == q) := fun p q => by
    rw [Bool.eq_iff_iff, decide_eq_true_eq, part_mem, Bool.and_eq_true, beq_iff_eq, beq_iff_eq]
    exact ⟨fun h => h.2, fun h => ⟨h2, h⟩⟩
  rw [m1, m1, m2, m2]
theorem cnt_cut {n : Int} {E : List (Int × Int)} (ok : Ok n E) (A B l : List Int) (g : Bool → Bool → Bool) (hl : ∀ x, 0 ≤ x → x < n → decide (x ∈ l) = g (decide (x ∈ A)) (decide (x ∈ B))) : cutN E l = ((cnt4 A B E fun a b c d => (g a b) != (g c d) : Nat) : Int) := by
  rw [cutN_count]
  unfold cnt4
  refine congrArg _ (List.countP_congr fun x hx => ?_)
  obtain ⟨h1, h2⟩ := ok.at_ x hx
  unfold crosses
  rw [hl x.1 h1.1 h1.2, hl x.2 h2.1 h2.2]
/-- the heart: two least lots that cross -/
theorem heart {n : Int} {E : List (Int × Int)} (ok : Ok n E) (hn : 2 ≤ n) {A B : List Int} (hA : A ∈ leastF n E) (hB : B ∈ leastF n E) {bo fi se un : List Int}
    (e1 : ∀ x, 0 ≤ x → x < n → decide (x ∈ bo) = (decide (x ∈ A) && decide (x ∈ B))) (e2 : ∀ x, 0 ≤ x → x < n → decide (x ∈ fi) = (decide (x ∈ A) && !decide (x ∈ B))) (e3 : ∀ x, 0 ≤ x → x < n → decide (x ∈ se) = (!decide (x ∈ A) && decide (x ∈ B))) (e4 : ∀ x, 0 ≤ x → x < n → decide (x ∈ un) = (decide (x ∈ A) || decide (x ∈ B)))
    (i1 : bo ∈ allL n) (i2 : fi ∈ allL n) (i3 : se ∈ allL n) (i4 : un ∈ allL n) :
    (bo ∈ leastF n E ∧ fi ∈ leastF n E ∧ se ∈ leastF n E ∧ un ∈ leastF n E) ∧ linksN E (part n A B true true) (part n A B false false) = 0 ∧ linksN E (part n A B true false) (part n A B false true) = 0 ∧
      2 * (linksN E (part n A B true true) (part n A B true false) : Int) = heldL n E ∧ 2 * (linksN E (part n A B true true) (part n A B false true) : Int) = heldL n E ∧ 2 * (linksN E (part n A B true false) (part n A B false false) : Int) = heldL n E ∧ 2 * (linksN E (part n A B false true) (part n A B false false) : Int) = heldL n E := by
  have cA := (leastF_mem.mp hA).2
  have cB := (leastF_mem.mp hB).2
  have b1 := held_le (E := E) i1
  have b2 := held_le (E := E) i2
  have b3 := held_le (E := E) i3
  have b4 := held_le (E := E) i4
  simp only [leastF_mem, i1, i2, i3, i4, true_and]
  rw [cnt_cut ok A B A (fun a _ => a) (fun x _ _ => rfl)] at cA
  rw [cnt_cut ok A B B (fun _ b => b) (fun x _ _ => rfl)] at cB
  rw [cnt_cut ok A B bo (fun a b => a && b) e1] at b1 ⊢
  rw [cnt_cut ok A B fi (fun a b => a && !b) e2] at b2 ⊢
  rw [cnt_cut ok A B se (fun a b => !a && b) e3] at b3 ⊢
  rw [cnt_cut ok A B un (fun a b => a || b) e4] at b4 ⊢
  simp only [cnt_part ok]
  have I1 := cnt4_id A B (f1 := fun a b c d => a != c) (f2 := fun a b c d => b != d) (f3 := fun a b c d => (a && b) != (c && d)) (f4 := fun a b c d => (a || b) != (c || d)) (f5 := fun a b c d => ((a == true && b == false) && (c == false && d == true)) || ((a == false && b == true) && (c == true && d == false))) (by decide) E
  have I2 := cnt4_id A B (f1 := fun a b c d => a != c) (f2 := fun a b c d => b != d) (f3 := fun a b c d => (a && !b) != (c && !d)) (f4 := fun a b c d => (!a && b) != (!c && d)) (f5 := fun a b c d => ((a == true && b == true) && (c == false && d == false)) || ((a == false && b == false) && (c == true && d == true))) (by decide) E
  have I3 := cnt4_3 A B (f1 := fun a b c d => (a && b) != (c && d)) (f2 := fun a b c d => ((a == true && b == true) && (c == true && d == false)) || ((a == true && b == false) && (c == true && d == true))) (f3 := fun a b c d => ((a == true && b == true) && (c == false && d == true)) || ((a == false && b == true) && (c == true && d == true))) (f4 := fun a b c d => ((a == true && b == true) && (c == false && d == false)) || ((a == false && b == false) && (c == true && d == true))) (by decide) E
  have I4 := cnt4_3 A B (f1 := fun a b c d => (a && !b) != (c && !d)) (f2 := fun a b c d => ((a == true && b == true) && (c == true && d == false)) || ((a == true && b == false) && (c == true && d == true))) (f3 := fun a b c d => ((a == true && b == false) && (c == false && d == false)) || ((a == false && b == false) && (c == true && d == false))) (f4 := fun a b c d => ((a == true && b == false) && (c == false && d == true)) || ((a == false && b == true) && (c == true && d == false))) (by decide) E
  have I5 := cnt4_3 A B (f1 := fun a b c d => (!a && b) != (!c && d)) (f2 := fun a b c d => ((a == true && b == true) && (c == false && d == true)) || ((a == false && b == true) && (c == true && d == true))) (f3 := fun a b c d => ((a == false && b == true) && (c == false && d == false)) || ((a == false && b == false) && (c == false && d == true))) (f4 := fun a b c d => ((a == true && b == false) && (c == false && d == true)) || ((a == false && b == true) && (c == true && d == false))) (by decide) E
  have I6 := cnt4_4 A B (f1 := fun a b c d => a != c) (f2 := fun a b c d => ((a == true && b == true) && (c == false && d == true)) || ((a == false && b == true) && (c == true && d == true))) (f3 := fun a b c d => ((a == true && b == false) && (c == false && d == false)) || ((a == false && b == false) && (c == true && d == false))) (f4 := fun a b c d => ((a == true && b == false) && (c == false && d == true)) || ((a == false && b == true) && (c == true && d == false))) (f5 := fun a b c d => ((a == true && b == true) && (c == false && d == false)) || ((a == false && b == false) && (c == true && d == true))) (by decide) E
  have I7 := cnt4_4 A B (f1 := fun a b c d => b != d) (f2 := fun a b c d => ((a == true && b == true) && (c == true && d == false)) || ((a == true && b == false) && (c == true && d == true))) (f3 := fun a b c d => ((a == false && b == true) && (c == false && d == false)) || ((a == false && b == false) && (c == false && d == true))) (f4 := fun a b c d => ((a == true && b == false) && (c == false && d == true)) || ((a == false && b == true) && (c == true && d == false))) (f5 := fun a b c d => ((a == true && b == true) && (c == false && d == false)) || ((a == false && b == false) && (c == true && d == true))) (by decide) E
  omega
end K98
end
set_option linter.all false
set_option maxRecDepth 100000
set_option maxHeartbeats 4000000
noncomputable section
namespace Pd
open PySem PySem.Spec PyProof.Rows L2
theorem forGo_foldN {α β : Type} {g : PyData → S → Option S} {m : S → RS} (φ : α → PyData) (f : β → α → β) (Rel : Nat → β → S → Prop) : ∀ (xs : List α) (n : Nat) (b : β) (st : S),
    (∀ i x, xs[i]? = some x → ∀ b st, Rel (n + i) b st → ∃ st1 st2, g (φ x) st = some st1 ∧ (m st1 = .nx st2 ∨ m st1 = .ct st2) ∧ Rel (n + i + 1) (f b x) st2) → Rel n b st → ∃ st', forGo g m (xs.map φ) st = .nx st' ∧ Rel (n + xs.length) (xs.foldl f b) st'
  | [], n, b, st, _, h => ⟨st, rfl, h⟩
  | x :: xs, n, b, st, k, h => by
    obtain ⟨st1, st2, h1, h2, h3⟩ := k 0 x rfl b st h
    obtain ⟨st', h4, h5⟩ := forGo_foldN φ f Rel xs (n + 1) (f b x) st2 (fun i y hy b st hr => by
      have e : n + 1 + i = n + (i + 1) := by omega
      rw [e] at hr
      obtain ⟨s1, s2, q1, q2, q3⟩ := k (i + 1) y (by simpa using hy) b st hr
      exact ⟨s1, s2, q1, q2, by rw [e]; exact q3⟩) h3
    refine ⟨st', ?_, by
      rw [List.length_cons, List.foldl_cons, show n + (xs.length + 1) = n + 1 + xs.length by omega]
      exact h5⟩
    rw [List.map_cons]
    unfold forGo
    rw [h1]
    rcases h2 with h2 | h2
    · simp only [h2]
      exact h4
    · simp only [h2]
      exact h4
end Pd
namespace K98
open PySem PySem.Spec PyProof.Rows L2 Pd
abbrev netD (n : Int) (E : List (Int × Int)) : PyData := .tuple [.int n, .tuple (E.map lkD)]
theorem cut_lc (n : Int) (E : List (Int × Int)) (l : List Int) (s : Option Src) (hE : E.length ≤ 1000) : mLc (jEnum (mF (m2 gIx (mPk 0) (mO (mC (.int 1)))))) [2, 3, 4] (gTp (gCn (gN 2) (gCn (gTp (gCn (gN 3) (gCn (gN 4) gNl))) gNl))) (mB (m2 gNe (mO (m2 (gIn false) (mPk 3) (mPk 1))) (mO (m2 (gIn false) (mPk 4) (mPk 1))))) (mF (mVar 2)) ⟨[.v (netD n E), .v (lotD l), .no, .no, .no], s⟩ = .ok (.o (.list ((cutI E l).map .int))) ⟨[.v (netD n E), .v (lotD l), .no, .no, .no], s⟩ := by
  rw [mLc_map (st1 := ⟨[.v (netD n E), .v (lotD l), .no, .no, .no], s⟩) E.zipIdx (fun q => .tuple [.int (q.2 : Nat), lkD q.1]) (fun q => crosses l q.1) (fun q => .int (q.2 : Nat))]
  · unfold cutI
    rw [List.map_map]
    rfl
  · simp only [v_GetS, v_Cel, v_CelLen, v_CelPop, v_PutS, v_C, v_Var, v_Mv, v_Pk, v_O, v_F, v_B, v_m1, v_m2, still_v, still_t, still_s, d_v, d_t, d_s, v_Seq, v_Nil, v_If, v_Set, v_Ret, v_Drop, v_Asg, v_Par2, v_Par3, v_And, v_Or, v_Not, v_IfE, v_Yes, v_nil, v_cons, v_tup, v_lst, v_N, v_Nl, v_Cn, v_Tp, v_TpL, v_jSeq, v_jEnum, v_jRg, v_jRg2, v_For, v_Call, v_xNil, v_xCons, v_xSrc, v_Mut, S.wipe, wipeS, S.rest, restS, backS, List.set_cons_zero, List.set_cons_succ, List.getElem?_cons_zero, List.getElem?_cons_succ, List.any_cons, List.any_nil, Slot.isSrc, if_true, Bool.or_false, Bool.false_or, Bool.or_true, Bool.true_or, true_or, or_true, List.length_cons, List.length_nil, Bool.false_eq_true, if_false, reduceIte, reduceCtorEq, at1, enumD_map]
  · rw [List.length_zipIdx]
    omega
  · intro q hq
    refine ⟨_, ⟨[.v (netD n E), .v (lotD l), .v (.int (q.2 : Nat)), .v (.int q.1.1), .v (.int q.1.2)], s⟩, rfl, ?_, fun _ => rfl, fun _ => ⟨_, rfl, rfl⟩⟩
    simp only [v_GetS, v_Cel, v_CelLen, v_CelPop, v_PutS, v_C, v_Var, v_Mv, v_Pk, v_O, v_F, v_B, v_m1, v_m2, still_v, still_t, still_s, d_v, d_t, d_s, v_Seq, v_Nil, v_If, v_Set, v_Ret, v_Drop, v_Asg, v_Par2, v_Par3, v_And, v_Or, v_Not, v_IfE, v_Yes, v_nil, v_cons, v_tup, v_lst, v_N, v_Nl, v_Cn, v_Tp, v_TpL, v_jSeq, v_jEnum, v_jRg, v_jRg2, v_For, v_Call, v_xNil, v_xCons, v_xSrc, v_Mut, S.wipe, wipeS, S.rest, restS, backS, List.set_cons_zero, List.set_cons_succ, List.getElem?_cons_zero, List.getElem?_cons_succ, List.any_cons, List.any_nil, Slot.isSrc, if_true, Bool.or_false, Bool.false_or, Bool.or_true, Bool.true_or, true_or, or_true, List.length_cons, List.length_nil, Bool.false_eq_true, if_false, reduceIte, reduceCtorEq, gIn_int_tup, gNe_bool, crosses, Bool.false_xor]
theorem side_cut_is (n : Int) (E : List (Int × Int)) (l : List Int) (s : Option Src) (hE : E.length ≤ 1000) : g_side_cut [.v (netD n E), .v (lotD l)] s = some (.v (lotD (cutI E l)), s) := by
  refine g_of (ss := [.v (netD n E), .v (lotD l), .no, .no, .no]) (ss' := [.v (netD n E), .v (lotD l), .no, .no, .no]) rfl ?_
  unfold m_side_cut
  simp only [v_GetS, v_Cel, v_CelLen, v_CelPop, v_PutS, v_C, v_Var, v_Mv, v_Pk, v_O, v_F, v_B, v_m1, v_m2, still_v, still_t, still_s, d_v, d_t, d_s, v_Seq, v_Nil, v_If, v_Set, v_Ret, v_Drop, v_Asg, v_Par2, v_Par3, v_And, v_Or, v_Not, v_IfE, v_Yes, v_nil, v_cons, v_tup, v_lst, v_N, v_Nl, v_Cn, v_Tp, v_TpL, v_jSeq, v_jEnum, v_jRg, v_jRg2, v_For, v_Call, v_xNil, v_xCons, v_xSrc, v_Mut, S.wipe, wipeS, S.rest, restS, backS, List.set_cons_zero, List.set_cons_succ, List.getElem?_cons_zero, List.getElem?_cons_succ, List.any_cons, List.any_nil, Slot.isSrc, if_true, Bool.or_false, Bool.false_or, Bool.or_true, Bool.true_or, true_or, or_true, List.length_cons, List.length_nil, Bool.false_eq_true, if_false, reduceIte, reduceCtorEq, cut_lc n E l s hE, gTuple_list]
theorem law_cut_is (n : Int) (E : List (Int × Int)) (l : List Int) (s : Option Src) (hE : E.length ≤ 1000) : g_law_cut [.v (netD n E), .v (lotD l)] s = some (.o (.list ((cutI E l).map .int)), s) := by
  refine g_ofO (ss := [.v (netD n E), .v (lotD l), .no, .no, .no]) (ss' := [.v (netD n E), .v (lotD l), .no, .no, .no]) rfl ?_
  unfold m_law_cut
  simp only [v_GetS, v_Cel, v_CelLen, v_CelPop, v_PutS, v_C, v_Var, v_Mv, v_Pk, v_O, v_F, v_B, v_m1, v_m2, still_v, still_t, still_s, d_v, d_t, d_s, v_Seq, v_Nil, v_If, v_Set, v_Ret, v_Drop, v_Asg, v_Par2, v_Par3, v_And, v_Or, v_Not, v_IfE, v_Yes, v_nil, v_cons, v_tup, v_lst, v_N, v_Nl, v_Cn, v_Tp, v_TpL, v_jSeq, v_jEnum, v_jRg, v_jRg2, v_For, v_Call, v_xNil, v_xCons, v_xSrc, v_Mut, S.wipe, wipeS, S.rest, restS, backS, List.set_cons_zero, List.set_cons_succ, List.getElem?_cons_zero, List.getElem?_cons_succ, List.any_cons, List.any_nil, Slot.isSrc, if_true, Bool.or_false, Bool.false_or, Bool.or_true, Bool.true_or, true_or, or_true, List.length_cons, List.length_nil, Bool.false_eq_true, if_false, reduceIte, reduceCtorEq, cut_lc n E l s hE]
theorem rgD_1 (n : Int) : rgD 1 n = (upTo n).map PyData.int := by
  unfold rgD upTo
  rw [List.map_map]
  rfl
theorem lots_lc (n k : Int) (L : List (List Int)) (s : Option Src) (hL : L.length ≤ 100000) (hl : ∀ l ∈ L, l.length ≤ 1000) : mLc (jSeq (mF (mVar 1))) [3] (gN 3) tYesM (mF (m2 gAdd (mPk 3) (mO (mTup (mCons (mF (mVar 2)) mNil))))) ⟨[.v (.int n), .o (.list (L.map lotD)), .v (.int k), .no], s⟩ = .ok (.o (.list ((L.map (· ++ [k])).map lotD))) ⟨[.v (.int n), .v (.list (L.map lotD)), .v (.int k), .no], s⟩ := by
  rw [mLc_map (st1 := ⟨[.v (.int n), .v (.list (L.map lotD)), .v (.int k), .no], s⟩) L lotD (fun _ => true) (fun l => lotD (l ++ [k]))]
  · rw [List.filter_eq_self.mpr (fun _ _ => rfl), List.map_map]
    rfl
  · simp only [v_GetS, v_Cel, v_CelLen, v_CelPop, v_PutS, v_C, v_Var, v_Mv, v_Pk, v_O, v_F, v_B, v_m1, v_m2, still_v, still_t, still_s, d_v, d_t, d_s, v_Seq, v_Nil, v_If, v_Set, v_Ret, v_Drop, v_Asg, v_Par2, v_Par3, v_And, v_Or, v_Not, v_IfE, v_Yes, v_nil, v_cons, v_tup, v_lst, v_N, v_Nl, v_Cn, v_Tp, v_TpL, v_jSeq, v_jEnum, v_jRg, v_jRg2, v_For, v_Call, v_xNil, v_xCons, v_xSrc, v_Mut, S.wipe, wipeS, S.rest, restS, backS, List.set_cons_zero, List.set_cons_succ, List.getElem?_cons_zero, List.getElem?_cons_succ, List.any_cons, List.any_nil, Slot.isSrc, if_true, Bool.or_false, Bool.false_or, Bool.or_true, Bool.true_or, true_or, or_true, List.length_cons, List.length_nil, Bool.false_eq_true, if_false, reduceIte, reduceCtorEq]
  · omega
  · intro l hm
    refine ⟨_, ⟨[.v (.int n), .v (.list (L.map lotD)), .v (.int k), .v (lotD l)], s⟩, rfl, rfl, fun h => (nomatch h), fun _ => ⟨⟨[.v (.int n), .v (.list (L.map lotD)), .v (.int k), .v (lotD l)], s⟩, ?_, rfl⟩⟩
    have b := hl l hm
    simp only [v_GetS, v_Cel, v_CelLen, v_CelPop, v_PutS, v_C, v_Var, v_Mv, v_Pk, v_O, v_F, v_B, v_m1, v_m2, still_v, still_t, still_s, d_v, d_t, d_s, v_Seq, v_Nil, v_If, v_Set, v_Ret, v_Drop, v_Asg, v_Par2, v_Par3, v_And, v_Or, v_Not, v_IfE, v_Yes, v_nil, v_cons, v_tup, v_lst, v_N, v_Nl, v_Cn, v_Tp, v_TpL, v_jSeq, v_jEnum, v_jRg, v_jRg2, v_For, v_Call, v_xNil, v_xCons, v_xSrc, v_Mut, S.wipe, wipeS, S.rest, restS, backS, List.set_cons_zero, List.set_cons_succ, List.getElem?_cons_zero, List.getElem?_cons_succ, List.any_cons, List.any_nil, Slot.isSrc, if_true, Bool.or_false, Bool.false_or, Bool.or_true, Bool.true_or, true_or, or_true, List.length_cons, List.length_nil, Bool.false_eq_true, if_false, reduceIte, reduceCtorEq, okLen_of (n := 0 + 1) (by omega)]
    rw [gAdd_tup (by rw [List.length_map, List.length_singleton]; omega), show lotD (l ++ [k]) = .tuple (l.map PyData.int ++ [.int k]) by rw [lotD, List.map_append]; rfl]
theorem lots_turn (n k : Int) (L : List (List Int)) (c : Slot) (s : Option Src) (hL : L.length ≤ 100000) (hl : ∀ l ∈ L, l.length ≤ 1000) : sSet 1 (m2 gAdd (mPk 1) (mO (mLc (jSeq (mF (mVar 1))) [3] (gN 3) tYesM (mF (m2 gAdd (mPk 3) (mO (mTup (mCons (mF (mVar 2)) mNil)))))))) ⟨[.v (.int n), .o (.list (L.map lotD)), .v (.int k), .no], s⟩ = .nx ⟨[.v (.int n), .o (.list ((stepL L k).map lotD)), .v (.int k), .no], s⟩ := by
  have e := lots_lc n k L s hL hl
  have a : gAdd (.list (L.map lotD)) (.list ((L.map (· ++ [k])).map lotD)) = some (.o (.list ((stepL L k).map lotD))) := by
    rw [gAdd_list (by rw [List.length_map, List.length_map, List.length_map]; omega), ← List.map_append]
    rfl
  simp only [v_GetS, v_Cel, v_CelLen, v_CelPop, v_PutS, v_C, v_Var, v_Mv, v_Pk, v_O, v_F, v_B, v_m1, v_m2, still_v, still_t, still_s, d_v, d_t, d_s, v_Seq, v_Nil, v_If, v_Set, v_Ret, v_Drop, v_Asg, v_Par2, v_Par3, v_And, v_Or, v_Not, v_IfE, v_Yes, v_nil, v_cons, v_tup, v_lst, v_N, v_Nl, v_Cn, v_Tp, v_TpL, v_jSeq, v_jEnum, v_jRg, v_jRg2, v_For, v_Call, v_xNil, v_xCons, v_xSrc, v_Mut, S.wipe, wipeS, S.rest, restS, backS, List.set_cons_zero, List.set_cons_succ, List.getElem?_cons_zero, List.getElem?_cons_succ, List.any_cons, List.any_nil, Slot.isSrc, if_true, Bool.or_false, Bool.false_or, Bool.or_true, Bool.true_or, true_or, or_true, List.length_cons, List.length_nil, Bool.false_eq_true, if_false, reduceIte, reduceCtorEq, e, a]
theorem lots_loop (n : Int) (s : Option Src) (h1 : 1 ≤ n) (h2 : n ≤ 8) : ∃ c, sFor (jRg2 (mCons (mF (mC (.int 1))) (mCons (mF (mVar 0)) mNil))) (gN 2) (sSet 1 (m2 gAdd (mPk 1) (mO (mLc (jSeq (mF (mVar 1))) [3] (gN 3) tYesM (mF (m2 gAdd (mPk 3) (mO (mTup (mCons (mF (mVar 2)) mNil))))))))) ⟨[.v (.int n), .o (.list [lotD []]), .no, .no], s⟩ = .nx ⟨[.v (.int n), .o (.list ((lotsF n).map lotD)), c, .no], s⟩ ∧ (lotsF n).length = 2 ^ (n - 1).toNat ∧ (∀ l ∈ lotsF n, l.length ≤ 8) ∧ backS (some c) = c := by
  have hr : rgOk 1 n = true := rgOk_of (by omega) (by omega) (by omega) (by omega) (by omega)
  obtain ⟨st', e1, c, e2, e3, e4, e5⟩ := forGo_foldN (g := gN 2) (m := sSet 1 (m2 gAdd (mPk 1) (mO (mLc (jSeq (mF (mVar 1))) [3] (gN 3) tYesM (mF (m2 gAdd (mPk 3) (mO (mTup (mCons (mF (mVar 2)) mNil))))))))) PyData.int stepL
    (fun i L st => ∃ c, st = ⟨[.v (.int n), .o (.list (L.map lotD)), c, .no], s⟩ ∧ L.length = 2 ^ i ∧ (∀ l ∈ L, l.length ≤ i) ∧ backS (some c) = c) (upTo n) 0 [[]] ⟨[.v (.int n), .o (.list [lotD []]), .no, .no], s⟩ (fun i k hk L st ⟨c, q1, q2, q3, _⟩ => by
      subst q1
      have hi : i < (n - 1).toNat := by
        have := (List.getElem?_eq_some_iff.mp hk).1
        rwa [upTo_len] at this
      have hi7 : i < 7 := by omega
      rw [Nat.zero_add] at q2 q3 ⊢
      have small : 2 ^ i ≤ 2 ^ 7 := Nat.pow_le_pow_right (by omega) (by omega)
      refine ⟨_, _, rfl, .inl (lots_turn n k L c s (by rw [q2]; omega) fun l hl => by have := q3 l hl; omega), .v (.int k), rfl, ?_, fun l hl => ?_, rfl⟩
      · rw [stepL_len, q2, Nat.pow_succ]
        omega
      · rcases stepL_mem hl with z | ⟨m, z1, z2⟩
        · have := q3 l z
          omega
        · rw [z2, List.length_append, List.length_singleton]
          have := q3 m z1
          omega) ⟨.no, rfl, rfl, fun l hl => by
      rw [List.mem_singleton] at hl
      rw [hl]
      exact Nat.le_refl 0, rfl⟩
  rw [Nat.zero_add, upTo_len] at e3 e4
  refine ⟨c, ?_, e3, fun l hl => by have := e4 l hl; omega, e5⟩
  simp only [v_GetS, v_Cel, v_CelLen, v_CelPop, v_PutS, v_C, v_Var, v_Mv, v_Pk, v_O, v_F, v_B, v_m1, v_m2, still_v, still_t, still_s, d_v, d_t, d_s, v_Seq, v_Nil, v_If, v_Set, v_Ret, v_Drop, v_Asg, v_Par2, v_Par3, v_And, v_Or, v_Not, v_IfE, v_Yes, v_nil, v_cons, v_tup, v_lst, v_N, v_Nl, v_Cn, v_Tp, v_TpL, v_jSeq, v_jEnum, v_jRg, v_jRg2, v_For, v_Call, v_xNil, v_xCons, v_xSrc, v_Mut, S.wipe, wipeS, S.rest, restS, backS, List.set_cons_zero, List.set_cons_succ, List.getElem?_cons_zero, List.getElem?_cons_succ, List.any_cons, List.any_nil, Slot.isSrc, if_true, Bool.or_false, Bool.false_or, Bool.or_true, Bool.true_or, true_or, or_true, List.length_cons, List.length_nil, Bool.false_eq_true, if_false, reduceIte, reduceCtorEq, hr, rgD_1, e1, e2]
  rfl
theorem all_lc (n : Int) (c : Slot) (hc : backS (some c) = c) (s : Option Src) (hL : (lotsF n).length ≤ 100000) : mLc (jSeq (mF (mVar 1))) [3] (gN 3) (mB (m2 gNe (mPk 3) (mO (mTup mNil)))) (mF (mVar 3)) ⟨[.v (.int n), .o (.list ((lotsF n).map lotD)), c, .no], s⟩ = .ok (.o (.list ((allL n).map lotD))) ⟨[.v (.int n), .v (.list ((lotsF n).map lotD)), c, .no], s⟩ := by
  rw [mLc_map (st1 := ⟨[.v (.int n), .v (.list ((lotsF n).map lotD)), c, .no], s⟩) (lotsF n) lotD (fun l => !decide (l = [])) lotD]
  · rfl
  · simp only [v_GetS, v_Cel, v_CelLen, v_CelPop, v_PutS, v_C, v_Var, v_Mv, v_Pk, v_O, v_F, v_B, v_m1, v_m2, still_v, still_t, still_s, d_v, d_t, d_s, v_Seq, v_Nil, v_If, v_Set, v_Ret, v_Drop, v_Asg, v_Par2, v_Par3, v_And, v_Or, v_Not, v_IfE, v_Yes, v_nil, v_cons, v_tup, v_lst, v_N, v_Nl, v_Cn, v_Tp, v_TpL, v_jSeq, v_jEnum, v_jRg, v_jRg2, v_For, v_Call, v_xNil, v_xCons, v_xSrc, v_Mut, S.wipe, wipeS, S.rest, restS, backS, List.set_cons_zero, List.set_cons_succ, List.getElem?_cons_zero, List.getElem?_cons_succ, List.any_cons, List.any_nil, Slot.isSrc, if_true, Bool.or_false, Bool.false_or, Bool.or_true, Bool.true_or, true_or, or_true, List.length_cons, List.length_nil, Bool.false_eq_true, if_false, reduceIte, reduceCtorEq]
  · omega
  · intro l hm
    refine ⟨_, ⟨[.v (.int n), .v (.list ((lotsF n).map lotD)), c, .v (lotD l)], s⟩, rfl, ?_, fun _ => rfl, fun _ => ⟨_, rfl, rfl⟩⟩
    have e : gNe (lotD l) (.tuple []) = some (.v (.bool (!decide (l = [])))) := gNe_lot l []
    simp only [v_GetS, v_Cel, v_CelLen, v_CelPop, v_PutS, v_C, v_Var, v_Mv, v_Pk, v_O, v_F, v_B, v_m1, v_m2, still_v, still_t, still_s, d_v, d_t, d_s, v_Seq, v_Nil, v_If, v_Set, v_Ret, v_Drop, v_Asg, v_Par2, v_Par3, v_And, v_Or, v_Not, v_IfE, v_Yes, v_nil, v_cons, v_tup, v_lst, v_N, v_Nl, v_Cn, v_Tp, v_TpL, v_jSeq, v_jEnum, v_jRg, v_jRg2, v_For, v_Call, v_xNil, v_xCons, v_xSrc, v_Mut, S.wipe, wipeS, S.rest, restS, backS, List.set_cons_zero, List.set_cons_succ, List.getElem?_cons_zero, List.getElem?_cons_succ, List.any_cons, List.any_nil, Slot.isSrc, if_true, Bool.or_false, Bool.false_or, Bool.or_true, Bool.true_or, true_or, or_true, List.length_cons, List.length_nil, Bool.false_eq_true, if_false, reduceIte, reduceCtorEq, okLen_of (n := 0) (by omega), e]
theorem lots_small (n : Int) (h1 : 1 ≤ n) (h2 : n ≤ 8) : (lotsF n).length ≤ 128 := by
  obtain ⟨_, _, e, _⟩ := lots_loop n none h1 h2
  rw [e]
  exact Nat.pow_le_pow_right (n := 2) (i := (n - 1).toNat) (j := 7) (by omega) (by omega)
theorem proper_is (n : Int) (s : Option Src) (h1 : 1 ≤ n) (h2 : n ≤ 8) : g_proper_side_lots [.v (.int n)] s = some (.o (.list ((allL n).map lotD)), s) := by
  obtain ⟨c, e1, _, _, hc⟩ := lots_loop n s h1 h2
  have e2 := all_lc n c hc s (by have := lots_small n h1 h2; omega)
  refine g_ofO (ss := [.v (.int n), .no, .no, .no]) (ss' := [.v (.int n), .v (.list ((lotsF n).map lotD)), c, .no]) rfl ?_
  unfold m_proper_side_lots
  have e0 : (PyData.tuple []) = lotD [] := rfl
  simp only [v_GetS, v_Cel, v_CelLen, v_CelPop, v_PutS, v_C, v_Var, v_Mv, v_Pk, v_O, v_F, v_B, v_m1, v_m2, still_v, still_t, still_s, d_v, d_t, d_s, v_Seq, v_Nil, v_If, v_Set, v_Ret, v_Drop, v_Asg, v_Par2, v_Par3, v_And, v_Or, v_Not, v_IfE, v_Yes, v_nil, v_cons, v_tup, v_lst, v_N, v_Nl, v_Cn, v_Tp, v_TpL, v_jSeq, v_jEnum, v_jRg, v_jRg2, v_Call, v_xNil, v_xCons, v_xSrc, v_Mut, S.wipe, wipeS, S.rest, restS, backS, List.set_cons_zero, List.set_cons_succ, List.getElem?_cons_zero, List.getElem?_cons_succ, List.any_cons, List.any_nil, Slot.isSrc, if_true, Bool.or_false, Bool.false_or, Bool.or_true, Bool.true_or, true_or, or_true, List.length_cons, List.length_nil, Bool.false_eq_true, if_false, reduceIte, reduceCtorEq, okLen_of (n := 0) (by omega), okLen_of (n := 0 + 1) (by omega), e0, e1, e2]
theorem law_lots_is (n : Int) (s : Option Src) (h1 : 1 ≤ n) (h2 : n ≤ 8) : g_law_all_lots [.v (.int n)] s = some (.o (.list ((lawL n).map lotD)), s) := by
  obtain ⟨c, e1, _, _, hc⟩ := lots_loop n s h1 h2
  have e2 := all_lc n c hc s (by have := lots_small n h1 h2; omega)
  refine g_ofO (ss := [.v (.int n), .no, .no, .no]) (ss' := [.v (.int n), .v (.list ((lotsF n).map lotD)), c, .no]) rfl ?_
  unfold m_law_all_lots
  have e0 : (PyData.tuple []) = lotD [] := rfl
  have e3 := gSorted_lots (allL n) fun l hl => allL_ne hl
  simp only [v_GetS, v_Cel, v_CelLen, v_CelPop, v_PutS, v_C, v_Var, v_Mv, v_Pk, v_O, v_F, v_B, v_m1, v_m2, still_v, still_t, still_s, d_v, d_t, d_s, v_Seq, v_Nil, v_If, v_Set, v_Ret, v_Drop, v_Asg, v_Par2, v_Par3, v_And, v_Or, v_Not, v_IfE, v_Yes, v_nil, v_cons, v_tup, v_lst, v_N, v_Nl, v_Cn, v_Tp, v_TpL, v_jSeq, v_jEnum, v_jRg, v_jRg2, v_Call, v_xNil, v_xCons, v_xSrc, v_Mut, S.wipe, wipeS, S.rest, restS, backS, List.set_cons_zero, List.set_cons_succ, List.getElem?_cons_zero, List.getElem?_cons_succ, List.any_cons, List.any_nil, Slot.isSrc, if_true, Bool.or_false, Bool.false_or, Bool.or_true, Bool.true_or, true_or, or_true, List.length_cons, List.length_nil, Bool.false_eq_true, if_false, reduceIte, reduceCtorEq, okLen_of (n := 0) (by omega), okLen_of (n := 0 + 1) (by omega), e0, e1, e2, e3]
  rfl
theorem held_is (n : Int) (E : List (Int × Int)) (s : Option Src) (h1 : 2 ≤ n) (h2 : n ≤ 8) (hE : E.length ≤ 1000) : g_held_by_lots [.v (netD n E)] s = some (.v (.int (heldL n E)), s) := by
  refine g_of (ss := [.v (netD n E), .no]) (ss' := [.v (netD n E), .no]) rfl ?_
  have e : mLc (jSeq (mF (mCall g_proper_side_lots (xCons (mF (m2 gIx (mPk 0) (mO (mC (.int 0))))) xNil)))) [1] (gN 1) tYesM (mF (m1 gLen (mO (mCall g_side_cut (xCons (mF (mVar 0)) (xCons (mF (mVar 1)) xNil)))))) ⟨[.v (netD n E), .no], s⟩ = .ok (.o (.list (((allL n).map (cutN E)).map PyData.int))) ⟨[.v (netD n E), .no], s⟩ := by
    rw [mLc_map (st1 := ⟨[.v (netD n E), .no], s⟩) (allL n) lotD (fun _ => true) (fun l => .int (cutN E l))]
    · rw [List.filter_eq_self.mpr (fun _ _ => rfl), List.map_map]
      rfl
    · simp only [v_GetS, v_Cel, v_CelLen, v_CelPop, v_PutS, v_C, v_Var, v_Mv, v_Pk, v_O, v_F, v_B, v_m1, v_m2, still_v, still_t, still_s, d_v, d_t, d_s, v_Seq, v_Nil, v_If, v_Set, v_Ret, v_Drop, v_Asg, v_Par2, v_Par3, v_And, v_Or, v_Not, v_IfE, v_Yes, v_nil, v_cons, v_tup, v_lst, v_N, v_Nl, v_Cn, v_Tp, v_TpL, v_jSeq, v_jEnum, v_jRg, v_jRg2, v_For, v_Call, v_xNil, v_xCons, v_xSrc, v_Mut, S.wipe, wipeS, S.rest, restS, backS, List.set_cons_zero, List.set_cons_succ, List.getElem?_cons_zero, List.getElem?_cons_succ, List.any_cons, List.any_nil, Slot.isSrc, if_true, Bool.or_false, Bool.false_or, Bool.or_true, Bool.true_or, true_or, or_true, List.length_cons, List.length_nil, Bool.false_eq_true, if_false, reduceIte, reduceCtorEq, at0, proper_is n none (by omega) h2]
    · have := lots_small n (by omega) h2
      have := List.length_filter_le (fun l => !decide (l = ([] : List Int))) (lotsF n)
      unfold allL
      omega
    · intro l hm
      refine ⟨_, ⟨[.v (netD n E), .v (lotD l)], s⟩, rfl, rfl, fun h => (nomatch h), fun _ => ⟨⟨[.v (netD n E), .v (lotD l)], s⟩, ?_, rfl⟩⟩
      simp only [v_GetS, v_Cel, v_CelLen, v_CelPop, v_PutS, v_C, v_Var, v_Mv, v_Pk, v_O, v_F, v_B, v_m1, v_m2, still_v, still_t, still_s, d_v, d_t, d_s, v_Seq, v_Nil, v_If, v_Set, v_Ret, v_Drop, v_Asg, v_Par2, v_Par3, v_And, v_Or, v_Not, v_IfE, v_Yes, v_nil, v_cons, v_tup, v_lst, v_N, v_Nl, v_Cn, v_Tp, v_TpL, v_jSeq, v_jEnum, v_jRg, v_jRg2, v_For, v_Call, v_xNil, v_xCons, v_xSrc, v_Mut, S.wipe, wipeS, S.rest, restS, backS, List.set_cons_zero, List.set_cons_succ, List.getElem?_cons_zero, List.getElem?_cons_succ, List.any_cons, List.any_nil, Slot.isSrc, if_true, Bool.or_false, Bool.false_or, Bool.or_true, Bool.true_or, true_or, or_true, List.length_cons, List.length_nil, Bool.false_eq_true, if_false, reduceIte, reduceCtorEq, side_cut_is n E l none hE, gLen_tup, List.length_map]
      rfl
  have g := gMin_ints (l := (allL n).map (cutN E)) (by
    intro z
    exact allL_has h1 (List.map_eq_nil_iff.mp z))
  unfold m_held_by_lots
  simp only [v_GetS, v_Cel, v_CelLen, v_CelPop, v_PutS, v_C, v_Var, v_Mv, v_Pk, v_O, v_F, v_B, v_m1, v_m2, still_v, still_t, still_s, d_v, d_t, d_s, v_Seq, v_Nil, v_If, v_Set, v_Ret, v_Drop, v_Asg, v_Par2, v_Par3, v_And, v_Or, v_Not, v_IfE, v_Yes, v_nil, v_cons, v_tup, v_lst, v_N, v_Nl, v_Cn, v_Tp, v_TpL, v_jSeq, v_jEnum, v_jRg, v_jRg2, v_For, v_Call, v_xNil, v_xCons, v_xSrc, v_Mut, S.wipe, wipeS, S.rest, restS, backS, List.set_cons_zero, List.set_cons_succ, List.getElem?_cons_zero, List.getElem?_cons_succ, List.any_cons, List.any_nil, Slot.isSrc, if_true, Bool.or_false, Bool.false_or, Bool.or_true, Bool.true_or, true_or, or_true, List.length_cons, List.length_nil, Bool.false_eq_true, if_false, reduceIte, reduceCtorEq, e, g]
  rfl
theorem lots_few (n : Int) (h1 : 1 ≤ n) (h2 : n ≤ 8) : (allL n).length ≤ 128 := by
  have := lots_small n h1 h2
  have := List.length_filter_le (fun l => !decide (l = ([] : List Int))) (lotsF n)
  unfold allL
  omega
theorem least_is (n : Int) (E : List (Int × Int)) (s : Option Src) (h1 : 2 ≤ n) (h2 : n ≤ 8) (hE : E.length ≤ 1000) : g_least_lots [.v (netD n E)] s = some (.v (.tuple ((leastF n E).map lotD)), s) := by
  refine g_of (ss := [.v (netD n E), .no, .no]) (ss' := [.v (netD n E), .v (.int (heldL n E)), .no]) rfl ?_
  have e : mLc (jSeq (mF (mCall g_proper_side_lots (xCons (mF (m2 gIx (mPk 0) (mO (mC (.int 0))))) xNil)))) [2] (gN 2) (mB (m2 gEq (mO (m1 gLen (mO (mCall g_side_cut (xCons (mF (mVar 0)) (xCons (mF (mVar 2)) xNil)))))) (mPk 1))) (mF (mVar 2)) ⟨[.v (netD n E), .v (.int (heldL n E)), .no], s⟩ = .ok (.o (.list (((allL n).filter fun l => decide (cutN E l = heldL n E)).map lotD))) ⟨[.v (netD n E), .v (.int (heldL n E)), .no], s⟩ := by
    rw [mLc_map (st1 := ⟨[.v (netD n E), .v (.int (heldL n E)), .no], s⟩) (allL n) lotD (fun l => decide (cutN E l = heldL n E)) lotD]
    · rfl
    · simp only [v_GetS, v_Cel, v_CelLen, v_CelPop, v_PutS, v_C, v_Var, v_Mv, v_Pk, v_O, v_F, v_B, v_m1, v_m2, still_v, still_t, still_s, d_v, d_t, d_s, v_Seq, v_Nil, v_If, v_Set, v_Ret, v_Drop, v_Asg, v_Par2, v_Par3, v_And, v_Or, v_Not, v_IfE, v_Yes, v_nil, v_cons, v_tup, v_lst, v_N, v_Nl, v_Cn, v_Tp, v_TpL, v_jSeq, v_jEnum, v_jRg, v_jRg2, v_For, v_Call, v_xNil, v_xCons, v_xSrc, v_Mut, S.wipe, wipeS, S.rest, restS, backS, List.set_cons_zero, List.set_cons_succ, List.getElem?_cons_zero, List.getElem?_cons_succ, List.any_cons, List.any_nil, Slot.isSrc, if_true, Bool.or_false, Bool.false_or, Bool.or_true, Bool.true_or, true_or, or_true, List.length_cons, List.length_nil, Bool.false_eq_true, if_false, reduceIte, reduceCtorEq, at0, proper_is n none (by omega) h2]
    · have := lots_few n (by omega) h2
      omega
    · intro l hm
      refine ⟨_, ⟨[.v (netD n E), .v (.int (heldL n E)), .v (lotD l)], s⟩, rfl, ?_, fun _ => rfl, fun _ => ⟨_, rfl, rfl⟩⟩
      simp only [v_GetS, v_Cel, v_CelLen, v_CelPop, v_PutS, v_C, v_Var, v_Mv, v_Pk, v_O, v_F, v_B, v_m1, v_m2, still_v, still_t, still_s, d_v, d_t, d_s, v_Seq, v_Nil, v_If, v_Set, v_Ret, v_Drop, v_Asg, v_Par2, v_Par3, v_And, v_Or, v_Not, v_IfE, v_Yes, v_nil, v_cons, v_tup, v_lst, v_N, v_Nl, v_Cn, v_Tp, v_TpL, v_jSeq, v_jEnum, v_jRg, v_jRg2, v_For, v_Call, v_xNil, v_xCons, v_xSrc, v_Mut, S.wipe, wipeS, S.rest, restS, backS, List.set_cons_zero, List.set_cons_succ, List.getElem?_cons_zero, List.getElem?_cons_succ, List.any_cons, List.any_nil, Slot.isSrc, if_true, Bool.or_false, Bool.false_or, Bool.or_true, Bool.true_or, true_or, or_true, List.length_cons, List.length_nil, Bool.false_eq_true, if_false, reduceIte, reduceCtorEq, side_cut_is n E l none hE, gLen_tup, List.length_map, gEq_int]
      rfl
  have g := gSorted_lots ((allL n).filter fun l => decide (cutN E l = heldL n E)) fun l hl => allL_ne (List.mem_filter.mp hl).1
  unfold m_least_lots
  simp only [v_GetS, v_Cel, v_CelLen, v_CelPop, v_PutS, v_C, v_Var, v_Mv, v_Pk, v_O, v_F, v_B, v_m1, v_m2, still_v, still_t, still_s, d_v, d_t, d_s, v_Seq, v_Nil, v_If, v_Set, v_Ret, v_Drop, v_Asg, v_Par2, v_Par3, v_And, v_Or, v_Not, v_IfE, v_Yes, v_nil, v_cons, v_tup, v_lst, v_N, v_Nl, v_Cn, v_Tp, v_TpL, v_jSeq, v_jEnum, v_jRg, v_jRg2, v_For, v_Call, v_xNil, v_xCons, v_xSrc, v_Mut, S.wipe, wipeS, S.rest, restS, backS, List.set_cons_zero, List.set_cons_succ, List.getElem?_cons_zero, List.getElem?_cons_succ, List.any_cons, List.any_nil, Slot.isSrc, if_true, Bool.or_false, Bool.false_or, Bool.or_true, Bool.true_or, true_or, or_true, List.length_cons, List.length_nil, Bool.false_eq_true, if_false, reduceIte, reduceCtorEq, held_is n E none h1 h2 hE, e, g, gTuple_list]
  rw [leastF_eq]
abbrev rowD (r : Int × List Int) : PyData := .tuple [.int r.1, lotD r.2]
theorem law_least_is (n : Int) (E : List (Int × Int)) (s : Option Src) (h1 : 2 ≤ n) (h2 : n ≤ 8) (hE : E.length ≤ 1000) : g_law_least [.v (netD n E)] s = some (.v (.tuple [.int (heldL n E), .list ((leastF n E).map lotD)]), s) := by
  have few : (lawL n).length ≤ 128 := by
    unfold lawL
    rw [List.length_mergeSort]
    exact lots_few n (by omega) h2
  have hm : leastI ((lawL n).map (cutN E)) = heldL n E := held_sorted E h1
  refine g_of (ss := [.v (netD n E), .no, .no, .no, .no]) (ss' := [.v (netD n E), .v (.list (((lawL n).map fun l => (cutN E l, l)).map rowD)), .v (.int (heldL n E)), .no, .no]) rfl ?_
  have e1 : mLc (jSeq (mF (mCall g_law_all_lots (xCons (mF (m2 gIx (mPk 0) (mO (mC (.int 0))))) xNil)))) [3] (gN 3) tYesM (mF (mTup (mCons (mF (m1 gLen (mO (mCall g_law_cut (xCons (mF (mVar 0)) (xCons (mF (mVar 3)) xNil)))))) (mCons (mF (mVar 3)) mNil)))) ⟨[.v (netD n E), .no, .no, .no, .no], s⟩ = .ok (.o (.list (((lawL n).map fun l => (cutN E l, l)).map rowD))) ⟨[.v (netD n E), .no, .no, .no, .no], s⟩ := by
    rw [mLc_map (st1 := ⟨[.v (netD n E), .no, .no, .no, .no], s⟩) (lawL n) lotD (fun _ => true) (fun l => rowD (cutN E l, l))]
    · rw [List.filter_eq_self.mpr (fun _ _ => rfl), List.map_map]
      rfl
    · simp only [v_GetS, v_Cel, v_CelLen, v_CelPop, v_PutS, v_C, v_Var, v_Mv, v_Pk, v_O, v_F, v_B, v_m1, v_m2, still_v, still_t, still_s, d_v, d_t, d_s, v_Seq, v_Nil, v_If, v_Set, v_Ret, v_Drop, v_Asg, v_Par2, v_Par3, v_And, v_Or, v_Not, v_IfE, v_Yes, v_nil, v_cons, v_tup, v_lst, v_N, v_Nl, v_Cn, v_Tp, v_TpL, v_jSeq, v_jEnum, v_jRg, v_jRg2, v_For, v_Call, v_xNil, v_xCons, v_xSrc, v_Mut, S.wipe, wipeS, S.rest, restS, backS, List.set_cons_zero, List.set_cons_succ, List.getElem?_cons_zero, List.getElem?_cons_succ, List.any_cons, List.any_nil, Slot.isSrc, if_true, Bool.or_false, Bool.false_or, Bool.or_true, Bool.true_or, true_or, or_true, List.length_cons, List.length_nil, Bool.false_eq_true, if_false, reduceIte, reduceCtorEq, at0, law_lots_is n none (by omega) h2]
    · omega
    · intro l hm
      refine ⟨_, ⟨[.v (netD n E), .no, .no, .v (lotD l), .no], s⟩, rfl, rfl, fun h => (nomatch h), fun _ => ⟨⟨[.v (netD n E), .no, .no, .v (lotD l), .no], s⟩, ?_, rfl⟩⟩
      simp only [v_GetS, v_Cel, v_CelLen, v_CelPop, v_PutS, v_C, v_Var, v_Mv, v_Pk, v_O, v_F, v_B, v_m1, v_m2, still_v, still_t, still_s, d_v, d_t, d_s, v_Seq, v_Nil, v_If, v_Set, v_Ret, v_Drop, v_Asg, v_Par2, v_Par3, v_And, v_Or, v_Not, v_IfE, v_Yes, v_nil, v_cons, v_tup, v_lst, v_N, v_Nl, v_Cn, v_Tp, v_TpL, v_jSeq, v_jEnum, v_jRg, v_jRg2, v_For, v_Call, v_xNil, v_xCons, v_xSrc, v_Mut, S.wipe, wipeS, S.rest, restS, backS, List.set_cons_zero, List.set_cons_succ, List.getElem?_cons_zero, List.getElem?_cons_succ, List.any_cons, List.any_nil, Slot.isSrc, if_true, Bool.or_false, Bool.false_or, Bool.or_true, Bool.true_or, true_or, or_true, List.length_cons, List.length_nil, Bool.false_eq_true, if_false, reduceIte, reduceCtorEq, law_cut_is n E l none hE, gLen_list, List.length_map, okLen_of (n := 0 + 1 + 1) (by omega)]
      rfl
  have e2 : mLc (jSeq (mF (mVar 1))) [4, 3] (gTp (gCn (gN 4) (gCn (gN 3) gNl))) tYesM (mF (mVar 4)) ⟨[.v (netD n E), .o (.list (((lawL n).map fun l => (cutN E l, l)).map rowD)), .no, .no, .no], s⟩ = .ok (.o (.list (((lawL n).map (cutN E)).map PyData.int))) ⟨[.v (netD n E), .v (.list (((lawL n).map fun l => (cutN E l, l)).map rowD)), .no, .no, .no], s⟩ := by
    rw [mLc_map (st1 := ⟨[.v (netD n E), .v (.list (((lawL n).map fun l => (cutN E l, l)).map rowD)), .no, .no, .no], s⟩) ((lawL n).map fun l => (cutN E l, l)) rowD (fun _ => true) (fun r => .int r.1)]
    · have q : (((lawL n).map fun l => (cutN E l, l)).map fun r : Int × List Int => PyData.int r.1) = ((lawL n).map (cutN E)).map PyData.int := by
        rw [List.map_map, List.map_map]
        rfl
      rw [List.filter_eq_self.mpr (fun _ _ => rfl), q]
      rfl
    · simp only [v_GetS, v_Cel, v_CelLen, v_CelPop, v_PutS, v_C, v_Var, v_Mv, v_Pk, v_O, v_F, v_B, v_m1, v_m2, still_v, still_t, still_s, d_v, d_t, d_s, v_Seq, v_Nil, v_If, v_Set, v_Ret, v_Drop, v_Asg, v_Par2, v_Par3, v_And, v_Or, v_Not, v_IfE, v_Yes, v_nil, v_cons, v_tup, v_lst, v_N, v_Nl, v_Cn, v_Tp, v_TpL, v_jSeq, v_jEnum, v_jRg, v_jRg2, v_For, v_Call, v_xNil, v_xCons, v_xSrc, v_Mut, S.wipe, wipeS, S.rest, restS, backS, List.set_cons_zero, List.set_cons_succ, List.getElem?_cons_zero, List.getElem?_cons_succ, List.any_cons, List.any_nil, Slot.isSrc, if_true, Bool.or_false, Bool.false_or, Bool.or_true, Bool.true_or, true_or, or_true, List.length_cons, List.length_nil, Bool.false_eq_true, if_false, reduceIte, reduceCtorEq]
    · rw [List.length_map]
      omega
    · intro r hm
      exact ⟨_, ⟨[.v (netD n E), .v (.list (((lawL n).map fun l => (cutN E l, l)).map rowD)), .no, .v (lotD r.2), .v (.int r.1)], s⟩, rfl, rfl, fun h => (nomatch h), fun _ => ⟨_, rfl, rfl⟩⟩
  have e3 : mLc (jSeq (mF (mVar 1))) [4, 3] (gTp (gCn (gN 4) (gCn (gN 3) gNl))) (mB (m2 gEq (mPk 4) (mPk 2))) (mF (mVar 3)) ⟨[.v (netD n E), .v (.list (((lawL n).map fun l => (cutN E l, l)).map rowD)), .v (.int (heldL n E)), .no, .no], s⟩ = .ok (.o (.list ((leastF n E).map lotD))) ⟨[.v (netD n E), .v (.list (((lawL n).map fun l => (cutN E l, l)).map rowD)), .v (.int (heldL n E)), .no, .no], s⟩ := by
    rw [mLc_map (st1 := ⟨[.v (netD n E), .v (.list (((lawL n).map fun l => (cutN E l, l)).map rowD)), .v (.int (heldL n E)), .no, .no], s⟩) ((lawL n).map fun l => (cutN E l, l)) rowD (fun r => decide (r.1 = heldL n E)) (fun r => lotD r.2)]
    · have q : ((((lawL n).map fun l => (cutN E l, l)).filter fun r : Int × List Int => decide (r.1 = heldL n E)).map fun r => lotD r.2) = (leastF n E).map lotD := by
        rw [List.filter_map, List.map_map]
        rfl
      rw [q]
      rfl
    · simp only [v_GetS, v_Cel, v_CelLen, v_CelPop, v_PutS, v_C, v_Var, v_Mv, v_Pk, v_O, v_F, v_B, v_m1, v_m2, still_v, still_t, still_s, d_v, d_t, d_s, v_Seq, v_Nil, v_If, v_Set, v_Ret, v_Drop, v_Asg, v_Par2, v_Par3, v_And, v_Or, v_Not, v_IfE, v_Yes, v_nil, v_cons, v_tup, v_lst, v_N, v_Nl, v_Cn, v_Tp, v_TpL, v_jSeq, v_jEnum, v_jRg, v_jRg2, v_For, v_Call, v_xNil, v_xCons, v_xSrc, v_Mut, S.wipe, wipeS, S.rest, restS, backS, List.set_cons_zero, List.set_cons_succ, List.getElem?_cons_zero, List.getElem?_cons_succ, List.any_cons, List.any_nil, Slot.isSrc, if_true, Bool.or_false, Bool.false_or, Bool.or_true, Bool.true_or, true_or, or_true, List.length_cons, List.length_nil, Bool.false_eq_true, if_false, reduceIte, reduceCtorEq]
    · rw [List.length_map]
      omega
    · intro r hm
      refine ⟨_, ⟨[.v (netD n E), .v (.list (((lawL n).map fun l => (cutN E l, l)).map rowD)), .v (.int (heldL n E)), .v (lotD r.2), .v (.int r.1)], s⟩, rfl, ?_, fun _ => rfl, fun _ => ⟨_, rfl, rfl⟩⟩
      simp only [v_GetS, v_Cel, v_CelLen, v_CelPop, v_PutS, v_C, v_Var, v_Mv, v_Pk, v_O, v_F, v_B, v_m1, v_m2, still_v, still_t, still_s, d_v, d_t, d_s, v_Seq, v_Nil, v_If, v_Set, v_Ret, v_Drop, v_Asg, v_Par2, v_Par3, v_And, v_Or, v_Not, v_IfE, v_Yes, v_nil, v_cons, v_tup, v_lst, v_N, v_Nl, v_Cn, v_Tp, v_TpL, v_jSeq, v_jEnum, v_jRg, v_jRg2, v_For, v_Call, v_xNil, v_xCons, v_xSrc, v_Mut, S.wipe, wipeS, S.rest, restS, backS, List.set_cons_zero, List.set_cons_succ, List.getElem?_cons_zero, List.getElem?_cons_succ, List.any_cons, List.any_nil, Slot.isSrc, if_true, Bool.or_false, Bool.false_or, Bool.or_true, Bool.true_or, true_or, or_true, List.length_cons, List.length_nil, Bool.false_eq_true, if_false, reduceIte, reduceCtorEq, gEq_int]
  have g := gMin_ints (l := (lawL n).map (cutN E)) (by
    intro z
    have z' := List.map_eq_nil_iff.mp z
    have := congrArg List.length z'
    unfold lawL at this
    rw [List.length_mergeSort] at this
    exact allL_has h1 (List.length_eq_zero_iff.mp this))
  rw [hm] at g
  unfold m_law_least
  simp only [v_GetS, v_Cel, v_CelLen, v_CelPop, v_PutS, v_C, v_Var, v_Mv, v_Pk, v_O, v_F, v_B, v_m1, v_m2, still_v, still_t, still_s, d_v, d_t, d_s, v_Seq, v_Nil, v_If, v_Set, v_Ret, v_Drop, v_Asg, v_Par2, v_Par3, v_And, v_Or, v_Not, v_IfE, v_Yes, v_nil, v_cons, v_tup, v_lst, v_N, v_Nl, v_Cn, v_Tp, v_TpL, v_jSeq, v_jEnum, v_jRg, v_jRg2, v_For, v_Call, v_xNil, v_xCons, v_xSrc, v_Mut, S.wipe, wipeS, S.rest, restS, backS, List.set_cons_zero, List.set_cons_succ, List.getElem?_cons_zero, List.getElem?_cons_succ, List.any_cons, List.any_nil, Slot.isSrc, if_true, Bool.or_false, Bool.false_or, Bool.or_true, Bool.true_or, true_or, or_true, List.length_cons, List.length_nil, Bool.false_eq_true, if_false, reduceIte, reduceCtorEq, e1, e2, g, e3, okLen_of (n := 0 + 1 + 1) (by omega)]
end K98
end
set_option linter.all false
set_option maxRecDepth 100000
set_option maxHeartbeats 4000000
noncomputable section
namespace Pd
open PySem PySem.Spec PyProof.Rows L2
section
variable {st : S} {m m' : S → R Slot} {mp : S → R Opd}
theorem v_AndV : mAndV m m' st = (match m st with
  | .ok (.v (.bool true)) st1 => m' st1
  | .ok (.v (.bool false)) st1 => .ok (.v (.bool false)) st1
  | _ => .bad) := by
  unfold mAndV
  rfl
theorem v_OrV : mOrV m m' st = (match m st with
  | .ok (.v (.bool false)) st1 => m' st1
  | .ok (.v (.bool true)) st1 => .ok (.v (.bool true)) st1
  | _ => .bad) := by
  unfold mOrV
  rfl
theorem v_NoP : mNoP st = .ok none st := rfl
theorem v_P : mP m st = (match m st with
  | .ok (.v (.int i)) st1 => .ok (some i) st1
  | _ => .bad) := rfl
open Classical in
theorem v_Sl {l h : S → R (Option Int)} : mSl mp l h st = (match mp st with
  | .ok x st1 => match l st1 with
    | .ok lo st2 => match h st2 with
      | .ok hi st3 => if still x st3 ∧ still x st2 then (match gSl x.d lo hi with
        | some r => .ok r st3
        | none => .bad) else .bad
      | .bad => .bad
    | .bad => .bad
  | .bad => .bad) := rfl
end
theorem cut_from (ds : List PyData) {k : Int} (h : 0 ≤ k) : cutD ds (some k) none = ds.drop k.toNat := by
  unfold cutD
  show (ds.drop (if k < 0 then (k + (ds.length : Int)).toNat else min k.toNat ds.length)).take (ds.length - (if k < 0 then (k + (ds.length : Int)).toNat else min k.toNat ds.length)) = _
  rw [if_neg (by omega)]
  by_cases z : k.toNat ≤ ds.length
  · rw [Nat.min_eq_left z]
    exact List.take_of_length_le (by rw [List.length_drop]; omega)
  · rw [Nat.min_eq_right (by omega), List.drop_length, List.drop_eq_nil_of_le (by omega)]
    exact List.take_nil
theorem gSl_tup (ds : List PyData) {k : Int} (h : 0 ≤ k) : gSl (.tuple ds) (some k) none = some (.v (.tuple (ds.drop k.toNat))) := by
  rw [← cut_from ds h]
  rfl
theorem gSl_list (ds : List PyData) {k : Int} (h : 0 ≤ k) : gSl (.list ds) (some k) none = some (.o (.list (ds.drop k.toNat))) := by
  rw [← cut_from ds h]
  rfl
end Pd
namespace K98
open PySem PySem.Spec PyProof.Rows L2 Pd
def bothOf (a b : List Int) : List Int := a.filter fun x => decide (x ∈ b)
def crossB (a b : List Int) : Bool := (!decide (bothOf a b = [])) && (decide ((bothOf a b).length < a.length) && decide ((bothOf a b).length < b.length))
theorem cross_is (a b : List Int) (s : Option Src) (ha : a.length ≤ 1000) : g_lots_cross [.v (lotD a), .v (lotD b)] s = some (.v (.bool (crossB a b)), s) := by
  refine g_of (ss := [.v (lotD a), .v (lotD b), .no, .no]) (ss' := [.v (lotD a), .v (lotD b), .o (.list ((bothOf a b).map PyData.int)), .no]) rfl ?_
  have e : mLc (jSeq (mF (mVar 0))) [3] (gN 3) (mB (m2 (gIn false) (mPk 3) (mPk 1))) (mF (mVar 3)) ⟨[.v (lotD a), .v (lotD b), .no, .no], s⟩ = .ok (.o (.list ((bothOf a b).map PyData.int))) ⟨[.v (lotD a), .v (lotD b), .no, .no], s⟩ := by
    rw [mLc_map (st1 := ⟨[.v (lotD a), .v (lotD b), .no, .no], s⟩) a PyData.int (fun x => decide (x ∈ b)) PyData.int]
    · rfl
    · simp only [v_GetS, v_Cel, v_CelLen, v_CelPop, v_PutS, v_C, v_Var, v_Mv, v_Pk, v_O, v_F, v_B, v_m1, v_m2, still_v, still_t, still_s, d_v, d_t, d_s, v_Seq, v_Nil, v_If, v_Set, v_Ret, v_Drop, v_Asg, v_Par2, v_Par3, v_And, v_Or, v_Not, v_IfE, v_Yes, v_nil, v_cons, v_tup, v_lst, v_N, v_Nl, v_Cn, v_Tp, v_TpL, v_jSeq, v_jEnum, v_jRg, v_jRg2, v_For, v_Call, v_xNil, v_xCons, v_xSrc, v_Mut, S.wipe, wipeS, S.rest, restS, backS, List.set_cons_zero, List.set_cons_succ, List.getElem?_cons_zero, List.getElem?_cons_succ, List.any_cons, List.any_nil, Slot.isSrc, if_true, Bool.or_false, Bool.false_or, Bool.or_true, Bool.true_or, true_or, or_true, List.length_cons, List.length_nil, Bool.false_eq_true, if_false, reduceIte, reduceCtorEq]
    · omega
    · intro x hx
      refine ⟨_, ⟨[.v (lotD a), .v (lotD b), .no, .v (.int x)], s⟩, rfl, ?_, fun _ => rfl, fun _ => ⟨_, rfl, rfl⟩⟩
      simp only [v_GetS, v_Cel, v_CelLen, v_CelPop, v_PutS, v_C, v_Var, v_Mv, v_Pk, v_O, v_F, v_B, v_m1, v_m2, still_v, still_t, still_s, d_v, d_t, d_s, v_Seq, v_Nil, v_If, v_Set, v_Ret, v_Drop, v_Asg, v_Par2, v_Par3, v_And, v_Or, v_Not, v_IfE, v_Yes, v_nil, v_cons, v_tup, v_lst, v_N, v_Nl, v_Cn, v_Tp, v_TpL, v_jSeq, v_jEnum, v_jRg, v_jRg2, v_For, v_Call, v_xNil, v_xCons, v_xSrc, v_Mut, S.wipe, wipeS, S.rest, restS, backS, List.set_cons_zero, List.set_cons_succ, List.getElem?_cons_zero, List.getElem?_cons_succ, List.any_cons, List.any_nil, Slot.isSrc, if_true, Bool.or_false, Bool.false_or, Bool.or_true, Bool.true_or, true_or, or_true, List.length_cons, List.length_nil, Bool.false_eq_true, if_false, reduceIte, reduceCtorEq, gIn_int_tup, Bool.false_xor]
  have n : gNe (.list ((bothOf a b).map PyData.int)) (.list []) = some (.v (.bool (!decide (bothOf a b = [])))) := gNe_ilist (bothOf a b) []
  have l1 : gLt (.int ((bothOf a b).length : Nat)) (.int (a.length : Nat)) = some (.v (.bool (decide ((bothOf a b).length < a.length)))) := by
    rw [gLt_int]
    exact congrArg (fun z => some (Slot.v (PyData.bool z))) (decide_eq_decide.mpr (by omega))
  have l2 : gLt (.int ((bothOf a b).length : Nat)) (.int (b.length : Nat)) = some (.v (.bool (decide ((bothOf a b).length < b.length)))) := by
    rw [gLt_int]
    exact congrArg (fun z => some (Slot.v (PyData.bool z))) (decide_eq_decide.mpr (by omega))
  unfold m_lots_cross crossB
  generalize decide (bothOf a b = []) = B1 at n ⊢
  generalize decide ((bothOf a b).length < a.length) = B2 at l1 ⊢
  generalize decide ((bothOf a b).length < b.length) = B3 at l2 ⊢
  cases B1 <;> cases B2 <;> simp only [v_GetS, v_Cel, v_CelLen, v_CelPop, v_PutS, v_C, v_Var, v_Mv, v_Pk, v_O, v_F, v_B, v_m1, v_m2, still_v, still_t, still_s, d_v, d_t, d_s, v_Seq, v_Nil, v_If, v_Set, v_Ret, v_Drop, v_Asg, v_Par2, v_Par3, v_And, v_Or, v_Not, v_IfE, v_Yes, v_nil, v_cons, v_tup, v_lst, v_N, v_Nl, v_Cn, v_Tp, v_TpL, v_jSeq, v_jEnum, v_jRg, v_jRg2, v_For, v_Call, v_xNil, v_xCons, v_xSrc, v_Mut, S.wipe, wipeS, S.rest, restS, backS, List.set_cons_zero, List.set_cons_succ, List.getElem?_cons_zero, List.getElem?_cons_succ, List.any_cons, List.any_nil, Slot.isSrc, if_true, Bool.or_false, Bool.false_or, Bool.or_true, Bool.true_or, true_or, or_true, List.length_cons, List.length_nil, Bool.false_eq_true, if_false, reduceIte, reduceCtorEq, e, n, v_AndV, gLen_list, gLen_tup, List.length_map, l1, l2, okLen_of (n := 0) (by omega), Bool.not_false, Bool.not_true, Bool.true_and, Bool.false_and]
abbrev prD (p : List Int × List Int) : PyData := .tuple [lotD p.1, lotD p.2]
def stepC (L : List (List Int)) (acc : List (List Int × List Int)) (q : List Int × Nat) : List (List Int × List Int) := acc ++ ((L.drop (q.2 + 1)).filter (crossB q.1)).map fun o => (q.1, o)
def crossF (L : List (List Int)) : List (List Int × List Int) := L.zipIdx.foldl (stepC L) []
theorem crossing_is (n : Int) (E : List (Int × Int)) (s : Option Src) (h1 : 2 ≤ n) (h2 : n ≤ 8) (hE : E.length ≤ 1000) (hL : (leastF n E).length ≤ 128) (hl : ∀ l ∈ leastF n E, l.length ≤ 1000) : g_crossing_lots [.v (netD n E)] s = some (.v (.tuple ((crossF (leastF n E)).map prD)), s) := by
  generalize hLE : leastF n E = L at *
  have lst := least_is n E none h1 h2 hE
  rw [hLE] at lst
  have turn : ∀ (i : Nat) (one : List Int) (acc : List (List Int × List Int)), one ∈ L → i ≤ 1000 → acc.length ≤ 1000 * i → sSet 2 (m2 gAdd (mPk 2) (mO (mLc (jSeq (mF (mSl (mPk 1) (mP (m2 gAdd (mPk 3) (mO (mC (.int 1))))) mNoP))) [5] (gN 5) (mB (mCall g_lots_cross (xCons (mF (mVar 4)) (xCons (mF (mVar 5)) xNil)))) (mF (mTup (mCons (mF (mVar 4)) (mCons (mF (mVar 5)) mNil))))))) ⟨[.v (netD n E), .v (.tuple (L.map lotD)), .o (.list (acc.map prD)), .v (.int (i : Nat)), .v (lotD one), .no], s⟩ =
      .nx ⟨[.v (netD n E), .v (.tuple (L.map lotD)), .o (.list ((stepC L acc (one, i)).map prD)), .v (.int (i : Nat)), .v (lotD one), .no], s⟩ := by
    intro i one acc hone hi hacc
    have e : mLc (jSeq (mF (mSl (mPk 1) (mP (m2 gAdd (mPk 3) (mO (mC (.int 1))))) mNoP))) [5] (gN 5) (mB (mCall g_lots_cross (xCons (mF (mVar 4)) (xCons (mF (mVar 5)) xNil)))) (mF (mTup (mCons (mF (mVar 4)) (mCons (mF (mVar 5)) mNil)))) ⟨[.v (netD n E), .v (.tuple (L.map lotD)), .o (.list (acc.map prD)), .v (.int (i : Nat)), .v (lotD one), .no], s⟩ = .ok (.o (.list ((((L.drop (i + 1)).filter (crossB one)).map fun o => (one, o)).map prD))) ⟨[.v (netD n E), .v (.tuple (L.map lotD)), .o (.list (acc.map prD)), .v (.int (i : Nat)), .v (lotD one), .no], s⟩ := by
      rw [mLc_map (st1 := ⟨[.v (netD n E), .v (.tuple (L.map lotD)), .o (.list (acc.map prD)), .v (.int (i : Nat)), .v (lotD one), .no], s⟩) (L.drop (i + 1)) lotD (crossB one) (fun o => prD (one, o))]
      · have q : ((((L.drop (i + 1)).filter (crossB one)).map fun o => (one, o)).map prD) = (((L.drop (i + 1)).filter (crossB one)).map fun o => prD (one, o)) := by
          rw [List.map_map]
          rfl
        rw [q]
        rfl
      · have t : ((i : Int) + 1).toNat = i + 1 := by omega
        simp only [v_GetS, v_Cel, v_CelLen, v_CelPop, v_PutS, v_C, v_Var, v_Mv, v_Pk, v_O, v_F, v_B, v_m1, v_m2, still_v, still_t, still_s, d_v, d_t, d_s, v_Seq, v_Nil, v_If, v_Set, v_Ret, v_Drop, v_Asg, v_Par2, v_Par3, v_And, v_Or, v_Not, v_IfE, v_Yes, v_nil, v_cons, v_tup, v_lst, v_N, v_Nl, v_Cn, v_Tp, v_TpL, v_jSeq, v_jEnum, v_jRg, v_jRg2, v_For, v_Call, v_xNil, v_xCons, v_xSrc, v_Mut, S.wipe, wipeS, S.rest, restS, backS, List.set_cons_zero, List.set_cons_succ, List.getElem?_cons_zero, List.getElem?_cons_succ, List.any_cons, List.any_nil, Slot.isSrc, if_true, Bool.or_false, Bool.false_or, Bool.or_true, Bool.true_or, true_or, or_true, List.length_cons, List.length_nil, Bool.false_eq_true, if_false, reduceIte, reduceCtorEq, v_Sl, v_P, v_NoP, gAdd_int, gSl_tup (L.map lotD) (k := (i : Int) + 1) (by omega), t, List.map_drop, and_self]
      · rw [List.length_drop]
        omega
      · intro o ho
        refine ⟨_, ⟨[.v (netD n E), .v (.tuple (L.map lotD)), .o (.list (acc.map prD)), .v (.int (i : Nat)), .v (lotD one), .v (lotD o)], s⟩, rfl, ?_, fun _ => rfl, fun _ => ⟨⟨[.v (netD n E), .v (.tuple (L.map lotD)), .o (.list (acc.map prD)), .v (.int (i : Nat)), .v (lotD one), .v (lotD o)], s⟩, ?_, rfl⟩⟩
        · simp only [v_GetS, v_Cel, v_CelLen, v_CelPop, v_PutS, v_C, v_Var, v_Mv, v_Pk, v_O, v_F, v_B, v_m1, v_m2, still_v, still_t, still_s, d_v, d_t, d_s, v_Seq, v_Nil, v_If, v_Set, v_Ret, v_Drop, v_Asg, v_Par2, v_Par3, v_And, v_Or, v_Not, v_IfE, v_Yes, v_nil, v_cons, v_tup, v_lst, v_N, v_Nl, v_Cn, v_Tp, v_TpL, v_jSeq, v_jEnum, v_jRg, v_jRg2, v_For, v_Call, v_xNil, v_xCons, v_xSrc, v_Mut, S.wipe, wipeS, S.rest, restS, backS, List.set_cons_zero, List.set_cons_succ, List.getElem?_cons_zero, List.getElem?_cons_succ, List.any_cons, List.any_nil, Slot.isSrc, if_true, Bool.or_false, Bool.false_or, Bool.or_true, Bool.true_or, true_or, or_true, List.length_cons, List.length_nil, Bool.false_eq_true, if_false, reduceIte, reduceCtorEq, cross_is one o none (hl one hone)]
        · simp only [v_GetS, v_Cel, v_CelLen, v_CelPop, v_PutS, v_C, v_Var, v_Mv, v_Pk, v_O, v_F, v_B, v_m1, v_m2, still_v, still_t, still_s, d_v, d_t, d_s, v_Seq, v_Nil, v_If, v_Set, v_Ret, v_Drop, v_Asg, v_Par2, v_Par3, v_And, v_Or, v_Not, v_IfE, v_Yes, v_nil, v_cons, v_tup, v_lst, v_N, v_Nl, v_Cn, v_Tp, v_TpL, v_jSeq, v_jEnum, v_jRg, v_jRg2, v_For, v_Call, v_xNil, v_xCons, v_xSrc, v_Mut, S.wipe, wipeS, S.rest, restS, backS, List.set_cons_zero, List.set_cons_succ, List.getElem?_cons_zero, List.getElem?_cons_succ, List.any_cons, List.any_nil, Slot.isSrc, if_true, Bool.or_false, Bool.false_or, Bool.or_true, Bool.true_or, true_or, or_true, List.length_cons, List.length_nil, Bool.false_eq_true, if_false, reduceIte, reduceCtorEq, okLen_of (n := 0 + 1 + 1) (by omega)]
    have few : ((((L.drop (i + 1)).filter (crossB one)).map fun o => (one, o)).map prD).length ≤ 128 := by
      rw [List.length_map, List.length_map]
      have := List.length_filter_le (crossB one) (L.drop (i + 1))
      rw [List.length_drop] at this
      omega
    have a := gAdd_list (a := acc.map prD) (b := (((L.drop (i + 1)).filter (crossB one)).map fun o => (one, o)).map prD) (by rw [List.length_map]; omega)
    have q : acc.map prD ++ (((L.drop (i + 1)).filter (crossB one)).map fun o => (one, o)).map prD = (stepC L acc (one, i)).map prD := by
      unfold stepC
      rw [List.map_append]
    rw [q] at a
    simp only [v_GetS, v_Cel, v_CelLen, v_CelPop, v_PutS, v_C, v_Var, v_Mv, v_Pk, v_O, v_F, v_B, v_m1, v_m2, still_v, still_t, still_s, d_v, d_t, d_s, v_Seq, v_Nil, v_If, v_Set, v_Ret, v_Drop, v_Asg, v_Par2, v_Par3, v_And, v_Or, v_Not, v_IfE, v_Yes, v_nil, v_cons, v_tup, v_lst, v_N, v_Nl, v_Cn, v_Tp, v_TpL, v_jSeq, v_jEnum, v_jRg, v_jRg2, v_For, v_Call, v_xNil, v_xCons, v_xSrc, v_Mut, S.wipe, wipeS, S.rest, restS, backS, List.set_cons_zero, List.set_cons_succ, List.getElem?_cons_zero, List.getElem?_cons_succ, List.any_cons, List.any_nil, Slot.isSrc, if_true, Bool.or_false, Bool.false_or, Bool.or_true, Bool.true_or, true_or, or_true, List.length_cons, List.length_nil, Bool.false_eq_true, if_false, reduceIte, reduceCtorEq, e, a]
  obtain ⟨st', e1, c3, c4, e2, e3⟩ := forGo_foldN (g := gTp (gCn (gN 3) (gCn (gN 4) gNl))) (m := sSet 2 (m2 gAdd (mPk 2) (mO (mLc (jSeq (mF (mSl (mPk 1) (mP (m2 gAdd (mPk 3) (mO (mC (.int 1))))) mNoP))) [5] (gN 5) (mB (mCall g_lots_cross (xCons (mF (mVar 4)) (xCons (mF (mVar 5)) xNil)))) (mF (mTup (mCons (mF (mVar 4)) (mCons (mF (mVar 5)) mNil)))))))) (fun q : List Int × Nat => .tuple [.int (q.2 : Nat), lotD q.1]) (stepC L)
    (fun i acc st => ∃ c3 c4, st = ⟨[.v (netD n E), .v (.tuple (L.map lotD)), .o (.list (acc.map prD)), c3, c4, .no], s⟩ ∧ acc.length ≤ 1000 * i) L.zipIdx 0 [] ⟨[.v (netD n E), .v (.tuple (L.map lotD)), .o (.list []), .no, .no, .no], s⟩ (fun i q hq acc st ⟨c3, c4, q1, q2⟩ => by
      subst q1
      rw [List.getElem?_zipIdx] at hq
      obtain ⟨one, ho, rfl⟩ := Option.map_eq_some_iff.mp hq
      rw [Nat.zero_add] at q2 ⊢
      have hi := (List.getElem?_eq_some_iff.mp ho).1
      refine ⟨_, _, rfl, .inl (turn i one acc (List.mem_of_getElem? ho) (by omega) q2), _, _, rfl, ?_⟩
      unfold stepC
      rw [List.length_append, List.length_map]
      have := List.length_filter_le (crossB one) (L.drop (i + 1))
      rw [List.length_drop] at this
      have w : ((List.drop (i + 1) L).filter (crossB one)).length ≤ 1000 := by
        omega
      show acc.length + ((List.drop (i + 1) L).filter (crossB one)).length ≤ 1000 * (i + 1)
      omega) ⟨.no, .no, rfl, Nat.le_refl _⟩
  refine g_of (ss := [.v (netD n E), .no, .no, .no, .no, .no]) (ss' := [.v (netD n E), .v (.tuple (L.map lotD)), .o (.list ((crossF L).map prD)), c3, c4, .no]) rfl ?_
  unfold m_crossing_lots
  simp only [v_GetS, v_Cel, v_CelLen, v_CelPop, v_PutS, v_C, v_Var, v_Mv, v_Pk, v_O, v_F, v_B, v_m1, v_m2, still_v, still_t, still_s, d_v, d_t, d_s, v_Seq, v_Nil, v_If, v_Set, v_Ret, v_Drop, v_Asg, v_Par2, v_Par3, v_And, v_Or, v_Not, v_IfE, v_Yes, v_nil, v_cons, v_tup, v_lst, v_N, v_Nl, v_Cn, v_Tp, v_TpL, v_jSeq, v_jEnum, v_jRg, v_jRg2, v_For, v_Call, v_xNil, v_xCons, v_xSrc, v_Mut, S.wipe, wipeS, S.rest, restS, backS, List.set_cons_zero, List.set_cons_succ, List.getElem?_cons_zero, List.getElem?_cons_succ, List.any_cons, List.any_nil, Slot.isSrc, if_true, Bool.or_false, Bool.false_or, Bool.or_true, Bool.true_or, true_or, or_true, List.length_cons, List.length_nil, Bool.false_eq_true, if_false, reduceIte, reduceCtorEq, lst, okLen_of (n := 0) (by omega), enumD_map, e1, e2, gTuple_list]
  rfl
end K98
end
set_option linter.all false
set_option maxRecDepth 100000
set_option maxHeartbeats 4000000
noncomputable section
namespace K98
open PySem PySem.Spec PyProof.Rows L2 Pd
theorem lots_no0 {n : Int} {A : List Int} (h : A ∈ lotsF n) : (0 : Int) ∉ A := fun z => by
  have := (lots_in h z).1
  omega
theorem part_up {n : Int} (hn : 1 ≤ n) {A B : List Int} (hA : A ∈ lotsF n) (hB : B ∈ lotsF n) {p q : Bool} (h : (p || q) = true) : part n A B p q = (upTo n).filter fun x => (decide (x ∈ A) == p) && (decide (x ∈ B) == q) := by
  unfold part
  rw [rngL_eq hn, List.filter_cons_of_neg]
  rw [decide_eq_false (lots_no0 hA), decide_eq_false (lots_no0 hB)]
  cases p <;> cases q <;> first | (simp at h; done) | decide
theorem part_all {n : Int} (hn : 1 ≤ n) {A B : List Int} (hA : A ∈ lotsF n) (hB : B ∈ lotsF n) {p q : Bool} (h : (p || q) = true) (ne : part n A B p q ≠ []) : part n A B p q ∈ allL n :=
  allL_mem.mpr ⟨by rw [part_up hn hA hB h]; exact lots_all n _, ne⟩
def unionL (n : Int) (A B : List Int) : List Int := (upTo n).filter fun x => decide (x ∈ A) || decide (x ∈ B)
theorem perm3 {α : Type} (f g h : α → Bool) (h1 : ∀ x, (f x && g x) = false) (h2 : ∀ x, (f x && h x) = false) (h3 : ∀ x, (g x && h x) = false) : ∀ l : List α, (l.filter f ++ l.filter g ++ l.filter h).Perm (l.filter fun x => f x || g x || h x)
  | [] => List.Perm.refl _
  | x :: l => by
    have ih := perm3 f g h h1 h2 h3 l
    have a := h1 x
    have b := h2 x
    have c := h3 x
    rw [List.filter_cons, List.filter_cons, List.filter_cons, List.filter_cons]
    cases e1 : f x <;> cases e2 : g x <;> cases e3 : h x <;> rw [e1, e2] at a <;> rw [e1, e3] at b <;> rw [e2, e3] at c <;> first | (exact absurd a (by decide)) | (exact absurd b (by decide)) | (exact absurd c (by decide)) | skip
    · rw [if_neg Bool.false_ne_true, if_neg Bool.false_ne_true, if_neg Bool.false_ne_true, if_neg (by decide)]
      exact ih
    · rw [if_neg Bool.false_ne_true, if_neg Bool.false_ne_true, if_pos rfl, if_pos (by decide)]
      exact List.perm_middle.trans (List.Perm.cons x ih)
    · rw [if_neg Bool.false_ne_true, if_pos rfl, if_neg Bool.false_ne_true, if_pos (by decide), List.append_assoc, List.cons_append]
      refine List.perm_middle.trans (List.Perm.cons x ?_)
      rw [← List.append_assoc]
      exact ih
    · rw [if_pos rfl, if_neg Bool.false_ne_true, if_neg Bool.false_ne_true, if_pos (by decide)]
      exact List.Perm.cons x ih
theorem an_I (a b : Int) : leI a b = true → leI b a = true → a = b := by
  simp only [leI, decide_eq_true_eq]
  omega
theorem union_is {n : Int} (hn : 1 ≤ n) {A B : List Int} (hA : A ∈ lotsF n) (hB : B ∈ lotsF n) : srtI (part n A B true true ++ part n A B true false ++ part n A B false true) = unionL n A B := by
  refine List.Perm.eq_of_pairwise (le := fun a b => leI a b = true) (fun a b _ _ h1 h2 => an_I a b h1 h2) (List.pairwise_mergeSort tr_I to_I _) ?_ ((List.mergeSort_perm _ leI).trans ?_)
  · exact ((upTo_lt n).imp (R := (· < ·)) (S := fun a b => leI a b = true) fun h => by simp only [leI, decide_eq_true_eq]; omega).filter _
  · rw [part_up hn hA hB rfl, part_up hn hA hB rfl, part_up hn hA hB rfl]
    have p := perm3 (fun x : Int => (decide (x ∈ A) == true) && (decide (x ∈ B) == true)) (fun x => (decide (x ∈ A) == true) && (decide (x ∈ B) == false)) (fun x => (decide (x ∈ A) == false) && (decide (x ∈ B) == true))
      (fun x => by cases decide (x ∈ A) <;> cases decide (x ∈ B) <;> rfl) (fun x => by cases decide (x ∈ A) <;> cases decide (x ∈ B) <;> rfl) (fun x => by cases decide (x ∈ A) <;> cases decide (x ∈ B) <;> rfl) (upTo n)
    refine p.trans (List.Perm.of_eq ?_)
    unfold unionL
    refine List.filter_congr fun x _ => ?_
    cases decide (x ∈ A) <;> cases decide (x ∈ B) <;> rfl
theorem nil_iff {l : List Int} : l = [] ↔ ∀ x, x ∉ l := by
  cases l with
  | nil => simp
  | cons a l => exact ⟨(fun h => absurd h (List.cons_ne_nil a l)), (fun h => (h a List.mem_cons_self).elim)⟩
theorem cross_sides {n : Int} (hn : 1 ≤ n) {A B : List Int} (hA : A ∈ lotsF n) (hB : B ∈ lotsF n) : crossB A B = !decide (([] : List Int) ∈ [part n A B true true, part n A B true false, part n A B false true, part n A B false false]) := by
  have fA := lots_form hA
  have fB := lots_form hB
  -- both, seen from each
  have b1 : bothOf A B = (upTo n).filter fun x => decide (x ∈ A) && decide (x ∈ B) := by
    unfold bothOf
    conv => lhs; rw [fA]
    rw [List.filter_filter]
    refine List.filter_congr fun x _ => ?_
    rw [Bool.and_comm]
  have b2 : bothOf A B = B.filter fun x => decide (x ∈ A) := by
    rw [b1]
    conv => rhs; rw [fB]
    rw [List.filter_filter]
  have z0 : (0 : Int) ∈ part n A B false false := part_mem.mpr ⟨⟨Int.le_refl _, by omega⟩, decide_eq_false (lots_no0 hA), decide_eq_false (lots_no0 hB)⟩
  have inA : ∀ x, x ∈ A → 0 ≤ x ∧ x < n := fun x hx => by
    have := lots_in hA hx
    omega
  have inB : ∀ x, x ∈ B → 0 ≤ x ∧ x < n := fun x hx => by
    have := lots_in hB hx
    omega
  have q1 : bothOf A B = [] ↔ part n A B true true = [] := by
    rw [nil_iff, nil_iff]
    refine forall_congr' fun x => not_congr ?_
    rw [part_mem, decide_eq_true_eq, decide_eq_true_eq]
    unfold bothOf
    rw [List.mem_filter, decide_eq_true_eq]
    exact ⟨fun h => ⟨inA x h.1, h⟩, fun h => h.2⟩
  have q2 : (bothOf A B).length < A.length ↔ part n A B true false ≠ [] := by
    unfold bothOf
    rw [List.length_filter_lt_length_iff_exists]
    constructor
    · rintro ⟨x, hx, hn⟩ e
      have : x ∈ part n A B true false := part_mem.mpr ⟨inA x hx, decide_eq_true hx, by simpa using hn⟩
      rw [e] at this
      cases this
    · intro h
      obtain ⟨x, hx⟩ := List.exists_mem_of_ne_nil _ h
      obtain ⟨_, h1, h2⟩ := part_mem.mp hx
      exact ⟨x, of_decide_eq_true h1, by rw [h2]; exact Bool.false_ne_true⟩
  have q3 : (bothOf A B).length < B.length ↔ part n A B false true ≠ [] := by
    rw [b2, List.length_filter_lt_length_iff_exists]
    constructor
    · rintro ⟨x, hx, hn⟩ e
      have : x ∈ part n A B false true := part_mem.mpr ⟨inB x hx, by simpa using hn, decide_eq_true hx⟩
      rw [e] at this
      cases this
    · intro h
      obtain ⟨x, hx⟩ := List.exists_mem_of_ne_nil _ h
      obtain ⟨_, h1, h2⟩ := part_mem.mp hx
      exact ⟨x, of_decide_eq_true h2, by rw [h1]; exact Bool.false_ne_true⟩
  have q4 : ([] : List Int) ≠ part n A B false false := fun e => by
    rw [← e] at z0
    cases z0
  unfold crossB
  rw [Bool.eq_iff_iff]
  simp only [Bool.and_eq_true, Bool.not_eq_true', decide_eq_false_iff_not, decide_eq_true_eq, q1, q2, q3, List.mem_cons, List.not_mem_nil, or_false, not_or]
  exact ⟨fun ⟨h1, h2, h3⟩ => ⟨fun e => h1 e.symm, fun e => h2 e.symm, fun e => h3 e.symm, q4⟩, fun ⟨h1, h2, h3, _⟩ => ⟨fun e => h1 e.symm, fun e => h2 e.symm, fun e => h3 e.symm⟩⟩
/-- all that the law asks of two least lots that cross -/
theorem asked {n : Int} {E : List (Int × Int)} (ok : Ok n E) (hn : 2 ≤ n) {A B : List Int} (hA : A ∈ leastF n E) (hB : B ∈ leastF n E) (hx : crossB A B = true) :
    (part n A B true true ∈ leastF n E ∧ part n A B true false ∈ leastF n E ∧ part n A B false true ∈ leastF n E ∧ unionL n A B ∈ leastF n E) ∧ linksN E (part n A B true true) (part n A B false false) = 0 ∧ linksN E (part n A B true false) (part n A B false true) = 0 ∧
      2 * (linksN E (part n A B true true) (part n A B true false) : Int) = heldL n E ∧ 2 * (linksN E (part n A B true true) (part n A B false true) : Int) = heldL n E ∧ 2 * (linksN E (part n A B true false) (part n A B false false) : Int) = heldL n E ∧ 2 * (linksN E (part n A B false true) (part n A B false false) : Int) = heldL n E := by
  have lA := (allL_mem.mp (leastF_mem.mp hA).1).1
  have lB := (allL_mem.mp (leastF_mem.mp hB).1).1
  rw [cross_sides (by omega) lA lB] at hx
  simp only [Bool.not_eq_true', decide_eq_false_iff_not, List.mem_cons, List.not_mem_nil, or_false, not_or] at hx
  obtain ⟨n1, n2, n3, _⟩ := hx
  have dp : ∀ p q x, 0 ≤ x → x < n → decide (x ∈ part n A B p q) = (decide (x ∈ A) == p && decide (x ∈ B) == q) := fun p q x h1 h2 => by
    rw [Bool.eq_iff_iff, decide_eq_true_eq, part_mem, Bool.and_eq_true, beq_iff_eq, beq_iff_eq]
    exact ⟨fun h => h.2, fun h => ⟨⟨h1, h2⟩, h⟩⟩
  have m1 := part_all (by omega) lA lB (p := true) (q := true) rfl fun e => n1 e.symm
  refine heart ok hn hA hB (fun x h1 h2 => ?_) (fun x h1 h2 => ?_) (fun x h1 h2 => ?_) (fun x h1 h2 => ?_) m1 (part_all (by omega) lA lB rfl fun e => n2 e.symm) (part_all (by omega) lA lB rfl fun e => n3 e.symm) ?_
  · rw [dp _ _ x h1 h2]
    cases decide (x ∈ A) <;> cases decide (x ∈ B) <;> rfl
  · rw [dp _ _ x h1 h2]
    cases decide (x ∈ A) <;> cases decide (x ∈ B) <;> rfl
  · rw [dp _ _ x h1 h2]
    cases decide (x ∈ A) <;> cases decide (x ∈ B) <;> rfl
  · rw [Bool.eq_iff_iff, decide_eq_true_eq]
    unfold unionL
    rw [List.mem_filter, Bool.or_eq_true, decide_eq_true_eq, decide_eq_true_eq]
    refine ⟨fun h => h.2, fun h => ⟨?_, h⟩⟩
    rcases h with h | h
    · exact upTo_mem.mpr (lots_in lA h)
    · exact upTo_mem.mpr (lots_in lB h)
  · refine allL_mem.mpr ⟨lots_all n _, fun e => ?_⟩
    obtain ⟨x, hx⟩ := List.exists_mem_of_ne_nil _ (allL_mem.mp m1).2
    obtain ⟨hr, h1, h2⟩ := part_mem.mp hx
    have : x ∈ unionL n A B := List.mem_filter.mpr ⟨upTo_mem.mpr (lots_in lA (of_decide_eq_true h1)), by rw [h1]; rfl⟩
    rw [e] at this
    cases this
end K98
end
set_option linter.all false
set_option maxRecDepth 100000
set_option maxHeartbeats 8000000
noncomputable section
namespace K98
open PySem PySem.Spec PyProof.Rows L2 Pd
abbrev ilD (l : List Int) : PyData := .list (l.map PyData.int)
theorem gIn_int_l (neg : Bool) (a : Int) (xs : List Int) : gIn neg (.int a) (ilD xs) = some (.v (.bool (neg.xor (decide (a ∈ xs))))) := gIn_int_list neg a xs
theorem links_is (n : Int) (E : List (Int × Int)) (A B : List Int) (s : Option Src) (hE : E.length ≤ 1000) : g_law_links [.v (netD n E), .v (ilD A), .v (ilD B)] s = some (.v (.int (linksN E A B : Nat)), s) := by
  refine g_of (ss := [.v (netD n E), .v (ilD A), .v (ilD B), .no, .no]) (ss' := [.v (netD n E), .v (ilD A), .v (ilD B), .no, .no]) rfl ?_
  have e : mLc (jSeq (mF (m2 gIx (mPk 0) (mO (mC (.int 1)))))) [3, 4] (gTp (gCn (gN 3) (gCn (gN 4) gNl))) (mOr (mAnd (mB (m2 (gIn false) (mPk 3) (mPk 1))) (mB (m2 (gIn false) (mPk 4) (mPk 2)))) (mAnd (mB (m2 (gIn false) (mPk 3) (mPk 2))) (mB (m2 (gIn false) (mPk 4) (mPk 1))))) (mF (mC (.int 1))) ⟨[.v (netD n E), .v (ilD A), .v (ilD B), .no, .no], s⟩ = .ok (.o (.list ((E.filter (linkB A B)).map fun _ => PyData.int 1))) ⟨[.v (netD n E), .v (ilD A), .v (ilD B), .no, .no], s⟩ := by
    rw [mLc_map (st1 := ⟨[.v (netD n E), .v (ilD A), .v (ilD B), .no, .no], s⟩) E lkD (linkB A B) (fun _ => PyData.int 1)]
    · rfl
    · simp only [v_GetS, v_Cel, v_CelLen, v_CelPop, v_PutS, v_C, v_Var, v_Mv, v_Pk, v_O, v_F, v_B, v_m1, v_m2, still_v, still_t, still_s, d_v, d_t, d_s, v_Seq, v_Nil, v_If, v_Set, v_Ret, v_Drop, v_Asg, v_Par2, v_Par3, v_And, v_Or, v_Not, v_IfE, v_Yes, v_nil, v_cons, v_tup, v_lst, v_N, v_Nl, v_Cn, v_Tp, v_TpL, v_jSeq, v_jEnum, v_jRg, v_jRg2, v_For, v_Call, v_xNil, v_xCons, v_xSrc, v_Mut, S.wipe, wipeS, S.rest, restS, backS, List.set_cons_zero, List.set_cons_succ, List.getElem?_cons_zero, List.getElem?_cons_succ, List.any_cons, List.any_nil, Slot.isSrc, if_true, Bool.or_false, Bool.false_or, Bool.or_true, Bool.true_or, true_or, or_true, List.length_cons, List.length_nil, Bool.false_eq_true, if_false, reduceIte, reduceCtorEq, at1]
    · omega
    · intro p hp
      refine ⟨_, ⟨[.v (netD n E), .v (ilD A), .v (ilD B), .v (.int p.1), .v (.int p.2)], s⟩, rfl, ?_, fun _ => rfl, fun _ => ⟨_, rfl, rfl⟩⟩
      unfold linkB
      have a1 := gIn_int_l false p.1 A
      have a2 := gIn_int_l false p.1 B
      have a3 := gIn_int_l false p.2 A
      have a4 := gIn_int_l false p.2 B
      rw [Bool.false_xor] at a1 a2 a3 a4
      generalize decide (p.1 ∈ A) = x1 at a1 ⊢
      generalize decide (p.1 ∈ B) = x2 at a2 ⊢
      generalize decide (p.2 ∈ A) = x3 at a3 ⊢
      generalize decide (p.2 ∈ B) = x4 at a4 ⊢
      cases x1 <;> cases x2 <;> cases x4 <;> simp only [v_GetS, v_Cel, v_CelLen, v_CelPop, v_PutS, v_C, v_Var, v_Mv, v_Pk, v_O, v_F, v_B, v_m1, v_m2, still_v, still_t, still_s, d_v, d_t, d_s, v_Seq, v_Nil, v_If, v_Set, v_Ret, v_Drop, v_Asg, v_Par2, v_Par3, v_And, v_Or, v_Not, v_IfE, v_Yes, v_nil, v_cons, v_tup, v_lst, v_N, v_Nl, v_Cn, v_Tp, v_TpL, v_jSeq, v_jEnum, v_jRg, v_jRg2, v_For, v_Call, v_xNil, v_xCons, v_xSrc, v_Mut, S.wipe, wipeS, S.rest, restS, backS, List.set_cons_zero, List.set_cons_succ, List.getElem?_cons_zero, List.getElem?_cons_succ, List.any_cons, List.any_nil, Slot.isSrc, if_true, Bool.or_false, Bool.false_or, Bool.or_true, Bool.true_or, true_or, or_true, List.length_cons, List.length_nil, Bool.false_eq_true, if_false, reduceIte, reduceCtorEq, a1, a2, a3, a4, Bool.true_and, Bool.false_and, Bool.and_true, Bool.and_false]
  unfold m_law_links
  simp only [v_GetS, v_Cel, v_CelLen, v_CelPop, v_PutS, v_C, v_Var, v_Mv, v_Pk, v_O, v_F, v_B, v_m1, v_m2, still_v, still_t, still_s, d_v, d_t, d_s, v_Seq, v_Nil, v_If, v_Set, v_Ret, v_Drop, v_Asg, v_Par2, v_Par3, v_And, v_Or, v_Not, v_IfE, v_Yes, v_nil, v_cons, v_tup, v_lst, v_N, v_Nl, v_Cn, v_Tp, v_TpL, v_jSeq, v_jEnum, v_jRg, v_jRg2, v_For, v_Call, v_xNil, v_xCons, v_xSrc, v_Mut, S.wipe, wipeS, S.rest, restS, backS, List.set_cons_zero, List.set_cons_succ, List.getElem?_cons_zero, List.getElem?_cons_succ, List.any_cons, List.any_nil, Slot.isSrc, if_true, Bool.or_false, Bool.false_or, Bool.or_true, Bool.true_or, true_or, or_true, List.length_cons, List.length_nil, Bool.false_eq_true, if_false, reduceIte, reduceCtorEq, e, gLen_list, List.length_map]
  unfold linksN
  rw [List.countP_eq_length_filter]
abbrev bpD (p : Bool × Bool) : PyData := .tuple [.bool p.1, .bool p.2]
theorem both_is (s : Option Src) : g_law_both [] s = some (.o (.list ([(true, true), (true, false), (false, true), (false, false)].map bpD)), s) := by
  refine g_ofO (ss := []) (ss' := []) rfl ?_
  unfold m_law_both
  simp only [v_GetS, v_Cel, v_CelLen, v_CelPop, v_PutS, v_C, v_Var, v_Mv, v_Pk, v_O, v_F, v_B, v_m1, v_m2, still_v, still_t, still_s, d_v, d_t, d_s, v_Seq, v_Nil, v_If, v_Set, v_Ret, v_Drop, v_Asg, v_Par2, v_Par3, v_And, v_Or, v_Not, v_IfE, v_Yes, v_nil, v_cons, v_tup, v_lst, v_N, v_Nl, v_Cn, v_Tp, v_TpL, v_jSeq, v_jEnum, v_jRg, v_jRg2, v_For, v_Call, v_xNil, v_xCons, v_xSrc, v_Mut, S.wipe, wipeS, S.rest, restS, backS, List.set_cons_zero, List.set_cons_succ, List.getElem?_cons_zero, List.getElem?_cons_succ, List.any_cons, List.any_nil, Slot.isSrc, if_true, Bool.or_false, Bool.false_or, Bool.or_true, Bool.true_or, true_or, or_true, List.length_cons, List.length_nil, Bool.false_eq_true, if_false, reduceIte, reduceCtorEq, okLen_of (n := 0 + 1 + 1) (by omega), okLen_of (n := 0 + 1 + 1 + 1 + 1) (by omega)]
  rfl
/-! ### one turn of the law's inner loop -/
def T0 : S → RS := (sSet 11 (mLc (jSeq (mF (mCall g_law_both xNil))) [18, 19] (gTp (gCn (gN 18) (gCn (gN 19) gNl))) tYesM (mF (mLc (jRg (mCons (mF (mVar 4)) mNil)) [20] (gN 20) (mAnd (mB (m2 gEq (mO (m2 (gIn false) (mPk 20) (mPk 9))) (mPk 18))) (mB (m2 gEq (mO (m2 (gIn false) (mPk 20) (mPk 10))) (mPk 19)))) (mF (mVar 20))))))
def T1 : S → RS := (sIf (mB (m2 (gIn false) (mO (mLst mNil)) (mPk 11))) (fun st => .ct st) sNil)
def T2 : S → RS := (sDrop (mMut gApp 7 (mCons (mF (mTup (mCons (mF (mVar 9)) (mCons (mF (mVar 10)) mNil)))) mNil)))
def T3 : S → RS := (sAsg (mF (mVar 11)) (gTp (gCn (gN 12) (gCn (gN 13) (gCn (gN 14) (gCn (gN 15) gNl))))))
def T4 : S → RS := (sSet 16 (m1 gTuple (mO (m1 gSorted (mO (m2 gAdd (mO (m2 gAdd (mPk 12) (mPk 13))) (mPk 14)))))))
def T5 : S → RS := (sIf (mB (m2 gNe (mO (mLc (jSeq (mF (mTup (mCons (mF (m1 gTuple (mPk 12))) (mCons (mF (m1 gTuple (mPk 13))) (mCons (mF (m1 gTuple (mPk 14))) (mCons (mF (mVar 16)) mNil))))))) [21] (gN 21) (mB (m2 (gIn true) (mPk 21) (mPk 6))) (mF (mVar 21)))) (mO (mLst mNil)))) (sRet (mC (.bool false))) sNil)
def T6 : S → RS := (sIf (mOr (mB (m2 gNe (mO (mCall g_law_links (xCons (mF (mVar 3)) (xCons (mF (mVar 12)) (xCons (mF (mVar 15)) xNil))))) (mO (mC (.int 0))))) (mB (m2 gNe (mO (mCall g_law_links (xCons (mF (mVar 3)) (xCons (mF (mVar 13)) (xCons (mF (mVar 14)) xNil))))) (mO (mC (.int 0)))))) (sRet (mC (.bool false))) sNil)
def T7 : S → RS := (sSet 17 (mLst (mCons (mF (mTup (mCons (mF (mVar 12)) (mCons (mF (mVar 13)) mNil)))) (mCons (mF (mTup (mCons (mF (mVar 12)) (mCons (mF (mVar 14)) mNil)))) (mCons (mF (mTup (mCons (mF (mVar 13)) (mCons (mF (mVar 15)) mNil)))) (mCons (mF (mTup (mCons (mF (mVar 14)) (mCons (mF (mVar 15)) mNil)))) mNil))))))
def T8 : S → RS := (sIf (mB (m2 gNe (mO (mLc (jSeq (mF (mVar 17))) [22, 23] (gTp (gCn (gN 22) (gCn (gN 23) gNl))) (mB (m2 gNe (mO (m2 gMul (mO (mC (.int 2))) (mO (mCall g_law_links (xCons (mF (mVar 3)) (xCons (mF (mVar 22)) (xCons (mF (mVar 23)) xNil))))))) (mPk 5))) (mF (mC (.int 1))))) (mO (mLst mNil)))) (sRet (mC (.bool false))) sNil)
def TURN : S → RS := sSeq T0 (sSeq T1 (sSeq T2 (sSeq T3 (sSeq T4 (sSeq T5 (sSeq T6 (sSeq T7 T8)))))))
/-- the law's state -/
abbrev ST (ns : List Int) (s : Src) (c2 a3 a4 a5 a6 due c8 c9 c10 c11 c12 c13 c14 c15 c16 c17 : Slot) : S := ⟨[.scr ns, .src, c2, a3, a4, a5, a6, due, c8, c9, c10, c11, c12, c13, c14, c15, c16, c17, .no, .no, .no, .no, .no, .no], some s⟩
theorem rgD_0 (n : Int) : rgD 0 n = (rngL n).map PyData.int := by
  unfold rgD rngL
  rw [List.map_map, Int.sub_zero]
  rfl
section
variable (ns : List Int) (s : Src) (n : Int) (E : List (Int × Int)) (L A B : List (List Int)) (c2 a3 a5 a6 due c8 c11 c12 c13 c14 c15 c16 c17 : Slot)
theorem T0_is (A B : List Int) (hn : 0 ≤ n) (hn2 : n ≤ 8) : T0 (ST ns s c2 a3 (.v (.int n)) a5 a6 due c8 (.v (lotD A)) (.v (lotD B)) c11 c12 c13 c14 c15 c16 c17) =
    .nx (ST ns s c2 a3 (.v (.int n)) a5 a6 due c8 (.v (lotD A)) (.v (lotD B)) (.o (.list ([part n A B true true, part n A B true false, part n A B false true, part n A B false false].map ilD))) c12 c13 c14 c15 c16 c17) := by
  have inner : ∀ p q : Bool, mLc (jRg (mCons (mF (mVar 4)) mNil)) [20] (gN 20) (mAnd (mB (m2 gEq (mO (m2 (gIn false) (mPk 20) (mPk 9))) (mPk 18))) (mB (m2 gEq (mO (m2 (gIn false) (mPk 20) (mPk 10))) (mPk 19)))) (mF (mVar 20)) ⟨[.scr ns, .src, c2, a3, .v (.int n), a5, a6, due, c8, .v (lotD A), .v (lotD B), c11, c12, c13, c14, c15, c16, c17, .v (.bool p), .v (.bool q), .no, .no, .no, .no], some s⟩ =
      .ok (.o (ilD (part n A B p q))) ⟨[.scr ns, .src, c2, a3, .v (.int n), a5, a6, due, c8, .v (lotD A), .v (lotD B), c11, c12, c13, c14, c15, c16, c17, .v (.bool p), .v (.bool q), .no, .no, .no, .no], some s⟩ := fun p q => by
    rw [mLc_map (st1 := ⟨[.scr ns, .src, c2, a3, .v (.int n), a5, a6, due, c8, .v (lotD A), .v (lotD B), c11, c12, c13, c14, c15, c16, c17, .v (.bool p), .v (.bool q), .no, .no, .no, .no], some s⟩) (rngL n) PyData.int (fun x => (decide (x ∈ A) == p) && (decide (x ∈ B) == q)) PyData.int]
    · rfl
    · have hr : rgOk 0 n = true := rgOk_of (by omega) (by omega) (by omega) (by omega) (by omega)
      simp only [v_GetS, v_Cel, v_CelLen, v_CelPop, v_PutS, v_C, v_Var, v_Mv, v_Pk, v_O, v_F, v_B, v_m1, v_m2, still_v, still_t, still_s, d_v, d_t, d_s, v_Seq, v_Nil, v_If, v_Set, v_Ret, v_Drop, v_Asg, v_Par2, v_Par3, v_And, v_Or, v_Not, v_IfE, v_Yes, v_nil, v_cons, v_tup, v_lst, v_N, v_Nl, v_Cn, v_Tp, v_TpL, v_jSeq, v_jEnum, v_jRg, v_jRg2, v_For, v_Call, v_xNil, v_xCons, v_xSrc, v_Mut, S.wipe, wipeS, S.rest, restS, backS, List.set_cons_zero, List.set_cons_succ, List.getElem?_cons_zero, List.getElem?_cons_succ, List.any_cons, List.any_nil, Slot.isSrc, if_true, Bool.or_false, Bool.false_or, Bool.or_true, Bool.true_or, true_or, or_true, List.length_cons, List.length_nil, Bool.false_eq_true, if_false, reduceIte, reduceCtorEq, hr, rgD_0]
    · unfold rngL
      rw [List.length_map, List.length_range]
      omega
    · intro x hx
      refine ⟨_, ⟨[.scr ns, .src, c2, a3, .v (.int n), a5, a6, due, c8, .v (lotD A), .v (lotD B), c11, c12, c13, c14, c15, c16, c17, .v (.bool p), .v (.bool q), .v (.int x), .no, .no, .no], some s⟩, rfl, ?_, fun _ => rfl, fun _ => ⟨_, rfl, rfl⟩⟩
      have a1 := gIn_int_tup false x A
      have a2 := gIn_int_tup false x B
      rw [Bool.false_xor] at a1 a2
      have b1 := gEq_bool (decide (x ∈ A)) p
      have b2 := gEq_bool (decide (x ∈ B)) q
      generalize decide (x ∈ A) = y1 at a1 b1 ⊢
      generalize decide (x ∈ B) = y2 at a2 b2 ⊢
      generalize (y1 == p) = z1 at b1 ⊢
      generalize (y2 == q) = z2 at b2 ⊢
      cases z1 <;> cases z2 <;> simp only [v_GetS, v_Cel, v_CelLen, v_CelPop, v_PutS, v_C, v_Var, v_Mv, v_Pk, v_O, v_F, v_B, v_m1, v_m2, still_v, still_t, still_s, d_v, d_t, d_s, v_Seq, v_Nil, v_If, v_Set, v_Ret, v_Drop, v_Asg, v_Par2, v_Par3, v_And, v_Or, v_Not, v_IfE, v_Yes, v_nil, v_cons, v_tup, v_lst, v_N, v_Nl, v_Cn, v_Tp, v_TpL, v_jSeq, v_jEnum, v_jRg, v_jRg2, v_For, v_Call, v_xNil, v_xCons, v_xSrc, v_Mut, S.wipe, wipeS, S.rest, restS, backS, List.set_cons_zero, List.set_cons_succ, List.getElem?_cons_zero, List.getElem?_cons_succ, List.any_cons, List.any_nil, Slot.isSrc, if_true, Bool.or_false, Bool.false_or, Bool.or_true, Bool.true_or, true_or, or_true, List.length_cons, List.length_nil, Bool.false_eq_true, if_false, reduceIte, reduceCtorEq, a1, a2, b1, b2, Bool.true_and, Bool.false_and, Bool.and_true, Bool.and_false]
  have outer : mLc (jSeq (mF (mCall g_law_both xNil))) [18, 19] (gTp (gCn (gN 18) (gCn (gN 19) gNl))) tYesM (mF (mLc (jRg (mCons (mF (mVar 4)) mNil)) [20] (gN 20) (mAnd (mB (m2 gEq (mO (m2 (gIn false) (mPk 20) (mPk 9))) (mPk 18))) (mB (m2 gEq (mO (m2 (gIn false) (mPk 20) (mPk 10))) (mPk 19)))) (mF (mVar 20)))) (ST ns s c2 a3 (.v (.int n)) a5 a6 due c8 (.v (lotD A)) (.v (lotD B)) c11 c12 c13 c14 c15 c16 c17) =
      .ok (.o (.list ([part n A B true true, part n A B true false, part n A B false true, part n A B false false].map ilD))) (ST ns s c2 a3 (.v (.int n)) a5 a6 due c8 (.v (lotD A)) (.v (lotD B)) c11 c12 c13 c14 c15 c16 c17) := by
    rw [mLc_map (st1 := ST ns s c2 a3 (.v (.int n)) a5 a6 due c8 (.v (lotD A)) (.v (lotD B)) c11 c12 c13 c14 c15 c16 c17) [(true, true), (true, false), (false, true), (false, false)] bpD (fun _ => true) (fun p => ilD (part n A B p.1 p.2))]
    · rfl
    · simp only [v_GetS, v_Cel, v_CelLen, v_CelPop, v_PutS, v_C, v_Var, v_Mv, v_Pk, v_O, v_F, v_B, v_m1, v_m2, still_v, still_t, still_s, d_v, d_t, d_s, v_Seq, v_Nil, v_If, v_Set, v_Ret, v_Drop, v_Asg, v_Par2, v_Par3, v_And, v_Or, v_Not, v_IfE, v_Yes, v_nil, v_cons, v_tup, v_lst, v_N, v_Nl, v_Cn, v_Tp, v_TpL, v_jSeq, v_jEnum, v_jRg, v_jRg2, v_For, v_Call, v_xNil, v_xCons, v_xSrc, v_Mut, S.wipe, wipeS, S.rest, restS, backS, List.set_cons_zero, List.set_cons_succ, List.getElem?_cons_zero, List.getElem?_cons_succ, List.any_cons, List.any_nil, Slot.isSrc, if_true, Bool.or_false, Bool.false_or, Bool.or_true, Bool.true_or, true_or, or_true, List.length_cons, List.length_nil, Bool.false_eq_true, if_false, reduceIte, reduceCtorEq, both_is]
    · decide
    · intro p hp
      refine ⟨_, ⟨[.scr ns, .src, c2, a3, .v (.int n), a5, a6, due, c8, .v (lotD A), .v (lotD B), c11, c12, c13, c14, c15, c16, c17, .v (.bool p.1), .v (.bool p.2), .no, .no, .no, .no], some s⟩, rfl, rfl, fun h => (nomatch h), fun _ => ⟨⟨[.scr ns, .src, c2, a3, .v (.int n), a5, a6, due, c8, .v (lotD A), .v (lotD B), c11, c12, c13, c14, c15, c16, c17, .v (.bool p.1), .v (.bool p.2), .no, .no, .no, .no], some s⟩, ?_, rfl⟩⟩
      simp only [v_GetS, v_Cel, v_CelLen, v_CelPop, v_PutS, v_C, v_Var, v_Mv, v_Pk, v_O, v_F, v_B, v_m1, v_m2, still_v, still_t, still_s, d_v, d_t, d_s, v_Seq, v_Nil, v_If, v_Set, v_Ret, v_Drop, v_Asg, v_Par2, v_Par3, v_And, v_Or, v_Not, v_IfE, v_Yes, v_nil, v_cons, v_tup, v_lst, v_N, v_Nl, v_Cn, v_Tp, v_TpL, v_jSeq, v_jEnum, v_jRg, v_jRg2, v_For, v_Call, v_xNil, v_xCons, v_xSrc, v_Mut, S.wipe, wipeS, S.rest, restS, backS, List.set_cons_zero, List.set_cons_succ, List.getElem?_cons_zero, List.getElem?_cons_succ, List.any_cons, List.any_nil, Slot.isSrc, if_true, Bool.or_false, Bool.false_or, Bool.or_true, Bool.true_or, true_or, or_true, List.length_cons, List.length_nil, Bool.false_eq_true, if_false, reduceIte, reduceCtorEq, inner p.1 p.2]
  unfold T0
  simp only [v_GetS, v_Cel, v_CelLen, v_CelPop, v_PutS, v_C, v_Var, v_Mv, v_Pk, v_O, v_F, v_B, v_m1, v_m2, still_v, still_t, still_s, d_v, d_t, d_s, v_Seq, v_Nil, v_If, v_Set, v_Ret, v_Drop, v_Asg, v_Par2, v_Par3, v_And, v_Or, v_Not, v_IfE, v_Yes, v_nil, v_cons, v_tup, v_lst, v_N, v_Nl, v_Cn, v_Tp, v_TpL, v_jSeq, v_jEnum, v_jRg, v_jRg2, v_For, v_Call, v_xNil, v_xCons, v_xSrc, v_Mut, S.wipe, wipeS, S.rest, restS, backS, List.set_cons_zero, List.set_cons_succ, List.getElem?_cons_zero, List.getElem?_cons_succ, List.any_cons, List.any_nil, Slot.isSrc, if_true, Bool.or_false, Bool.false_or, Bool.or_true, Bool.true_or, true_or, or_true, List.length_cons, List.length_nil, Bool.false_eq_true, if_false, reduceIte, reduceCtorEq, outer]
theorem T1_is (c9 c10 : Slot) (P : List (List Int)) : T1 (ST ns s c2 a3 (.v (.int n)) a5 a6 due c8 c9 c10 (.o (.list (P.map ilD))) c12 c13 c14 c15 c16 c17) = if decide (([] : List Int) ∈ P) then .ct (ST ns s c2 a3 (.v (.int n)) a5 a6 due c8 c9 c10 (.o (.list (P.map ilD))) c12 c13 c14 c15 c16 c17) else .nx (ST ns s c2 a3 (.v (.int n)) a5 a6 due c8 c9 c10 (.o (.list (P.map ilD))) c12 c13 c14 c15 c16 c17) := by
  have a : gIn false (.list []) (.list (P.map ilD)) = some (.v (.bool (decide (([] : List Int) ∈ P)))) := by
    have := gIn_ilist false [] P
    rw [Bool.false_xor] at this
    exact this
  unfold T1
  generalize decide (([] : List Int) ∈ P) = z at a ⊢
  cases z <;> simp only [v_GetS, v_Cel, v_CelLen, v_CelPop, v_PutS, v_C, v_Var, v_Mv, v_Pk, v_O, v_F, v_B, v_m1, v_m2, still_v, still_t, still_s, d_v, d_t, d_s, v_Seq, v_Nil, v_If, v_Set, v_Ret, v_Drop, v_Asg, v_Par2, v_Par3, v_And, v_Or, v_Not, v_IfE, v_Yes, v_nil, v_cons, v_tup, v_lst, v_N, v_Nl, v_Cn, v_Tp, v_TpL, v_jSeq, v_jEnum, v_jRg, v_jRg2, v_For, v_Call, v_xNil, v_xCons, v_xSrc, v_Mut, S.wipe, wipeS, S.rest, restS, backS, List.set_cons_zero, List.set_cons_succ, List.getElem?_cons_zero, List.getElem?_cons_succ, List.any_cons, List.any_nil, Slot.isSrc, if_true, Bool.or_false, Bool.false_or, Bool.or_true, Bool.true_or, true_or, or_true, List.length_cons, List.length_nil, Bool.false_eq_true, if_false, reduceIte, reduceCtorEq, a, okLen_of (n := 0) (by omega)]
theorem T2_is (A B : List Int) (acc : List (List Int × List Int)) (c11 : Slot) (h : acc.length ≤ 1000000) : T2 (ST ns s c2 a3 (.v (.int n)) a5 a6 (.o (.list (acc.map prD))) c8 (.v (lotD A)) (.v (lotD B)) c11 c12 c13 c14 c15 c16 c17) =
    .nx (ST ns s c2 a3 (.v (.int n)) a5 a6 (.o (.list ((acc ++ [(A, B)]).map prD))) c8 (.v (lotD A)) (.v (lotD B)) c11 c12 c13 c14 c15 c16 c17) := by
  have g : gApp (acc.map prD) [.tuple [lotD A, lotD B]] = some (.none, (acc ++ [(A, B)]).map prD) := by
    show (if okLen ((acc.map prD).length + 1) then some (PyData.none, acc.map prD ++ [PyData.tuple [lotD A, lotD B]]) else none) = _
    rw [okLen_of (by rw [List.length_map]; omega), List.map_append]
    rfl
  unfold T2
  simp only [v_GetS, v_Cel, v_CelLen, v_CelPop, v_PutS, v_C, v_Var, v_Mv, v_Pk, v_O, v_F, v_B, v_m1, v_m2, still_v, still_t, still_s, d_v, d_t, d_s, v_Seq, v_Nil, v_If, v_Set, v_Ret, v_Drop, v_Asg, v_Par2, v_Par3, v_And, v_Or, v_Not, v_IfE, v_Yes, v_nil, v_cons, v_tup, v_lst, v_N, v_Nl, v_Cn, v_Tp, v_TpL, v_jSeq, v_jEnum, v_jRg, v_jRg2, v_For, v_Call, v_xNil, v_xCons, v_xSrc, v_Mut, S.wipe, wipeS, S.rest, restS, backS, List.set_cons_zero, List.set_cons_succ, List.getElem?_cons_zero, List.getElem?_cons_succ, List.any_cons, List.any_nil, Slot.isSrc, if_true, Bool.or_false, Bool.false_or, Bool.or_true, Bool.true_or, true_or, or_true, List.length_cons, List.length_nil, Bool.false_eq_true, if_false, reduceIte, reduceCtorEq, okLen_of (n := 0 + 1 + 1) (by omega), g]
theorem T3_is (c9 c10 : Slot) (P1 P2 P3 P4 : PyData) : T3 (ST ns s c2 a3 (.v (.int n)) a5 a6 due c8 c9 c10 (.o (.list [P1, P2, P3, P4])) c12 c13 c14 c15 c16 c17) =
    .nx (ST ns s c2 a3 (.v (.int n)) a5 a6 due c8 c9 c10 (.v (.list [P1, P2, P3, P4])) (.v P1) (.v P2) (.v P3) (.v P4) c16 c17) := by
  unfold T3
  simp only [v_GetS, v_Cel, v_CelLen, v_CelPop, v_PutS, v_C, v_Var, v_Mv, v_Pk, v_O, v_F, v_B, v_m1, v_m2, still_v, still_t, still_s, d_v, d_t, d_s, v_Seq, v_Nil, v_If, v_Set, v_Ret, v_Drop, v_Asg, v_Par2, v_Par3, v_And, v_Or, v_Not, v_IfE, v_Yes, v_nil, v_cons, v_tup, v_lst, v_N, v_Nl, v_Cn, v_Tp, v_TpL, v_jSeq, v_jEnum, v_jRg, v_jRg2, v_For, v_Call, v_xNil, v_xCons, v_xSrc, v_Mut, S.wipe, wipeS, S.rest, restS, backS, List.set_cons_zero, List.set_cons_succ, List.getElem?_cons_zero, List.getElem?_cons_succ, List.any_cons, List.any_nil, Slot.isSrc, if_true, Bool.or_false, Bool.false_or, Bool.or_true, Bool.true_or, true_or, or_true, List.length_cons, List.length_nil, Bool.false_eq_true, if_false, reduceIte, reduceCtorEq]
theorem T4_is (c9 c10 c11 : Slot) (P1 P2 P3 : List Int) (h : P1.length + P2.length + P3.length ≤ 1000) : T4 (ST ns s c2 a3 (.v (.int n)) a5 a6 due c8 c9 c10 c11 (.v (ilD P1)) (.v (ilD P2)) (.v (ilD P3)) c15 c16 c17) =
    .nx (ST ns s c2 a3 (.v (.int n)) a5 a6 due c8 c9 c10 c11 (.v (ilD P1)) (.v (ilD P2)) (.v (ilD P3)) c15 (.v (lotD (srtI (P1 ++ P2 ++ P3)))) c17) := by
  have g1 : gAdd (ilD P1) (ilD P2) = some (.o (ilD (P1 ++ P2))) := by
    rw [gAdd_list (by simp only [List.length_map]; omega), ← List.map_append]
  have g2 : gAdd (ilD (P1 ++ P2)) (ilD P3) = some (.o (ilD (P1 ++ P2 ++ P3))) := by
    rw [gAdd_list (by simp only [List.length_map, List.length_append]; omega), ← List.map_append]
  have g3 := gSorted_ints (P1 ++ P2 ++ P3)
  unfold T4
  simp only [v_GetS, v_Cel, v_CelLen, v_CelPop, v_PutS, v_C, v_Var, v_Mv, v_Pk, v_O, v_F, v_B, v_m1, v_m2, still_v, still_t, still_s, d_v, d_t, d_s, v_Seq, v_Nil, v_If, v_Set, v_Ret, v_Drop, v_Asg, v_Par2, v_Par3, v_And, v_Or, v_Not, v_IfE, v_Yes, v_nil, v_cons, v_tup, v_lst, v_N, v_Nl, v_Cn, v_Tp, v_TpL, v_jSeq, v_jEnum, v_jRg, v_jRg2, v_For, v_Call, v_xNil, v_xCons, v_xSrc, v_Mut, S.wipe, wipeS, S.rest, restS, backS, List.set_cons_zero, List.set_cons_succ, List.getElem?_cons_zero, List.getElem?_cons_succ, List.any_cons, List.any_nil, Slot.isSrc, if_true, Bool.or_false, Bool.false_or, Bool.or_true, Bool.true_or, true_or, or_true, List.length_cons, List.length_nil, Bool.false_eq_true, if_false, reduceIte, reduceCtorEq, g1, g2, g3, gTuple_list]
theorem T5_is (c9 c10 c11 c15 : Slot) (P1 P2 P3 U : List Int) (L : List (List Int)) (h1 : P1 ∈ L) (h2 : P2 ∈ L) (h3 : P3 ∈ L) (h4 : U ∈ L) : T5 (ST ns s c2 a3 (.v (.int n)) a5 (.v (.list (L.map lotD))) due c8 c9 c10 c11 (.v (ilD P1)) (.v (ilD P2)) (.v (ilD P3)) c15 (.v (lotD U)) c17) =
    .nx (ST ns s c2 a3 (.v (.int n)) a5 (.v (.list (L.map lotD))) due c8 c9 c10 c11 (.v (ilD P1)) (.v (ilD P2)) (.v (ilD P3)) c15 (.v (lotD U)) c17) := by
  have e : mLc (jSeq (mF (mTup (mCons (mF (m1 gTuple (mPk 12))) (mCons (mF (m1 gTuple (mPk 13))) (mCons (mF (m1 gTuple (mPk 14))) (mCons (mF (mVar 16)) mNil))))))) [21] (gN 21) (mB (m2 (gIn true) (mPk 21) (mPk 6))) (mF (mVar 21)) (ST ns s c2 a3 (.v (.int n)) a5 (.v (.list (L.map lotD))) due c8 c9 c10 c11 (.v (ilD P1)) (.v (ilD P2)) (.v (ilD P3)) c15 (.v (lotD U)) c17) =
      .ok (.o (.list [])) (ST ns s c2 a3 (.v (.int n)) a5 (.v (.list (L.map lotD))) due c8 c9 c10 c11 (.v (ilD P1)) (.v (ilD P2)) (.v (ilD P3)) c15 (.v (lotD U)) c17) := by
    rw [mLc_map (st1 := ST ns s c2 a3 (.v (.int n)) a5 (.v (.list (L.map lotD))) due c8 c9 c10 c11 (.v (ilD P1)) (.v (ilD P2)) (.v (ilD P3)) c15 (.v (lotD U)) c17) [P1, P2, P3, U] lotD (fun l => !decide (l ∈ L)) lotD]
    · have q : ([P1, P2, P3, U].filter fun l => !decide (l ∈ L)) = [] := by
        simp [h1, h2, h3, h4]
      rw [q]
      rfl
    · simp only [v_GetS, v_Cel, v_CelLen, v_CelPop, v_PutS, v_C, v_Var, v_Mv, v_Pk, v_O, v_F, v_B, v_m1, v_m2, still_v, still_t, still_s, d_v, d_t, d_s, v_Seq, v_Nil, v_If, v_Set, v_Ret, v_Drop, v_Asg, v_Par2, v_Par3, v_And, v_Or, v_Not, v_IfE, v_Yes, v_nil, v_cons, v_tup, v_lst, v_N, v_Nl, v_Cn, v_Tp, v_TpL, v_jSeq, v_jEnum, v_jRg, v_jRg2, v_For, v_Call, v_xNil, v_xCons, v_xSrc, v_Mut, S.wipe, wipeS, S.rest, restS, backS, List.set_cons_zero, List.set_cons_succ, List.getElem?_cons_zero, List.getElem?_cons_succ, List.any_cons, List.any_nil, Slot.isSrc, if_true, Bool.or_false, Bool.false_or, Bool.or_true, Bool.true_or, true_or, or_true, List.length_cons, List.length_nil, Bool.false_eq_true, if_false, reduceIte, reduceCtorEq, gTuple_list, okLen_of (n := 0 + 1 + 1 + 1 + 1) (by omega)]
      rfl
    · simp
    · intro l hl
      refine ⟨_, ⟨[.scr ns, .src, c2, a3, .v (.int n), a5, .v (.list (L.map lotD)), due, c8, c9, c10, c11, .v (ilD P1), .v (ilD P2), .v (ilD P3), c15, .v (lotD U), c17, .no, .no, .no, .v (lotD l), .no, .no], some s⟩, rfl, ?_, fun _ => rfl, fun _ => ⟨_, rfl, rfl⟩⟩
      have a := gIn_lot true l L
      rw [Bool.true_xor] at a
      simp only [v_GetS, v_Cel, v_CelLen, v_CelPop, v_PutS, v_C, v_Var, v_Mv, v_Pk, v_O, v_F, v_B, v_m1, v_m2, still_v, still_t, still_s, d_v, d_t, d_s, v_Seq, v_Nil, v_If, v_Set, v_Ret, v_Drop, v_Asg, v_Par2, v_Par3, v_And, v_Or, v_Not, v_IfE, v_Yes, v_nil, v_cons, v_tup, v_lst, v_N, v_Nl, v_Cn, v_Tp, v_TpL, v_jSeq, v_jEnum, v_jRg, v_jRg2, v_For, v_Call, v_xNil, v_xCons, v_xSrc, v_Mut, S.wipe, wipeS, S.rest, restS, backS, List.set_cons_zero, List.set_cons_succ, List.getElem?_cons_zero, List.getElem?_cons_succ, List.any_cons, List.any_nil, Slot.isSrc, if_true, Bool.or_false, Bool.false_or, Bool.or_true, Bool.true_or, true_or, or_true, List.length_cons, List.length_nil, Bool.false_eq_true, if_false, reduceIte, reduceCtorEq, a]
  have n0 : gNe (.list []) (.list []) = some (.v (.bool false)) := gNe_ilist [] []
  unfold T5
  simp only [v_GetS, v_Cel, v_CelLen, v_CelPop, v_PutS, v_C, v_Var, v_Mv, v_Pk, v_O, v_F, v_B, v_m1, v_m2, still_v, still_t, still_s, d_v, d_t, d_s, v_Seq, v_Nil, v_If, v_Set, v_Ret, v_Drop, v_Asg, v_Par2, v_Par3, v_And, v_Or, v_Not, v_IfE, v_Yes, v_nil, v_cons, v_tup, v_lst, v_N, v_Nl, v_Cn, v_Tp, v_TpL, v_jSeq, v_jEnum, v_jRg, v_jRg2, v_For, v_Call, v_xNil, v_xCons, v_xSrc, v_Mut, S.wipe, wipeS, S.rest, restS, backS, List.set_cons_zero, List.set_cons_succ, List.getElem?_cons_zero, List.getElem?_cons_succ, List.any_cons, List.any_nil, Slot.isSrc, if_true, Bool.or_false, Bool.false_or, Bool.or_true, Bool.true_or, true_or, or_true, List.length_cons, List.length_nil, Bool.false_eq_true, if_false, reduceIte, reduceCtorEq, e, n0, okLen_of (n := 0) (by omega)]
theorem T6_is (c9 c10 c11 : Slot) (E : List (Int × Int)) (P1 P2 P3 P4 : List Int) (hE : E.length ≤ 1000) (h1 : linksN E P1 P4 = 0) (h2 : linksN E P2 P3 = 0) : T6 (ST ns s c2 (.v (netD n E)) (.v (.int n)) a5 a6 due c8 c9 c10 c11 (.v (ilD P1)) (.v (ilD P2)) (.v (ilD P3)) (.v (ilD P4)) c16 c17) =
    .nx (ST ns s c2 (.v (netD n E)) (.v (.int n)) a5 a6 due c8 c9 c10 c11 (.v (ilD P1)) (.v (ilD P2)) (.v (ilD P3)) (.v (ilD P4)) c16 c17) := by
  have a1 := links_is n E P1 P4 none hE
  have a2 := links_is n E P2 P3 none hE
  rw [h1] at a1
  rw [h2] at a2
  have n0 : gNe (.int ((0 : Nat) : Int)) (.int 0) = some (.v (.bool false)) := gNe_int 0 0
  unfold T6
  simp only [v_GetS, v_Cel, v_CelLen, v_CelPop, v_PutS, v_C, v_Var, v_Mv, v_Pk, v_O, v_F, v_B, v_m1, v_m2, still_v, still_t, still_s, d_v, d_t, d_s, v_Seq, v_Nil, v_If, v_Set, v_Ret, v_Drop, v_Asg, v_Par2, v_Par3, v_And, v_Or, v_Not, v_IfE, v_Yes, v_nil, v_cons, v_tup, v_lst, v_N, v_Nl, v_Cn, v_Tp, v_TpL, v_jSeq, v_jEnum, v_jRg, v_jRg2, v_For, v_Call, v_xNil, v_xCons, v_xSrc, v_Mut, S.wipe, wipeS, S.rest, restS, backS, List.set_cons_zero, List.set_cons_succ, List.getElem?_cons_zero, List.getElem?_cons_succ, List.any_cons, List.any_nil, Slot.isSrc, if_true, Bool.or_false, Bool.false_or, Bool.or_true, Bool.true_or, true_or, or_true, List.length_cons, List.length_nil, Bool.false_eq_true, if_false, reduceIte, reduceCtorEq, a1, a2, n0]
theorem T7_is (c9 c10 c11 : Slot) (P1 P2 P3 P4 : PyData) : T7 (ST ns s c2 a3 (.v (.int n)) a5 a6 due c8 c9 c10 c11 (.v P1) (.v P2) (.v P3) (.v P4) c16 c17) =
    .nx (ST ns s c2 a3 (.v (.int n)) a5 a6 due c8 c9 c10 c11 (.v P1) (.v P2) (.v P3) (.v P4) c16 (.o (.list [.tuple [P1, P2], .tuple [P1, P3], .tuple [P2, P4], .tuple [P3, P4]]))) := by
  unfold T7
  simp only [v_GetS, v_Cel, v_CelLen, v_CelPop, v_PutS, v_C, v_Var, v_Mv, v_Pk, v_O, v_F, v_B, v_m1, v_m2, still_v, still_t, still_s, d_v, d_t, d_s, v_Seq, v_Nil, v_If, v_Set, v_Ret, v_Drop, v_Asg, v_Par2, v_Par3, v_And, v_Or, v_Not, v_IfE, v_Yes, v_nil, v_cons, v_tup, v_lst, v_N, v_Nl, v_Cn, v_Tp, v_TpL, v_jSeq, v_jEnum, v_jRg, v_jRg2, v_For, v_Call, v_xNil, v_xCons, v_xSrc, v_Mut, S.wipe, wipeS, S.rest, restS, backS, List.set_cons_zero, List.set_cons_succ, List.getElem?_cons_zero, List.getElem?_cons_succ, List.any_cons, List.any_nil, Slot.isSrc, if_true, Bool.or_false, Bool.false_or, Bool.or_true, Bool.true_or, true_or, or_true, List.length_cons, List.length_nil, Bool.false_eq_true, if_false, reduceIte, reduceCtorEq, okLen_of (n := 0 + 1 + 1) (by omega), okLen_of (n := 0 + 1 + 1 + 1 + 1) (by omega)]
abbrev ppD (p : List Int × List Int) : PyData := .tuple [ilD p.1, ilD p.2]
theorem T8_is (c9 c10 c11 c12 c13 c14 c15 : Slot) (E : List (Int × Int)) (h : Int) (R : List (List Int × List Int)) (hE : E.length ≤ 1000) (hR : R.length ≤ 1000) (h1 : ∀ r ∈ R, 2 * (linksN E r.1 r.2 : Int) = h) : T8 (ST ns s c2 (.v (netD n E)) (.v (.int n)) (.v (.int h)) a6 due c8 c9 c10 c11 c12 c13 c14 c15 c16 (.o (.list (R.map ppD)))) =
    .nx (ST ns s c2 (.v (netD n E)) (.v (.int n)) (.v (.int h)) a6 due c8 c9 c10 c11 c12 c13 c14 c15 c16 (.v (.list (R.map ppD)))) := by
  have e : mLc (jSeq (mF (mVar 17))) [22, 23] (gTp (gCn (gN 22) (gCn (gN 23) gNl))) (mB (m2 gNe (mO (m2 gMul (mO (mC (.int 2))) (mO (mCall g_law_links (xCons (mF (mVar 3)) (xCons (mF (mVar 22)) (xCons (mF (mVar 23)) xNil))))))) (mPk 5))) (mF (mC (.int 1))) (ST ns s c2 (.v (netD n E)) (.v (.int n)) (.v (.int h)) a6 due c8 c9 c10 c11 c12 c13 c14 c15 c16 (.o (.list (R.map ppD)))) =
      .ok (.o (.list [])) (ST ns s c2 (.v (netD n E)) (.v (.int n)) (.v (.int h)) a6 due c8 c9 c10 c11 c12 c13 c14 c15 c16 (.v (.list (R.map ppD)))) := by
    rw [mLc_map (st1 := ST ns s c2 (.v (netD n E)) (.v (.int n)) (.v (.int h)) a6 due c8 c9 c10 c11 c12 c13 c14 c15 c16 (.v (.list (R.map ppD)))) R ppD (fun r => !decide (2 * (linksN E r.1 r.2 : Int) = h)) (fun _ => .int 1)]
    · have q : (R.filter fun r => !decide (2 * (linksN E r.1 r.2 : Int) = h)) = [] := List.filter_eq_nil_iff.mpr fun r hr => by simp [h1 r hr]
      rw [q]
      rfl
    · simp only [v_GetS, v_Cel, v_CelLen, v_CelPop, v_PutS, v_C, v_Var, v_Mv, v_Pk, v_O, v_F, v_B, v_m1, v_m2, still_v, still_t, still_s, d_v, d_t, d_s, v_Seq, v_Nil, v_If, v_Set, v_Ret, v_Drop, v_Asg, v_Par2, v_Par3, v_And, v_Or, v_Not, v_IfE, v_Yes, v_nil, v_cons, v_tup, v_lst, v_N, v_Nl, v_Cn, v_Tp, v_TpL, v_jSeq, v_jEnum, v_jRg, v_jRg2, v_For, v_Call, v_xNil, v_xCons, v_xSrc, v_Mut, S.wipe, wipeS, S.rest, restS, backS, List.set_cons_zero, List.set_cons_succ, List.getElem?_cons_zero, List.getElem?_cons_succ, List.any_cons, List.any_nil, Slot.isSrc, if_true, Bool.or_false, Bool.false_or, Bool.or_true, Bool.true_or, true_or, or_true, List.length_cons, List.length_nil, Bool.false_eq_true, if_false, reduceIte, reduceCtorEq]
    · omega
    · intro r hr
      refine ⟨_, ⟨[.scr ns, .src, c2, .v (netD n E), .v (.int n), .v (.int h), a6, due, c8, c9, c10, c11, c12, c13, c14, c15, c16, .v (.list (R.map ppD)), .no, .no, .no, .no, .v (ilD r.1), .v (ilD r.2)], some s⟩, rfl, ?_, fun _ => rfl, fun _ => ⟨_, rfl, rfl⟩⟩
      simp only [v_GetS, v_Cel, v_CelLen, v_CelPop, v_PutS, v_C, v_Var, v_Mv, v_Pk, v_O, v_F, v_B, v_m1, v_m2, still_v, still_t, still_s, d_v, d_t, d_s, v_Seq, v_Nil, v_If, v_Set, v_Ret, v_Drop, v_Asg, v_Par2, v_Par3, v_And, v_Or, v_Not, v_IfE, v_Yes, v_nil, v_cons, v_tup, v_lst, v_N, v_Nl, v_Cn, v_Tp, v_TpL, v_jSeq, v_jEnum, v_jRg, v_jRg2, v_For, v_Call, v_xNil, v_xCons, v_xSrc, v_Mut, S.wipe, wipeS, S.rest, restS, backS, List.set_cons_zero, List.set_cons_succ, List.getElem?_cons_zero, List.getElem?_cons_succ, List.any_cons, List.any_nil, Slot.isSrc, if_true, Bool.or_false, Bool.false_or, Bool.or_true, Bool.true_or, true_or, or_true, List.length_cons, List.length_nil, Bool.false_eq_true, if_false, reduceIte, reduceCtorEq, links_is n E r.1 r.2 none hE, gMul_int (mulOk_l (a := 2) (b := (linksN E r.1 r.2 : Int)) (by decide) (by decide)), gNe_int]
  have n0 : gNe (.list []) (.list []) = some (.v (.bool false)) := gNe_ilist [] []
  unfold T8
  simp only [v_GetS, v_Cel, v_CelLen, v_CelPop, v_PutS, v_C, v_Var, v_Mv, v_Pk, v_O, v_F, v_B, v_m1, v_m2, still_v, still_t, still_s, d_v, d_t, d_s, v_Seq, v_Nil, v_If, v_Set, v_Ret, v_Drop, v_Asg, v_Par2, v_Par3, v_And, v_Or, v_Not, v_IfE, v_Yes, v_nil, v_cons, v_tup, v_lst, v_N, v_Nl, v_Cn, v_Tp, v_TpL, v_jSeq, v_jEnum, v_jRg, v_jRg2, v_For, v_Call, v_xNil, v_xCons, v_xSrc, v_Mut, S.wipe, wipeS, S.rest, restS, backS, List.set_cons_zero, List.set_cons_succ, List.getElem?_cons_zero, List.getElem?_cons_succ, List.any_cons, List.any_nil, Slot.isSrc, if_true, Bool.or_false, Bool.false_or, Bool.or_true, Bool.true_or, true_or, or_true, List.length_cons, List.length_nil, Bool.false_eq_true, if_false, reduceIte, reduceCtorEq, e, n0, okLen_of (n := 0) (by omega)]
end
/-- a turn -/
theorem TURN_is (ns : List Int) (s : Src) (n : Int) (E : List (Int × Int)) (A B : List Int) (acc : List (List Int × List Int)) (c2 c8 c11 c12 c13 c14 c15 c16 c17 : Slot) (h1 : 2 ≤ n) (h2 : n ≤ 8) (hE : E.length ≤ 1000) (ok : Ok n E) (hA : A ∈ leastF n E) (hB : B ∈ leastF n E) (hacc : acc.length ≤ 1000000) :
    ∃ st2 d11 d12 d13 d14 d15 d16 d17, (TURN (ST ns s c2 (.v (netD n E)) (.v (.int n)) (.v (.int (heldL n E))) (.v (.list ((leastF n E).map lotD))) (.o (.list (acc.map prD))) c8 (.v (lotD A)) (.v (lotD B)) c11 c12 c13 c14 c15 c16 c17) = .nx st2 ∨
      TURN (ST ns s c2 (.v (netD n E)) (.v (.int n)) (.v (.int (heldL n E))) (.v (.list ((leastF n E).map lotD))) (.o (.list (acc.map prD))) c8 (.v (lotD A)) (.v (lotD B)) c11 c12 c13 c14 c15 c16 c17) = .ct st2) ∧
      st2 = ST ns s c2 (.v (netD n E)) (.v (.int n)) (.v (.int (heldL n E))) (.v (.list ((leastF n E).map lotD))) (.o (.list ((acc ++ if crossB A B then [(A, B)] else []).map prD))) c8 (.v (lotD A)) (.v (lotD B)) d11 d12 d13 d14 d15 d16 d17 := by
  have lA := (allL_mem.mp (leastF_mem.mp hA).1).1
  have lB := (allL_mem.mp (leastF_mem.mp hB).1).1
  have cs := cross_sides (by omega) lA lB
  have t0 := T0_is ns s n c2 (.v (netD n E)) (.v (.int (heldL n E))) (.v (.list ((leastF n E).map lotD))) (.o (.list (acc.map prD))) c8 c11 c12 c13 c14 c15 c16 c17 A B (by omega) h2
  have t1 := T1_is ns s n c2 (.v (netD n E)) (.v (.int (heldL n E))) (.v (.list ((leastF n E).map lotD))) (.o (.list (acc.map prD))) c8 c12 c13 c14 c15 c16 c17 (.v (lotD A)) (.v (lotD B)) [part n A B true true, part n A B true false, part n A B false true, part n A B false false]
  cases hx : crossB A B with
  | false =>
    rw [hx] at cs
    have cs' : decide (([] : List Int) ∈ [part n A B true true, part n A B true false, part n A B false true, part n A B false false]) = true := by
      cases q : decide (([] : List Int) ∈ [part n A B true true, part n A B true false, part n A B false true, part n A B false false]) with
      | true => rfl
      | false =>
        rw [q] at cs
        cases cs
    rw [cs', if_pos rfl] at t1
    refine ⟨_, _, _, _, _, _, _, _, .inr (Eq.trans ?_ t1), by rw [if_neg Bool.false_ne_true, List.append_nil]⟩
    unfold TURN
    rw [v_Seq, t0]
    dsimp only
    rw [v_Seq, t1]
  | true =>
    rw [hx] at cs
    have cs' : decide (([] : List Int) ∈ [part n A B true true, part n A B true false, part n A B false true, part n A B false false]) = false := by
      cases q : decide (([] : List Int) ∈ [part n A B true true, part n A B true false, part n A B false true, part n A B false false]) with
      | false => rfl
      | true =>
        rw [q] at cs
        cases cs
    rw [cs', if_neg Bool.false_ne_true] at t1
    obtain ⟨⟨k1, k2, k3, k4⟩, z1, z2, w1, w2, w3, w4⟩ := asked ok h1 hA hB hx
    have small : ∀ p q, (part n A B p q).length ≤ 8 := fun p q => by
      unfold part
      refine Nat.le_trans (List.length_filter_le _ _) ?_
      unfold rngL
      rw [List.length_map, List.length_range]
      omega
    have t2 := T2_is ns s n c2 (.v (netD n E)) (.v (.int (heldL n E))) (.v (.list ((leastF n E).map lotD))) c8 c12 c13 c14 c15 c16 c17 A B acc (.o (.list ([part n A B true true, part n A B true false, part n A B false true, part n A B false false].map ilD))) hacc
    have t3 := T3_is ns s n c2 (.v (netD n E)) (.v (.int (heldL n E))) (.v (.list ((leastF n E).map lotD))) (.o (.list ((acc ++ [(A, B)]).map prD))) c8 c12 c13 c14 c15 c16 c17 (.v (lotD A)) (.v (lotD B)) (ilD (part n A B true true)) (ilD (part n A B true false)) (ilD (part n A B false true)) (ilD (part n A B false false))
    have t4 := T4_is ns s n c2 (.v (netD n E)) (.v (.int (heldL n E))) (.v (.list ((leastF n E).map lotD))) (.o (.list ((acc ++ [(A, B)]).map prD))) c8 (.v (ilD (part n A B false false))) c16 c17 (.v (lotD A)) (.v (lotD B)) (.v (.list [ilD (part n A B true true), ilD (part n A B true false), ilD (part n A B false true), ilD (part n A B false false)])) (part n A B true true) (part n A B true false) (part n A B false true) (by have := small true true; have := small true false; have := small false true; omega)
    rw [union_is (by omega) lA lB] at t4
    have t5 := T5_is ns s n c2 (.v (netD n E)) (.v (.int (heldL n E))) (.o (.list ((acc ++ [(A, B)]).map prD))) c8 c17 (.v (lotD A)) (.v (lotD B)) (.v (.list [ilD (part n A B true true), ilD (part n A B true false), ilD (part n A B false true), ilD (part n A B false false)])) (.v (ilD (part n A B false false))) (part n A B true true) (part n A B true false) (part n A B false true) (unionL n A B) (leastF n E) k1 k2 k3 k4
    have t6 := T6_is ns s n c2 (.v (.int (heldL n E))) (.v (.list ((leastF n E).map lotD))) (.o (.list ((acc ++ [(A, B)]).map prD))) c8 (.v (lotD (unionL n A B))) c17 (.v (lotD A)) (.v (lotD B)) (.v (.list [ilD (part n A B true true), ilD (part n A B true false), ilD (part n A B false true), ilD (part n A B false false)])) E (part n A B true true) (part n A B true false) (part n A B false true) (part n A B false false) hE z1 z2
    have t7 := T7_is ns s n c2 (.v (netD n E)) (.v (.int (heldL n E))) (.v (.list ((leastF n E).map lotD))) (.o (.list ((acc ++ [(A, B)]).map prD))) c8 (.v (lotD (unionL n A B))) c17 (.v (lotD A)) (.v (lotD B)) (.v (.list [ilD (part n A B true true), ilD (part n A B true false), ilD (part n A B false true), ilD (part n A B false false)])) (ilD (part n A B true true)) (ilD (part n A B true false)) (ilD (part n A B false true)) (ilD (part n A B false false))
    have t8 := T8_is ns s n c2 (.v (.list ((leastF n E).map lotD))) (.o (.list ((acc ++ [(A, B)]).map prD))) c8 (.v (lotD (unionL n A B))) (.v (lotD A)) (.v (lotD B)) (.v (.list [ilD (part n A B true true), ilD (part n A B true false), ilD (part n A B false true), ilD (part n A B false false)])) (.v (ilD (part n A B true true))) (.v (ilD (part n A B true false))) (.v (ilD (part n A B false true))) (.v (ilD (part n A B false false))) E (heldL n E)
      [(part n A B true true, part n A B true false), (part n A B true true, part n A B false true), (part n A B true false, part n A B false false), (part n A B false true, part n A B false false)] hE (by simp) (fun r hr => by
        simp only [List.mem_cons, List.not_mem_nil, or_false] at hr
        rcases hr with rfl | rfl | rfl | rfl
        · exact w1
        · exact w2
        · exact w3
        · exact w4)
    refine ⟨_, _, _, _, _, _, _, _, .inl (Eq.trans ?_ t8), by rw [if_pos rfl]⟩
    unfold TURN
    rw [v_Seq, t0]
    dsimp only
    rw [v_Seq, t1]
    dsimp only
    rw [v_Seq, t2]
    dsimp only
    rw [v_Seq, show (PyData.list ([part n A B true true, part n A B true false, part n A B false true, part n A B false false].map ilD)) = .list [ilD (part n A B true true), ilD (part n A B true false), ilD (part n A B false true), ilD (part n A B false false)] from rfl, t3]
    dsimp only
    rw [v_Seq, t4]
    dsimp only
    rw [v_Seq, t5]
    dsimp only
    rw [v_Seq, t6]
    dsimp only
    rw [v_Seq, t7]
    rfl
end K98
end
set_option linter.all false
set_option maxRecDepth 100000
set_option maxHeartbeats 8000000
noncomputable section
namespace K98
open PySem PySem.Spec PyProof.Rows L2 Pd
def DRAW : S → RS := (sSet 3 (mCall g_law_draw_net (xSrc 1 (xCons (mF (m2 gIx (mO (mLst (mCons (mF (mC (.int 4))) (mCons (mF (mC (.int 5))) (mCons (mF (mC (.int 6))) (mCons (mF (mC (.int 6))) mNil)))))) (mPk 2))) xNil))))
def ASG : S → RS := (sAsg (mF (mTup (mCons (mF (m2 gIx (mPk 3) (mO (mC (.int 0))))) (mCons (mF (mCall g_law_least (xCons (mF (mVar 3)) xNil))) mNil)))) (gTp (gCn (gN 4) (gCn (gTp (gCn (gN 5) (gCn (gN 6) gNl))) gNl))))
def DUE : S → RS := (sSet 7 (mLst mNil))
def SL : S → Pd.R (List PyData) := (jSeq (mF (mSl (mPk 6) (mP (m2 gAdd (mPk 8) (mO (mC (.int 1))))) mNoP)))
def INNER : S → RS := sFor SL (gN 10) TURN
def OUTER : S → RS := sFor (jEnum (mF (mVar 6))) (gTp (gCn (gN 8) (gCn (gN 9) gNl))) INNER
def IF1 : S → RS := (sIf (mOr (mB (m2 gNe (mO (m1 gRepr (mO (mCall g_crossing_lots (xCons (mF (mVar 3)) xNil))))) (mO (m1 gRepr (mO (m1 gTuple (mPk 7))))))) (mAnd (mB (m2 gEq (mO (m2 gMod (mO (m1 gInt (mPk 5))) (mO (mC (.int 2))))) (mO (mC (.int 1))))) (mB (m2 gNe (mPk 7) (mO (mLst mNil)))))) (sRet (mC (.bool false))) sNil)
def IF2 : S → RS := (sIf (mB (m2 gNe (mO (m1 gRepr (mO (mLst (mCons (mF (mCall g_held_by_lots (xCons (mF (mVar 3)) xNil))) (mCons (mF (mCall g_least_lots (xCons (mF (mVar 3)) xNil))) mNil)))))) (mO (m1 gRepr (mO (mLst (mCons (mF (mVar 5)) (mCons (mF (m1 gTuple (mPk 6))) mNil)))))))) (sRet (mC (.bool false))) sNil)
def LAP : S → RS := sSeq DRAW (sSeq ASG (sSeq DUE (sSeq OUTER (sSeq IF1 IF2))))
theorem m_law_eq : m_law = sSeq (sSet 1 (mCall g_law_open_cells (xSrc 0 xNil))) (sSeq (sFor (jRg (mCons (mF (mC (.int 4))) mNil)) (gN 2) LAP) (sRet (mC (.bool true)))) := rfl
theorem fold_step (A : List Int) : ∀ (xs : List (List Int)) (acc : List (List Int × List Int)), xs.foldl (fun acc B => acc ++ if crossB A B then [(A, B)] else []) acc = acc ++ (xs.filter (crossB A)).map fun o => (A, o)
  | [], acc => by simp
  | B :: xs, acc => by
    rw [List.foldl_cons, fold_step A xs]
    cases q : crossB A B with
    | true =>
      rw [List.filter_cons_of_pos q, List.map_cons, if_pos rfl, List.append_assoc]
      rfl
    | false =>
      rw [List.filter_cons_of_neg (by rw [q]; exact Bool.false_ne_true), if_neg Bool.false_ne_true, List.append_nil]
theorem least_few (n : Int) (E : List (Int × Int)) (h1 : 1 ≤ n) (h2 : n ≤ 8) : (leastF n E).length ≤ 128 := by
  unfold leastF lawL
  refine Nat.le_trans (List.length_filter_le _ _) ?_
  rw [List.length_mergeSort]
  exact lots_few n h1 h2
theorem least_few32 (n : Int) (E : List (Int × Int)) (h1 : 1 ≤ n) (h2 : n ≤ 6) : (leastF n E).length ≤ 32 := by
  unfold leastF lawL
  refine Nat.le_trans (List.length_filter_le _ _) ?_
  rw [List.length_mergeSort]
  unfold allL
  refine Nat.le_trans (List.length_filter_le _ _) ?_
  obtain ⟨_, _, e, _⟩ := lots_loop n none h1 (by omega)
  rw [e]
  exact Nat.pow_le_pow_right (n := 2) (i := (n - 1).toNat) (j := 5) (by omega) (by omega)
section
variable (ns : List Int) (s : Src) (n : Int) (E : List (Int × Int)) (h1 : 2 ≤ n) (h2 : n ≤ 6) (hE : E.length ≤ 1000) (ok : Ok n E)
include h1 h2 hE ok
theorem INNER_is (A : List Int) (i : Nat) (acc : List (List Int × List Int)) (c2 c10 c11 c12 c13 c14 c15 c16 c17 : Slot) (hA : A ∈ leastF n E) (hacc : acc.length ≤ 500000) :
    ∃ d10 d11 d12 d13 d14 d15 d16 d17, INNER (ST ns s c2 (.v (netD n E)) (.v (.int n)) (.v (.int (heldL n E))) (.v (.list ((leastF n E).map lotD))) (.o (.list (acc.map prD))) (.v (.int (i : Nat))) (.v (lotD A)) c10 c11 c12 c13 c14 c15 c16 c17) =
      .nx (ST ns s c2 (.v (netD n E)) (.v (.int n)) (.v (.int (heldL n E))) (.v (.list ((leastF n E).map lotD))) (.o (.list ((stepC (leastF n E) acc (A, i)).map prD))) (.v (.int (i : Nat))) (.v (lotD A)) d10 d11 d12 d13 d14 d15 d16 d17) := by
  have few := least_few32 n E (by omega) h2
  obtain ⟨st', e1, d10, d11, d12, d13, d14, d15, d16, d17, e2, e3⟩ := forGo_foldN (g := gN 10) (m := TURN) lotD (fun acc B => acc ++ if crossB A B then [(A, B)] else [])
    (fun k acc st => ∃ d10 d11 d12 d13 d14 d15 d16 d17, st = ST ns s c2 (.v (netD n E)) (.v (.int n)) (.v (.int (heldL n E))) (.v (.list ((leastF n E).map lotD))) (.o (.list (acc.map prD))) (.v (.int (i : Nat))) (.v (lotD A)) d10 d11 d12 d13 d14 d15 d16 d17 ∧ acc.length ≤ 500000 + k) ((leastF n E).drop (i + 1)) 0 acc
    (ST ns s c2 (.v (netD n E)) (.v (.int n)) (.v (.int (heldL n E))) (.v (.list ((leastF n E).map lotD))) (.o (.list (acc.map prD))) (.v (.int (i : Nat))) (.v (lotD A)) c10 c11 c12 c13 c14 c15 c16 c17) (fun k B hB acc st ⟨d10, d11, d12, d13, d14, d15, d16, d17, q1, q2⟩ => by
      subst q1
      have hk := (List.getElem?_eq_some_iff.mp hB).1
      rw [List.length_drop] at hk
      have mB : B ∈ leastF n E := List.mem_of_mem_drop (List.mem_of_getElem? hB)
      obtain ⟨st2, f11, f12, f13, f14, f15, f16, f17, t1, t2⟩ := TURN_is ns s n E A B acc c2 (.v (.int (i : Nat))) d11 d12 d13 d14 d15 d16 d17 h1 (by omega) hE ok hA mB (by omega)
      refine ⟨_, st2, rfl, t1, .v (lotD B), f11, f12, f13, f14, f15, f16, f17, t2, ?_⟩
      rw [List.length_append]
      cases crossB A B with
      | true =>
        rw [if_pos rfl, List.length_singleton]
        omega
      | false =>
        rw [if_neg Bool.false_ne_true, List.length_nil]
        omega) ⟨c10, c11, c12, c13, c14, c15, c16, c17, rfl, by omega⟩
  refine ⟨d10, d11, d12, d13, d14, d15, d16, d17, ?_⟩
  rw [fold_step] at e2
  have t : ((i : Int) + 1).toNat = i + 1 := by omega
  have sl : SL (ST ns s c2 (.v (netD n E)) (.v (.int n)) (.v (.int (heldL n E))) (.v (.list ((leastF n E).map lotD))) (.o (.list (acc.map prD))) (.v (.int (i : Nat))) (.v (lotD A)) c10 c11 c12 c13 c14 c15 c16 c17) = .ok (((leastF n E).drop (i + 1)).map lotD) (ST ns s c2 (.v (netD n E)) (.v (.int n)) (.v (.int (heldL n E))) (.v (.list ((leastF n E).map lotD))) (.o (.list (acc.map prD))) (.v (.int (i : Nat))) (.v (lotD A)) c10 c11 c12 c13 c14 c15 c16 c17) := by
    unfold SL
    simp only [v_GetS, v_Cel, v_CelLen, v_CelPop, v_PutS, v_C, v_Var, v_Mv, v_Pk, v_O, v_F, v_B, v_m1, v_m2, still_v, still_t, still_s, d_v, d_t, d_s, v_Seq, v_Nil, v_If, v_Set, v_Ret, v_Drop, v_Asg, v_Par2, v_Par3, v_And, v_Or, v_Not, v_IfE, v_Yes, v_nil, v_cons, v_tup, v_lst, v_N, v_Nl, v_Cn, v_Tp, v_TpL, v_jSeq, v_jEnum, v_jRg, v_jRg2, v_For, v_Call, v_xNil, v_xCons, v_xSrc, v_Mut, S.wipe, wipeS, S.rest, restS, backS, List.set_cons_zero, List.set_cons_succ, List.getElem?_cons_zero, List.getElem?_cons_succ, List.any_cons, List.any_nil, Slot.isSrc, if_true, Bool.or_false, Bool.false_or, Bool.or_true, Bool.true_or, true_or, or_true, List.length_cons, List.length_nil, Bool.false_eq_true, if_false, reduceIte, reduceCtorEq, v_Sl, v_P, v_NoP, gAdd_int, gSl_list ((leastF n E).map lotD) (k := (i : Int) + 1) (by omega), t, List.map_drop, and_self]
  unfold INNER
  rw [v_For, sl]
  dsimp only
  rw [e1, e2]
  rfl
theorem OUTER_is (c2 : Slot) (c8 c9 c10 c11 c12 c13 c14 c15 c16 c17 : Slot) :
    ∃ d8 d9 d10 d11 d12 d13 d14 d15 d16 d17, OUTER (ST ns s c2 (.v (netD n E)) (.v (.int n)) (.v (.int (heldL n E))) (.v (.list ((leastF n E).map lotD))) (.o (.list [])) c8 c9 c10 c11 c12 c13 c14 c15 c16 c17) =
      .nx (ST ns s c2 (.v (netD n E)) (.v (.int n)) (.v (.int (heldL n E))) (.v (.list ((leastF n E).map lotD))) (.o (.list ((crossF (leastF n E)).map prD))) d8 d9 d10 d11 d12 d13 d14 d15 d16 d17) ∧ (crossF (leastF n E)).length ≤ 32 * 32 := by
  have few := least_few32 n E (by omega) h2
  obtain ⟨st', e1, d8, d9, d10, d11, d12, d13, d14, d15, d16, d17, e2, e3⟩ := forGo_foldN (g := (gTp (gCn (gN 8) (gCn (gN 9) gNl)))) (m := INNER) (fun q : List Int × Nat => .tuple [.int (q.2 : Nat), lotD q.1]) (stepC (leastF n E))
    (fun k acc st => ∃ d8 d9 d10 d11 d12 d13 d14 d15 d16 d17, st = ST ns s c2 (.v (netD n E)) (.v (.int n)) (.v (.int (heldL n E))) (.v (.list ((leastF n E).map lotD))) (.o (.list (acc.map prD))) d8 d9 d10 d11 d12 d13 d14 d15 d16 d17 ∧ acc.length ≤ 32 * k) (leastF n E).zipIdx 0 []
    (ST ns s c2 (.v (netD n E)) (.v (.int n)) (.v (.int (heldL n E))) (.v (.list ((leastF n E).map lotD))) (.o (.list [])) c8 c9 c10 c11 c12 c13 c14 c15 c16 c17) (fun k q hq acc st ⟨d8, d9, d10, d11, d12, d13, d14, d15, d16, d17, q1, q2⟩ => by
      subst q1
      rw [List.getElem?_zipIdx] at hq
      obtain ⟨A, ho, rfl⟩ := Option.map_eq_some_iff.mp hq
      rw [Nat.zero_add] at q2 ⊢
      have hk := (List.getElem?_eq_some_iff.mp ho).1
      obtain ⟨f10, f11, f12, f13, f14, f15, f16, f17, t1⟩ := INNER_is ns s n E h1 h2 hE ok A k acc c2 d10 d11 d12 d13 d14 d15 d16 d17 (List.mem_of_getElem? ho) (by omega)
      refine ⟨_, _, rfl, .inl t1, _, _, f10, f11, f12, f13, f14, f15, f16, f17, rfl, ?_⟩
      show (acc ++ _).length ≤ _
      rw [List.length_append, List.length_map]
      have := List.length_filter_le (crossB A) ((leastF n E).drop (k + 1))
      rw [List.length_drop] at this
      show acc.length + (((leastF n E).drop (k + 1)).filter (crossB A)).length ≤ 32 * (k + 1)
      omega) ⟨c8, c9, c10, c11, c12, c13, c14, c15, c16, c17, rfl, Nat.le_refl _⟩
  rw [Nat.zero_add, List.length_zipIdx] at e3
  refine ⟨d8, d9, d10, d11, d12, d13, d14, d15, d16, d17, ?_, ?_⟩
  · unfold OUTER
    simp only [v_GetS, v_Cel, v_CelLen, v_CelPop, v_PutS, v_C, v_Var, v_Mv, v_Pk, v_O, v_F, v_B, v_m1, v_m2, still_v, still_t, still_s, d_v, d_t, d_s, v_Seq, v_Nil, v_If, v_Set, v_Ret, v_Drop, v_Asg, v_Par2, v_Par3, v_And, v_Or, v_Not, v_IfE, v_Yes, v_nil, v_cons, v_tup, v_lst, v_N, v_Nl, v_Cn, v_Tp, v_TpL, v_jSeq, v_jEnum, v_jRg, v_jRg2, v_For, v_Call, v_xNil, v_xCons, v_xSrc, v_Mut, S.wipe, wipeS, S.rest, restS, backS, List.set_cons_zero, List.set_cons_succ, List.getElem?_cons_zero, List.getElem?_cons_succ, List.any_cons, List.any_nil, Slot.isSrc, if_true, Bool.or_false, Bool.false_or, Bool.or_true, Bool.true_or, true_or, or_true, List.length_cons, List.length_nil, Bool.false_eq_true, if_false, reduceIte, reduceCtorEq, enumD_map, e1, e2]
    rfl
  · exact Nat.le_trans e3 (Nat.mul_le_mul_left 32 few)
end
end K98
end
set_option linter.all false
set_option maxRecDepth 100000
set_option maxHeartbeats 8000000
noncomputable section
namespace K98
open PySem PySem.Spec PyProof.Rows L2 Pd
theorem fold_mem (L : List (List Int)) : ∀ (qs : List (List Int × Nat)) (acc : List (List Int × List Int)) (p : List Int × List Int), p ∈ qs.foldl (stepC L) acc → p ∈ acc ∨ (∃ q ∈ qs, q.1 = p.1) ∧ p.2 ∈ L ∧ crossB p.1 p.2 = true
  | [], acc, p, h => .inl h
  | q :: qs, acc, p, h => by
    rw [List.foldl_cons] at h
    rcases fold_mem L qs _ p h with z | ⟨⟨q', h1, h2⟩, h3⟩
    · unfold stepC at z
      rcases List.mem_append.mp z with z | z
      · exact .inl z
      · obtain ⟨o, ho, e⟩ := List.mem_map.mp z
        obtain ⟨h4, h5⟩ := List.mem_filter.mp ho
        subst e
        exact .inr ⟨⟨q, List.mem_cons_self, rfl⟩, List.mem_of_mem_drop h4, h5⟩
    · exact .inr ⟨⟨q', List.mem_cons_of_mem _ h1, h2⟩, h3⟩
theorem crossF_mem {L : List (List Int)} {p : List Int × List Int} (h : p ∈ crossF L) : p.1 ∈ L ∧ p.2 ∈ L ∧ crossB p.1 p.2 = true := by
  unfold crossF at h
  rcases fold_mem L _ [] p h with z | ⟨⟨q, h1, h2⟩, h3⟩
  · cases z
  · refine ⟨?_, h3⟩
    rw [← h2]
    obtain ⟨i, hi⟩ := List.mem_iff_getElem?.mp h1
    rw [List.getElem?_zipIdx] at hi
    obtain ⟨A, hA, e⟩ := Option.map_eq_some_iff.mp hi
    subst e
    exact List.mem_of_getElem? hA
theorem even_held {n : Int} {E : List (Int × Int)} (ok : Ok n E) (h1 : 2 ≤ n) (h : heldL n E % 2 = 1) : crossF (leastF n E) = [] := by
  cases q : crossF (leastF n E) with
  | nil => rfl
  | cons p r =>
    obtain ⟨hA, hB, hx⟩ := crossF_mem (L := leastF n E) (p := p) (by rw [q]; exact List.mem_cons_self)
    obtain ⟨_, _, _, w, _⟩ := asked ok h1 hA hB hx
    omega
abbrev tt (p : List Int × List Int) : PySem.W.Tup Int × PySem.W.Tup Int := (⟨p.1⟩, ⟨p.2⟩)
theorem gNe_prs (acc : List (List Int × List Int)) : gNe (.list (acc.map prD)) (.list []) = some (.v (.bool (!decide (acc = [])))) := by
  have := gNe_toD (α := List (PySem.W.Tup Int × PySem.W.Tup Int)) (by decide) (acc.map tt) []
  rw [show decide (acc = []) = decide (acc.map tt = []) from decide_eq_decide.mpr (by rw [List.map_eq_nil_iff])]
  rw [show toD (acc.map tt) = .list (acc.map prD) from by
    show PyData.list ((acc.map tt).map toD) = _
    rw [List.map_map]
    rfl] at this
  exact this
theorem Sh.small {i : Int} (h1 : 0 ≤ i) (h2 : i ≤ 1000) : Sh 0 10 (.int i) := by
  have b := Sh.int (i := i) (by omega) (by omega)
  refine ⟨b.lay, b.short, b.sh, b.dep, ?_, b.nd⟩
  simp only [PyData.weight]
  split
  · omega
  · rename_i h
    have : i.natAbs ≠ 0 := by
      intro z
      apply h
      simp
      omega
    have := (Nat.log2_lt this (k := 10)).mpr (by
      have : (2 : Nat) ^ 10 = 1024 := by decide
      omega)
    omega
section
variable {n : Int} {E : List (Int × Int)} (h1 : 2 ≤ n) (h2 : n ≤ 6) (hE : E.length ≤ 1000)
include h1 h2
theorem sh_lot {l : List Int} (h : l ∈ leastF n E) : Sh 1 88 (lotD l) := by
  have lA := (allL_mem.mp (leastF_mem.mp h).1).1
  obtain ⟨_, _, _, hl, _⟩ := lots_loop n none (by omega) (by omega)
  exact Sh.tup (k := 0) (w := 10) (fun x hx => by
    obtain ⟨i, hi, rfl⟩ := List.mem_map.mp hx
    have := lots_in lA hi
    exact Sh.small (by omega) (by omega)) (by
    rw [List.length_map]
    have := hl l lA
    omega)
theorem sh_cross (hc : (crossF (leastF n E)).length ≤ 32 * 32) : Sh 3 200000 (.tuple ((crossF (leastF n E)).map prD)) :=
  Sh.tup (k := 2) (w := 178) (fun x hx => by
    obtain ⟨p, hp, rfl⟩ := List.mem_map.mp hx
    obtain ⟨hA, hB, _⟩ := crossF_mem hp
    exact Sh.tup (k := 1) (w := 88) (fun y hy => by
      simp only [List.mem_cons, List.not_mem_nil, or_false] at hy
      rcases hy with rfl | rfl
      · exact sh_lot h1 h2 hA
      · exact sh_lot h1 h2 hB) (by simp)) (by
    rw [List.length_map]
    omega)
include hE
theorem held_small : 0 ≤ heldL n E ∧ heldL n E ≤ 1000 := by
  have hm : heldL n E ∈ (allL n).map (cutN E) := leastI_mem (fun e => allL_has h1 (List.map_eq_nil_iff.mp e))
  obtain ⟨l, _, e⟩ := List.mem_map.mp hm
  rw [← e, cutN_count]
  have := List.countP_le_length (p := crosses l) (l := E)
  omega
theorem sh_pair : Sh 3 200000 (.list [.int (heldL n E), .tuple ((leastF n E).map lotD)]) := by
  obtain ⟨a, b⟩ := held_small (E := E) h1 h2 hE
  exact Sh.lst (k := 2) (w := 90000) (fun x hx => by
    simp only [List.mem_cons, List.not_mem_nil, or_false] at hx
    rcases hx with rfl | rfl
    · exact (Sh.small a b).more (by omega) (by omega)
    · exact Sh.tup (k := 1) (w := 88) (fun y hy => by
        obtain ⟨l, hl, rfl⟩ := List.mem_map.mp hy
        exact sh_lot h1 h2 hl) (by
        rw [List.length_map]
        have := least_few32 n E (by omega) h2
        omega)) (by simp)
variable (ns : List Int) (s : Src) (ok : Ok n E) (c2 c8 c9 c10 c11 c12 c13 c14 c15 c16 c17 : Slot)
include ok
theorem IF1_is (hc : (crossF (leastF n E)).length ≤ 32 * 32) : IF1 (ST ns s c2 (.v (netD n E)) (.v (.int n)) (.v (.int (heldL n E))) (.v (.list ((leastF n E).map lotD))) (.o (.list ((crossF (leastF n E)).map prD))) c8 c9 c10 c11 c12 c13 c14 c15 c16 c17) =
    .nx (ST ns s c2 (.v (netD n E)) (.v (.int n)) (.v (.int (heldL n E))) (.v (.list ((leastF n E).map lotD))) (.o (.list ((crossF (leastF n E)).map prD))) c8 c9 c10 c11 c12 c13 c14 c15 c16 c17) := by
  obtain ⟨_, _, _, hl, _⟩ := lots_loop n none (by omega) (by omega)
  have cr := crossing_is n E none h1 (by omega) hE (by have := least_few32 n E (by omega) h2; omega) fun l hl' => by
    have := hl l (allL_mem.mp (leastF_mem.mp hl').1).1
    omega
  have r := gRepr_ok (sh_cross (E := E) h1 h2 hc) (by omega) (by omega)
  have nn := gNe_str (PyData.shown (.tuple ((crossF (leastF n E)).map prD))) (PyData.shown (.tuple ((crossF (leastF n E)).map prD)))
  rw [decide_eq_true rfl, Bool.not_true] at nn
  have e1 := gEq_int (heldL n E % 2) 1
  have e2 := gNe_prs (crossF (leastF n E))
  have two : (0 : Int) < 2 := by decide
  unfold IF1
  by_cases z : heldL n E % 2 = 1
  · rw [decide_eq_true z] at e1
    rw [even_held ok h1 z] at cr r nn e2 ⊢
    rw [decide_eq_true rfl, Bool.not_true] at e2
    simp only [v_GetS, v_Cel, v_CelLen, v_CelPop, v_PutS, v_C, v_Var, v_Mv, v_Pk, v_O, v_F, v_B, v_m1, v_m2, still_v, still_t, still_s, d_v, d_t, d_s, v_Seq, v_Nil, v_If, v_Set, v_Ret, v_Drop, v_Asg, v_Par2, v_Par3, v_And, v_Or, v_Not, v_IfE, v_Yes, v_nil, v_cons, v_tup, v_lst, v_N, v_Nl, v_Cn, v_Tp, v_TpL, v_jSeq, v_jEnum, v_jRg, v_jRg2, v_For, v_Call, v_xNil, v_xCons, v_xSrc, v_Mut, S.wipe, wipeS, S.rest, restS, backS, List.set_cons_zero, List.set_cons_succ, List.getElem?_cons_zero, List.getElem?_cons_succ, List.any_cons, List.any_nil, Slot.isSrc, if_true, Bool.or_false, Bool.false_or, Bool.or_true, Bool.true_or, true_or, or_true, List.length_cons, List.length_nil, Bool.false_eq_true, if_false, reduceIte, reduceCtorEq, cr, gTuple_list, r, nn, gInt_int, gMod_int two, e1, e2, okLen_of (n := 0) (by omega)]
  · rw [decide_eq_false z] at e1
    simp only [v_GetS, v_Cel, v_CelLen, v_CelPop, v_PutS, v_C, v_Var, v_Mv, v_Pk, v_O, v_F, v_B, v_m1, v_m2, still_v, still_t, still_s, d_v, d_t, d_s, v_Seq, v_Nil, v_If, v_Set, v_Ret, v_Drop, v_Asg, v_Par2, v_Par3, v_And, v_Or, v_Not, v_IfE, v_Yes, v_nil, v_cons, v_tup, v_lst, v_N, v_Nl, v_Cn, v_Tp, v_TpL, v_jSeq, v_jEnum, v_jRg, v_jRg2, v_For, v_Call, v_xNil, v_xCons, v_xSrc, v_Mut, S.wipe, wipeS, S.rest, restS, backS, List.set_cons_zero, List.set_cons_succ, List.getElem?_cons_zero, List.getElem?_cons_succ, List.any_cons, List.any_nil, Slot.isSrc, if_true, Bool.or_false, Bool.false_or, Bool.or_true, Bool.true_or, true_or, or_true, List.length_cons, List.length_nil, Bool.false_eq_true, if_false, reduceIte, reduceCtorEq, cr, gTuple_list, r, nn, gInt_int, gMod_int two, e1]
theorem IF2_is (due : Slot) : IF2 (ST ns s c2 (.v (netD n E)) (.v (.int n)) (.v (.int (heldL n E))) (.v (.list ((leastF n E).map lotD))) due c8 c9 c10 c11 c12 c13 c14 c15 c16 c17) =
    .nx (ST ns s c2 (.v (netD n E)) (.v (.int n)) (.v (.int (heldL n E))) (.v (.list ((leastF n E).map lotD))) due c8 c9 c10 c11 c12 c13 c14 c15 c16 c17) := by
  have a := held_is n E none h1 (by omega) hE
  have b := least_is n E none h1 (by omega) hE
  have r := gRepr_ok (sh_pair (E := E) h1 h2 hE) (by omega) (by omega)
  have nn := gNe_str (PyData.shown (.list [.int (heldL n E), .tuple ((leastF n E).map lotD)])) (PyData.shown (.list [.int (heldL n E), .tuple ((leastF n E).map lotD)]))
  rw [decide_eq_true rfl, Bool.not_true] at nn
  unfold IF2
  simp only [v_GetS, v_Cel, v_CelLen, v_CelPop, v_PutS, v_C, v_Var, v_Mv, v_Pk, v_O, v_F, v_B, v_m1, v_m2, still_v, still_t, still_s, d_v, d_t, d_s, v_Seq, v_Nil, v_If, v_Set, v_Ret, v_Drop, v_Asg, v_Par2, v_Par3, v_And, v_Or, v_Not, v_IfE, v_Yes, v_nil, v_cons, v_tup, v_lst, v_N, v_Nl, v_Cn, v_Tp, v_TpL, v_jSeq, v_jEnum, v_jRg, v_jRg2, v_For, v_Call, v_xNil, v_xCons, v_xSrc, v_Mut, S.wipe, wipeS, S.rest, restS, backS, List.set_cons_zero, List.set_cons_succ, List.getElem?_cons_zero, List.getElem?_cons_succ, List.any_cons, List.any_nil, Slot.isSrc, if_true, Bool.or_false, Bool.false_or, Bool.or_true, Bool.true_or, true_or, or_true, List.length_cons, List.length_nil, Bool.false_eq_true, if_false, reduceIte, reduceCtorEq, a, b, gTuple_list, r, nn, okLen_of (n := 0 + 1 + 1) (by omega)]
theorem ASG_is (a4 a5 a6 due : Slot) : ASG (ST ns s c2 (.v (netD n E)) a4 a5 a6 due c8 c9 c10 c11 c12 c13 c14 c15 c16 c17) = .nx (ST ns s c2 (.v (netD n E)) (.v (.int n)) (.v (.int (heldL n E))) (.v (.list ((leastF n E).map lotD))) due c8 c9 c10 c11 c12 c13 c14 c15 c16 c17) := by
  have a := law_least_is n E none h1 (by omega) hE
  unfold ASG
  simp only [v_GetS, v_Cel, v_CelLen, v_CelPop, v_PutS, v_C, v_Var, v_Mv, v_Pk, v_O, v_F, v_B, v_m1, v_m2, still_v, still_t, still_s, d_v, d_t, d_s, v_Seq, v_Nil, v_If, v_Set, v_Ret, v_Drop, v_Asg, v_Par2, v_Par3, v_And, v_Or, v_Not, v_IfE, v_Yes, v_nil, v_cons, v_tup, v_lst, v_N, v_Nl, v_Cn, v_Tp, v_TpL, v_jSeq, v_jEnum, v_jRg, v_jRg2, v_For, v_Call, v_xNil, v_xCons, v_xSrc, v_Mut, S.wipe, wipeS, S.rest, restS, backS, List.set_cons_zero, List.set_cons_succ, List.getElem?_cons_zero, List.getElem?_cons_succ, List.any_cons, List.any_nil, Slot.isSrc, if_true, Bool.or_false, Bool.false_or, Bool.or_true, Bool.true_or, true_or, or_true, List.length_cons, List.length_nil, Bool.false_eq_true, if_false, reduceIte, reduceCtorEq, at0, a, okLen_of (n := 0 + 1 + 1) (by omega)]
theorem DUE_is (a3 a4 a5 a6 due : Slot) : DUE (ST ns s c2 a3 a4 a5 a6 due c8 c9 c10 c11 c12 c13 c14 c15 c16 c17) = .nx (ST ns s c2 a3 a4 a5 a6 (.o (.list [])) c8 c9 c10 c11 c12 c13 c14 c15 c16 c17) := by
  unfold DUE
  simp only [v_GetS, v_Cel, v_CelLen, v_CelPop, v_PutS, v_C, v_Var, v_Mv, v_Pk, v_O, v_F, v_B, v_m1, v_m2, still_v, still_t, still_s, d_v, d_t, d_s, v_Seq, v_Nil, v_If, v_Set, v_Ret, v_Drop, v_Asg, v_Par2, v_Par3, v_And, v_Or, v_Not, v_IfE, v_Yes, v_nil, v_cons, v_tup, v_lst, v_N, v_Nl, v_Cn, v_Tp, v_TpL, v_jSeq, v_jEnum, v_jRg, v_jRg2, v_For, v_Call, v_xNil, v_xCons, v_xSrc, v_Mut, S.wipe, wipeS, S.rest, restS, backS, List.set_cons_zero, List.set_cons_succ, List.getElem?_cons_zero, List.getElem?_cons_succ, List.any_cons, List.any_nil, Slot.isSrc, if_true, Bool.or_false, Bool.false_or, Bool.or_true, Bool.true_or, true_or, or_true, List.length_cons, List.length_nil, Bool.false_eq_true, if_false, reduceIte, reduceCtorEq, okLen_of (n := 0) (by omega)]
/-- a lap behind its draw -/
theorem rest_is (a4 a5 a6 due : Slot) : ∃ d7 d8 d9 d10 d11 d12 d13 d14 d15 d16 d17, sSeq ASG (sSeq DUE (sSeq OUTER (sSeq IF1 IF2))) (ST ns s c2 (.v (netD n E)) a4 a5 a6 due c8 c9 c10 c11 c12 c13 c14 c15 c16 c17) =
    .nx (ST ns s c2 (.v (netD n E)) (.v (.int n)) (.v (.int (heldL n E))) (.v (.list ((leastF n E).map lotD))) d7 d8 d9 d10 d11 d12 d13 d14 d15 d16 d17) := by
  obtain ⟨d8, d9, d10, d11, d12, d13, d14, d15, d16, d17, o1, o2⟩ := OUTER_is ns s n E h1 h2 hE ok c2 c8 c9 c10 c11 c12 c13 c14 c15 c16 c17
  refine ⟨.o (.list ((crossF (leastF n E)).map prD)), d8, d9, d10, d11, d12, d13, d14, d15, d16, d17, ?_⟩
  rw [v_Seq, ASG_is h1 h2 hE ns s ok]
  dsimp only
  rw [v_Seq, DUE_is h1 h2 hE ns s ok]
  dsimp only
  rw [v_Seq, o1]
  dsimp only
  rw [v_Seq, IF1_is h1 h2 hE ns s ok _ _ _ _ _ _ _ _ _ _ _ o2]
  dsimp only
  exact IF2_is h1 h2 hE ns s ok _ _ _ _ _ _ _ _ _ _ _ _
end
end K98
end
set_option linter.all false
set_option maxRecDepth 100000
set_option maxHeartbeats 8000000
noncomputable section
namespace K98
open PySem PySem.Spec PyProof.Rows L2 Pd
theorem pick_is (m : Int) (hm : m < 1073741824) (s : Src) : ∃ r s', g_law_pick [.src, .v (.int m)] (some s) = some (.v (.int r), some s') ∧ 0 ≤ r ∧ (2 ≤ m → r < m) ∧ (m < 2 → r = 0) := pick2_is m hm s
def B0 : S → RS := (sSet 6 (mCall g_law_pick (xSrc 0 (xCons (mF (mVar 2)) xNil))))
def B1 : S → RS := (sSet 7 (mCall g_law_pick (xSrc 0 (xCons (mF (mVar 2)) xNil))))
def B2 : S → RS := (sIf (mAnd (mB (m2 gEq (mPk 3) (mO (mC (.int 3))))) (mAnd (mB (m2 gNe (mO (m2 gLt (mPk 6) (mO (m2 gDiv (mPk 2) (mO (mC (.int 2))))))) (mO (m2 gLt (mPk 7) (mO (m2 gDiv (mPk 2) (mO (mC (.int 2))))))))) (mB (m2 gGt (mO (mCall g_law_pick (xSrc 0 (xCons (mF (mC (.int 3))) xNil)))) (mO (mC (.int 0))))))) (sSet 7 (mVar 6)) sNil)
def B3 : S → RS := (sSet 4 (m2 gAdd (mPk 4) (mO (mIf (mB (m2 gNe (mPk 6) (mPk 7))) (mLst (mCons (mF (mTup (mCons (mF (m2 gMin2 (mPk 6) (mPk 7))) (mCons (mF (m2 gMax2 (mPk 6) (mPk 7))) mNil)))) mNil)) (mLst mNil)))))
def BODY : S → RS := sSeq B0 (sSeq B1 (sSeq B2 B3))
def D0 : S → RS := (sAsg (mF (mTup (mCons (mF (m2 gAdd (mO (mC (.int 2))) (mO (mCall g_law_pick (xSrc 0 (xCons (mF (m2 gSub (mPk 1) (mO (mC (.int 1))))) xNil)))))) (mCons (mF (mCall g_law_pick (xSrc 0 (xCons (mF (mC (.int 4))) xNil)))) (mCons (mF (mLst mNil)) mNil))))) (gTp (gCn (gN 2) (gCn (gN 3) (gCn (gN 4) gNl)))))
def D1 : S → RS := (sIf (mAnd (mB (m2 gEq (mPk 3) (mO (mC (.int 0))))) (mB (m2 gGt (mPk 2) (mO (mC (.int 2)))))) (sSet 4 (mLc (jRg (mCons (mF (mVar 2)) mNil)) [8] (gN 8) tYesM (mF (m1 gTuple (mO (m1 gSorted (mO (mLst (mCons (mF (mVar 8)) (mCons (mF (m2 gMod (mO (m1 gInt (mO (m2 gAdd (mPk 8) (mO (mC (.int 1))))))) (mPk 2))) mNil)))))))))) sNil)
def D3 : S → RS := (sRet (mTup (mCons (mF (mVar 2)) (mCons (mF (m1 gTuple (mO (m1 gSorted (mPk 4))))) mNil))))
def DI : S → Pd.R (List PyData) := (jRg (mCons (mF (mCall g_law_pick (xSrc 0 (xCons (mF (mIf (mB (m2 gGt (mPk 3) (mO (mC (.int 0))))) (m2 gSub (mO (m2 gMul (mO (mC (.int 3))) (mPk 2))) (mO (mC (.int 2)))) (mC (.int 3)))) xNil)))) mNil))
theorem m_draw_eq : m_law_draw_net = sSeq D0 (sSeq D1 (sSeq (sFor DI (gN 5) BODY) D3)) := rfl
abbrev DS (s : Src) (m n road c4 c5 c6 c7 : Slot) : S := ⟨[.src, m, n, road, c4, c5, c6, c7, .no], some s⟩
section
variable (s : Src) (m c4 c5 c6 c7 : Slot) (n road a b : Int)
theorem B0_is (h1 : 2 ≤ n) (h2 : n ≤ 1000) : ∃ a s', B0 (DS s m (.v (.int n)) (.v (.int road)) c4 c5 c6 c7) = .nx (DS s' m (.v (.int n)) (.v (.int road)) c4 c5 (.v (.int a)) c7) ∧ 0 ≤ a ∧ a < n := by
  obtain ⟨r, s', e, r0, r1, _⟩ := pick_is n (by omega) s
  refine ⟨r, s', ?_, r0, r1 h1⟩
  unfold B0
  simp only [v_GetS, v_Cel, v_CelLen, v_CelPop, v_PutS, v_C, v_Var, v_Mv, v_Pk, v_O, v_F, v_B, v_m1, v_m2, still_v, still_t, still_s, d_v, d_t, d_s, v_Seq, v_Nil, v_If, v_Set, v_Ret, v_Drop, v_Asg, v_Par2, v_Par3, v_And, v_Or, v_Not, v_IfE, v_Yes, v_nil, v_cons, v_tup, v_lst, v_N, v_Nl, v_Cn, v_Tp, v_TpL, v_jSeq, v_jEnum, v_jRg, v_jRg2, v_For, v_Call, v_xNil, v_xCons, v_xSrc, v_Mut, S.wipe, wipeS, S.rest, restS, backS, List.set_cons_zero, List.set_cons_succ, List.getElem?_cons_zero, List.getElem?_cons_succ, List.any_cons, List.any_nil, Slot.isSrc, if_true, Bool.or_false, Bool.false_or, Bool.or_true, Bool.true_or, true_or, or_true, List.length_cons, List.length_nil, Bool.false_eq_true, if_false, reduceIte, reduceCtorEq, e]
theorem B1_is (h1 : 2 ≤ n) (h2 : n ≤ 1000) : ∃ a s', B1 (DS s m (.v (.int n)) (.v (.int road)) c4 c5 c6 c7) = .nx (DS s' m (.v (.int n)) (.v (.int road)) c4 c5 c6 (.v (.int a))) ∧ 0 ≤ a ∧ a < n := by
  obtain ⟨r, s', e, r0, r1, _⟩ := pick_is n (by omega) s
  refine ⟨r, s', ?_, r0, r1 h1⟩
  unfold B1
  simp only [v_GetS, v_Cel, v_CelLen, v_CelPop, v_PutS, v_C, v_Var, v_Mv, v_Pk, v_O, v_F, v_B, v_m1, v_m2, still_v, still_t, still_s, d_v, d_t, d_s, v_Seq, v_Nil, v_If, v_Set, v_Ret, v_Drop, v_Asg, v_Par2, v_Par3, v_And, v_Or, v_Not, v_IfE, v_Yes, v_nil, v_cons, v_tup, v_lst, v_N, v_Nl, v_Cn, v_Tp, v_TpL, v_jSeq, v_jEnum, v_jRg, v_jRg2, v_For, v_Call, v_xNil, v_xCons, v_xSrc, v_Mut, S.wipe, wipeS, S.rest, restS, backS, List.set_cons_zero, List.set_cons_succ, List.getElem?_cons_zero, List.getElem?_cons_succ, List.any_cons, List.any_nil, Slot.isSrc, if_true, Bool.or_false, Bool.false_or, Bool.or_true, Bool.true_or, true_or, or_true, List.length_cons, List.length_nil, Bool.false_eq_true, if_false, reduceIte, reduceCtorEq, e]
theorem B2_is (h1 : 2 ≤ n) (h2 : n ≤ 1000) : ∃ b' s', B2 (DS s m (.v (.int n)) (.v (.int road)) c4 c5 (.v (.int a)) (.v (.int b))) = .nx (DS s' m (.v (.int n)) (.v (.int road)) c4 c5 (.v (.int a)) (.v (.int b'))) ∧ (b' = a ∨ b' = b) := by
  obtain ⟨r, s', e, r0, r1, _⟩ := pick_is 3 (by decide) s
  have two : (0 : Int) < 2 := by decide
  have two' : (2 : Int) < 1073741824 := by decide
  have e1 := gEq_int road 3
  have e2 := gNe_bool (decide (a < n / 2)) (decide (b < n / 2))
  have e3 := gGt_int r 0
  unfold B2
  generalize decide (road = 3) = z1 at e1
  generalize (decide (a < n / 2) != decide (b < n / 2)) = z2 at e2
  generalize decide (0 < r) = z3 at e3
  cases z1
  · exact ⟨b, s, by simp only [v_GetS, v_Cel, v_CelLen, v_CelPop, v_PutS, v_C, v_Var, v_Mv, v_Pk, v_O, v_F, v_B, v_m1, v_m2, still_v, still_t, still_s, d_v, d_t, d_s, v_Seq, v_Nil, v_If, v_Set, v_Ret, v_Drop, v_Asg, v_Par2, v_Par3, v_And, v_Or, v_Not, v_IfE, v_Yes, v_nil, v_cons, v_tup, v_lst, v_N, v_Nl, v_Cn, v_Tp, v_TpL, v_jSeq, v_jEnum, v_jRg, v_jRg2, v_For, v_Call, v_xNil, v_xCons, v_xSrc, v_Mut, S.wipe, wipeS, S.rest, restS, backS, List.set_cons_zero, List.set_cons_succ, List.getElem?_cons_zero, List.getElem?_cons_succ, List.any_cons, List.any_nil, Slot.isSrc, if_true, Bool.or_false, Bool.false_or, Bool.or_true, Bool.true_or, true_or, or_true, List.length_cons, List.length_nil, Bool.false_eq_true, if_false, reduceIte, reduceCtorEq, e1], .inr rfl⟩
  · cases z2
    · exact ⟨b, s, by simp only [v_GetS, v_Cel, v_CelLen, v_CelPop, v_PutS, v_C, v_Var, v_Mv, v_Pk, v_O, v_F, v_B, v_m1, v_m2, still_v, still_t, still_s, d_v, d_t, d_s, v_Seq, v_Nil, v_If, v_Set, v_Ret, v_Drop, v_Asg, v_Par2, v_Par3, v_And, v_Or, v_Not, v_IfE, v_Yes, v_nil, v_cons, v_tup, v_lst, v_N, v_Nl, v_Cn, v_Tp, v_TpL, v_jSeq, v_jEnum, v_jRg, v_jRg2, v_For, v_Call, v_xNil, v_xCons, v_xSrc, v_Mut, S.wipe, wipeS, S.rest, restS, backS, List.set_cons_zero, List.set_cons_succ, List.getElem?_cons_zero, List.getElem?_cons_succ, List.any_cons, List.any_nil, Slot.isSrc, if_true, Bool.or_false, Bool.false_or, Bool.or_true, Bool.true_or, true_or, or_true, List.length_cons, List.length_nil, Bool.false_eq_true, if_false, reduceIte, reduceCtorEq, e1, gLt_int, gDiv_int two two', e2], .inr rfl⟩
    · cases z3
      · exact ⟨b, s', by simp only [v_GetS, v_Cel, v_CelLen, v_CelPop, v_PutS, v_C, v_Var, v_Mv, v_Pk, v_O, v_F, v_B, v_m1, v_m2, still_v, still_t, still_s, d_v, d_t, d_s, v_Seq, v_Nil, v_If, v_Set, v_Ret, v_Drop, v_Asg, v_Par2, v_Par3, v_And, v_Or, v_Not, v_IfE, v_Yes, v_nil, v_cons, v_tup, v_lst, v_N, v_Nl, v_Cn, v_Tp, v_TpL, v_jSeq, v_jEnum, v_jRg, v_jRg2, v_For, v_Call, v_xNil, v_xCons, v_xSrc, v_Mut, S.wipe, wipeS, S.rest, restS, backS, List.set_cons_zero, List.set_cons_succ, List.getElem?_cons_zero, List.getElem?_cons_succ, List.any_cons, List.any_nil, Slot.isSrc, if_true, Bool.or_false, Bool.false_or, Bool.or_true, Bool.true_or, true_or, or_true, List.length_cons, List.length_nil, Bool.false_eq_true, if_false, reduceIte, reduceCtorEq, e1, gLt_int, gDiv_int two two', e2, e, e3], .inr rfl⟩
      · exact ⟨a, s', by simp only [v_GetS, v_Cel, v_CelLen, v_CelPop, v_PutS, v_C, v_Var, v_Mv, v_Pk, v_O, v_F, v_B, v_m1, v_m2, still_v, still_t, still_s, d_v, d_t, d_s, v_Seq, v_Nil, v_If, v_Set, v_Ret, v_Drop, v_Asg, v_Par2, v_Par3, v_And, v_Or, v_Not, v_IfE, v_Yes, v_nil, v_cons, v_tup, v_lst, v_N, v_Nl, v_Cn, v_Tp, v_TpL, v_jSeq, v_jEnum, v_jRg, v_jRg2, v_For, v_Call, v_xNil, v_xCons, v_xSrc, v_Mut, S.wipe, wipeS, S.rest, restS, backS, List.set_cons_zero, List.set_cons_succ, List.getElem?_cons_zero, List.getElem?_cons_succ, List.any_cons, List.any_nil, Slot.isSrc, if_true, Bool.or_false, Bool.false_or, Bool.or_true, Bool.true_or, true_or, or_true, List.length_cons, List.length_nil, Bool.false_eq_true, if_false, reduceIte, reduceCtorEq, e1, gLt_int, gDiv_int two two', e2, e, e3], .inl rfl⟩
/-- the links so far -/
def Lk (E : List (Int × Int)) (c : Slot) : Prop := c = .v (.list (E.map lkD)) ∨ c = .o (.list (E.map lkD))
theorem B3_is (E : List (Int × Int)) (hc : Lk E c4) (hE : E.length ≤ 1000) (ok : Ok n E) (ha : 0 ≤ a ∧ a < n) (hb : 0 ≤ b ∧ b < n) : ∃ E', B3 (DS s m (.v (.int n)) (.v (.int road)) c4 c5 (.v (.int a)) (.v (.int b))) = .nx (DS s m (.v (.int n)) (.v (.int road)) (.o (.list (E'.map lkD))) c5 (.v (.int a)) (.v (.int b))) ∧ Ok n E' ∧ E'.length ≤ E.length + 1 := by
  have e1 := gNe_int a b
  unfold B3
  by_cases z : a = b
  · rw [decide_eq_true z, Bool.not_true] at e1
    have g : gAdd (.list (E.map lkD)) (.list []) = some (.o (.list (E.map lkD))) := by
      rw [gAdd_list (by rw [List.length_map, List.length_nil]; omega), List.append_nil]
    refine ⟨E, ?_, ok, by omega⟩
    rcases hc with rfl | rfl
    · simp only [v_GetS, v_Cel, v_CelLen, v_CelPop, v_PutS, v_C, v_Var, v_Mv, v_Pk, v_O, v_F, v_B, v_m1, v_m2, still_v, still_t, still_s, d_v, d_t, d_s, v_Seq, v_Nil, v_If, v_Set, v_Ret, v_Drop, v_Asg, v_Par2, v_Par3, v_And, v_Or, v_Not, v_IfE, v_Yes, v_nil, v_cons, v_tup, v_lst, v_N, v_Nl, v_Cn, v_Tp, v_TpL, v_jSeq, v_jEnum, v_jRg, v_jRg2, v_For, v_Call, v_xNil, v_xCons, v_xSrc, v_Mut, S.wipe, wipeS, S.rest, restS, backS, List.set_cons_zero, List.set_cons_succ, List.getElem?_cons_zero, List.getElem?_cons_succ, List.any_cons, List.any_nil, Slot.isSrc, if_true, Bool.or_false, Bool.false_or, Bool.or_true, Bool.true_or, true_or, or_true, List.length_cons, List.length_nil, Bool.false_eq_true, if_false, reduceIte, reduceCtorEq, e1, okLen_of (n := 0) (by omega), g]
    · simp only [v_GetS, v_Cel, v_CelLen, v_CelPop, v_PutS, v_C, v_Var, v_Mv, v_Pk, v_O, v_F, v_B, v_m1, v_m2, still_v, still_t, still_s, d_v, d_t, d_s, v_Seq, v_Nil, v_If, v_Set, v_Ret, v_Drop, v_Asg, v_Par2, v_Par3, v_And, v_Or, v_Not, v_IfE, v_Yes, v_nil, v_cons, v_tup, v_lst, v_N, v_Nl, v_Cn, v_Tp, v_TpL, v_jSeq, v_jEnum, v_jRg, v_jRg2, v_For, v_Call, v_xNil, v_xCons, v_xSrc, v_Mut, S.wipe, wipeS, S.rest, restS, backS, List.set_cons_zero, List.set_cons_succ, List.getElem?_cons_zero, List.getElem?_cons_succ, List.any_cons, List.any_nil, Slot.isSrc, if_true, Bool.or_false, Bool.false_or, Bool.or_true, Bool.true_or, true_or, or_true, List.length_cons, List.length_nil, Bool.false_eq_true, if_false, reduceIte, reduceCtorEq, e1, okLen_of (n := 0) (by omega), g]
  · rw [decide_eq_false z, Bool.not_false] at e1
    have g2 : gMin2 (.int a) (.int b) = some (.v (.int (if b < a then b else a))) := rfl
    have g3 : gMax2 (.int a) (.int b) = some (.v (.int (if b > a then b else a))) := rfl
    have g : gAdd (.list (E.map lkD)) (.list [.tuple [.int (if b < a then b else a), .int (if b > a then b else a)]]) = some (.o (.list ((E ++ [((if b < a then b else a), (if b > a then b else a))]).map lkD))) := by
      rw [gAdd_list (by rw [List.length_map, List.length_singleton]; omega), List.map_append]
      rfl
    refine ⟨E ++ [((if b < a then b else a), (if b > a then b else a))], ?_, ⟨fun p hp => ?_⟩, by rw [List.length_append, List.length_singleton]; omega⟩
    · rcases hc with rfl | rfl
      · simp only [v_GetS, v_Cel, v_CelLen, v_CelPop, v_PutS, v_C, v_Var, v_Mv, v_Pk, v_O, v_F, v_B, v_m1, v_m2, still_v, still_t, still_s, d_v, d_t, d_s, v_Seq, v_Nil, v_If, v_Set, v_Ret, v_Drop, v_Asg, v_Par2, v_Par3, v_And, v_Or, v_Not, v_IfE, v_Yes, v_nil, v_cons, v_tup, v_lst, v_N, v_Nl, v_Cn, v_Tp, v_TpL, v_jSeq, v_jEnum, v_jRg, v_jRg2, v_For, v_Call, v_xNil, v_xCons, v_xSrc, v_Mut, S.wipe, wipeS, S.rest, restS, backS, List.set_cons_zero, List.set_cons_succ, List.getElem?_cons_zero, List.getElem?_cons_succ, List.any_cons, List.any_nil, Slot.isSrc, if_true, Bool.or_false, Bool.false_or, Bool.or_true, Bool.true_or, true_or, or_true, List.length_cons, List.length_nil, Bool.false_eq_true, if_false, reduceIte, reduceCtorEq, e1, g2, g3, okLen_of (n := 0 + 1 + 1) (by omega), okLen_of (n := 0 + 1) (by omega), g]
      · simp only [v_GetS, v_Cel, v_CelLen, v_CelPop, v_PutS, v_C, v_Var, v_Mv, v_Pk, v_O, v_F, v_B, v_m1, v_m2, still_v, still_t, still_s, d_v, d_t, d_s, v_Seq, v_Nil, v_If, v_Set, v_Ret, v_Drop, v_Asg, v_Par2, v_Par3, v_And, v_Or, v_Not, v_IfE, v_Yes, v_nil, v_cons, v_tup, v_lst, v_N, v_Nl, v_Cn, v_Tp, v_TpL, v_jSeq, v_jEnum, v_jRg, v_jRg2, v_For, v_Call, v_xNil, v_xCons, v_xSrc, v_Mut, S.wipe, wipeS, S.rest, restS, backS, List.set_cons_zero, List.set_cons_succ, List.getElem?_cons_zero, List.getElem?_cons_succ, List.any_cons, List.any_nil, Slot.isSrc, if_true, Bool.or_false, Bool.false_or, Bool.or_true, Bool.true_or, true_or, or_true, List.length_cons, List.length_nil, Bool.false_eq_true, if_false, reduceIte, reduceCtorEq, e1, g2, g3, okLen_of (n := 0 + 1 + 1) (by omega), okLen_of (n := 0 + 1) (by omega), g]
    · rcases List.mem_append.mp hp with q | q
      · exact ok.at_ p q
      · rw [List.mem_singleton] at q
        subst q
        refine ⟨?_, ?_⟩
        · show 0 ≤ (if b < a then b else a) ∧ (if b < a then b else a) < n
          split <;> omega
        · show 0 ≤ (if b > a then b else a) ∧ (if b > a then b else a) < n
          split <;> omega
theorem BODY_is (E : List (Int × Int)) (h1 : 2 ≤ n) (h2 : n ≤ 1000) (hc : Lk E c4) (hE : E.length ≤ 1000) (ok : Ok n E) : ∃ E' s' d6 d7, BODY (DS s m (.v (.int n)) (.v (.int road)) c4 c5 c6 c7) = .nx (DS s' m (.v (.int n)) (.v (.int road)) (.o (.list (E'.map lkD))) c5 d6 d7) ∧ Ok n E' ∧ E'.length ≤ E.length + 1 := by
  obtain ⟨a, s1, e1, a0, a1⟩ := B0_is s m c4 c5 c6 c7 n road h1 h2
  obtain ⟨b, s2, e2, b0, b1⟩ := B1_is s1 m c4 c5 (.v (.int a)) c7 n road h1 h2
  obtain ⟨b', s3, e3, hb⟩ := B2_is s2 m c4 c5 n road a b h1 h2
  obtain ⟨E', e4, ok', l⟩ := B3_is s3 m c4 c5 n road a b' E hc hE ok ⟨a0, a1⟩ (by rcases hb with rfl | rfl <;> omega)
  refine ⟨E', s3, .v (.int a), .v (.int b'), ?_, ok', l⟩
  unfold BODY
  rw [v_Seq, e1]
  dsimp only
  rw [v_Seq, e2]
  dsimp only
  rw [v_Seq, e3]
  dsimp only
  exact e4
/-! ### the draw -/
theorem srt2 (x y : Int) : srtI [x, y] = [if x ≤ y then x else y, if x ≤ y then y else x] := by
  refine List.Perm.eq_of_pairwise (le := fun a b => leI a b = true) (fun a b _ _ h1 h2 => an_I a b h1 h2) (List.pairwise_mergeSort tr_I to_I _) ?_ ((List.mergeSort_perm _ leI).trans ?_)
  · by_cases h : x ≤ y
    · simp [h]
    · simp [h]
      omega
  · by_cases h : x ≤ y
    · simp [h]
    · simp only [h, if_false]
      exact List.Perm.swap _ _ _
def ringP (n x : Int) : Int × Int := (if x ≤ (x + 1) % n then x else (x + 1) % n, if x ≤ (x + 1) % n then (x + 1) % n else x)
def ringL (n : Int) : List (Int × Int) := (rngL n).map (ringP n)
theorem ring_ok {n : Int} (h : 2 ≤ n) : Ok n (ringL n) := ⟨fun p hp => by
  obtain ⟨x, hx, rfl⟩ := List.mem_map.mp hp
  have hx := rngL_mem.mp hx
  have a := Int.emod_nonneg (x + 1) (show n ≠ 0 by omega)
  have b := Int.emod_lt_of_pos (x + 1) (show 0 < n by omega)
  unfold ringP
  refine ⟨?_, ?_⟩
  · show 0 ≤ (if x ≤ (x + 1) % n then x else (x + 1) % n) ∧ (if x ≤ (x + 1) % n then x else (x + 1) % n) < n
    split <;> omega
  · show 0 ≤ (if x ≤ (x + 1) % n then (x + 1) % n else x) ∧ (if x ≤ (x + 1) % n then (x + 1) % n else x) < n
    split <;> omega⟩
theorem rngL_len (n : Int) : (rngL n).length = n.toNat := by
  unfold rngL
  rw [List.length_map, List.length_range]
section
variable (s : Src) (m : Int) (n road : Int)
theorem D0_is (h1 : 2 ≤ m) (h2 : m ≤ 1000) : ∃ n road s', D0 (DS s (.v (.int m)) .no .no .no .no .no .no) = .nx (DS s' (.v (.int m)) (.v (.int n)) (.v (.int road)) (.v (.list [])) .no .no .no) ∧ 2 ≤ n ∧ n ≤ m := by
  obtain ⟨r, s1, e1, r0, r1, r2⟩ := pick_is (m - 1) (by omega) s
  obtain ⟨q, s2, e2, _⟩ := pick_is 4 (by decide) s1
  refine ⟨2 + r, q, s2, ?_, by omega, ?_⟩
  · unfold D0
    simp only [v_GetS, v_Cel, v_CelLen, v_CelPop, v_PutS, v_C, v_Var, v_Mv, v_Pk, v_O, v_F, v_B, v_m1, v_m2, still_v, still_t, still_s, d_v, d_t, d_s, v_Seq, v_Nil, v_If, v_Set, v_Ret, v_Drop, v_Asg, v_Par2, v_Par3, v_And, v_Or, v_Not, v_IfE, v_Yes, v_nil, v_cons, v_tup, v_lst, v_N, v_Nl, v_Cn, v_Tp, v_TpL, v_jSeq, v_jEnum, v_jRg, v_jRg2, v_For, v_Call, v_xNil, v_xCons, v_xSrc, v_Mut, S.wipe, wipeS, S.rest, restS, backS, List.set_cons_zero, List.set_cons_succ, List.getElem?_cons_zero, List.getElem?_cons_succ, List.any_cons, List.any_nil, Slot.isSrc, if_true, Bool.or_false, Bool.false_or, Bool.or_true, Bool.true_or, true_or, or_true, List.length_cons, List.length_nil, Bool.false_eq_true, if_false, reduceIte, reduceCtorEq, gSub_int, e1, gAdd_int, e2, okLen_of (n := 0) (by omega), okLen_of (n := 0 + 1 + 1 + 1) (by omega)]
  · by_cases z : 2 ≤ m - 1
    · have := r1 z
      omega
    · have := r2 (by omega)
      omega
theorem D1_is (h1 : 2 ≤ n) (h2 : n ≤ 1000) : ∃ E c4, D1 (DS s (.v (.int m)) (.v (.int n)) (.v (.int road)) (.v (.list [])) .no .no .no) = .nx (DS s (.v (.int m)) (.v (.int n)) (.v (.int road)) c4 .no .no .no) ∧ Lk E c4 ∧ Ok n E ∧ E.length ≤ n.toNat := by
  have e1 := gEq_int road 0
  have e2 := gGt_int n 2
  have no : Ok n [] := ⟨fun p hp => (nomatch hp)⟩
  unfold D1
  generalize decide (road = 0) = z1 at e1
  generalize decide (2 < n) = z2 at e2
  cases z1
  · exact ⟨[], .v (.list []), by simp only [v_GetS, v_Cel, v_CelLen, v_CelPop, v_PutS, v_C, v_Var, v_Mv, v_Pk, v_O, v_F, v_B, v_m1, v_m2, still_v, still_t, still_s, d_v, d_t, d_s, v_Seq, v_Nil, v_If, v_Set, v_Ret, v_Drop, v_Asg, v_Par2, v_Par3, v_And, v_Or, v_Not, v_IfE, v_Yes, v_nil, v_cons, v_tup, v_lst, v_N, v_Nl, v_Cn, v_Tp, v_TpL, v_jSeq, v_jEnum, v_jRg, v_jRg2, v_For, v_Call, v_xNil, v_xCons, v_xSrc, v_Mut, S.wipe, wipeS, S.rest, restS, backS, List.set_cons_zero, List.set_cons_succ, List.getElem?_cons_zero, List.getElem?_cons_succ, List.any_cons, List.any_nil, Slot.isSrc, if_true, Bool.or_false, Bool.false_or, Bool.or_true, Bool.true_or, true_or, or_true, List.length_cons, List.length_nil, Bool.false_eq_true, if_false, reduceIte, reduceCtorEq, e1], .inl rfl, no, by simp⟩
  · cases z2
    · exact ⟨[], .v (.list []), by simp only [v_GetS, v_Cel, v_CelLen, v_CelPop, v_PutS, v_C, v_Var, v_Mv, v_Pk, v_O, v_F, v_B, v_m1, v_m2, still_v, still_t, still_s, d_v, d_t, d_s, v_Seq, v_Nil, v_If, v_Set, v_Ret, v_Drop, v_Asg, v_Par2, v_Par3, v_And, v_Or, v_Not, v_IfE, v_Yes, v_nil, v_cons, v_tup, v_lst, v_N, v_Nl, v_Cn, v_Tp, v_TpL, v_jSeq, v_jEnum, v_jRg, v_jRg2, v_For, v_Call, v_xNil, v_xCons, v_xSrc, v_Mut, S.wipe, wipeS, S.rest, restS, backS, List.set_cons_zero, List.set_cons_succ, List.getElem?_cons_zero, List.getElem?_cons_succ, List.any_cons, List.any_nil, Slot.isSrc, if_true, Bool.or_false, Bool.false_or, Bool.or_true, Bool.true_or, true_or, or_true, List.length_cons, List.length_nil, Bool.false_eq_true, if_false, reduceIte, reduceCtorEq, e1, e2], .inl rfl, no, by simp⟩
    · have hr : rgOk 0 n = true := rgOk_of (by omega) (by omega) (by omega) (by omega) (by omega)
      have np : 0 < n := by omega
      have e : mLc (jRg (mCons (mF (mVar 2)) mNil)) [8] (gN 8) tYesM (mF (m1 gTuple (mO (m1 gSorted (mO (mLst (mCons (mF (mVar 8)) (mCons (mF (m2 gMod (mO (m1 gInt (mO (m2 gAdd (mPk 8) (mO (mC (.int 1))))))) (mPk 2))) mNil)))))))) (DS s (.v (.int m)) (.v (.int n)) (.v (.int road)) (.v (.list [])) .no .no .no) =
          .ok (.o (.list ((ringL n).map lkD))) (DS s (.v (.int m)) (.v (.int n)) (.v (.int road)) (.v (.list [])) .no .no .no) := by
        rw [mLc_map (st1 := DS s (.v (.int m)) (.v (.int n)) (.v (.int road)) (.v (.list [])) .no .no .no) (rngL n) PyData.int (fun _ => true) (fun x => lkD (ringP n x))]
        · rw [List.filter_eq_self.mpr (fun _ _ => rfl)]
          unfold ringL
          rw [List.map_map]
          rfl
        · simp only [v_GetS, v_Cel, v_CelLen, v_CelPop, v_PutS, v_C, v_Var, v_Mv, v_Pk, v_O, v_F, v_B, v_m1, v_m2, still_v, still_t, still_s, d_v, d_t, d_s, v_Seq, v_Nil, v_If, v_Set, v_Ret, v_Drop, v_Asg, v_Par2, v_Par3, v_And, v_Or, v_Not, v_IfE, v_Yes, v_nil, v_cons, v_tup, v_lst, v_N, v_Nl, v_Cn, v_Tp, v_TpL, v_jSeq, v_jEnum, v_jRg, v_jRg2, v_For, v_Call, v_xNil, v_xCons, v_xSrc, v_Mut, S.wipe, wipeS, S.rest, restS, backS, List.set_cons_zero, List.set_cons_succ, List.getElem?_cons_zero, List.getElem?_cons_succ, List.any_cons, List.any_nil, Slot.isSrc, if_true, Bool.or_false, Bool.false_or, Bool.or_true, Bool.true_or, true_or, or_true, List.length_cons, List.length_nil, Bool.false_eq_true, if_false, reduceIte, reduceCtorEq, hr, rgD_0]
        · rw [rngL_len]
          omega
        · intro x hx
          refine ⟨_, ⟨[.src, .v (.int m), .v (.int n), .v (.int road), .v (.list []), .no, .no, .no, .v (.int x)], some s⟩, rfl, rfl, fun h => (nomatch h), fun _ => ⟨⟨[.src, .v (.int m), .v (.int n), .v (.int road), .v (.list []), .no, .no, .no, .v (.int x)], some s⟩, ?_, rfl⟩⟩
          have g := gSorted_ints [x, (x + 1) % n]
          rw [srt2] at g
          have g' : gSorted (.list [.int x, .int ((x + 1) % n)]) = some (.o (.list [.int (if x ≤ (x + 1) % n then x else (x + 1) % n), .int (if x ≤ (x + 1) % n then (x + 1) % n else x)])) := g
          simp only [v_GetS, v_Cel, v_CelLen, v_CelPop, v_PutS, v_C, v_Var, v_Mv, v_Pk, v_O, v_F, v_B, v_m1, v_m2, still_v, still_t, still_s, d_v, d_t, d_s, v_Seq, v_Nil, v_If, v_Set, v_Ret, v_Drop, v_Asg, v_Par2, v_Par3, v_And, v_Or, v_Not, v_IfE, v_Yes, v_nil, v_cons, v_tup, v_lst, v_N, v_Nl, v_Cn, v_Tp, v_TpL, v_jSeq, v_jEnum, v_jRg, v_jRg2, v_For, v_Call, v_xNil, v_xCons, v_xSrc, v_Mut, S.wipe, wipeS, S.rest, restS, backS, List.set_cons_zero, List.set_cons_succ, List.getElem?_cons_zero, List.getElem?_cons_succ, List.any_cons, List.any_nil, Slot.isSrc, if_true, Bool.or_false, Bool.false_or, Bool.or_true, Bool.true_or, true_or, or_true, List.length_cons, List.length_nil, Bool.false_eq_true, if_false, reduceIte, reduceCtorEq, gAdd_int, gInt_int, gMod_int np, okLen_of (n := 0 + 1 + 1) (by omega), g', gTuple_list]
          rfl
      refine ⟨ringL n, .o (.list ((ringL n).map lkD)), by simp only [v_GetS, v_Cel, v_CelLen, v_CelPop, v_PutS, v_C, v_Var, v_Mv, v_Pk, v_O, v_F, v_B, v_m1, v_m2, still_v, still_t, still_s, d_v, d_t, d_s, v_Seq, v_Nil, v_If, v_Set, v_Ret, v_Drop, v_Asg, v_Par2, v_Par3, v_And, v_Or, v_Not, v_IfE, v_Yes, v_nil, v_cons, v_tup, v_lst, v_N, v_Nl, v_Cn, v_Tp, v_TpL, v_jSeq, v_jEnum, v_jRg, v_jRg2, v_For, v_Call, v_xNil, v_xCons, v_xSrc, v_Mut, S.wipe, wipeS, S.rest, restS, backS, List.set_cons_zero, List.set_cons_succ, List.getElem?_cons_zero, List.getElem?_cons_succ, List.any_cons, List.any_nil, Slot.isSrc, if_true, Bool.or_false, Bool.false_or, Bool.or_true, Bool.true_or, true_or, or_true, List.length_cons, List.length_nil, Bool.false_eq_true, if_false, reduceIte, reduceCtorEq, e1, e2, e], .inr rfl, ring_ok h1, ?_⟩
      unfold ringL
      rw [List.length_map, rngL_len]
      exact Nat.le_refl _
theorem DI_is (c4 c5 c6 c7 : Slot) (h1 : 2 ≤ n) (h2 : n ≤ 100) : ∃ c s', DI (DS s (.v (.int m)) (.v (.int n)) (.v (.int road)) c4 c5 c6 c7) = .ok (rgD 0 c) (DS s' (.v (.int m)) (.v (.int n)) (.v (.int road)) c4 c5 c6 c7) ∧ 0 ≤ c ∧ c ≤ 300 := by
  have e2 := gGt_int road 0
  have three := gMul_int (mulOk_l (a := 3) (b := n) (by decide) (by decide))
  unfold DI
  generalize decide (0 < road) = z at e2
  cases z
  · obtain ⟨r, s1, e1, r0, r1, _⟩ := pick_is 3 (by decide) s
    have := r1 (by decide)
    have hr : rgOk 0 r = true := rgOk_of (by omega) (by omega) (by omega) (by omega) (by omega)
    exact ⟨r, s1, by simp only [v_GetS, v_Cel, v_CelLen, v_CelPop, v_PutS, v_C, v_Var, v_Mv, v_Pk, v_O, v_F, v_B, v_m1, v_m2, still_v, still_t, still_s, d_v, d_t, d_s, v_Seq, v_Nil, v_If, v_Set, v_Ret, v_Drop, v_Asg, v_Par2, v_Par3, v_And, v_Or, v_Not, v_IfE, v_Yes, v_nil, v_cons, v_tup, v_lst, v_N, v_Nl, v_Cn, v_Tp, v_TpL, v_jSeq, v_jEnum, v_jRg, v_jRg2, v_For, v_Call, v_xNil, v_xCons, v_xSrc, v_Mut, S.wipe, wipeS, S.rest, restS, backS, List.set_cons_zero, List.set_cons_succ, List.getElem?_cons_zero, List.getElem?_cons_succ, List.any_cons, List.any_nil, Slot.isSrc, if_true, Bool.or_false, Bool.false_or, Bool.or_true, Bool.true_or, true_or, or_true, List.length_cons, List.length_nil, Bool.false_eq_true, if_false, reduceIte, reduceCtorEq, v_IfE, e2, e1, hr], r0, by omega⟩
  · obtain ⟨r, s1, e1, r0, r1, _⟩ := pick_is (3 * n - 2) (by omega) s
    have := r1 (by omega)
    have hr : rgOk 0 r = true := rgOk_of (by omega) (by omega) (by omega) (by omega) (by omega)
    exact ⟨r, s1, by simp only [v_GetS, v_Cel, v_CelLen, v_CelPop, v_PutS, v_C, v_Var, v_Mv, v_Pk, v_O, v_F, v_B, v_m1, v_m2, still_v, still_t, still_s, d_v, d_t, d_s, v_Seq, v_Nil, v_If, v_Set, v_Ret, v_Drop, v_Asg, v_Par2, v_Par3, v_And, v_Or, v_Not, v_IfE, v_Yes, v_nil, v_cons, v_tup, v_lst, v_N, v_Nl, v_Cn, v_Tp, v_TpL, v_jSeq, v_jEnum, v_jRg, v_jRg2, v_For, v_Call, v_xNil, v_xCons, v_xSrc, v_Mut, S.wipe, wipeS, S.rest, restS, backS, List.set_cons_zero, List.set_cons_succ, List.getElem?_cons_zero, List.getElem?_cons_succ, List.any_cons, List.any_nil, Slot.isSrc, if_true, Bool.or_false, Bool.false_or, Bool.or_true, Bool.true_or, true_or, or_true, List.length_cons, List.length_nil, Bool.false_eq_true, if_false, reduceIte, reduceCtorEq, v_IfE, e2, three, gSub_int, e1, hr], r0, by omega⟩
theorem draw_is (h1 : 2 ≤ m) (h2 : m ≤ 100) : ∃ n E s', g_law_draw_net [.src, .v (.int m)] (some s) = some (.v (netD n E), some s') ∧ 2 ≤ n ∧ n ≤ m ∧ Ok n E ∧ E.length ≤ 1000 := by
  obtain ⟨n, road, s1, e1, n1, n2⟩ := D0_is s m h1 (by omega)
  obtain ⟨E, c4, e2, hk, ok, hl⟩ := D1_is s1 m n road n1 (by omega)
  obtain ⟨c, s2, e3, c0, c1⟩ := DI_is s1 m n road c4 .no .no .no n1 (by omega)
  obtain ⟨st', e4, F, t, d4, d5, d6, d7, q1, q2, q3, q4⟩ := forGo_foldN (g := gN 5) (m := BODY) PyData.int (fun (_ : Unit) _ => ()) (fun k _ st => ∃ F t d4 d5 d6 d7, st = DS t (.v (.int m)) (.v (.int n)) (.v (.int road)) d4 d5 d6 d7 ∧ Lk F d4 ∧ Ok n F ∧ F.length ≤ 100 + k) (rngL c) 0 () (DS s2 (.v (.int m)) (.v (.int n)) (.v (.int road)) c4 .no .no .no)
    (fun k x hk _ st ⟨F, t, d4, d5, d6, d7, q1, q2, q3, q4⟩ => by
      subst q1
      have hk := (List.getElem?_eq_some_iff.mp hk).1
      rw [rngL_len] at hk
      obtain ⟨F', t', d6', d7', w1, w2, w3⟩ := BODY_is t (.v (.int m)) d4 (.v (.int x)) d6 d7 n road F n1 (by omega) q2 (by omega) q3
      exact ⟨_, _, rfl, .inl w1, F', t', _, _, d6', d7', rfl, .inr rfl, w2, by omega⟩) ⟨E, s2, c4, .no, .no, .no, rfl, hk, ok, by omega⟩
  rw [Nat.zero_add, rngL_len] at q4
  have loop : sFor DI (gN 5) BODY (DS s1 (.v (.int m)) (.v (.int n)) (.v (.int road)) c4 .no .no .no) = .nx (DS t (.v (.int m)) (.v (.int n)) (.v (.int road)) d4 d5 d6 d7) := by
    rw [v_For, e3]
    dsimp only
    rw [rgD_0, e4, q1]
  have last : D3 (DS t (.v (.int m)) (.v (.int n)) (.v (.int road)) d4 d5 d6 d7) = .ret (.v (netD n (srtK F))) (DS t (.v (.int m)) (.v (.int n)) (.v (.int road)) d4 d5 d6 d7) := by
    have g := gSorted_links F
    unfold D3
    rcases q2 with rfl | rfl
    · simp only [v_GetS, v_Cel, v_CelLen, v_CelPop, v_PutS, v_C, v_Var, v_Mv, v_Pk, v_O, v_F, v_B, v_m1, v_m2, still_v, still_t, still_s, d_v, d_t, d_s, v_Seq, v_Nil, v_If, v_Set, v_Ret, v_Drop, v_Asg, v_Par2, v_Par3, v_And, v_Or, v_Not, v_IfE, v_Yes, v_nil, v_cons, v_tup, v_lst, v_N, v_Nl, v_Cn, v_Tp, v_TpL, v_jSeq, v_jEnum, v_jRg, v_jRg2, v_For, v_Call, v_xNil, v_xCons, v_xSrc, v_Mut, S.wipe, wipeS, S.rest, restS, backS, List.set_cons_zero, List.set_cons_succ, List.getElem?_cons_zero, List.getElem?_cons_succ, List.any_cons, List.any_nil, Slot.isSrc, if_true, Bool.or_false, Bool.false_or, Bool.or_true, Bool.true_or, true_or, or_true, List.length_cons, List.length_nil, Bool.false_eq_true, if_false, reduceIte, reduceCtorEq, g, gTuple_list, okLen_of (n := 0 + 1 + 1) (by omega)]
    · simp only [v_GetS, v_Cel, v_CelLen, v_CelPop, v_PutS, v_C, v_Var, v_Mv, v_Pk, v_O, v_F, v_B, v_m1, v_m2, still_v, still_t, still_s, d_v, d_t, d_s, v_Seq, v_Nil, v_If, v_Set, v_Ret, v_Drop, v_Asg, v_Par2, v_Par3, v_And, v_Or, v_Not, v_IfE, v_Yes, v_nil, v_cons, v_tup, v_lst, v_N, v_Nl, v_Cn, v_Tp, v_TpL, v_jSeq, v_jEnum, v_jRg, v_jRg2, v_For, v_Call, v_xNil, v_xCons, v_xSrc, v_Mut, S.wipe, wipeS, S.rest, restS, backS, List.set_cons_zero, List.set_cons_succ, List.getElem?_cons_zero, List.getElem?_cons_succ, List.any_cons, List.any_nil, Slot.isSrc, if_true, Bool.or_false, Bool.false_or, Bool.or_true, Bool.true_or, true_or, or_true, List.length_cons, List.length_nil, Bool.false_eq_true, if_false, reduceIte, reduceCtorEq, g, gTuple_list, okLen_of (n := 0 + 1 + 1) (by omega)]
  refine ⟨n, srtK F, t, g_of (ss := [.src, .v (.int m), .no, .no, .no, .no, .no, .no, .no]) rfl (ss' := [.src, .v (.int m), .v (.int n), .v (.int road), d4, d5, d6, d7, .no]) ?_, n1, n2, ⟨fun p hp => q3.at_ p (srt_mem.mp hp)⟩, by
    rw [List.length_mergeSort]
    omega⟩
  rw [m_draw_eq, v_Seq, e1]
  dsimp only
  rw [v_Seq, e2]
  dsimp only
  rw [v_Seq, loop]
  dsimp only
  exact last
end
end
/-! ### the source -/
def OB : S → RS := (sSet 1 (m2 gMod (mO (m1 gInt (mO (m2 gAdd (mO (m2 gAdd (mO (m2 gMul (mPk 1) (mO (mC (.int 69069))))) (mO (m2 gMul (mPk 2) (mO (mC (.int 31))))))) (mO (mC (.int 5))))))) (mO (mC (.int 2147483629)))))
def O2 : S → RS := (sSet 3 (mLc (jScr 0) [2] (gN 2) tYesM (mF (m1 gAbs (mPk 2)))))
def O3 : S → RS := (sRet (mNewS (m1 gRev (mPk 3)) (mF (mC (.int 1))) (mF (mVar 1)) (mF (mC (.int 0)))))
theorem m_open_eq : m_law_open_cells = sSeq (sSet 1 (mC (.int 11))) (sSeq (sFor (jScr 0) (gN 2) OB) (sSeq O2 O3)) := rfl
theorem v_jScr (i : Nat) {st : S} : jScr i st = (match st.ss[i]? with
  | some (.scr ns) => .ok (ns.map PyData.int) st
  | _ => .bad) := rfl
theorem v_NewS {mc : S → Pd.R Slot} {ml mm mt : S → Pd.R PyData} {st : S} : mNewS mc ml mm mt st = (match mc st with
  | .ok (.o (.list ds)) st1 => match intsOf ds with
    | some ns => match ml st1 with
      | .ok (.int l) st2 => match mm st2 with
        | .ok (.int m) st3 => match mt st3 with
          | .ok (.int t) st4 => match st4.src with
            | none => .ok .src { st4 with src := some ⟨ns, l, m, t⟩ }
            | some _ => .bad
          | _ => .bad
        | _ => .bad
      | _ => .bad
    | none => .bad
  | _ => .bad) := rfl
theorem g_ofS {n : Nat} {ms : S → RS} {as : List Slot} {src src' : Option Src} {ss ss' : List Slot} (hs : startS n as = ss) (h : ms ⟨ss, src⟩ = .ret .src ⟨ss', src'⟩) : gOf n ms as src = some (.src, src') := by
  unfold gOf
  rw [hs, h]
theorem open_is (ns : List Int) (hn : ns.length ≤ 63) : ∃ s', g_law_open_cells [.scr ns] none = some (.src, some s') := by
  have q1 : (0 : Int) < 2147483629 := by decide
  obtain ⟨st', e1, k, d2, q2, hd⟩ := forGo_foldN (g := gN 2) (m := OB) PyData.int (fun (_ : Unit) _ => ()) (fun k _ st => ∃ v d2, st = ⟨[.scr ns, .v (.int v), d2, .no], none⟩ ∧ backS (some d2) = d2) ns 0 () ⟨[.scr ns, .v (.int 11), .no, .no], none⟩
    (fun k x hk _ st ⟨v, d2, q, _⟩ => by
      subst q
      refine ⟨_, ⟨[.scr ns, .v (.int ((v * 69069 + x * 31 + 5) % 2147483629)), .v (.int x), .no], none⟩, rfl, .inl ?_, _, _, rfl, rfl⟩
      unfold OB
      simp only [v_GetS, v_Cel, v_CelLen, v_CelPop, v_PutS, v_C, v_Var, v_Mv, v_Pk, v_O, v_F, v_B, v_m1, v_m2, still_v, still_t, still_s, d_v, d_t, d_s, v_Seq, v_Nil, v_If, v_Set, v_Ret, v_Drop, v_Asg, v_Par2, v_Par3, v_And, v_Or, v_Not, v_IfE, v_Yes, v_nil, v_cons, v_tup, v_lst, v_N, v_Nl, v_Cn, v_Tp, v_TpL, v_jSeq, v_jEnum, v_jRg, v_jRg2, v_For, v_Call, v_xNil, v_xCons, v_xSrc, v_Mut, S.wipe, wipeS, S.rest, restS, backS, List.set_cons_zero, List.set_cons_succ, List.getElem?_cons_zero, List.getElem?_cons_succ, List.any_cons, List.any_nil, Slot.isSrc, if_true, Bool.or_false, Bool.false_or, Bool.or_true, Bool.true_or, true_or, or_true, List.length_cons, List.length_nil, Bool.false_eq_true, if_false, reduceIte, reduceCtorEq, gAdd_int, gMul_int (mulOk_r (a := v) (b := 69069) (by decide) (by decide)), gMul_int (mulOk_r (a := x) (b := 31) (by decide) (by decide)), gInt_int, gMod_int q1]) ⟨11, .no, rfl, rfl⟩
  have e : mLc (jScr 0) [2] (gN 2) tYesM (mF (m1 gAbs (mPk 2))) ⟨[.scr ns, .v (.int k), d2, .no], none⟩ = .ok (.o (.list ((ns.map fun i => if i < 0 then -i else i).map PyData.int))) ⟨[.scr ns, .v (.int k), d2, .no], none⟩ := by
    rw [mLc_map (st1 := ⟨[.scr ns, .v (.int k), d2, .no], none⟩) ns PyData.int (fun _ => true) (fun i => .int (if i < 0 then -i else i))]
    · rw [List.filter_eq_self.mpr (fun _ _ => rfl), List.map_map]
      show Pd.R.ok _ (⟨[.scr ns, .v (.int k), backS (some d2), .no], none⟩ : S) = _
      rw [hd]
      rfl
    · simp only [v_GetS, v_Cel, v_CelLen, v_CelPop, v_PutS, v_C, v_Var, v_Mv, v_Pk, v_O, v_F, v_B, v_m1, v_m2, still_v, still_t, still_s, d_v, d_t, d_s, v_Seq, v_Nil, v_If, v_Set, v_Ret, v_Drop, v_Asg, v_Par2, v_Par3, v_And, v_Or, v_Not, v_IfE, v_Yes, v_nil, v_cons, v_tup, v_lst, v_N, v_Nl, v_Cn, v_Tp, v_TpL, v_jSeq, v_jEnum, v_jRg, v_jRg2, v_For, v_Call, v_xNil, v_xCons, v_xSrc, v_Mut, S.wipe, wipeS, S.rest, restS, backS, List.set_cons_zero, List.set_cons_succ, List.getElem?_cons_zero, List.getElem?_cons_succ, List.any_cons, List.any_nil, Slot.isSrc, if_true, Bool.or_false, Bool.false_or, Bool.or_true, Bool.true_or, true_or, or_true, List.length_cons, List.length_nil, Bool.false_eq_true, if_false, reduceIte, reduceCtorEq, v_jScr]
    · omega
    · intro x hx
      exact ⟨_, ⟨[.scr ns, .v (.int k), .v (.int x), .no], none⟩, rfl, rfl, fun h => (nomatch h), fun _ => ⟨⟨[.scr ns, .v (.int k), .v (.int x), .no], none⟩, rfl, rfl⟩⟩
  have r : gRev (.list ((ns.map fun i => if i < 0 then -i else i).map PyData.int)) = some (.o (.list ((ns.map fun i => if i < 0 then -i else i).reverse.map PyData.int))) := by
    show some (Slot.o (.list (List.reverse _))) = _
    rw [List.map_reverse]
  refine ⟨⟨(ns.map fun i => if i < 0 then -i else i).reverse, 1, k, 0⟩, g_ofS (ss := [.scr ns, .no, .no, .no]) rfl (ss' := [.scr ns, .v (.int k), d2, .o (.list ((ns.map fun i => if i < 0 then -i else i).map PyData.int))]) ?_⟩
  have o3 : O3 ⟨[.scr ns, .v (.int k), d2, .o (.list ((ns.map fun i => if i < 0 then -i else i).map PyData.int))], none⟩ = .ret .src ⟨[.scr ns, .v (.int k), d2, .o (.list ((ns.map fun i => if i < 0 then -i else i).map PyData.int))], some ⟨(ns.map fun i => if i < 0 then -i else i).reverse, 1, k, 0⟩⟩ := by
    unfold O3
    simp only [v_GetS, v_Cel, v_CelLen, v_CelPop, v_PutS, v_C, v_Var, v_Mv, v_Pk, v_O, v_F, v_B, v_m1, v_m2, still_v, still_t, still_s, d_v, d_t, d_s, v_Seq, v_Nil, v_If, v_Set, v_Ret, v_Drop, v_Asg, v_Par2, v_Par3, v_And, v_Or, v_Not, v_IfE, v_Yes, v_nil, v_cons, v_tup, v_lst, v_N, v_Nl, v_Cn, v_Tp, v_TpL, v_jSeq, v_jEnum, v_jRg, v_jRg2, v_For, v_Call, v_xNil, v_xCons, v_xSrc, v_Mut, S.wipe, wipeS, S.rest, restS, backS, List.set_cons_zero, List.set_cons_succ, List.getElem?_cons_zero, List.getElem?_cons_succ, List.any_cons, List.any_nil, Slot.isSrc, if_true, Bool.or_false, Bool.false_or, Bool.or_true, Bool.true_or, true_or, or_true, List.length_cons, List.length_nil, Bool.false_eq_true, if_false, reduceIte, reduceCtorEq, v_NewS, r, intsOf_map]
  have o2 : O2 ⟨[.scr ns, .v (.int k), d2, .no], none⟩ = .nx ⟨[.scr ns, .v (.int k), d2, .o (.list ((ns.map fun i => if i < 0 then -i else i).map PyData.int))], none⟩ := by
    unfold O2
    simp only [v_GetS, v_Cel, v_CelLen, v_CelPop, v_PutS, v_C, v_Var, v_Mv, v_Pk, v_O, v_F, v_B, v_m1, v_m2, still_v, still_t, still_s, d_v, d_t, d_s, v_Seq, v_Nil, v_If, v_Set, v_Ret, v_Drop, v_Asg, v_Par2, v_Par3, v_And, v_Or, v_Not, v_IfE, v_Yes, v_nil, v_cons, v_tup, v_lst, v_N, v_Nl, v_Cn, v_Tp, v_TpL, v_jSeq, v_jEnum, v_jRg, v_jRg2, v_For, v_Call, v_xNil, v_xCons, v_xSrc, v_Mut, S.wipe, wipeS, S.rest, restS, backS, List.set_cons_zero, List.set_cons_succ, List.getElem?_cons_zero, List.getElem?_cons_succ, List.any_cons, List.any_nil, Slot.isSrc, if_true, Bool.or_false, Bool.false_or, Bool.or_true, Bool.true_or, true_or, or_true, List.length_cons, List.length_nil, Bool.false_eq_true, if_false, reduceIte, reduceCtorEq, e]
  rw [m_open_eq]
  simp only [v_GetS, v_Cel, v_CelLen, v_CelPop, v_PutS, v_C, v_Var, v_Mv, v_Pk, v_O, v_F, v_B, v_m1, v_m2, still_v, still_t, still_s, d_v, d_t, d_s, v_Seq, v_Nil, v_If, v_Set, v_Ret, v_Drop, v_Asg, v_Par2, v_Par3, v_And, v_Or, v_Not, v_IfE, v_Yes, v_nil, v_cons, v_tup, v_lst, v_N, v_Nl, v_Cn, v_Tp, v_TpL, v_jSeq, v_jEnum, v_jRg, v_jRg2, v_For, v_Call, v_xNil, v_xCons, v_xSrc, v_Mut, S.wipe, wipeS, S.rest, restS, backS, List.set_cons_zero, List.set_cons_succ, List.getElem?_cons_zero, List.getElem?_cons_succ, List.any_cons, List.any_nil, Slot.isSrc, if_true, Bool.or_false, Bool.false_or, Bool.or_true, Bool.true_or, true_or, or_true, List.length_cons, List.length_nil, Bool.false_eq_true, if_false, reduceIte, reduceCtorEq, v_jScr, e1, q2]
  rw [o2]
  dsimp only
  exact o3
/-! ### the whole law -/
theorem lap_is (ns : List Int) (s : Src) (lap : Int) (h0 : 0 ≤ lap) (h3 : lap < 4) (a3 a4 a5 a6 due c8 c9 c10 c11 c12 c13 c14 c15 c16 c17 : Slot) : ∃ s' d3 d4 d5 d6 d7 d8 d9 d10 d11 d12 d13 d14 d15 d16 d17, LAP (ST ns s (.v (.int lap)) a3 a4 a5 a6 due c8 c9 c10 c11 c12 c13 c14 c15 c16 c17) = .nx (ST ns s' (.v (.int lap)) d3 d4 d5 d6 d7 d8 d9 d10 d11 d12 d13 d14 d15 d16 d17) := by
  have hm : ∃ m : Int, gIx (.list [.int 4, .int 5, .int 6, .int 6]) (.int lap) = some (.v (.int m)) ∧ 2 ≤ m ∧ m ≤ 6 := by
    rcases (by omega : lap = 0 ∨ lap = 1 ∨ lap = 2 ∨ lap = 3) with rfl | rfl | rfl | rfl
    · exact ⟨4, rfl, by omega, by omega⟩
    · exact ⟨5, rfl, by omega, by omega⟩
    · exact ⟨6, rfl, by omega, by omega⟩
    · exact ⟨6, rfl, by omega, by omega⟩
  obtain ⟨m, e0, m1, m2⟩ := hm
  obtain ⟨n, E, s', e1, n1, n2, ok, hE⟩ := draw_is s m m1 (by omega)
  obtain ⟨d7, d8, d9, d10, d11, d12, d13, d14, d15, d16, d17, e2⟩ := rest_is n1 (by omega) hE ns s' ok (.v (.int lap)) c8 c9 c10 c11 c12 c13 c14 c15 c16 c17 a4 a5 a6 due
  refine ⟨s', _, _, _, _, d7, d8, d9, d10, d11, d12, d13, d14, d15, d16, d17, Eq.trans ?_ e2⟩
  have dr : DRAW (ST ns s (.v (.int lap)) a3 a4 a5 a6 due c8 c9 c10 c11 c12 c13 c14 c15 c16 c17) = .nx (ST ns s' (.v (.int lap)) (.v (netD n E)) a4 a5 a6 due c8 c9 c10 c11 c12 c13 c14 c15 c16 c17) := by
    unfold DRAW
    simp only [v_GetS, v_Cel, v_CelLen, v_CelPop, v_PutS, v_C, v_Var, v_Mv, v_Pk, v_O, v_F, v_B, v_m1, v_m2, still_v, still_t, still_s, d_v, d_t, d_s, v_Seq, v_Nil, v_If, v_Set, v_Ret, v_Drop, v_Asg, v_Par2, v_Par3, v_And, v_Or, v_Not, v_IfE, v_Yes, v_nil, v_cons, v_tup, v_lst, v_N, v_Nl, v_Cn, v_Tp, v_TpL, v_jSeq, v_jEnum, v_jRg, v_jRg2, v_For, v_Call, v_xNil, v_xCons, v_xSrc, v_Mut, S.wipe, wipeS, S.rest, restS, backS, List.set_cons_zero, List.set_cons_succ, List.getElem?_cons_zero, List.getElem?_cons_succ, List.any_cons, List.any_nil, Slot.isSrc, if_true, Bool.or_false, Bool.false_or, Bool.or_true, Bool.true_or, true_or, or_true, List.length_cons, List.length_nil, Bool.false_eq_true, if_false, reduceIte, reduceCtorEq, okLen_of (n := 0 + 1 + 1 + 1 + 1) (by omega), e0, e1]
  unfold LAP
  rw [v_Seq, dr]
theorem good (ns : List Int) (hn : ns.length ≤ 63) : ∃ s, g_law [.scr ns] none = some (.v (.bool true), s) := by
  obtain ⟨s0, e0⟩ := open_is ns hn
  obtain ⟨st', e1, t, d2, d3, d4, d5, d6, d7, d8, d9, d10, d11, d12, d13, d14, d15, d16, d17, q⟩ := forGo_foldN (g := gN 2) (m := LAP) PyData.int (fun (_ : Unit) _ => ()) (fun k _ st => ∃ t d2 d3 d4 d5 d6 d7 d8 d9 d10 d11 d12 d13 d14 d15 d16 d17, st = ST ns t d2 d3 d4 d5 d6 d7 d8 d9 d10 d11 d12 d13 d14 d15 d16 d17) (rngL 4) 0 ()
    (ST ns s0 .no .no .no .no .no .no .no .no .no .no .no .no .no .no .no .no) (fun k x hk _ st ⟨t, d2, d3, d4, d5, d6, d7, d8, d9, d10, d11, d12, d13, d14, d15, d16, d17, q⟩ => by
      subst q
      have hx := rngL_mem.mp (List.mem_of_getElem? hk)
      obtain ⟨t', f3, f4, f5, f6, f7, f8, f9, f10, f11, f12, f13, f14, f15, f16, f17, w⟩ := lap_is ns t x hx.1 hx.2 d3 d4 d5 d6 d7 d8 d9 d10 d11 d12 d13 d14 d15 d16 d17
      exact ⟨_, _, rfl, .inl w, t', .v (.int x), f3, f4, f5, f6, f7, f8, f9, f10, f11, f12, f13, f14, f15, f16, f17, rfl⟩) ⟨s0, _, _, _, _, _, _, _, _, _, _, _, _, _, _, _, _, rfl⟩
  refine ⟨some t, g_of (ss := [.scr ns, .no, .no, .no, .no, .no, .no, .no, .no, .no, .no, .no, .no, .no, .no, .no, .no, .no, .no, .no, .no, .no, .no, .no]) rfl (ss' := [.scr ns, .src, d2, d3, d4, d5, d6, d7, d8, d9, d10, d11, d12, d13, d14, d15, d16, d17, .no, .no, .no, .no, .no, .no]) ?_⟩
  have hr : rgOk 0 4 = true := by decide
  rw [m_law_eq]
  simp only [v_GetS, v_Cel, v_CelLen, v_CelPop, v_PutS, v_C, v_Var, v_Mv, v_Pk, v_O, v_F, v_B, v_m1, v_m2, still_v, still_t, still_s, d_v, d_t, d_s, v_Seq, v_Nil, v_If, v_Set, v_Ret, v_Drop, v_Asg, v_Par2, v_Par3, v_And, v_Or, v_Not, v_IfE, v_Yes, v_nil, v_cons, v_tup, v_lst, v_N, v_Nl, v_Cn, v_Tp, v_TpL, v_jSeq, v_jEnum, v_jRg, v_jRg2, v_For, v_Call, v_xNil, v_xCons, v_xSrc, v_Mut, S.wipe, wipeS, S.rest, restS, backS, List.set_cons_zero, List.set_cons_succ, List.getElem?_cons_zero, List.getElem?_cons_succ, List.any_cons, List.any_nil, Slot.isSrc, if_true, Bool.or_false, Bool.false_or, Bool.or_true, Bool.true_or, true_or, or_true, List.length_cons, List.length_nil, Bool.false_eq_true, if_false, reduceIte, reduceCtorEq, e0, hr, rgD_0, e1, q]
end K98
end
theorem PySem.Challenge.cw_waysandcuts_k98_whole_two_least_lots_holds : PySem.Challenge.rw_waysandcuts_k98_whole_two_least_lots.Holds := by
  exact K98.closes K98.good
