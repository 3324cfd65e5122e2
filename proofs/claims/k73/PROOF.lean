import PyProof.Rows.All
import Wide.All
import OpenK.AllK
import Wide.FinOn
import HandS.ForMost
import HandS.Deep
import HandS.Star
import HandS.SortRule
import HandS.TupLe
import HandS.Defaults
import HandS.TupAny
import HandS.TupMul
import HandS.TupLen
import HandS.Conv
import HandS.More
import HandS.IsInst
import HandS.ExcValue
import HandS.Iter
import HandS.Zip
import HandS.TryOnly
import HandS.Style
import KE.GoesMore
import KE.GoesEnum
import KE.DataEq
import KE.DataCmp
import KE.DataMinMax
import KE.DataAny
import KE.DataFind
import KE.DataIsa
import KE.SortData
import KE.SortKeyHeap
import HandS.Text
import HandS.Codes
import HandS.Ends
import HandS.HeadEnd
import HandS.Head0
import HandS.Head1
import HandS.Head2
import HandS.HeadHook1
import HandS.HeadHook2
import KE.Datum
import HandS.SetFor
import KE.DatumOrd
import PySem.Challenge.RW_waysandcuts_k73_whole_split_off_kept
set_option Elab.async false
section
set_option linter.all false
set_option maxRecDepth 100000
/-! Pd, part A: pure data held by an abstract heap; states; the readings tM, tP, tMS. -/
namespace Pd
open PySem PySem.Spec PyProof.Rows L2

/-! ### data -/
def kD : Key → PyData
  | .inl i => .int i
  | .inr x => .str x
def tD (k : List Key) : PyData := .tuple (k.map kD)

mutual
inductive Rp (F : Hp) : V → PyData → Prop
  | non : Rp F .non .none
  | bl (b : Bool) : Rp F (.bl b) (.bool b)
  | int (i : Int) : Rp F (.int i) (.int i)
  | str (x : Str) : Rp F (.str x) (.str x)
  | lst {a : Addr} {xs : List V} {ds : List PyData} : F a = some (.lst xs) → RpL F xs ds → Rp F (.ref a) (.list ds)
  | tup {a : Addr} {xs : List V} {ds : List PyData} : F a = some (.tup xs) → RpL F xs ds → Rp F (.ref a) (.tuple ds)
  | dK {a : Addr} {ps : List (Key × V)} {kvs : List (PyData × PyData)} : F a = some (.dK ps) → RpK F ps kvs → Rp F (.ref a) (.dict kvs)
  | dT {a : Addr} {ps : List (List Key × V)} {kvs : List (PyData × PyData)} : F a = some (.dT ps) → RpT F ps kvs → Rp F (.ref a) (.dict kvs)
inductive RpL (F : Hp) : List V → List PyData → Prop
  | nil : RpL F [] []
  | cons {v : V} {vs : List V} {d : PyData} {ds : List PyData} : Rp F v d → RpL F vs ds → RpL F (v :: vs) (d :: ds)
inductive RpK (F : Hp) : List (Key × V) → List (PyData × PyData) → Prop
  | nil : RpK F [] []
  | cons {k : Key} {v : V} {ps : List (Key × V)} {d : PyData} {kvs : List (PyData × PyData)} : Rp F v d → RpK F ps kvs → RpK F ((k, v) :: ps) ((kD k, d) :: kvs)
inductive RpT (F : Hp) : List (List Key × V) → List (PyData × PyData) → Prop
  | nil : RpT F [] []
  | cons {k : List Key} {v : V} {ps : List (List Key × V)} {d : PyData} {kvs : List (PyData × PyData)} : Rp F v d → RpT F ps kvs → RpT F ((k, v) :: ps) ((tD k, d) :: kvs)
end

/-- one heap within another -/
def Sub (F H : Hp) : Prop := ∀ a o, F a = some o → H a = some o
theorem Sub.refl (F : Hp) : Sub F F := fun _ _ h => h
theorem Sub.trans {F G H : Hp} (a : Sub F G) (b : Sub G H) : Sub F H := fun x o h => b x o (a x o h)
theorem Sub.new {H : Hp} {p : Addr} {o : HO} (h : H p = none) : Sub H (upd H p o) := fun a u e => by
  rw [upd_ne (ne_of_none e h)]
  exact e
/-- both grow by the same -/
theorem Sub.both {F H : Hp} {p : Addr} {o : HO} (s : Sub F H) : Sub (upd F p o) (upd H p o) := fun a u e => by
  by_cases h : a = p
  · subst h
    rw [upd_same] at e ⊢
    exact e
  · rw [upd_ne h] at e ⊢
    exact s a u e
theorem Sub.to {F H : Hp} {p : Addr} {o : HO} (s : Sub F H) (h : H p = some o) : Sub (upd F p o) H := fun a u e => by
  by_cases q : a = p
  · subst q
    rw [upd_same] at e
    rw [h]
    exact e
  · rw [upd_ne q] at e
    exact s a u e
/-- what F does not hold may change -/
theorem Sub.off {F H : Hp} {p : Addr} {o : HO} (s : Sub F H) (h : F p = none) : Sub F (upd H p o) := fun a u e => by
  rw [upd_ne (ne_of_none e h)]
  exact s a u e
theorem Sub.none_of {F H : Hp} {a : Addr} (s : Sub F H) (h : H a = none) : F a = none := by
  cases q : F a with
  | none => rfl
  | some o =>
    rw [s a o q] at h
    cases h

mutual
theorem Rp.mono {F G : Hp} (s : Sub F G) : ∀ {d : PyData} {v : V}, Rp F v d → Rp G v d
  | .none, _, h => by
    cases h
    exact .non
  | .bool _, _, h => by
    cases h
    exact .bl _
  | .int _, _, h => by
    cases h
    exact .int _
  | .str _, _, h => by
    cases h
    exact .str _
  | .list _, _, h => by
    cases h with
    | lst e r => exact .lst (s _ _ e) (RpL.mono s r)
  | .tuple _, _, h => by
    cases h with
    | tup e r => exact .tup (s _ _ e) (RpL.mono s r)
  | .dict _, _, h => by
    cases h with
    | dK e r => exact .dK (s _ _ e) (RpK.mono s r)
    | dT e r => exact .dT (s _ _ e) (RpT.mono s r)
theorem RpL.mono {F G : Hp} (s : Sub F G) : ∀ {ds : List PyData} {vs : List V}, RpL F vs ds → RpL G vs ds
  | [], _, h => by
    cases h
    exact .nil
  | _ :: _, _, h => by
    cases h with
    | cons a b => exact .cons (Rp.mono s a) (RpL.mono s b)
theorem RpK.mono {F G : Hp} (s : Sub F G) : ∀ {ds : List (PyData × PyData)} {vs : List (Key × V)}, RpK F vs ds → RpK G vs ds
  | [], _, h => by
    cases h
    exact .nil
  | (_, _) :: _, _, h => by
    cases h with
    | cons a b => exact .cons (Rp.mono s a) (RpK.mono s b)
theorem RpT.mono {F G : Hp} (s : Sub F G) : ∀ {ds : List (PyData × PyData)} {vs : List (List Key × V)}, RpT F vs ds → RpT G vs ds
  | [], _, h => by
    cases h
    exact .nil
  | (_, _) :: _, _, h => by
    cases h with
    | cons a b => exact .cons (Rp.mono s a) (RpT.mono s b)
end

theorem RpL.length {F : Hp} : ∀ {vs : List V} {ds : List PyData}, RpL F vs ds → vs.length = ds.length
  | [], _, h => by
    cases h
    rfl
  | _ :: _, _, h => by
    cases h with
    | cons _ b => exact congrArg Nat.succ (RpL.length b)
theorem RpL.get {F : Hp} : ∀ {vs : List V} {ds : List PyData} {i : Nat} {d : PyData}, RpL F vs ds → ds[i]? = some d → ∃ v, vs[i]? = some v ∧ Rp F v d
  | _, _, 0, _, .cons a _, e => by
    cases e
    exact ⟨_, rfl, a⟩
  | _, _, i + 1, _, .cons _ b, e => by
    obtain ⟨v, h1, h2⟩ := RpL.get (i := i) b (by simpa using e)
    exact ⟨v, by simpa using h1, h2⟩
  | _, _, _, _, .nil, e => by simp at e
theorem RpL.of_get {F : Hp} : ∀ {vs : List V} {ds : List PyData} {i : Nat} {v : V}, RpL F vs ds → vs[i]? = some v → ∃ d, ds[i]? = some d ∧ Rp F v d
  | _, _, 0, _, .cons a _, e => by
    cases e
    exact ⟨_, rfl, a⟩
  | _, _, i + 1, _, .cons _ b, e => by
    obtain ⟨v, h1, h2⟩ := RpL.of_get (i := i) b (by simpa using e)
    exact ⟨v, by simpa using h1, h2⟩
  | _, _, _, _, .nil, e => by simp at e
theorem RpL.append {F : Hp} : ∀ {vs ws : List V} {ds es : List PyData}, RpL F vs ds → RpL F ws es → RpL F (vs ++ ws) (ds ++ es)
  | _, _, _, _, .nil, h => h
  | _, _, _, _, .cons a b, h => .cons a (RpL.append b h)
theorem RpL.take {F : Hp} : ∀ {vs : List V} {ds : List PyData} (n : Nat), RpL F vs ds → RpL F (vs.take n) (ds.take n)
  | _, _, 0, _ => .nil
  | _, _, _ + 1, .nil => .nil
  | _, _, n + 1, .cons a b => .cons a (RpL.take n b)
theorem RpL.drop {F : Hp} : ∀ {vs : List V} {ds : List PyData} (n : Nat), RpL F vs ds → RpL F (vs.drop n) (ds.drop n)
  | _, _, 0, h => h
  | _, _, _ + 1, .nil => .nil
  | _, _, n + 1, .cons _ b => RpL.drop n b
theorem RpL.set {F : Hp} {v : V} {d : PyData} (r : Rp F v d) : ∀ {vs : List V} {ds : List PyData} (i : Nat), RpL F vs ds → RpL F (vs.set i v) (ds.set i d)
  | _, _, _, .nil => .nil
  | _, _, 0, .cons _ b => .cons r b
  | _, _, i + 1, .cons a b => .cons a (RpL.set r i b)
theorem RpL.erase {F : Hp} : ∀ {vs : List V} {ds : List PyData} (i : Nat), RpL F vs ds → RpL F (vs.eraseIdx i) (ds.eraseIdx i)
  | _, _, _, .nil => .nil
  | _, _, 0, .cons _ b => b
  | _, _, i + 1, .cons a b => .cons a (RpL.erase i b)
theorem RpL.reverse {F : Hp} : ∀ {vs : List V} {ds : List PyData}, RpL F vs ds → RpL F vs.reverse ds.reverse
  | _, _, .nil => .nil
  | _, _, .cons a b => by
    rw [List.reverse_cons, List.reverse_cons]
    exact (RpL.reverse b).append (.cons a .nil)
theorem RpL.dropLast {F : Hp} {vs : List V} {ds : List PyData} (h : RpL F vs ds) : RpL F vs.dropLast ds.dropLast := by
  rw [List.dropLast_eq_take, List.dropLast_eq_take, h.length]
  exact h.take _
theorem RpL.rep {F : Hp} {vs : List V} {ds : List PyData} (h : RpL F vs ds) : ∀ k : Nat, RpL F (List.replicate k vs).flatten (List.replicate k ds).flatten
  | 0 => .nil
  | k + 1 => by
    rw [List.replicate_succ, List.replicate_succ, List.flatten_cons, List.flatten_cons]
    exact h.append (RpL.rep h k)
theorem RpL.snoc {F : Hp} {vs : List V} {ds : List PyData} {v : V} {d : PyData} (h : RpL F vs ds) (r : Rp F v d) : RpL F (vs ++ [v]) (ds ++ [d]) := h.append (.cons r .nil)

/-- an object as data -/
inductive OR (F : Hp) : HO → PyData → Prop
  | lst {xs : List V} {ds : List PyData} : RpL F xs ds → OR F (.lst xs) (.list ds)
  | dK {ps : List (Key × V)} {kvs : List (PyData × PyData)} : RpK F ps kvs → OR F (.dK ps) (.dict kvs)
  | dT {ps : List (List Key × V)} {kvs : List (PyData × PyData)} : RpT F ps kvs → OR F (.dT ps) (.dict kvs)
theorem OR.mono {F G : Hp} (s : Sub F G) {o : HO} {d : PyData} : OR F o d → OR G o d
  | .lst r => .lst (r.mono s)
  | .dK r => .dK (r.mono s)
  | .dT r => .dT (r.mono s)
/-- frozen -/
theorem OR.frz {F : Hp} {o : HO} {d : PyData} {a : Addr} (h : OR F o d) (n : F a = none) : Rp (upd F a o) (.ref a) d := by
  have s : Sub F (upd F a o) := Sub.new n
  cases h with
  | lst r => exact .lst upd_same (r.mono s)
  | dK r => exact .dK upd_same (r.mono s)
  | dT r => exact .dT upd_same (r.mono s)
theorem Rp.obj {F : Hp} {a : Addr} {d : PyData} (h : Rp F (.ref a) d) : (∃ ds, d = .tuple ds) ∨ ∃ o, F a = some o ∧ OR F o d := by
  cases h with
  | lst e r => exact .inr ⟨_, e, .lst r⟩
  | tup e r => exact .inl ⟨_, rfl⟩
  | dK e r => exact .inr ⟨_, e, .dK r⟩
  | dT e r => exact .inr ⟨_, e, .dT r⟩

/-! ### the law's source: a dict of four, its cells a list -/
structure Src where
  cells : List Int
  left : Int
  mixed : Int
  turn : Int
abbrev Sa := Addr × Addr
def SrcR (H : Hp) (sa : Sa) (s : Src) : Prop :=
  H sa.1 = some (.dK [(.inr (Str.ofString "cells"), .ref sa.2), (.inr (Str.ofString "left"), .int s.left), (.inr (Str.ofString "mixed"), .int s.mixed), (.inr (Str.ofString "turn"), .int s.turn)]) ∧
  H sa.2 = some (.lst (s.cells.map V.int))
theorem SrcR.ne {H : Hp} {sa : Sa} {s : Src} (h : SrcR H sa s) : sa.1 ≠ sa.2 := ne_of h.1 h.2 (fun e => nomatch e)

/-! ### states -/
/-- a name's place: nothing, a value (never changed any more), a list or dict that this name alone holds, the source, the source's cells, the script -/
inductive Slot where
  | no | v (d : PyData) | o (d : PyData) | src | cel | scr (ns : List Int)
structure S where
  ss : List Slot
  src : Option Src

structure SR (K : PySem.W.Frag) (sa : Sa) (B F H : Hp) (σ : L2.St) (st : S) : Prop where
  bh : Sub B H
  fh : Sub F H
  len : σ.length = st.ss.length
  sl : ∀ (i : Nat) (d : PyData), st.ss[i]? = some (.v d) → ∃ v, σ[i]? = some (some v) ∧ Rp F v d
  so : ∀ (i : Nat) (d : PyData), st.ss[i]? = some (.o d) → ∃ a o, σ[i]? = some (some (.ref a)) ∧ H a = some o ∧ OR F o d ∧ B a = none ∧ F a = none ∧ (st.src.isSome = true → a ≠ sa.1 ∧ a ≠ sa.2)
  ap : ∀ (i j : Nat) (d e : PyData) (a : Addr), i ≠ j → st.ss[i]? = some (.o d) → st.ss[j]? = some (.o e) → σ[i]? = some (some (.ref a)) → σ[j]? = some (some (.ref a)) → False
  sx : ∀ i : Nat, st.ss[i]? = some .src → st.src.isSome = true ∧ σ[i]? = some (some (.ref sa.1))
  sc : ∀ (i : Nat) (ns : List Int), st.ss[i]? = some (.scr ns) → ∃ a, σ[i]? = some (some (.ref a)) ∧ SqL K F a (ns.map V.int)
  sr : ∀ s : Src, st.src = some s → SrcR H sa s ∧ B sa.1 = none ∧ B sa.2 = none ∧ F sa.1 = none ∧ F sa.2 = none
  sy : ∀ i : Nat, st.ss[i]? = some .cel → st.src.isSome = true ∧ σ[i]? = some (some (.ref sa.2))

/-- F grows, but not within B -/
structure FX (B F F' : Hp) : Prop where
  le : Sub F F'
  out : ∀ a, F a = none → B a ≠ none → F' a = none
theorem FX.refl {B F : Hp} : FX B F F := ⟨Sub.refl F, fun _ h _ => h⟩
theorem FX.trans {B F G H : Hp} (a : FX B F G) (b : FX B G H) : FX B F H := ⟨a.le.trans b.le, fun x h n => b.out x (a.out x h n) n⟩
theorem FX.weak {B C F F' : Hp} (s : Sub B C) (h : FX C F F') : FX B F F' := ⟨h.le, fun a n m => h.out a n fun z => m (by
  cases q : B a with
  | none => rfl
  | some o =>
    rw [s a o q] at z
    cases z)⟩
theorem FX.new {B F H : Hp} {p : Addr} {o : HO} (bh : Sub B H) (h : H p = none) (fh : Sub F H) : FX B F (upd F p o) :=
  ⟨Sub.new (fh.none_of h), fun a n m => by
    by_cases e : a = p
    · subst e
      exact absurd (bh.none_of h) m
    · rw [upd_ne e]
      exact n⟩
theorem FX.own {B F : Hp} {p : Addr} {o : HO} (b : B p = none) (f : F p = none) : FX B F (upd F p o) :=
  ⟨Sub.new f, fun a n m => by
    by_cases e : a = p
    · subst e
      exact absurd b m
    · rw [upd_ne e]
      exact n⟩

inductive R (α : Type) where
  | ok (a : α) (s : S)
  | bad
/-- what the source's address may do between two states -/
def SaK (st : S) (sa sa' : Sa) : Prop := st.src.isSome = true → sa' = sa
/-- a result as a value: data, a new object of one's own, the source -/
def RRep (sa : Sa) (B F H : Hp) (σ : L2.St) (st : S) (v : V) : Slot → Prop
  | .v d => Rp F v d
  | .o d => ∃ a o, v = .ref a ∧ H a = some o ∧ OR F o d ∧ B a = none ∧ F a = none ∧ (st.src.isSome = true → a ≠ sa.1 ∧ a ≠ sa.2) ∧ ∀ (i : Nat) (e : PyData), st.ss[i]? = some (.o e) → σ[i]? ≠ some (some (.ref a))
  | .src => st.src.isSome = true ∧ v = .ref sa.1
  | .cel => st.src.isSome = true ∧ v = .ref sa.2
  | .no => False
  | .scr _ => False

/-- from a state to a later one -/
structure Rch (K : PySem.W.Frag) (B : Hp) (σ : L2.St) (sa : Sa) (F : Hp) (st : S) (sa' : Sa) (F' H' : Hp) (st' : S) : Prop where
  r : SR K sa' B F' H' σ st'
  x : FX B F F'
  k : SaK st sa sa'
  s : st.src.isSome = true → st'.src.isSome = true
theorem Rch.refl {K : PySem.W.Frag} {B : Hp} {σ : L2.St} {sa : Sa} {F H : Hp} {st : S} (h : SR K sa B F H σ st) : Rch K B σ sa F st sa F H st := ⟨h, FX.refl, fun _ => rfl, fun z => z⟩
theorem Rch.trans {K : PySem.W.Frag} {B : Hp} {σ σ' : L2.St} {sa sa1 sa2 : Sa} {F F1 F2 H1 H2 : Hp} {st st1 st2 : S} (a : Rch K B σ sa F st sa1 F1 H1 st1) (b : Rch K B σ' sa1 F1 st1 sa2 F2 H2 st2) : Rch K B σ' sa F st sa2 F2 H2 st2 :=
  ⟨b.r, a.x.trans b.x, fun z => (b.k (a.s z)).trans (a.k z), fun z => b.s (a.s z)⟩
/-- the reading of an expression -/
def tM (K : PySem.W.Frag) (m : S → R Slot) : TE := fun σ H Q => ∃ sa B F st r st', SR K sa B F H σ st ∧ m st = .ok r st' ∧
  ∀ sa' F' H' v, Rch K B σ sa F st sa' F' H' st' → RRep sa' B F' H' σ st' v r → Q v H'

/-- an operand: data anywhere, a new object, a name's own object -/
inductive Opd where
  | v (d : PyData) | t (d : PyData) | s (i : Nat) (d : PyData)
def Opd.d : Opd → PyData
  | .v d => d | .t d => d | .s _ d => d
def PRep (sa : Sa) (B F H : Hp) (σ : L2.St) (st : S) (v : V) : Opd → Prop
  | .v d => RRep sa B F H σ st v (.v d)
  | .t d => RRep sa B F H σ st v (.o d)
  | .s i d => st.ss[i]? = some (.o d) ∧ σ[i]? = some (some v)
def tP (K : PySem.W.Frag) (m : S → R Opd) : TE := fun σ H Q => ∃ sa B F st r st', SR K sa B F H σ st ∧ m st = .ok r st' ∧
  ∀ sa' F' H' v, Rch K B σ sa F st sa' F' H' st' → PRep sa' B F' H' σ st' v r → Q v H'

/-- what may be read at v -/
def RdD (F H : Hp) (v : V) (d : PyData) : Prop := Rp F v d ∨ ∃ a o, v = .ref a ∧ H a = some o ∧ OR F o d
theorem PRep.rd {K : PySem.W.Frag} {sa : Sa} {B F H : Hp} {σ : L2.St} {st : S} {v : V} {r : Opd} (h : SR K sa B F H σ st) (p : PRep sa B F H σ st v r) : RdD F H v r.d := by
  cases r with
  | v d => exact .inl p
  | t d =>
    obtain ⟨a, o, e, h1, h2, _⟩ := p
    exact .inr ⟨a, o, e, h1, h2⟩
  | s i d =>
    obtain ⟨a, o, e, h1, h2, _⟩ := h.so i d p.1
    have q := p.2
    rw [e] at q
    exact .inr ⟨a, o, (Option.some.inj (Option.some.inj q)).symm, h1, h2⟩
theorem RdD.mono {F F' H H' : Hp} {v : V} {d : PyData} (s : Sub F F') (k : Sub H H') (h : RdD F H v d) : RdD F' H' v d := by
  rcases h with h | ⟨a, o, e, h1, h2⟩
  · exact .inl (h.mono s)
  · exact .inr ⟨a, o, e, k _ _ h1, h2.mono s⟩
theorem RdD.tup {F H : Hp} {v : V} {ds : List PyData} (s : Sub F H) (h : RdD F H v (.tuple ds)) : ∃ a xs, v = .ref a ∧ F a = some (.tup xs) ∧ RpL F xs ds := by
  rcases h with h | ⟨a, o, e, h1, h2⟩
  · cases h with
    | tup e r => exact ⟨_, _, rfl, e, r⟩
  · cases h2
theorem RdD.lst {F H : Hp} {v : V} {ds : List PyData} (s : Sub F H) (h : RdD F H v (.list ds)) : ∃ a xs, v = .ref a ∧ H a = some (.lst xs) ∧ RpL F xs ds := by
  rcases h with h | ⟨a, o, e, h1, h2⟩
  · cases h with
    | lst e r => exact ⟨_, _, rfl, s _ _ e, r⟩
  · cases h2 with
    | lst r => exact ⟨_, _, e, h1, r⟩
theorem RdD.int {F H : Hp} {v : V} {i : Int} (h : RdD F H v (.int i)) : v = .int i := by
  rcases h with h | ⟨a, o, e, h1, h2⟩
  · cases h
    rfl
  · cases h2
theorem RdD.bl {F H : Hp} {v : V} {i : Bool} (h : RdD F H v (.bool i)) : v = .bl i := by
  rcases h with h | ⟨a, o, e, h1, h2⟩
  · cases h
    rfl
  · cases h2
theorem RdD.str {F H : Hp} {v : V} {i : Str} (h : RdD F H v (.str i)) : v = .str i := by
  rcases h with h | ⟨a, o, e, h1, h2⟩
  · cases h
    rfl
  · cases h2
theorem RdD.non {F H : Hp} {v : V} (h : RdD F H v .none) : v = .non := by
  rcases h with h | ⟨a, o, e, h1, h2⟩
  · cases h
    rfl
  · cases h2

/-! ### protecting, adding -/
/-- a tracked object that no place of the state holds is protected -/
theorem SR.prot {K : PySem.W.Frag} {sa : Sa} {B F H : Hp} {σ : L2.St} {st : S} {p : Addr} {o : HO} (h : SR K sa B F H σ st) (hp : H p = some o) (hb : B p = none)
    (hs : st.src.isSome = true → p ≠ sa.1 ∧ p ≠ sa.2) (hn : ∀ (i : Nat) (e : PyData), st.ss[i]? = some (.o e) → σ[i]? ≠ some (some (.ref p))) : SR K sa (upd B p o) F H σ st where
  bh := h.bh.to hp
  fh := h.fh
  len := h.len
  sl := h.sl
  so := fun i d e => by
    obtain ⟨a, u, e1, e2, e3, e4, e5, e6⟩ := h.so i d e
    have ne : a ≠ p := fun z => hn i d e (by rw [← z]; exact e1)
    exact ⟨a, u, e1, e2, e3, by rw [upd_ne ne]; exact e4, e5, e6⟩
  ap := h.ap
  sx := h.sx
  sy := h.sy
  sc := h.sc
  sr := fun s e => by
    obtain ⟨e1, e2, e3, e4, e5⟩ := h.sr s e
    obtain ⟨n1, n2⟩ := hs (by rw [e]; rfl)
    exact ⟨e1, by rw [upd_ne (Ne.symm n1)]; exact e2, by rw [upd_ne (Ne.symm n2)]; exact e3, e4, e5⟩
/-- fewer protected -/
theorem SR.less {K : PySem.W.Frag} {sa : Sa} {B C F H : Hp} {σ : L2.St} {st : S} (s : Sub B C) (h : SR K sa C F H σ st) : SR K sa B F H σ st where
  bh := s.trans h.bh
  fh := h.fh
  len := h.len
  sl := h.sl
  so := fun i d e => by
    obtain ⟨a, u, e1, e2, e3, e4, e5, e6⟩ := h.so i d e
    exact ⟨a, u, e1, e2, e3, s.none_of e4, e5, e6⟩
  ap := h.ap
  sx := h.sx
  sy := h.sy
  sc := h.sc
  sr := fun x e => by
    obtain ⟨e1, e2, e3, e4, e5⟩ := h.sr x e
    exact ⟨e1, s.none_of e2, s.none_of e3, e4, e5⟩
theorem sqL_mono {K : PySem.W.Frag} {F G : Hp} {a : Addr} {xs : List V} (s : Sub F G) (h : SqL K F a xs) : SqL K G a xs := by
  rcases h with (z | ⟨u, z⟩) | z
  · exact .inl (.inl (s _ _ z))
  · exact .inl (.inr ⟨u, s _ _ z⟩)
  · exact .inr z
theorem SrcR.off {H : Hp} {sa : Sa} {s : Src} {p : Addr} {o : HO} (h : SrcR H sa s) (h1 : sa.1 ≠ p) (h2 : sa.2 ≠ p) : SrcR (upd H p o) sa s :=
  ⟨by rw [upd_ne h1]; exact h.1, by rw [upd_ne h2]; exact h.2⟩
theorem SrcR.at1 {H : Hp} {sa : Sa} {s : Src} (h : SrcR H sa s) : H sa.1 ≠ none := fun z => by
  rw [h.1] at z
  cases z
theorem SrcR.at2 {H : Hp} {sa : Sa} {s : Src} (h : SrcR H sa s) : H sa.2 ≠ none := fun z => by
  rw [h.2] at z
  cases z
/-- a new object -/
theorem SR.alloc {K : PySem.W.Frag} {sa : Sa} {B F H : Hp} {σ : L2.St} {st : S} {p : Addr} {o : HO} (h : SR K sa B F H σ st) (hp : H p = none) : SR K sa B F (upd H p o) σ st where
  bh := h.bh.trans (Sub.new hp)
  fh := h.fh.trans (Sub.new hp)
  len := h.len
  sl := h.sl
  so := fun i d e => by
    obtain ⟨a, u, e1, e2, e3, e4, e5, e6⟩ := h.so i d e
    exact ⟨a, u, e1, by rw [upd_ne (ne_of_none e2 hp)]; exact e2, e3, e4, e5, e6⟩
  ap := h.ap
  sx := h.sx
  sy := h.sy
  sc := h.sc
  sr := fun x e => by
    obtain ⟨e1, e2, e3, e4, e5⟩ := h.sr x e
    exact ⟨e1.off (fun z => e1.at1 (by rw [z]; exact hp)) (fun z => e1.at2 (by rw [z]; exact hp)), e2, e3, e4, e5⟩
/-- an object that nobody else holds is frozen -/
theorem SR.freeze {K : PySem.W.Frag} {sa : Sa} {B F H : Hp} {σ : L2.St} {st : S} {p : Addr} {o : HO} (h : SR K sa B F H σ st) (hp : H p = some o) (hf : F p = none)
    (hs : st.src.isSome = true → p ≠ sa.1 ∧ p ≠ sa.2) (hn : ∀ (i : Nat) (e : PyData), st.ss[i]? = some (.o e) → σ[i]? ≠ some (some (.ref p))) : SR K sa B (upd F p o) H σ st where
  bh := h.bh
  fh := h.fh.to hp
  len := h.len
  sl := fun i d e => by
    obtain ⟨v, e1, e2⟩ := h.sl i d e
    exact ⟨v, e1, e2.mono (Sub.new hf)⟩
  so := fun i d e => by
    obtain ⟨a, u, e1, e2, e3, e4, e5, e6⟩ := h.so i d e
    have ne : a ≠ p := fun z => hn i d e (by rw [← z]; exact e1)
    exact ⟨a, u, e1, e2, e3.mono (Sub.new hf), e4, by rw [upd_ne ne]; exact e5, e6⟩
  ap := h.ap
  sx := h.sx
  sy := h.sy
  sc := fun i ns e => by
    obtain ⟨a, e1, e2⟩ := h.sc i ns e
    exact ⟨a, e1, sqL_mono (Sub.new hf) e2⟩
  sr := fun x e => by
    obtain ⟨e1, e2, e3, e4, e5⟩ := h.sr x e
    obtain ⟨n1, n2⟩ := hs (by rw [e]; rfl)
    exact ⟨e1, e2, e3, by rw [upd_ne (Ne.symm n1)]; exact e4, by rw [upd_ne (Ne.symm n2)]; exact e5⟩
theorem SR.news {K : PySem.W.Frag} {sa : Sa} {B F H : Hp} {σ : L2.St} {st : S} (h : SR K sa B F H σ st) {p : Addr} (hp : H p = none) :
    (st.src.isSome = true → p ≠ sa.1 ∧ p ≠ sa.2) ∧ ∀ (i : Nat) (e : PyData), st.ss[i]? = some (.o e) → σ[i]? ≠ some (some (.ref p)) := by
  refine ⟨fun z => ?_, fun i e q z => ?_⟩
  · obtain ⟨s, hs⟩ := Option.isSome_iff_exists.mp z
    obtain ⟨e1, _⟩ := h.sr s hs
    exact ⟨fun q => e1.at1 (by rw [← q]; exact hp), fun q => e1.at2 (by rw [← q]; exact hp)⟩
  · obtain ⟨a, u, e1, e2, _⟩ := h.so i e q
    rw [z] at e1
    cases e1
    rw [hp] at e2
    cases e2
end Pd
end
section
set_option linter.all false
set_option maxRecDepth 100000
/-! Pd, part B: names, constants, operations on data. -/
namespace Pd
open PySem PySem.Spec PyProof.Rows L2

section
variable {X : Cx} {e : Expr} {es : List Expr} {st : Stmt} {sts : List Stmt}
theorem imE {t t' : TE} (h : PE X e t) (i : ∀ σ H Q, t' σ H Q → t σ H Q) : PE X e t' := ⟨fun pins s σ H Q I q => h.run pins s σ H Q I (i σ H Q q)⟩
theorem imT {t t' : TT} (h : PT X e t) (i : ∀ σ H Q, t' σ H Q → t σ H Q) : PT X e t' := ⟨fun pins s σ H Q I q => h.run pins s σ H Q I (i σ H Q q)⟩
theorem imA {t t' : TA} (h : PA X es t) (i : ∀ σ H Q, t' σ H Q → t σ H Q) : PA X es t' := ⟨fun pos pins s σ H Q I q => h.run pos pins s σ H Q I (i σ H Q q)⟩
theorem imS {t t' : TS} (h : PS X st t) (i : ∀ D σ H, t' D σ H → t D σ H) : PS X st t' := ⟨fun pins s σ H D I q => h.run pins s σ H D I (i D σ H q)⟩
theorem imB {t t' : TS} (h : PSs X sts t) (i : ∀ D σ H, t' D σ H → t D σ H) : PSs X sts t' := ⟨fun pins s σ H D I q => h.run pins s σ H D I (i D σ H q)⟩
end

/-! ### what an operation leaves -/
inductive Out (F H : Hp) : Slot → V → Hp → Hp → Prop
  | v {d : PyData} {v : V} : Rp F v d → Out F H (.v d) v F H
  | t {ds : List PyData} {xs : List V} {p : Addr} : RpL F xs ds → H p = none → Out F H (.v (.tuple ds)) (.ref p) (upd F p (.tup xs)) (upd H p (.tup xs))
  | o {d : PyData} {o : HO} {p : Addr} : OR F o d → H p = none → Out F H (.o d) (.ref p) F (upd H p o)
section
variable {K : PySem.W.Frag} {B : Hp} {σ : L2.St} {sa sa1 : Sa} {F F1 F' H H1 H' : Hp} {st st1 : S} {r : Slot} {v : V}
theorem Rch.out (h : Rch K B σ sa F st sa1 F1 H1 st1) (o : Out F1 H1 r v F' H') : Rch K B σ sa F st sa1 F' H' st1 ∧ RRep sa1 B F' H' σ st1 v r := by
  cases o with
  | v q => exact ⟨h, q⟩
  | @t ds xs p q hp =>
    obtain ⟨n1, n2⟩ := h.r.news hp
    have hf := h.r.fh.none_of hp
    exact ⟨⟨(h.r.alloc hp).freeze upd_same hf n1 n2, h.x.trans (FX.new h.r.bh hp h.r.fh), h.k, h.s⟩, .tup upd_same (q.mono (Sub.new hf))⟩
  | @o d o p q hp =>
    obtain ⟨n1, n2⟩ := h.r.news hp
    exact ⟨⟨h.r.alloc hp, h.x, h.k, h.s⟩, p, o, rfl, upd_same, q, h.r.bh.none_of hp, h.r.fh.none_of hp, n1, n2⟩
/-- the place i is frozen -/
theorem SR.frzAt {i : Nat} {d : PyData} (h : SR K sa B F H σ st) (e : st.ss[i]? = some (.o d)) : ∃ a o, σ[i]? = some (some (.ref a)) ∧ Rp (upd F a o) (.ref a) d ∧ FX B F (upd F a o) ∧ SR K sa B (upd F a o) H σ { st with ss := st.ss.set i (.v d) } := by
  obtain ⟨a, o, e1, e2, e3, e4, e5, e6⟩ := h.so i d e
  have hi : i < st.ss.length := (List.getElem?_eq_some_iff.mp e).1
  have hne : ∀ (j : Nat) (x : Slot), (st.ss.set i (.v d))[j]? = some x → (j = i ∧ x = .v d) ∨ (j ≠ i ∧ st.ss[j]? = some x) := fun j x q => by
    by_cases hj : i = j
    · subst hj
      rw [List.getElem?_set_self hi] at q
      exact .inl ⟨rfl, (Option.some.inj q).symm⟩
    · rw [List.getElem?_set_ne hj] at q
      exact .inr ⟨Ne.symm hj, q⟩
  have no : ∀ (j : Nat) (x : PyData), (st.ss.set i (.v d))[j]? = some (.o x) → j ≠ i ∧ st.ss[j]? = some (.o x) := fun j x q => by
    rcases hne j _ q with ⟨_, z⟩ | z
    · cases z
    · exact z
  refine ⟨a, o, e1, e3.frz e5, FX.own e4 e5, ?_⟩
  have h' : SR K sa B F H σ { st with ss := st.ss.set i .no } := by
    have hn' : ∀ (j : Nat) (x : Slot), x ≠ .no → (st.ss.set i .no)[j]? = some x → st.ss[j]? = some x := fun j x hx q => by
      by_cases hj : i = j
      · subst hj
        rw [List.getElem?_set_self hi] at q
        exact absurd (Option.some.inj q).symm hx
      · rwa [List.getElem?_set_ne hj] at q
    exact ⟨h.bh, h.fh, by rw [h.len]; simp, fun j x q => h.sl j x (hn' j _ (fun z => nomatch z) q), fun j x q => h.so j x (hn' j _ (fun z => nomatch z) q),
      fun j k x y b n q1 q2 => h.ap j k x y b n (hn' j _ (fun z => nomatch z) q1) (hn' k _ (fun z => nomatch z) q2), fun j q => h.sx j (hn' j _ (fun z => nomatch z) q), fun j ns q => h.sc j ns (hn' j _ (fun z => nomatch z) q), h.sr, fun j q => h.sy j (hn' j _ (fun z => nomatch z) q)⟩
  have h2 := h'.freeze (p := a) e2 e5 e6 fun j x q z => by
    by_cases hj : i = j
    · subst hj
      have q' : (st.ss.set i .no)[i]? = some (.o x) := q
      rw [List.getElem?_set_self hi] at q'
      cases q'
    · have q' : (st.ss.set i .no)[j]? = some (.o x) := q
      rw [List.getElem?_set_ne hj] at q'
      exact h.ap i j d x a hj e q' e1 z
  have keep : ∀ (j : Nat) (x : Slot), j ≠ i → st.ss[j]? = some x → (st.ss.set i .no)[j]? = some x := fun j x n q => by
    rw [List.getElem?_set_ne (Ne.symm n)]
    exact q
  refine ⟨h2.bh, h2.fh, by rw [h.len]; simp, fun j x q => ?_, fun j x q => ?_, fun j k x y b n q1 q2 => ?_, fun j q => ?_, fun j ns q => ?_, h2.sr, fun j q => ?_⟩
  · rcases hne j _ q with ⟨e7, z⟩ | ⟨n, z⟩
    · cases z
      subst e7
      exact ⟨.ref a, e1, e3.frz e5⟩
    · exact h2.sl j x (keep j _ n z)
  · obtain ⟨n, z⟩ := no j x q
    exact h2.so j x (keep j _ n z)
  · obtain ⟨n1, z1⟩ := no j x q1
    obtain ⟨n2, z2⟩ := no k y q2
    exact h2.ap j k x y b n (keep j _ n1 z1) (keep k _ n2 z2)
  · rcases hne j _ q with ⟨_, z⟩ | ⟨n, z⟩
    · cases z
    · exact h2.sx j (keep j _ n z)
  · rcases hne j _ q with ⟨_, z⟩ | ⟨n, z⟩
    · cases z
    · exact h2.sc j ns (keep j _ n z)
  · rcases hne j _ q with ⟨_, z⟩ | ⟨n, z⟩
    · cases z
    · exact h2.sy j (keep j _ n z)
end

/-! ### names, constants -/
def mC (d : PyData) : S → R Slot := fun st => .ok (.v d) st
def mVar (i : Nat) : S → R Slot := fun st => match st.ss[i]? with
  | some (.v d) => .ok (.v d) st
  | some (.o d) => .ok (.v d) { st with ss := st.ss.set i (.v d) }
  | some .src => .ok .src st
  | some .cel => .ok .cel st
  | _ => .bad
def mPk (i : Nat) : S → R Opd := fun st => match st.ss[i]? with
  | some (.v d) => .ok (.v d) st
  | some (.o d) => .ok (.s i d) st
  | _ => .bad
def mO (m : S → R Slot) : S → R Opd := fun st => match m st with
  | .ok (.v d) st' => .ok (.v d) st'
  | .ok (.o d) st' => .ok (.t d) st'
  | _ => .bad
section
variable {K : PySem.W.Frag} {X : Cx} {e : Expr} {m : S → R Slot}
theorem d_c {v : V} {d : PyData} (h : PE X e (tC v)) (r : ∀ F, Rp F v d) : PE X e (tM K (mC d)) := imE h fun σ H Q ⟨sa, B, F, st, r', st', h0, h1, k⟩ => by
  cases h1
  exact k sa F H v (.refl h0) (r F)
theorem d_int {i : Int} {j pos} : PE X (.Constant (.int i) j pos) (tM K (mC (.int i))) := d_c pe_int fun _ => .int i
theorem d_str {i : Str} {j pos} : PE X (.Constant (.str i) j pos) (tM K (mC (.str i))) := d_c pe_str fun _ => .str i
theorem d_bl {i : Bool} {j pos} : PE X (.Constant (.bool i) j pos) (tM K (mC (.bool i))) := d_c pe_bl fun _ => .bl i
theorem d_non {j pos} : PE X (.Constant .none j pos) (tM K (mC .none)) := d_c pe_non fun _ => .non
theorem d_var {i : Nat} (h : PE X e (tVar i)) : PE X e (tM K (mVar i)) := imE h fun σ H Q ⟨sa, B, F, st, r', st', h0, h1, k⟩ => by
  unfold mVar at h1
  cases q : st.ss[i]? with
  | none =>
    rw [q] at h1
    cases h1
  | some x =>
    rw [q] at h1
    cases x with
    | v d =>
      cases h1
      obtain ⟨v, e1, e2⟩ := h0.sl i d q
      exact ⟨v, e1, k sa F H v (.refl h0) e2⟩
    | o d =>
      cases h1
      obtain ⟨a, o, e1, e2, e3, e4⟩ := h0.frzAt q
      exact ⟨.ref a, e1, k sa _ H _ ⟨e4, e3, fun _ => rfl, fun z => z⟩ e2⟩
    | src =>
      cases h1
      obtain ⟨e1, e2⟩ := h0.sx i q
      exact ⟨_, e2, k sa F H _ (.refl h0) ⟨e1, rfl⟩⟩
    | cel =>
      cases h1
      obtain ⟨e1, e2⟩ := h0.sy i q
      exact ⟨_, e2, k sa F H _ (.refl h0) ⟨e1, rfl⟩⟩
    | no => cases h1
    | scr _ => cases h1
theorem p_var {i : Nat} (h : PE X e (tVar i)) : PE X e (tP K (mPk i)) := imE h fun σ H Q ⟨sa, B, F, st, r', st', h0, h1, k⟩ => by
  unfold mPk at h1
  cases q : st.ss[i]? with
  | none =>
    rw [q] at h1
    cases h1
  | some x =>
    rw [q] at h1
    cases x with
    | v d =>
      cases h1
      obtain ⟨v, e1, e2⟩ := h0.sl i d q
      exact ⟨v, e1, k sa F H v (.refl h0) e2⟩
    | o d =>
      cases h1
      obtain ⟨a, o, e1, _⟩ := h0.so i d q
      exact ⟨.ref a, e1, k sa F H _ (.refl h0) ⟨q, e1⟩⟩
    | src => cases h1
    | cel => cases h1
    | no => cases h1
    | scr _ => cases h1
theorem p_of (h : PE X e (tM K m)) : PE X e (tP K (mO m)) := imE h fun σ H Q ⟨sa, B, F, st, r', st', h0, h1, k⟩ => by
  unfold mO at h1
  cases q : m st with
  | bad =>
    rw [q] at h1
    cases h1
  | ok r st1 =>
    rw [q] at h1
    cases r with
    | v d =>
      cases h1
      exact ⟨sa, B, F, st, _, _, h0, q, fun sa' F' H' v a b => k sa' F' H' v a b⟩
    | o d =>
      cases h1
      exact ⟨sa, B, F, st, _, _, h0, q, fun sa' F' H' v a b => k sa' F' H' v a b⟩
    | no => cases h1
    | src => cases h1
    | cel => cases h1
    | scr _ => cases h1
end

/-! ### one operand, two operands -/
def m1 (g : PyData → Option Slot) (m : S → R Opd) : S → R Slot := fun st => match m st with
  | .ok x st1 => match g x.d with
    | some r => .ok r st1
    | none => .bad
  | .bad => .bad
/-- a name's own object is as it was read -/
def still : Opd → S → Prop
  | .s i d, st => st.ss[i]? = some (.o d) ∨ st.ss[i]? = some (.v d)
  | _, _ => True
open Classical in
noncomputable def m2 (g : PyData → PyData → Option Slot) (m m' : S → R Opd) : S → R Slot := fun st => match m st with
  | .ok x st1 => match m' st1 with
    | .ok y st2 => if still x st2 then (match g x.d y.d with
      | some r => .ok r st2
      | none => .bad) else .bad
    | .bad => .bad
  | .bad => .bad
/-- what an operation is worth: g at the data -/
def Ad1 (g : PyData → Option Slot) (r : V → Hp → VK → Prop) : Prop := ∀ (F H : Hp) (x : V) (dx : PyData) (s : Slot) (Q : VK), Sub F H → RdD F H x dx → g dx = some s → (∀ v F' H', Out F H s v F' H' → Q v H') → r x H Q
def Ad2 (g : PyData → PyData → Option Slot) (r : R2) : Prop := ∀ (F H : Hp) (x y : V) (dx dy : PyData) (s : Slot) (Q : VK), Sub F H → RdD F H x dx → RdD F H y dy → g dx dy = some s → (∀ v F' H', Out F H s v F' H' → Q v H') → r x y H Q
section
variable {K : PySem.W.Frag} {B : Hp} {σ : L2.St} {sa : Sa} {F H : Hp} {st : S}
theorem Ad1.or {g : PyData → Option Slot} {r r' : V → Hp → VK → Prop} {p : PyData → Bool} (a : Ad1 (fun d => if p d then g d else none) r) (b : Ad1 (fun d => if p d then none else g d) r') : Ad1 g fun x H Q => r x H Q ∨ r' x H Q :=
  fun F H x dx s Q sb rx e k => by
    cases h : p dx with
    | true => exact .inl (a F H x dx s Q sb rx (by simp only [h, if_true]; exact e) k)
    | false => exact .inr (b F H x dx s Q sb rx (by simp only [h]; exact e) k)
/-- two operands in a row -/
theorem tP_two (h0 : SR K sa B F H σ st) {m m' : S → R Opd} {x y : Opd} {st1 st2 : S} (e1 : m st = .ok x st1) (e2 : m' st1 = .ok y st2) (hs : still x st2) {RR : V → V → Hp → Prop}
    (k : ∀ sa2 F2 H2 v w, Rch K B σ sa F st sa2 F2 H2 st2 → RdD F2 H2 v x.d → RdD F2 H2 w y.d → RR v w H2) : tP K m σ H fun v H1 => tP K m' σ H1 fun w H2 => RR v w H2 := by
  refine ⟨sa, B, F, st, x, st1, h0, e1, fun sa1 F1 H1 v R1 p1 => ?_⟩
  cases x with
  | v d => exact ⟨sa1, B, F1, st1, y, st2, R1.r, e2, fun sa2 F2 H2 w R2 p2 => k sa2 F2 H2 v w (R1.trans R2) (.inl (Rp.mono R2.x.le p1)) (p2.rd R2.r)⟩
  | t d =>
    obtain ⟨a, o, rfl, h1, h2, h3, h4, h5, h6⟩ := p1
    have sb : Sub B (upd B a o) := Sub.new h3
    refine ⟨sa1, upd B a o, F1, st1, y, st2, R1.r.prot h1 h3 h5 h6, e2, fun sa2 F2 H2 w R2 p2 => ?_⟩
    exact k sa2 F2 H2 (.ref a) w (R1.trans ⟨R2.r.less sb, R2.x.weak sb, R2.k, R2.s⟩) (.inr ⟨a, o, rfl, R2.r.bh _ _ upd_same, h2.mono R2.x.le⟩) (p2.rd R2.r)
  | s i d =>
    refine ⟨sa1, B, F1, st1, y, st2, R1.r, e2, fun sa2 F2 H2 w R2 p2 => ?_⟩
    have q := p1.2
    rcases hs with hs | hs
    · obtain ⟨a, o, q1, q2, q3, _⟩ := R2.r.so i d hs
      rw [q1] at q
      have q' : V.ref a = v := Option.some.inj (Option.some.inj q)
      exact k sa2 F2 H2 v w (R1.trans R2) (.inr ⟨a, o, q'.symm, q2, q3⟩) (p2.rd R2.r)
    · obtain ⟨u, q1, q2⟩ := R2.r.sl i d hs
      rw [q1] at q
      have q' : u = v := Option.some.inj (Option.some.inj q)
      rw [q'] at q2
      exact k sa2 F2 H2 v w (R1.trans R2) (.inl q2) (p2.rd R2.r)
end
section
variable {K : PySem.W.Frag} {X : Cx} {e : Expr} {m m' : S → R Opd}
theorem r_1 {g : PyData → Option Slot} {r : V → Hp → VK → Prop} (ad : Ad1 g r) : ∀ σ H Q, tM K (m1 g m) σ H Q → tP K m σ H fun x H1 => r x H1 Q := fun σ H Q ⟨sa, B, F, st, r', st', h0, h1, k⟩ => by
  unfold m1 at h1
  cases q : m st with
  | bad =>
    rw [q] at h1
    cases h1
  | ok x st1 =>
    rw [q] at h1
    cases q2 : g x.d with
    | none =>
      simp only [q2] at h1
      cases h1
    | some s =>
      simp only [q2] at h1
      cases h1
      refine ⟨sa, B, F, st, x, _, h0, q, fun sa1 F1 H1 v R1 p1 => ad F1 H1 v x.d _ Q R1.r.fh (p1.rd R1.r) q2 fun w F' H' o => ?_⟩
      obtain ⟨a, b⟩ := R1.out o
      exact k sa1 F' H' w a b
theorem r_2 {g : PyData → PyData → Option Slot} {r : R2} (ad : Ad2 g r) : ∀ σ H Q, tM K (m2 g m m') σ H Q → tOp r (tP K m) (tP K m') σ H Q := fun σ H Q ⟨sa, B, F, st, r', st', h0, h1, k⟩ => by
  unfold m2 at h1
  cases q : m st with
  | bad =>
    rw [q] at h1
    cases h1
  | ok x st1 =>
    rw [q] at h1
    cases q2 : m' st1 with
    | bad =>
      simp only [q2] at h1
      cases h1
    | ok y st2 =>
      simp only [q2] at h1
      by_cases hs : still x st2
      · rw [if_pos hs] at h1
        cases q3 : g x.d y.d with
        | none =>
          simp only [q3] at h1
          cases h1
        | some s =>
          simp only [q3] at h1
          cases h1
          refine tP_two h0 q q2 hs fun sa2 F2 H2 v w R p1 p2 => ad F2 H2 v w _ _ _ Q R.r.fh p1 p2 q3 fun u F' H' o => ?_
          obtain ⟨a, b⟩ := R.out o
          exact k sa2 F' H' u a b
      · rw [if_neg hs] at h1
        cases h1
end
end Pd
end
section
set_option linter.all false
set_option maxRecDepth 100000
/-! Pd, part C: tests, and | or | not, conditional expressions; operators on data. -/
namespace Pd
open PySem PySem.Spec PyProof.Rows L2

/-! ### tests -/
def tMT (K : PySem.W.Frag) (m : S → R Bool) : TT := fun σ H Q => ∃ sa B F st b st', SR K sa B F H σ st ∧ m st = .ok b st' ∧ ∀ sa' F' H', Rch K B σ sa F st sa' F' H' st' → Q b H'
def mB (m : S → R Slot) : S → R Bool := fun st => match m st with
  | .ok (.v (.bool b)) st' => .ok b st'
  | _ => .bad
def mAnd (m m' : S → R Bool) : S → R Bool := fun st => match m st with
  | .ok true st1 => m' st1
  | .ok false st1 => .ok false st1
  | .bad => .bad
def mOr (m m' : S → R Bool) : S → R Bool := fun st => match m st with
  | .ok true st1 => .ok true st1
  | .ok false st1 => m' st1
  | .bad => .bad
def mNot (m : S → R Bool) : S → R Bool := fun st => match m st with
  | .ok b st1 => .ok (!b) st1
  | .bad => .bad
def mIf (c : S → R Bool) (m m' : S → R Slot) : S → R Slot := fun st => match c st with
  | .ok true st1 => m st1
  | .ok false st1 => m' st1
  | .bad => .bad
/-- and, or as values, the first ones bools -/
def mAndV (m m' : S → R Slot) : S → R Slot := fun st => match m st with
  | .ok (.v (.bool true)) st1 => m' st1
  | .ok (.v (.bool false)) st1 => .ok (.v (.bool false)) st1
  | _ => .bad
def mOrV (m m' : S → R Slot) : S → R Slot := fun st => match m st with
  | .ok (.v (.bool false)) st1 => m' st1
  | .ok (.v (.bool true)) st1 => .ok (.v (.bool true)) st1
  | _ => .bad
def mNotV (m : S → R Slot) : S → R Slot := fun st => match m st with
  | .ok (.v (.bool b)) st1 => .ok (.v (.bool (!b))) st1
  | _ => .bad
section
variable {K : PySem.W.Frag} {X : Cx} {e a b : Expr} {es : List Expr} {m m' : S → R Slot} {c c' : S → R Bool} {pos : Pos}
theorem r_B {t : TE} (h : ∀ σ H Q, tM K m σ H Q → t σ H Q) : ∀ σ H Q, tMT K (mB m) σ H Q → t σ H fun x H1 => ∃ k, x = .bl k ∧ Q k H1 := fun σ H Q ⟨sa, B, F, st, b', st', h0, h1, k⟩ => by
  unfold mB at h1
  cases q : m st with
  | bad =>
    rw [q] at h1
    cases h1
  | ok r st1 =>
    rw [q] at h1
    cases r with
    | v d =>
      cases d with
      | bool b =>
        cases h1
        exact h σ H _ ⟨sa, B, F, st, _, _, h0, q, fun sa' F' H' v R r => by
          cases (show Rp F' v (.bool b') from r)
          exact ⟨_, rfl, k sa' F' H' R⟩⟩
      | _ => cases h1
    | _ => cases h1
theorem t_val (h : PE X e (tM K m)) (he : ∀ whole, isTrue e X.env whole = (do let v ← whole; standAt e.pos; holding [v] (truthy v)) := by intro _; rfl) : PT X e (tMT K (mB m)) :=
  imT (pt_val h he) (r_B fun _ _ _ q => q)
theorem r_and : ∀ σ H Q, tMT K (mAnd c c') σ H Q → tAnd (tMT K c) (tMT K c') σ H Q := fun σ H Q ⟨sa, B, F, st, b', st', h0, h1, k⟩ => by
  unfold mAnd at h1
  cases q : c st with
  | bad =>
    rw [q] at h1
    cases h1
  | ok b1 st1 =>
    rw [q] at h1
    cases b1 with
    | true => exact ⟨sa, B, F, st, _, _, h0, q, fun sa1 F1 H1 R1 => by
        try dsimp only
        rw [if_pos rfl]
        exact ⟨sa1, B, F1, st1, _, _, R1.r, h1, fun sa' F' H' R2 => k sa' F' H' (R1.trans R2)⟩⟩
    | false =>
      cases h1
      exact ⟨sa, B, F, st, _, _, h0, q, fun sa1 F1 H1 R1 => by
        try dsimp only
        rw [if_neg Bool.false_ne_true]
        exact k sa1 F1 H1 R1⟩
theorem r_or : ∀ σ H Q, tMT K (mOr c c') σ H Q → tOr (tMT K c) (tMT K c') σ H Q := fun σ H Q ⟨sa, B, F, st, b', st', h0, h1, k⟩ => by
  unfold mOr at h1
  cases q : c st with
  | bad =>
    rw [q] at h1
    cases h1
  | ok b1 st1 =>
    rw [q] at h1
    cases b1 with
    | false => exact ⟨sa, B, F, st, _, _, h0, q, fun sa1 F1 H1 R1 => by
        try dsimp only
        rw [if_neg Bool.false_ne_true]
        exact ⟨sa1, B, F1, st1, _, _, R1.r, h1, fun sa' F' H' R2 => k sa' F' H' (R1.trans R2)⟩⟩
    | true =>
      cases h1
      exact ⟨sa, B, F, st, _, _, h0, q, fun sa1 F1 H1 R1 => by
        try dsimp only
        rw [if_pos rfl]
        exact k sa1 F1 H1 R1⟩
theorem r_not : ∀ σ H Q, tMT K (mNot c) σ H Q → tNot (tMT K c) σ H Q := fun σ H Q ⟨sa, B, F, st, b', st', h0, h1, k⟩ => by
  unfold mNot at h1
  cases q : c st with
  | bad =>
    rw [q] at h1
    cases h1
  | ok b1 st1 =>
    rw [q] at h1
    cases h1
    exact ⟨sa, B, F, st, _, _, h0, q, k⟩
theorem r_if : ∀ σ H Q, tM K (mIf c m m') σ H Q → tIf (tMT K c) (tM K m) (tM K m') σ H Q := fun σ H Q ⟨sa, B, F, st, b', st', h0, h1, k⟩ => by
  unfold mIf at h1
  cases q : c st with
  | bad =>
    rw [q] at h1
    cases h1
  | ok b1 st1 =>
    rw [q] at h1
    refine ⟨sa, B, F, st, _, _, h0, q, fun sa1 F1 H1 R1 => ?_⟩
    cases b1 with
    | true =>
      try dsimp only
      rw [if_pos rfl]
      exact ⟨sa1, B, F1, st1, _, _, R1.r, h1, fun sa' F' H' v R2 => k sa' F' H' v (R1.trans R2)⟩
    | false =>
      try dsimp only
      rw [if_neg Bool.false_ne_true]
      exact ⟨sa1, B, F1, st1, _, _, R1.r, h1, fun sa' F' H' v R2 => k sa' F' H' v (R1.trans R2)⟩
theorem r_andV : ∀ σ H Q, tM K (mAndV m m') σ H Q → tAndV (tM K m) (tM K m') σ H Q := fun σ H Q ⟨sa, B, F, st, r', st', h0, h1, k⟩ => by
  unfold mAndV at h1
  cases q : m st with
  | bad =>
    rw [q] at h1
    cases h1
  | ok r st1 =>
    rw [q] at h1
    cases r with
    | v d =>
      cases d with
      | bool b =>
        refine ⟨sa, B, F, st, _, _, h0, q, fun sa1 F1 H1 v R1 p1 => ?_⟩
        cases (show Rp F1 v (.bool b) from p1)
        refine ⟨b, rfl, ?_⟩
        cases b with
        | true =>
          try dsimp only
          rw [if_pos rfl]
          exact ⟨sa1, B, F1, st1, _, _, R1.r, h1, fun sa' F' H' v R2 => k sa' F' H' v (R1.trans R2)⟩
        | false =>
          try dsimp only
          rw [if_neg Bool.false_ne_true]
          cases h1
          exact k sa1 F1 H1 _ R1 (Rp.bl false)
      | _ => cases h1
    | _ => cases h1
theorem r_orV : ∀ σ H Q, tM K (mOrV m m') σ H Q → tOrV (tM K m) (tM K m') σ H Q := fun σ H Q ⟨sa, B, F, st, r', st', h0, h1, k⟩ => by
  unfold mOrV at h1
  cases q : m st with
  | bad =>
    rw [q] at h1
    cases h1
  | ok r st1 =>
    rw [q] at h1
    cases r with
    | v d =>
      cases d with
      | bool b =>
        refine ⟨sa, B, F, st, _, _, h0, q, fun sa1 F1 H1 v R1 p1 => ?_⟩
        cases (show Rp F1 v (.bool b) from p1)
        refine ⟨b, rfl, ?_⟩
        cases b with
        | false =>
          try dsimp only
          rw [if_neg Bool.false_ne_true]
          exact ⟨sa1, B, F1, st1, _, _, R1.r, h1, fun sa' F' H' v R2 => k sa' F' H' v (R1.trans R2)⟩
        | true =>
          try dsimp only
          rw [if_pos rfl]
          cases h1
          exact k sa1 F1 H1 _ R1 (Rp.bl true)
      | _ => cases h1
    | _ => cases h1
theorem r_notV : ∀ σ H Q, tM K (mNotV m) σ H Q → tNotV (tM K m) σ H Q := fun σ H Q ⟨sa, B, F, st, r', st', h0, h1, k⟩ => by
  unfold mNotV at h1
  cases q : m st with
  | bad =>
    rw [q] at h1
    cases h1
  | ok r st1 =>
    rw [q] at h1
    cases r with
    | v d =>
      cases d with
      | bool b =>
        cases h1
        refine ⟨sa, B, F, st, _, _, h0, q, fun sa1 F1 H1 v R1 p1 => ?_⟩
        cases (show Rp F1 v (.bool b) from p1)
        exact ⟨b, rfl, k sa1 F1 H1 _ R1 (Rp.bl _)⟩
      | _ => cases h1
    | _ => cases h1
/-- the rules -/
theorem w_and1 (h : PT X a (tMT K c)) : PW X (.BoolOp .And [a] pos) (tMT K c) := pw_and1 h
theorem w_or1 (h : PT X a (tMT K c)) : PW X (.BoolOp .Or [a] pos) (tMT K c) := pw_or1 h
theorem imW {t t' : TT} (h : PW X e t) (i : ∀ σ H Q, t' σ H Q → t σ H Q) : PW X e t' := ⟨fun wh pins s σ H Q I q => h.run wh pins s σ H Q I (i σ H Q q)⟩
theorem w_and (h : PT X a (tMT K c)) (h' : PW X (.BoolOp .And (b :: es) pos) (tMT K c')) : PW X (.BoolOp .And (a :: b :: es) pos) (tMT K (mAnd c c')) := imW (pw_and h h') r_and
theorem w_or (h : PT X a (tMT K c)) (h' : PW X (.BoolOp .Or (b :: es) pos) (tMT K c')) : PW X (.BoolOp .Or (a :: b :: es) pos) (tMT K (mOr c c')) := imW (pw_or h h') r_or
theorem t_not (h : PT X a (tMT K c)) : PT X (.UnaryOp .Not a pos) (tMT K (mNot c)) := imT (pt_not h) r_not
theorem d_if {t : Expr} (hc : PT X t (tMT K c)) (ha : PE X a (tM K m)) (hb : PE X b (tM K m')) : PE X (.IfExp t a b pos) (tM K (mIf c m m')) := imE (pe_ifExp hc ha hb) r_if
theorem d_one {op} (h : PE X a (tM K m)) : PE X (.BoolOp op [a] pos) (tM K m) := pe_one h
theorem d_and (h : PE X a (tM K m)) (h' : PE X (.BoolOp .And (b :: es) pos) (tM K m')) : PE X (.BoolOp .And (a :: b :: es) pos) (tM K (mAndV m m')) := imE (pe_and h h') r_andV
theorem d_or (h : PE X a (tM K m)) (h' : PE X (.BoolOp .Or (b :: es) pos) (tM K m')) : PE X (.BoolOp .Or (a :: b :: es) pos) (tM K (mOrV m m')) := imE (pe_or h h') r_orV
theorem d_not (h : PE X a (tM K m)) : PE X (.UnaryOp .Not a pos) (tM K (mNotV m)) := imE (pe_not h) r_notV
end

/-! ### operators -/
/-- operators by a set of rules -/
def OpD (X : Cx) (f : Value → Value → Sem Value) (g : PyData → PyData → Option Slot) : Prop := ∃ r, OpR X f r ∧ Ad2 g r
def RdAll (g : PyData → PyData → Option Slot) : R2 := fun x y H Q => ∃ F dx dy s, Sub F H ∧ RdD F H x dx ∧ RdD F H y dy ∧ g dx dy = some s ∧ ∀ v F' H', Out F H s v F' H' → Q v H'
theorem OpD.of {X : Cx} {f : Value → Value → Sem Value} {g : PyData → PyData → Option Slot} (h : OpR X f (RdAll g)) : OpD X f g := ⟨_, h, fun F H x y dx dy s Q sb rx ry e k => ⟨F, dx, dy, s, sb, rx, ry, e, k⟩⟩
section
variable {K : PySem.W.Frag} {X : Cx} {a b c : Expr} {m m' : S → R Opd} {pos : Pos} {g : PyData → PyData → Option Slot}
theorem d_bin {op : Operator} (o : OpD X (binaryOp op) g) (ha : PE X a (tP K m)) (hb : PE X b (tP K m')) : PE X (.BinOp a op b pos) (tM K (m2 g m m')) := by
  obtain ⟨r, h1, h2⟩ := o
  exact imE (pe_op h1 ha hb) (r_2 h2)
theorem d_cmp {op : CmpOp} (o : OpD X (compareOp op) g) (ha : PE X a (tP K m)) (hb : PE X b (tP K m')) (hm : behindInMarks op b = false) : PE X (.Compare a [op] [b] pos) (tM K (m2 g m m')) := by
  obtain ⟨r, h1, h2⟩ := o
  exact imE (pe_cmpR h1 ha hb hm) (r_2 h2)
theorem t_cmp {op : CmpOp} (o : OpD X (compareOp op) g) (ha : PE X a (tP K m)) (hb : PE X b (tP K m')) (hm : behindInMarks op b = false) : PT X (.Compare a [op] [b] pos) (tMT K (mB (m2 g m m'))) := by
  obtain ⟨r, h1, h2⟩ := o
  exact imT (pt_cmpR h1 ha hb hm) (r_B (r_2 h2))
end

def gI (f : Int → Int → Option PyData) : PyData → PyData → Option Slot
  | .int i, .int j => (f i j).map .v
  | _, _ => none
def okLen (n : Nat) : Bool := decide (n ≤ 16777216)
theorem okLen_le {n : Nat} (h : okLen n = true) : n ≤ sizeLine := by
  have e : sizeLine = 16777216 := by decide
  rw [e]
  exact of_decide_eq_true h
def gAdd : PyData → PyData → Option Slot
  | .int i, .int j => some (.v (.int (i + j)))
  | .tuple a, .tuple b => if okLen (a.length + b.length) then some (.v (.tuple (a ++ b))) else none
  | .list a, .list b => if okLen (a.length + b.length) then some (.o (.list (a ++ b))) else none
  | .str a, .str b => if okLen (a.length + b.length) then some (.v (.str (a ++ b))) else none
  | _, _ => none
def gSub : PyData → PyData → Option Slot
  | .int i, .int j => some (.v (.int (i - j)))
  | _, _ => none
def mulOk (i j : Int) : Bool := (decide (-(2 ^ 64) < i) && decide (i < 2 ^ 64)) || (decide (-(2 ^ 64) < j) && decide (j < 2 ^ 64))
def gMul : PyData → PyData → Option Slot
  | .int i, .int j => if mulOk i j then some (.v (.int (i * j))) else none
  | .list a, .int k => if decide (-(2 ^ 63) ≤ k) && decide (k < 2 ^ 63) && okLen (a.length * k.toNat) then some (.o (.list (List.replicate k.toNat a).flatten)) else none
  | .tuple a, .int k => if decide (2 ≤ k) && decide (k ≤ 1000) && decide (a.length ≤ 1000) && !a.isEmpty then some (.v (.tuple (List.replicate k.toNat a).flatten)) else none
  | _, _ => none
def gDiv : PyData → PyData → Option Slot
  | .int i, .int j => if decide (0 < j) && decide (j < 1073741824) then some (.v (.int (i / j))) else none
  | _, _ => none
def gMod : PyData → PyData → Option Slot
  | .int i, .int j => if decide (0 < j) then some (.v (.int (i % j))) else none
  | _, _ => none
def gPow : PyData → PyData → Option Slot
  | .int i, .int j => if decide (0 ≤ j) && decide (j ≤ 1000000) && decide (i.natAbs < 2 ^ 64) then some (.v (.int (i ^ j.toNat))) else none
  | _, _ => none
def gCmp (p : Int → Int → Bool) : PyData → PyData → Option Slot
  | .int i, .int j => some (.v (.bool (p i j)))
  | _, _ => none
section
variable {X : Cx}
theorem RpL.nil_iff {F : Hp} {vs : List V} {ds : List PyData} (h : RpL F vs ds) : vs = [] ↔ ds = [] := by
  cases h <;> simp
theorem o_add : OpD X (binaryOp .Add) gAdd := .of fun pins s σ H x y v u Q I rx ry ⟨F, dx, dy, sl, sb, hx, hy, e, k⟩ => by
  unfold gAdd at e
  split at e
  · cases e
    rw [hx.int] at rx
    rw [hy.int] at ry
    exact op_add pins s σ H _ _ v u Q I rx ry ⟨_, _, rfl, rfl, k _ _ _ (.v (.int _))⟩
  · split at e
    · rename_i hz
      cases e
      obtain ⟨a, xs, rfl, e1, r1⟩ := hx.tup sb
      obtain ⟨b, ys, rfl, e2, r2⟩ := hy.tup sb
      refine op_catA pins s σ H _ _ v u Q I rx ry ⟨a, b, xs, ys, rfl, rfl, .inl (.inl (sb _ _ e1)), .inl (.inl (sb _ _ e2)), by rw [r1.length, r2.length]; exact okLen_le hz, fun z => ?_, fun _ z => ?_, fun _ _ p hp => ?_⟩
      · cases r1.nil_iff.mp z
        exact k _ _ _ (.v (.tup e2 (by simpa using r2)))
      · cases r2.nil_iff.mp z
        exact k _ _ _ (.v (.tup e1 (by simpa using r1)))
      · exact k _ _ _ (.t (r1.append r2) hp)
    · cases e
  · split at e
    · rename_i hz
      cases e
      obtain ⟨a, xs, rfl, e1, r1⟩ := hx.lst sb
      obtain ⟨b, ys, rfl, e2, r2⟩ := hy.lst sb
      exact op_cat pins s σ H _ _ v u Q I rx ry ⟨a, b, xs, ys, rfl, rfl, e1, e2, by rw [r1.length, r2.length]; exact okLen_le hz, fun p hp => k _ _ _ (.o (.lst (r1.append r2)) hp)⟩
    · cases e
  · split at e
    · rename_i hz
      cases e
      rw [hx.str] at rx
      rw [hy.str] at ry
      exact op_add_str pins s σ H _ _ v u Q I rx ry ⟨_, _, rfl, rfl, okLen_le hz, k _ _ _ (.v (.str _))⟩
    · cases e
  · cases e
theorem o_sub : OpD X (binaryOp .Sub) gSub := .of fun pins s σ H x y v u Q I rx ry ⟨F, dx, dy, sl, sb, hx, hy, e, k⟩ => by
  unfold gSub at e
  split at e
  · cases e
    rw [hx.int] at rx
    rw [hy.int] at ry
    exact op_sub pins s σ H _ _ v u Q I rx ry ⟨_, _, rfl, rfl, k _ _ _ (.v (.int _))⟩
  · cases e
theorem o_div : OpD X (binaryOp .FloorDiv) gDiv := .of fun pins s σ H x y v u Q I rx ry ⟨F, dx, dy, sl, sb, hx, hy, e, k⟩ => by
  unfold gDiv at e
  split at e
  · split at e
    · rename_i hz
      cases e
      rw [hx.int] at rx
      rw [hy.int] at ry
      simp only [Bool.and_eq_true, decide_eq_true_eq] at hz
      exact op_fdiv pins s σ H _ _ v u Q I rx ry ⟨_, _, rfl, rfl, hz, k _ _ _ (.v (.int _))⟩
    · cases e
  · cases e
theorem o_mod : OpD X (binaryOp .Mod) gMod := .of fun pins s σ H x y v u Q I rx ry ⟨F, dx, dy, sl, sb, hx, hy, e, k⟩ => by
  unfold gMod at e
  split at e
  · split at e
    · rename_i hz
      cases e
      rw [hx.int] at rx
      rw [hy.int] at ry
      exact op_mod pins s σ H _ _ v u Q I rx ry ⟨_, _, rfl, rfl, of_decide_eq_true hz, k _ _ _ (.v (.int _))⟩
    · cases e
  · cases e
theorem o_pow : OpD X (binaryOp .Pow) gPow := .of fun pins s σ H x y v u Q I rx ry ⟨F, dx, dy, sl, sb, hx, hy, e, k⟩ => by
  unfold gPow at e
  split at e
  · split at e
    · rename_i hz
      cases e
      rw [hx.int] at rx
      rw [hy.int] at ry
      simp only [Bool.and_eq_true, decide_eq_true_eq] at hz
      exact op_pow pins s σ H _ _ v u Q I rx ry ⟨_, _, rfl, rfl, ⟨hz.1.1, hz.1.2, hz.2⟩, k _ _ _ (.v (.int _))⟩
    · cases e
  · cases e
theorem o_mul : OpD X (binaryOp .Mult) gMul := .of fun pins s σ H x y v u Q I rx ry ⟨F, dx, dy, sl, sb, hx, hy, e, k⟩ => by
  unfold gMul at e
  split at e
  · split at e
    · rename_i hz
      cases e
      rw [hx.int] at rx
      rw [hy.int] at ry
      unfold mulOk at hz
      simp only [Bool.or_eq_true, Bool.and_eq_true, decide_eq_true_eq] at hz
      exact op_mul pins s σ H _ _ v u Q I rx ry ⟨_, _, rfl, rfl, hz, k _ _ _ (.v (.int _))⟩
    · cases e
  · split at e
    · rename_i hz
      cases e
      obtain ⟨a, xs, rfl, e1, r1⟩ := hx.lst sb
      rw [hy.int] at ry
      simp only [Bool.and_eq_true, decide_eq_true_eq] at hz
      exact op_rep pins s σ H _ _ v u Q I rx ry ⟨a, _, xs, rfl, rfl, e1, hz.1.1, hz.1.2, by rw [r1.length]; exact okLen_le hz.2, fun p hp => k _ _ _ (.o (.lst (r1.rep _)) hp)⟩
    · cases e
  · split at e
    · rename_i hz
      cases e
      obtain ⟨a, xs, rfl, e1, r1⟩ := hx.tup sb
      rw [hy.int] at ry
      simp only [Bool.and_eq_true, decide_eq_true_eq, Bool.not_eq_true', List.isEmpty_eq_false_iff] at hz
      exact op_repT pins s σ H _ _ v u Q I rx ry ⟨a, _, xs, rfl, rfl, .inl (.inl (sb _ _ e1)), fun z => hz.2 (r1.nil_iff.mp z), hz.1.1.1, hz.1.1.2, by rw [r1.length]; exact hz.1.2, fun p hp => k _ _ _ (.t (r1.rep _) hp)⟩
    · cases e
  · cases e
theorem o_cmpI {op : CmpOp} {p : Int → Int → Bool} (h : OpR X (compareOp op) (rI0 fun i j => .bl (p i j))) : OpD X (compareOp op) (gCmp p) := .of fun pins s σ H x y v u Q I rx ry ⟨F, dx, dy, sl, sb, hx, hy, e, k⟩ => by
  unfold gCmp at e
  split at e
  · cases e
    rw [hx.int] at rx
    rw [hy.int] at ry
    exact h pins s σ H _ _ v u Q I rx ry ⟨_, _, rfl, rfl, k _ _ _ (.v (.bl _))⟩
  · cases e
end
end Pd
end
section
set_option linter.all false
set_option maxRecDepth 100000
/-! Pd, part D: == != in not in, is None; order; items, slices; displays. -/
namespace Pd
open PySem PySem.Spec PyProof.Rows L2

mutual
def noList : PyData → Bool
  | .list _ => false
  | .tuple ds => noListAll ds
  | .dict kvs => noListKv kvs
  | _ => true
def noListAll : List PyData → Bool
  | [] => true
  | d :: ds => noList d && noListAll ds
def noListKv : List (PyData × PyData) → Bool
  | [] => true
  | (_, d) :: ds => noList d && noListKv ds
end
section
variable {X : Cx} {pins : List (Addr × Obj)} {σ : L2.St} {H F : Hp} {s : Shared}
/-- the keys of a dict read -/
theorem keys_read {knd : KeyKind X.prog X.w Key} (hk : ∀ k v, knd.is k v = keyIs k v) : ∀ {es : List DictEntry} {kvs : List (Key × Value)}, Pairs knd es kvs → ReadsAll s.heap (es.map (·.key)) (kvs.map fun p => kD p.1) [] := by
  intro es kvs h
  induction h with
  | nil => exact .nil
  | @cons e kv es kvs h1 h2 h3 ih =>
    rw [hk] at h1
    obtain ⟨k, v⟩ := kv
    have one : Reads s.heap e.key (kD k) [] := by
      rcases keyIs_shape h1 with ⟨i, t, e1, e2⟩ | ⟨x, t, e1, e2⟩
      · have e1' : k = .inl i := e1
        rw [e2, e1']
        exact Reads.int i t
      · have e1' : k = .inr x := e1
        rw [e2, e1']
        exact Reads.str x t
    exact (ReadsAll.cons one ih : ReadsAll s.heap _ _ ([] ++ []))
theorem pairs_vals {knd : KeyKind X.prog X.w Key} : ∀ {es : List DictEntry} {kvs : List (Key × Value)}, Pairs knd es kvs → es.map (·.val) = kvs.map (·.2)
  | _, _, .nil => rfl
  | _, _, .cons _ h2 h3 => by rw [List.map_cons, List.map_cons, pairs_vals h3, h2]
theorem key1_reads {k : Key} {u : Value} (r : RelV (kV k) u) : Reads s.heap u (kD k) [] := by
  cases k with
  | inl i =>
    obtain ⟨t, rfl⟩ := r
    exact Reads.int i t
  | inr x =>
    obtain ⟨t, rfl⟩ := r
    exact Reads.str x t
theorem keyl_reads : ∀ {ks : List Key} {us : List Value}, Vals (ks.map kV) us → ReadsAll s.heap us (ks.map kD) []
  | [], _, h => by
    cases h
    exact .nil
  | k :: ks, _, h => by
    cases h with
    | cons a b => exact (ReadsAll.cons (key1_reads a) (keyl_reads b) : ReadsAll s.heap _ _ ([] ++ []))
theorem tkeys_read (I : Inv X pins σ H s) : ∀ {kvs : List (List Key × V)} {xs : List (List Key × Addr × Value)}, Paired (fun (p : List Key × V) (q : List Key × Addr × Value) => p.1 = q.1 ∧ H q.2.1 = some (.tup (p.1.map kV)) ∧ RelV p.2 q.2.2) kvs xs →
    ReadsAll s.heap (xs.map fun x => Value.ref x.2.1) (kvs.map fun p => tD p.1) []
  | _, _, .nil => .nil
  | _, _, .cons ⟨_, h, _⟩ t => by
    obtain ⟨its, rv, ⟨o, ho, hc, n, hd⟩, _⟩ := I.tuple (.inl (.inl h))
    exact (ReadsAll.cons (Reads.tuple ho hc hd (keyl_reads (by simpa using rv))) (tkeys_read I t) : ReadsAll s.heap _ _ ([] ++ []))
theorem RpK.keys {F : Hp} : ∀ {ps : List (Key × V)} {kvs : List (PyData × PyData)}, RpK F ps kvs → kvs.map (·.1) = ps.map fun p => kD p.1
  | _, _, .nil => rfl
  | _, _, .cons _ t => by rw [List.map_cons, List.map_cons, RpK.keys t]
theorem RpT.keys {F : Hp} : ∀ {ps : List (List Key × V)} {kvs : List (PyData × PyData)}, RpT F ps kvs → kvs.map (·.1) = ps.map fun p => tD p.1
  | _, _, .nil => rfl
  | _, _, .cons _ t => by rw [List.map_cons, List.map_cons, RpT.keys t]
theorem RpK.valsL {F : Hp} : ∀ {ps : List (Key × V)} {kvs : List (PyData × PyData)}, RpK F ps kvs → RpL F (ps.map (·.2)) (kvs.map (·.2))
  | _, _, .nil => .nil
  | _, _, .cons a t => .cons a (RpK.valsL t)
theorem RpT.valsL {F : Hp} : ∀ {ps : List (List Key × V)} {kvs : List (PyData × PyData)}, RpT F ps kvs → RpL F (ps.map (·.2)) (kvs.map (·.2))
  | _, _, .nil => .nil
  | _, _, .cons a t => .cons a (RpT.valsL t)
theorem noList_kv : ∀ (kvs : List (PyData × PyData)), noListKv kvs = true → noListAll (kvs.map (·.2)) = true
  | [], _ => rfl
  | (p1, p2) :: kvs, h => by
    have h' : noList p2 = true ∧ noListKv kvs = true := by simpa [noListKv] using h
    show noListAll (p2 :: kvs.map (·.2)) = true
    rw [noListAll, h'.1, noList_kv kvs h'.2]
    rfl
theorem kv_keys {κ : Type} : ∀ {ps : List (κ × V)} {qs : List (κ × Value)}, KV ps qs → ps.map (·.1) = qs.map (·.1)
  | _, _, .nil => rfl
  | _, _, .cons h t => by rw [List.map_cons, List.map_cons, h.1, kv_keys t]
theorem kv_vals {κ : Type} : ∀ {ps : List (κ × V)} {qs : List (κ × Value)}, KV ps qs → Vals (ps.map (·.2)) (qs.map (·.2))
  | _, _, .nil => .nil
  | _, _, .cons h t => .cons h.2 (kv_vals t)
theorem kt_vals : ∀ {kvs : List (List Key × V)} {xs : List (List Key × Addr × Value)}, Paired (fun (p : List Key × V) (q : List Key × Addr × Value) => p.1 = q.1 ∧ H q.2.1 = some (.tup (p.1.map kV)) ∧ RelV p.2 q.2.2) kvs xs → Vals (kvs.map (·.2)) (xs.map fun x => x.2.2)
  | _, _, .nil => .nil
  | _, _, .cons h t => .cons h.2.2 (kt_vals t)
/-- an object reads, if its items do -/
theorem OR.reads' (I : Inv X pins σ H s) {a : Addr} {o : HO} {d : PyData} (e : H a = some o) (r : OR F o d)
    (all : ∀ (ds : List PyData) (vs : List V) (us : List Value), (∀ d' ∈ ds, sizeOf d' < sizeOf d) → RpL F vs ds → Vals vs us → ∃ as, ReadsAll s.heap us ds as ∧ (noListAll ds = true → sysModules ∉ as)) :
    ∃ as, Reads s.heap (.ref a) d as ∧ (noList d = true → sysModules ∉ as) := by
  cases r with
  | @lst xs ds q =>
    obtain ⟨its, rv, ⟨o, n, ho, hc, _, hd⟩, _⟩ := I.list (.inl (.inl e))
    obtain ⟨as, hr, _⟩ := all ds _ its (fun d' m => by
      have := List.sizeOf_lt_of_mem m
      simp only [PyData.list.sizeOf_spec]
      omega) q rv
    exact ⟨_, Reads.list ho hc hd hr, fun z => by simp [noList] at z⟩
  | @dK ps kvs q =>
    obtain ⟨_, hm, vs, r1, o, es, ep, ho, hx, hd, _, hp, _⟩ := (show ObjOk X.prog X.w H s.heap a (.dK ps) from I.hok a _ e)
    have hv : Vals (ps.map (·.2)) (es.toList.map (·.val)) := by
      rw [pairs_vals hp]
      exact kv_vals r1
    have rl : RpL F (ps.map (·.2)) (kvs.map (·.2)) := q.valsL
    obtain ⟨as, hr, hn⟩ := all (kvs.map (·.2)) _ _ (fun d' m => by
      obtain ⟨p, hp, rfl⟩ := List.mem_map.mp m
      have h1 := List.sizeOf_lt_of_mem hp
      obtain ⟨p1, p2⟩ := p
      simp only [PyData.dict.sizeOf_spec, Prod.mk.sizeOf_spec] at *
      omega) rl hv
    have hk : ReadsAll s.heap (es.toList.map (·.key)) (kvs.map (·.1)) [] := by
      rw [q.keys]
      have := keys_read (X := X) (s := s) (fun _ _ => rfl) hp
      rw [show vs.map (fun p => kD p.1) = (vs.map (·.1)).map kD by rw [List.map_map]; rfl, ← kv_keys r1, List.map_map] at this
      exact this
    refine ⟨_, Reads.dict ho hx.1 hd hk hr, fun z => ?_⟩
    have hz : noListAll (kvs.map (·.2)) = true := noList_kv kvs (by simpa [noList] using z)
    have h1 := hn hz
    have h2 : a ≠ sysModules := fun z => by
      rw [z] at hm
      simp at hm
    simp only [List.append_nil, List.cons_append, List.nil_append, List.mem_cons, not_or]
    exact ⟨Ne.symm h2, h1⟩
  | @dT ps kvs q =>
    obtain ⟨_, hm, xs, r1, o, es, ep, ho, hx, hd, he, _⟩ := (show ObjOk X.prog X.w H s.heap a (.dT ps) from I.hok a _ e)
    have hv : Vals (ps.map (·.2)) (es.toList.map (·.val)) := by
      rw [he, List.map_map]
      exact kt_vals r1
    have rl : RpL F (ps.map (·.2)) (kvs.map (·.2)) := q.valsL
    obtain ⟨as, hr, hn⟩ := all (kvs.map (·.2)) _ _ (fun d' m => by
      obtain ⟨p, hp, rfl⟩ := List.mem_map.mp m
      have h1 := List.sizeOf_lt_of_mem hp
      obtain ⟨p1, p2⟩ := p
      simp only [PyData.dict.sizeOf_spec, Prod.mk.sizeOf_spec] at *
      omega) rl hv
    have hk : ReadsAll s.heap (es.toList.map (·.key)) (kvs.map (·.1)) [] := by
      rw [q.keys, he, List.map_map]
      exact tkeys_read I r1
    refine ⟨_, Reads.dict ho hx.1 hd hk hr, fun z => ?_⟩
    have hz : noListAll (kvs.map (·.2)) = true := noList_kv kvs (by simpa [noList] using z)
    have h1 := hn hz
    have h2 : a ≠ sysModules := fun z => by
      rw [z] at hm
      simp at hm
    simp only [List.append_nil, List.cons_append, List.nil_append, List.mem_cons, not_or]
    exact ⟨Ne.symm h2, h1⟩
theorem Rp.readsN (I : Inv X pins σ H s) (sb : Sub F H) : ∀ (n : Nat) (d : PyData) (v : V) (u : Value), sizeOf d < n → Rp F v d → RelV v u → ∃ as, Reads s.heap u d as ∧ (noList d = true → sysModules ∉ as)
  | 0, _, _, _, hn, _, _ => absurd hn (by omega)
  | n + 1, d, v, u, hn, h, r => by
    have all : ∀ (ds : List PyData) (vs : List V) (us : List Value), (∀ d' ∈ ds, sizeOf d' < n) → RpL F vs ds → Vals vs us → ∃ as, ReadsAll s.heap us ds as ∧ (noListAll ds = true → sysModules ∉ as) := by
      intro ds
      induction ds with
      | nil =>
        intro vs us _ a b
        cases a
        cases b
        exact ⟨[], .nil, fun _ => by simp⟩
      | cons d ds ih =>
        intro vs us hs a b
        cases a with
        | cons a1 a2 =>
          cases b with
          | cons b1 b2 =>
            obtain ⟨as, q1, z1⟩ := Rp.readsN I sb n d _ _ (hs d (by simp)) a1 b1
            obtain ⟨bs, q2, z2⟩ := ih _ _ (fun d' m => hs d' (by simp [m])) a2 b2
            refine ⟨_, .cons q1 q2, fun z => ?_⟩
            have z' : noList d = true ∧ noListAll ds = true := by simpa [noListAll] using z
            intro m
            rcases List.mem_append.mp m with m | m
            · exact z1 z'.1 m
            · exact z2 z'.2 m
    cases h with
    | non =>
      cases r
      exact ⟨_, Reads.none, fun _ => by simp⟩
    | bl b =>
      cases r
      exact ⟨_, Reads.bool b, fun _ => by simp⟩
    | int i =>
      obtain ⟨t, rfl⟩ := r
      exact ⟨_, Reads.int i t, fun _ => by simp⟩
    | str x =>
      obtain ⟨t, rfl⟩ := r
      exact ⟨_, Reads.str x t, fun _ => by simp⟩
    | @tup a xs ds e ha =>
      cases r
      obtain ⟨its, rv, ⟨o, ho, hc, n', hd⟩, _⟩ := I.tuple (.inl (.inl (sb _ _ e)))
      obtain ⟨as, hr, hz⟩ := all ds _ its (fun d' m => by
        have := List.sizeOf_lt_of_mem m
        simp only [PyData.tuple.sizeOf_spec] at hn
        omega) ha rv
      exact ⟨_, Reads.tuple ho hc hd hr, fun z => hz (by simpa [noList] using z)⟩
    | @lst a xs ds e ha =>
      cases r
      exact OR.reads' I (sb _ _ e) (.lst ha) fun ds vs us hs => all ds vs us fun d' m => by
        have := hs d' m
        omega
    | @dK a ps kvs e ha =>
      cases r
      exact OR.reads' I (sb _ _ e) (.dK ha) fun ds vs us hs => all ds vs us fun d' m => by
        have := hs d' m
        omega
    | @dT a ps kvs e ha =>
      cases r
      exact OR.reads' I (sb _ _ e) (.dT ha) fun ds vs us hs => all ds vs us fun d' m => by
        have := hs d' m
        omega
theorem RpL.reads (I : Inv X pins σ H s) (sb : Sub F H) : ∀ (ds : List PyData) (vs : List V) (us : List Value), RpL F vs ds → Vals vs us → ∃ as, ReadsAll s.heap us ds as ∧ (noListAll ds = true → sysModules ∉ as)
  | [], _, _, h, r => by
    cases h
    cases r
    exact ⟨_, ReadsAll.nil, fun _ => by simp⟩
  | d :: ds, _, _, h, r => by
    cases h with
    | cons h1 h2 =>
      cases r with
      | cons r1 r2 =>
        obtain ⟨as, q1, z1⟩ := Rp.readsN I sb _ d _ _ (Nat.lt_succ_self _) h1 r1
        obtain ⟨bs, q2, z2⟩ := RpL.reads I sb ds _ _ h2 r2
        refine ⟨_, ReadsAll.cons q1 q2, fun z => ?_⟩
        have z' : noList d = true ∧ noListAll ds = true := by simpa [noListAll] using z
        intro m
        rcases List.mem_append.mp m with m | m
        · exact z1 z'.1 m
        · exact z2 z'.2 m
theorem RdD.readsZ (I : Inv X pins σ H s) (sb : Sub F H) {d : PyData} {v : V} {u : Value} (h : RdD F H v d) (r : RelV v u) : ∃ as, Reads s.heap u d as ∧ (noList d = true → sysModules ∉ as) := by
  rcases h with h | ⟨a, o, rfl, h1, h2⟩
  · exact h.readsN I sb _ d v u (Nat.lt_succ_self _) r
  · cases r
    exact OR.reads' I h1 h2 fun ds vs us _ => RpL.reads I sb ds vs us
theorem RdD.reads (I : Inv X pins σ H s) (sb : Sub F H) {d : PyData} {v : V} {u : Value} (h : RdD F H v d) (r : RelV v u) : ∃ as, Reads s.heap u d as :=
  let ⟨as, h1, _⟩ := h.readsZ I sb r
  ⟨as, h1⟩
end

/-- data without dicts, not too deep -/
def shp (d : PyData) : Bool := d.plain && decide (d.depth ≤ 60)
theorem shp.plain {d : PyData} (h : shp d = true) : d.plain = true := (Bool.and_eq_true_iff.mp h).1
theorem shp.deep {d : PyData} (h : shp d = true) : d.depth ≤ 60 := of_decide_eq_true (Bool.and_eq_true_iff.mp h).2
def gEq : PyData → PyData → Option Slot := fun d e => if shp d && shp e then some (.v (.bool (PyData.eqv d e))) else none
def gNe : PyData → PyData → Option Slot := fun d e => if shp d && shp e then some (.v (.bool (!PyData.eqv d e))) else none
def gIn (neg : Bool) : PyData → PyData → Option Slot
  | d, .list ds => if shp d && PyData.plainAll ds then some (.v (.bool (neg.xor (ds.any fun z => PyData.eqv z d)))) else none
  | d, .tuple ds => if shp d && PyData.plainAll ds then some (.v (.bool (neg.xor (ds.any fun z => PyData.eqv z d)))) else none
  | _, _ => none
def isNone : PyData → Bool
  | .none => true
  | _ => false
def gIs (neg : Bool) : PyData → PyData → Option Slot
  | d, .none => some (.v (.bool (neg.xor (isNone d))))
  | _, _ => none
/-- order: ints; other alike data -/
def gOrd (p : Int → Int → Bool) (q : PyData → PyData → Bool) : PyData → PyData → Option Slot
  | .int i, .int j => some (.v (.bool (p i j)))
  | .tuple a, .tuple b => if PySem.W.alike (.tuple a) (.tuple b) && shp (.tuple a) then some (.v (.bool (q (.tuple a) (.tuple b)))) else none
  | _, _ => none
section
variable {X : Cx}
theorem RdD.none_iff {F H : Hp} {v : V} {d : PyData} (h : RdD F H v d) : decide (v = .non) = isNone d := by
  rcases h with h | ⟨a, o, rfl, h1, h2⟩
  · cases h <;> rfl
  · cases h2 <;> rfl
theorem deepR {A : Around} {d e : PyData} (h : shp d = true) (hu : A.units + 64 < cLine) : A.units + min d.depth e.depth < cLine := by
  have h1 := shp.deep h
  have h2 : min d.depth e.depth ≤ d.depth := Nat.min_le_left _ _
  omega
theorem o_eq (hu : X.A.units + 64 < cLine) : OpD X (compareOp .Eq) gEq := .of fun pins s σ H x y v u Q I rx ry ⟨F, dx, dy, sl, sb, hx, hy, e, k⟩ => by
  unfold gEq at e
  split at e
  · rename_i hz
    cases e
    obtain ⟨h1, h2⟩ := Bool.and_eq_true_iff.mp hz
    obtain ⟨as, r1⟩ := hx.reads I sb rx
    obtain ⟨bs, r2⟩ := hy.reads I sb ry
    exact PySem.SeqAt.eq_plain r1 r2 (shp.plain h1) (shp.plain h2) (deepR h1 hu) ⟨.bl _, H, I, rfl, k _ _ _ (.v (.bl _))⟩
  · cases e
theorem o_ne (hu : X.A.units + 64 < cLine) : OpD X (compareOp .NotEq) gNe := .of fun pins s σ H x y v u Q I rx ry ⟨F, dx, dy, sl, sb, hx, hy, e, k⟩ => by
  unfold gNe at e
  split at e
  · rename_i hz
    cases e
    obtain ⟨h1, h2⟩ := Bool.and_eq_true_iff.mp hz
    obtain ⟨as, r1⟩ := hx.reads I sb rx
    obtain ⟨bs, r2⟩ := hy.reads I sb ry
    exact PySem.SeqAt.ne_plain r1 r2 (shp.plain h1) (shp.plain h2) (deepR h1 hu) ⟨.bl _, H, I, rfl, k _ _ _ (.v (.bl _))⟩
  · cases e
theorem room_in {A : Around} {d : PyData} {ds : List PyData} (h : shp d = true) (hu : A.units + 66 < cLine) : A.units + 1 + min (PyData.depthAll ds) d.depth < cLine := by
  have h1 := shp.deep h
  have h2 : min (PyData.depthAll ds) d.depth ≤ d.depth := Nat.min_le_right _ _
  omega
theorem o_in (hu : X.A.units + 66 < cLine) : OpD X (compareOp .In) (gIn false) := .of fun pins s σ H x y v u Q I rx ry ⟨F, dx, dy, sl, sb, hx, hy, e, k⟩ => by
  unfold gIn at e
  split at e
  · split at e
    · rename_i hz
      cases e
      obtain ⟨h1, h2⟩ := Bool.and_eq_true_iff.mp hz
      obtain ⟨as, r1⟩ := hx.reads I sb rx
      obtain ⟨bs, r2⟩ := hy.reads I sb ry
      exact PySem.SeqAt.in_list_data r2 r1 h2 (shp.plain h1) (room_in h1 hu) ⟨.bl _, H, I, rfl, by simpa using k _ _ _ (.v (.bl _))⟩
    · cases e
  · split at e
    · rename_i hz
      cases e
      obtain ⟨h1, h2⟩ := Bool.and_eq_true_iff.mp hz
      obtain ⟨as, r1⟩ := hx.reads I sb rx
      obtain ⟨bs, r2⟩ := hy.reads I sb ry
      exact PySem.SeqAt.in_tuple_data r2 r1 h2 (shp.plain h1) (room_in h1 hu) ⟨.bl _, H, I, rfl, by simpa using k _ _ _ (.v (.bl _))⟩
    · cases e
  · cases e
theorem o_notIn (hu : X.A.units + 66 < cLine) : OpD X (compareOp .NotIn) (gIn true) := .of fun pins s σ H x y v u Q I rx ry ⟨F, dx, dy, sl, sb, hx, hy, e, k⟩ => by
  unfold gIn at e
  split at e
  · split at e
    · rename_i hz
      cases e
      obtain ⟨h1, h2⟩ := Bool.and_eq_true_iff.mp hz
      obtain ⟨as, r1⟩ := hx.reads I sb rx
      obtain ⟨bs, r2⟩ := hy.reads I sb ry
      exact PySem.SeqAt.notIn_list_data r2 r1 h2 (shp.plain h1) (room_in h1 hu) ⟨.bl _, H, I, rfl, by simpa using k _ _ _ (.v (.bl _))⟩
    · cases e
  · split at e
    · rename_i hz
      cases e
      obtain ⟨h1, h2⟩ := Bool.and_eq_true_iff.mp hz
      obtain ⟨as, r1⟩ := hx.reads I sb rx
      obtain ⟨bs, r2⟩ := hy.reads I sb ry
      exact PySem.SeqAt.notIn_tuple_data r2 r1 h2 (shp.plain h1) (room_in h1 hu) ⟨.bl _, H, I, rfl, by simpa using k _ _ _ (.v (.bl _))⟩
    · cases e
  · cases e
theorem o_is : OpD X (compareOp .Is) (gIs false) := .of fun pins s σ H x y v u Q I rx ry ⟨F, dx, dy, sl, sb, hx, hy, e, k⟩ => by
  unfold gIs at e
  split at e
  · cases e
    rw [hy.non] at ry
    exact op_isN pins s σ H _ _ v u Q I rx ry ⟨rfl, by rw [hx.none_iff]; simpa using k _ _ _ (.v (.bl _))⟩
  · cases e
theorem o_isNot : OpD X (compareOp .IsNot) (gIs true) := .of fun pins s σ H x y v u Q I rx ry ⟨F, dx, dy, sl, sb, hx, hy, e, k⟩ => by
  unfold gIs at e
  split at e
  · cases e
    rw [hy.non] at ry
    exact op_notN pins s σ H _ _ v u Q I rx ry ⟨rfl, by rw [hx.none_iff]; simpa using k _ _ _ (.v (.bl _))⟩
  · cases e
/-- an order's rule: on ints, on alike data -/
theorem o_ord {op : CmpOp} {p : Int → Int → Bool} {q : PyData → PyData → Bool} (hu : X.A.units + 64 < cLine) (h : OpR X (compareOp op) (rI0 fun i j => .bl (p i j)))
    (hd : ∀ (s : Shared) (a b : Value) (da db : PyData) (as bs : List Addr) (Q : Value → Shared → Prop), Reads s.heap a da as → Reads s.heap b db bs → PySem.W.alike da db = true → da ≠ .none → X.A.units + min da.depth db.depth < cLine → Q (.bool (q da db)) s → wpAny (model X.prog X.w) X.A (compareOp op a b) Q X.xe s) :
    OpD X (compareOp op) (gOrd p q) := .of fun pins s σ H x y v u Q I rx ry ⟨F, dx, dy, sl, sb, hx, hy, e, k⟩ => by
  unfold gOrd at e
  split at e
  · cases e
    rw [hx.int] at rx
    rw [hy.int] at ry
    exact h pins s σ H _ _ v u Q I rx ry ⟨_, _, rfl, rfl, k _ _ _ (.v (.bl _))⟩
  · split at e
    · rename_i hz
      cases e
      obtain ⟨h1, h2⟩ := Bool.and_eq_true_iff.mp hz
      obtain ⟨as, r1⟩ := hx.reads I sb rx
      obtain ⟨bs, r2⟩ := hy.reads I sb ry
      exact hd s v u _ _ as bs _ r1 r2 h1 (fun z => nomatch z) (deepR h2 hu) ⟨.bl _, H, I, rfl, k _ _ _ (.v (.bl _))⟩
    · cases e
  · cases e
theorem o_lt (hu : X.A.units + 64 < cLine) : OpD X (compareOp .Lt) (gOrd (fun i j => decide (i < j)) PySem.W.dataLt) := o_ord hu op_lt fun _ _ _ _ _ _ _ _ a b c d e f => PySem.W.lt_data a b c d e f
theorem o_gt (hu : X.A.units + 64 < cLine) : OpD X (compareOp .Gt) (gOrd (fun i j => decide (j < i)) fun a b => PySem.W.dataLt b a) := o_ord hu op_gt fun _ _ _ _ _ _ _ _ a b c d e f => PySem.W.gt_data a b c d e f
theorem o_le (hu : X.A.units + 64 < cLine) : OpD X (compareOp .LtE) (gOrd (fun i j => decide (i ≤ j)) fun a b => !PySem.W.dataLt b a) := o_ord hu op_le fun _ _ _ _ _ _ _ _ a b c d e f => PySem.W.le_data a b c d e f
theorem o_ge (hu : X.A.units + 64 < cLine) : OpD X (compareOp .GtE) (gOrd (fun i j => decide (j ≤ i)) fun a b => !PySem.W.dataLt a b) := o_ord hu op_ge fun _ _ _ _ _ _ _ _ a b c d e f => PySem.W.ge_data a b c d e f
end

/-! ### items, slices -/
def gIx : PyData → PyData → Option Slot
  | .list ds, .int i => (atI ds i).map .v
  | .tuple ds, .int i => (atI ds i).map .v
  | _, _ => none
theorem RpL.atI {F : Hp} {vs : List V} {ds : List PyData} {i : Int} {d : PyData} (h : RpL F vs ds) (e : L2.atI ds i = some d) : ∃ v, L2.atI vs i = some v ∧ Rp F v d := by
  unfold L2.atI at e ⊢
  rw [h.length]
  cases q : ixN ds.length i with
  | none =>
    rw [q] at e
    cases e
  | some j =>
    rw [q] at e
    obtain ⟨v, h1, h2⟩ := h.get (i := j) e
    exact ⟨v, h1, h2⟩
section
variable {K : PySem.W.Frag} {X : Cx} {a b : Expr} {m m' : S → R Opd} {pos : Pos}
theorem ad_ix : Ad2 gIx (rIx K) := fun F H x y dx dy s Q sb hx hy e k => by
  unfold gIx at e
  split at e
  · obtain ⟨p, xs, rfl, e1, r1⟩ := hx.lst sb
    obtain ⟨d, h1, rfl⟩ := Option.map_eq_some_iff.mp e
    obtain ⟨v, h2, h3⟩ := r1.atI h1
    exact .inl ⟨p, xs, _, v, rfl, hy.int, .inl (.inl e1), h2, k _ _ _ (.v h3)⟩
  · obtain ⟨p, xs, rfl, e1, r1⟩ := hx.tup sb
    obtain ⟨d, h1, rfl⟩ := Option.map_eq_some_iff.mp e
    obtain ⟨v, h2, h3⟩ := r1.atI h1
    exact .inr (.inl ⟨p, xs, _, v, rfl, hy.int, .inl (.inl (sb _ _ e1)), h2, k _ _ _ (.v h3)⟩)
  · cases e
theorem d_ix (ha : PE X a (tP X.K m)) (hb : PE X b (tP X.K m')) (hs : PlainIx b) : PE X (.Subscript a b pos) (tM X.K (m2 gIx m m')) := imE (pe_ix ix_seq ha hb hs) (r_2 ad_ix)
end
/-- a slice's parts -/
def mNoP : S → R (Option Int) := fun st => .ok none st
def mP (m : S → R Slot) : S → R (Option Int) := fun st => match m st with
  | .ok (.v (.int i)) st1 => .ok (some i) st1
  | _ => .bad
def tPO (K : PySem.W.Frag) (m : S → R (Option Int)) : TO := fun σ H Q => ∃ sa B F st b st', SR K sa B F H σ st ∧ m st = .ok b st' ∧ ∀ sa' F' H', Rch K B σ sa F st sa' F' H' st' → Q b H'
def cutD (ds : List PyData) (lo hi : Option Int) : List PyData := (ds.drop (HT.sIx ds.length 0 lo)).take (HT.sIx ds.length ds.length hi - HT.sIx ds.length 0 lo)
def gSl : PyData → Option Int → Option Int → Option Slot
  | .list ds, lo, hi => some (.o (.list (cutD ds lo hi)))
  | .tuple ds, lo, hi => some (.v (.tuple (cutD ds lo hi)))
  | _, _, _ => none
open Classical in
noncomputable def mSl (m : S → R Opd) (l h : S → R (Option Int)) : S → R Slot := fun st => match m st with
  | .ok x st1 => match l st1 with
    | .ok lo st2 => match h st2 with
      | .ok hi st3 => if still x st3 ∧ still x st2 then (match gSl x.d lo hi with
        | some r => .ok r st3
        | none => .bad) else .bad
      | .bad => .bad
    | .bad => .bad
  | .bad => .bad
theorem imO {X : Cx} {e : Option Expr} {t t' : TO} (h : PO X e t) (i : ∀ σ H Q, t' σ H Q → t σ H Q) : PO X e t' := by
  obtain ⟨r⟩ := h
  exact ⟨fun pins s σ H Q I q => r pins s σ H Q I (i σ H Q q)⟩
theorem RpL.cut {F : Hp} {vs : List V} {ds : List PyData} (h : RpL F vs ds) (lo hi : Option Int) : RpL F (cutV vs lo hi) (cutD ds lo hi) := by
  unfold cutV cutD
  rw [h.length]
  exact (h.drop _).take _
section
variable {K : PySem.W.Frag} {X : Cx} {a : Expr} {lo hi : Option Expr} {e : Expr} {m : S → R Opd} {mv : S → R Slot} {l h : S → R (Option Int)} {pos p2 : Pos}
theorem o_none : PO X none (tPO K mNoP) := imO po_none fun σ H Q ⟨sa, B, F, st, b, st', h0, h1, k⟩ => by
  cases h1
  exact k sa F H (.refl h0)
theorem o_some (he : PE X e (tM K mv)) : PO X (some e) (tPO K (mP mv)) := imO (po_some he) fun σ H Q ⟨sa, B, F, st, b, st', h0, h1, k⟩ => by
  unfold mP at h1
  cases q : mv st with
  | bad =>
    rw [q] at h1
    cases h1
  | ok r st1 =>
    rw [q] at h1
    cases r with
    | v d =>
      cases d with
      | int i =>
        cases h1
        exact ⟨sa, B, F, st, _, _, h0, q, fun sa' F' H' v R r => by
          cases (show Rp F' v (.int i) from r)
          exact ⟨_, rfl, k sa' F' H' R⟩⟩
      | _ => cases h1
    | _ => cases h1
theorem sl_any : SlR X fun x lo hi H Q => rSlL X.K x lo hi H Q ∨ rSlA X.K x lo hi H Q := sl_list.or sl_tupA
theorem cut_all {α : Type} {ds : List α} {lo hi : Option Int} (h : HT.sIx ds.length 0 lo = 0 ∧ HT.sIx ds.length ds.length hi = ds.length) : (ds.drop (HT.sIx ds.length 0 lo)).take (HT.sIx ds.length ds.length hi - HT.sIx ds.length 0 lo) = ds := by
  rw [h.1, h.2]
  simp
theorem d_sl (ha : PE X a (tP X.K m)) (hl : PO X lo (tPO X.K l)) (hh : PO X hi (tPO X.K h)) : PE X (.Subscript a (.Slice lo hi none p2) pos) (tM X.K (mSl m l h)) := imE (pe_slice sl_any ha hl hh) fun σ H Q ⟨sa, B, F, st, r', st', h0, h1, k⟩ => by
  unfold mSl at h1
  cases q1 : m st with
  | bad =>
    simp only [q1] at h1
    cases h1
  | ok x st1 =>
    cases q2 : l st1 with
    | bad =>
      simp only [q1, q2] at h1
      cases h1
    | ok lv st2 =>
      cases q3 : h st2 with
      | bad =>
        simp only [q1, q2, q3] at h1
        cases h1
      | ok hv st3 =>
        simp only [q1, q2, q3] at h1
        by_cases hs : still x st3 ∧ still x st2
        · rw [if_pos hs] at h1
          cases q4 : gSl x.d lv hv with
          | none =>
            simp only [q4] at h1
            cases h1
          | some s =>
            simp only [q4] at h1
            cases h1
            -- the operand, protected while the parts are reckoned
            have fin : ∀ sa3 F3 H3 v, Rch X.K B σ sa F st sa3 F3 H3 st' → RdD F3 H3 v x.d → (rSlL X.K v lv hv H3 Q ∨ rSlA X.K v lv hv H3 Q) := fun sa3 F3 H3 v R3 p => by
              have fo : ∀ w F' H', Out F3 H3 r' w F' H' → Q w H' := fun w F' H' o => by
                obtain ⟨a, b⟩ := R3.out o
                exact k sa3 F' H' w a b
              cases hx : x.d with
              | list ds =>
                rw [hx] at q4 p
                cases q4
                obtain ⟨a, xs, rfl, e1, r1⟩ := p.lst R3.r.fh
                exact .inl ⟨a, xs, rfl, .inl (.inl e1), fun p hp => fo _ _ _ (.o (.lst (r1.cut _ _)) hp)⟩
              | tuple ds =>
                rw [hx] at q4 p
                cases q4
                obtain ⟨a, xs, rfl, e1, r1⟩ := p.tup R3.r.fh
                refine .inr ⟨a, xs, rfl, .inl (.inl (R3.r.fh _ _ e1)), fun z => ?_, fun _ p hp => fo _ _ _ (.t (r1.cut _ _) hp)⟩
                have e2 : cutD ds lv hv = ds := cut_all (by rw [← r1.length]; exact z)
                rw [e2] at fo
                exact fo _ _ _ (.v (.tup e1 r1))
              | _ =>
                rw [hx] at q4
                cases q4
            refine ⟨sa, B, F, st, x, st1, h0, q1, fun sa1 F1 H1 v R1 p1 => ?_⟩
            cases x with
            | v d => exact ⟨sa1, B, F1, st1, lv, st2, R1.r, q2, fun sa2 F2 H2 R2 => ⟨sa2, B, F2, st2, hv, st', R2.r, q3, fun sa3 F3 H3 R3 => fin sa3 F3 H3 v ((R1.trans R2).trans R3) (.inl (Rp.mono (R2.x.le.trans R3.x.le) p1))⟩⟩
            | t d =>
              obtain ⟨a, o, rfl, t1, t2, t3, t4, t5, t6⟩ := p1
              have sb : Sub B (upd B a o) := Sub.new t3
              refine ⟨sa1, upd B a o, F1, st1, lv, st2, R1.r.prot t1 t3 t5 t6, q2, fun sa2 F2 H2 R2 => ⟨sa2, upd B a o, F2, st2, hv, st', R2.r, q3, fun sa3 F3 H3 R3 => ?_⟩⟩
              have R := R2.trans R3
              exact fin sa3 F3 H3 _ (R1.trans ⟨R.r.less sb, R.x.weak sb, R.k, R.s⟩) (.inr ⟨a, o, rfl, R.r.bh _ _ upd_same, t2.mono R.x.le⟩)
            | s i d =>
              refine ⟨sa1, B, F1, st1, lv, st2, R1.r, q2, fun sa2 F2 H2 R2 => ⟨sa2, B, F2, st2, hv, st', R2.r, q3, fun sa3 F3 H3 R3 => ?_⟩⟩
              have q := p1.2
              rcases hs.1 with hs | hs
              · obtain ⟨a, o, z1, z2, z3, _⟩ := R3.r.so i d hs
                rw [z1] at q
                exact fin sa3 F3 H3 v ((R1.trans R2).trans R3) (.inr ⟨a, o, (Option.some.inj (Option.some.inj q)).symm, z2, z3⟩)
              · obtain ⟨u, z1, z2⟩ := R3.r.sl i d hs
                rw [z1] at q
                have q' : u = v := Option.some.inj (Option.some.inj q)
                rw [q'] at z2
                exact fin sa3 F3 H3 v ((R1.trans R2).trans R3) (.inl z2)
        · rw [if_neg hs] at h1
          cases h1
end
end Pd
end
section
set_option linter.all false
set_option maxRecDepth 100000
/-! Pd, part E: displays, argument lists, built-in calls. -/
namespace Pd
open PySem PySem.Spec PyProof.Rows L2

/-! ### frozen values, lists of them -/
def tF (K : PySem.W.Frag) (m : S → R PyData) : TE := fun σ H Q => ∃ sa B F st d st', SR K sa B F H σ st ∧ m st = .ok d st' ∧ ∀ sa' F' H' v, Rch K B σ sa F st sa' F' H' st' → Rp F' v d → Q v H'
def tAL (K : PySem.W.Frag) (m : S → R (List PyData)) : TA := fun σ H Q => ∃ sa B F st ds st', SR K sa B F H σ st ∧ m st = .ok ds st' ∧ ∀ sa' F' H' vs, Rch K B σ sa F st sa' F' H' st' → RpL F' vs ds → Q vs H'
def mF (m : S → R Slot) : S → R PyData := fun st => match m st with
  | .ok (.v d) st' => .ok d st'
  | .ok (.o d) st' => .ok d st'
  | _ => .bad
def mNil : S → R (List PyData) := fun st => .ok [] st
def mCons (m : S → R PyData) (ms : S → R (List PyData)) : S → R (List PyData) := fun st => match m st with
  | .ok d st1 => match ms st1 with
    | .ok ds st2 => .ok (d :: ds) st2
    | .bad => .bad
  | .bad => .bad
def seqD : PyData → Option (List PyData)
  | .list ds => some ds
  | .tuple ds => some ds
  | _ => none
def mStar (m : S → R Opd) (ms : S → R (List PyData)) : S → R (List PyData) := fun st => match m st with
  | .ok x st1 => match seqD x.d with
    | some xs => match ms st1 with
      | .ok ds st2 => .ok (xs ++ ds) st2
      | .bad => .bad
    | none => .bad
  | .bad => .bad
def mTup (ms : S → R (List PyData)) : S → R Slot := fun st => match ms st with
  | .ok ds st1 => if okLen ds.length then .ok (.v (.tuple ds)) st1 else .bad
  | .bad => .bad
def mLst (ms : S → R (List PyData)) : S → R Slot := fun st => match ms st with
  | .ok ds st1 => if okLen ds.length then .ok (.o (.list ds)) st1 else .bad
  | .bad => .bad
section
variable {K : PySem.W.Frag} {X : Cx} {e : Expr} {es : List Expr} {m : S → R Slot} {mf : S → R PyData} {ms : S → R (List PyData)} {mp : S → R Opd} {pos p : Pos}
/-- a result is frozen -/
theorem Rch.frz {B : Hp} {σ : L2.St} {sa sa' : Sa} {F F' H' : Hp} {st st' : S} {v : V} {d : PyData} (R : Rch K B σ sa F st sa' F' H' st') (r : RRep sa' B F' H' σ st' v (.o d)) : ∃ F2, Rch K B σ sa F st sa' F2 H' st' ∧ Rp F2 v d := by
  obtain ⟨a, o, rfl, h1, h2, h3, h4, h5, h6⟩ := r
  exact ⟨upd F' a o, ⟨R.r.freeze h1 h4 h5 h6, R.x.trans (FX.own h3 h4), R.k, R.s⟩, h2.frz h4⟩
theorem r_F : ∀ σ H Q, tF K (mF m) σ H Q → tM K m σ H Q := fun σ H Q ⟨sa, B, F, st, d, st', h0, h1, k⟩ => by
  unfold mF at h1
  cases q : m st with
  | bad =>
    rw [q] at h1
    cases h1
  | ok r st1 =>
    rw [q] at h1
    cases r with
    | v d' =>
      cases h1
      exact ⟨sa, B, F, st, _, _, h0, q, fun sa' F' H' v R r => k sa' F' H' v R r⟩
    | o d' =>
      cases h1
      refine ⟨sa, B, F, st, _, _, h0, q, fun sa' F' H' v R r => ?_⟩
      obtain ⟨F2, R2, r2⟩ := R.frz r
      exact k sa' F2 H' v R2 r2
    | _ => cases h1
theorem f_of (h : PE X e (tM K m)) : PE X e (tF K (mF m)) := imE h r_F
theorem a_nil : PA X [] (tAL K mNil) := imA pa_nil fun σ H Q ⟨sa, B, F, st, d, st', h0, h1, k⟩ => by
  cases h1
  exact k sa F H [] (.refl h0) .nil
theorem a_cons (h : PE X e (tF K mf)) (h' : PA X es (tAL K ms)) (hs : starEach (e :: es) X.env = (false, eval e X.env) :: starEach es X.env := by rfl) : PA X (e :: es) (tAL K (mCons mf ms)) := imA (pa_cons h h' hs) fun σ H Q ⟨sa, B, F, st, d, st', h0, h1, k⟩ => by
  unfold mCons at h1
  cases q : mf st with
  | bad =>
    simp only [q] at h1
    cases h1
  | ok x st1 =>
    cases q2 : ms st1 with
    | bad =>
      simp only [q, q2] at h1
      cases h1
    | ok xs st2 =>
      simp only [q, q2] at h1
      cases h1
      exact ⟨sa, B, F, st, x, st1, h0, q, fun sa1 F1 H1 v R1 r1 => ⟨sa1, B, F1, st1, xs, _, R1.r, q2, fun sa2 F2 H2 vs R2 r2 => k sa2 F2 H2 (v :: vs) (R1.trans R2) (.cons (r1.mono R2.x.le) r2)⟩⟩
theorem a_star (h : PE X e (tP X.K mp)) (h' : PA X es (tAL X.K ms)) (hs : starEach (.Starred e p :: es) X.env = (true, eval e X.env) :: starEach es X.env := by rfl) : PA X (.Starred e p :: es) (tAL X.K (mStar mp ms)) := imA (StX.pa_star h h' hs) fun σ H Q ⟨sa, B, F, st, d, st', h0, h1, k⟩ => by
  unfold mStar at h1
  cases q : mp st with
  | bad =>
    simp only [q] at h1
    cases h1
  | ok x st1 =>
    cases q2 : seqD x.d with
    | none =>
      simp only [q, q2] at h1
      cases h1
    | some xs =>
      cases q3 : ms st1 with
      | bad =>
        simp only [q, q2, q3] at h1
        cases h1
      | ok ds st2 =>
        simp only [q, q2, q3] at h1
        cases h1
        refine ⟨sa, B, F, st, x, st1, h0, q, fun sa1 F1 H1 v R1 p1 => ?_⟩
        have rd := p1.rd R1.r
        have fin : ∀ vs, RpL F1 vs xs → tAL X.K ms σ H1 fun ys H2 => Q (vs ++ ys) H2 := fun vs rv => ⟨sa1, B, F1, st1, ds, _, R1.r, q3, fun sa2 F2 H2 ws R2 r2 => k sa2 F2 H2 (vs ++ ws) (R1.trans R2) ((rv.mono R2.x.le).append r2)⟩
        cases hx : x.d with
        | list ys =>
          rw [hx] at q2 rd
          cases q2
          obtain ⟨a, vs, rfl, e1, r1⟩ := rd.lst R1.r.fh
          exact ⟨a, vs, rfl, .inr (.inl (.inl e1)), fin vs r1⟩
        | tuple ys =>
          rw [hx] at q2 rd
          cases q2
          obtain ⟨a, vs, rfl, e1, r1⟩ := rd.tup R1.r.fh
          exact ⟨a, vs, rfl, .inl (.inl (.inl (R1.r.fh _ _ e1))), fin vs r1⟩
        | _ =>
          rw [hx] at q2
          cases q2
theorem d_tup {x1} (h : PA X es (tAL K ms)) : PE X (.Tuple es x1 pos) (tM K (mTup ms)) := imE (pe_tup h) fun σ H Q ⟨sa, B, F, st, d, st', h0, h1, k⟩ => by
  unfold mTup at h1
  cases q : ms st with
  | bad =>
    simp only [q] at h1
    cases h1
  | ok ds st1 =>
    simp only [q] at h1
    split at h1
    · rename_i hz
      cases h1
      refine ⟨sa, B, F, st, ds, _, h0, q, fun sa1 F1 H1 vs R1 r1 => ⟨by rw [r1.length]; exact okLen_le hz, fun p hp => ?_⟩⟩
      obtain ⟨a, b⟩ := R1.out (.t r1 hp)
      exact k _ _ _ _ a b
    · cases h1
theorem d_lst (h : PA X es (tAL K ms)) : PE X (.List es pos) (tM K (mLst ms)) := imE (pe_lst h) fun σ H Q ⟨sa, B, F, st, d, st', h0, h1, k⟩ => by
  unfold mLst at h1
  cases q : ms st with
  | bad =>
    simp only [q] at h1
    cases h1
  | ok ds st1 =>
    simp only [q] at h1
    split at h1
    · rename_i hz
      cases h1
      refine ⟨sa, B, F, st, ds, _, h0, q, fun sa1 F1 H1 vs R1 r1 => ⟨by rw [r1.length]; exact okLen_le hz, fun p hp => ?_⟩⟩
      obtain ⟨a, b⟩ := R1.out (.o (.lst r1) hp)
      exact k _ _ _ _ a b
    · cases h1
end

/-! ### built-in calls -/
/-- f(x) is worth g -/
def CD1 (X : Cx) (f : Value) (g : PyData → Option Slot) : Prop := CallR X f fun vs H Q => ∃ F x dx s, vs = [x] ∧ Sub F H ∧ RdD F H x dx ∧ g dx = some s ∧ ∀ v F' H', Out F H s v F' H' → Q v H'
def CD2 (X : Cx) (f : Value) (g : PyData → PyData → Option Slot) : Prop := CallR X f fun vs H Q => ∃ F x y dx dy s, vs = [x, y] ∧ Sub F H ∧ RdD F H x dx ∧ RdD F H y dy ∧ g dx dy = some s ∧ ∀ v F' H', Out F H s v F' H' → Q v H'
/-- isinstance(x, T) -/
def CDT (X : Cx) (T : String) (g : PyData → Option Slot) : Prop := CallR X (.builtin "isinstance") fun vs H Q => ∃ F x dx s, vs = [x, .ty T] ∧ Sub F H ∧ RdD F H x dx ∧ g dx = some s ∧ ∀ v F' H', Out F H s v F' H' → Q v H'
section
variable {X : Cx} {x : Str} {p p' pos : Pos} {e e' : Expr} {m m' : S → R Opd} {id T : String} {g : PyData → Option Slot} {g' : PyData → PyData → Option Slot} {tT : Str}
theorem d_b1 (hc : CD1 X (.builtin id) g) (hg : Gl X x) (hm : X.mg x = none) (hv : bootBuiltins x = some (.builtin id)) (he : PE X e (tP X.K m)) (hn : x ≠ "__name__" := by decide) (hdb : (x == ("__debug__" : Str)) = false := by decide)
    (hs : starEach (e :: []) X.env = (false, eval e X.env) :: starEach [] X.env := by rfl) (hpl : (backTo pos (starEach [] X.env)).any (·.1) = false := by rfl) : PE X (.Call (.Name x p) [e] [] pos) (tM X.K (m1 g m)) :=
  imE (pe_callB hc hg hm hv (pa_cons he pa_nil hs) hn hdb hs hpl) (r_1 fun F H x dx s Q sb rx q k => ⟨F, x, dx, s, rfl, sb, rx, q, k⟩)
theorem d_t1 (hc : CD1 X (.type T) g) (hg : Gl X x) (hm : X.mg x = none) (hv : bootBuiltins x = some (.type T)) (he : PE X e (tP X.K m)) (hn : x ≠ "__name__" := by decide) (hdb : (x == ("__debug__" : Str)) = false := by decide)
    (hs : starEach (e :: []) X.env = (false, eval e X.env) :: starEach [] X.env := by rfl) (hpl : (backTo pos (starEach [] X.env)).any (·.1) = false := by rfl) : PE X (.Call (.Name x p) [e] [] pos) (tM X.K (m1 g m)) :=
  imE (pe_callTy hc hg hm hv (pa_cons he pa_nil hs) hn hdb hs hpl) (r_1 fun F H x dx s Q sb rx q k => ⟨F, x, dx, s, rfl, sb, rx, q, k⟩)
theorem d_b2 (hc : CD2 X (.builtin id) g') (hg : Gl X x) (hm : X.mg x = none) (hv : bootBuiltins x = some (.builtin id)) (he : PE X e (tP X.K m)) (he' : PE X e' (tP X.K m')) (hn : x ≠ "__name__" := by decide) (hdb : (x == ("__debug__" : Str)) = false := by decide)
    (hs : starEach (e :: [e']) X.env = (false, eval e X.env) :: starEach [e'] X.env := by rfl) (hs2 : starEach (e' :: []) X.env = (false, eval e' X.env) :: starEach [] X.env := by rfl) (hpl : (backTo pos (starEach [e'] X.env)).any (·.1) = false := by rfl) : PE X (.Call (.Name x p) [e, e'] [] pos) (tM X.K (m2 g' m m')) :=
  imE (pe_callB hc hg hm hv (pa_cons he (pa_cons he' pa_nil hs2) hs) hn hdb hs hpl) (r_2 (r := fun x y H Q => (fun vs H Q => ∃ F x y dx dy s, vs = [x, y] ∧ Sub F H ∧ RdD F H x dx ∧ RdD F H y dy ∧ g' dx dy = some s ∧ ∀ v F' H', Out F H s v F' H' → Q v H') [x, y] H Q) fun F H x y dx dy s Q sb rx ry q k => ⟨F, x, y, dx, dy, s, rfl, sb, rx, ry, q, k⟩)
theorem d_isi (hc : CDT X T g) (hg : Gl X "isinstance") (hm : X.mg "isinstance" = none) (hgT : Gl X tT) (hmT : X.mg tT = none) (hvT : bootBuiltins tT = some (.type T)) (he : PE X e (tP X.K m)) (hnT : tT ≠ "__name__" := by decide) (hdT : (tT == ("__debug__" : Str)) = false := by decide)
    (hs : starEach (e :: [.Name tT p']) X.env = (false, eval e X.env) :: starEach [.Name tT p'] X.env := by rfl) (hs2 : starEach [.Name tT p'] X.env = (false, eval (.Name tT p') X.env) :: starEach [] X.env := by rfl) (hpl : (backTo pos (starEach [.Name tT p'] X.env)).any (·.1) = false := by rfl) :
    PE X (.Call (.Name "isinstance" p) [e, .Name tT p'] [] pos) (tM X.K (m1 g m)) :=
  imE (pe_callB hc hg hm (by decide +kernel) (pa_cons he (pa_cons (pe_bltn hgT hmT hvT (v := .ty T) rfl hnT hdT) pa_nil hs2) hs) (by decide) (by decide) hs hpl) (r_1 fun F H x dx s Q sb rx q k => ⟨F, x, dx, s, rfl, sb, rx, q, k⟩)
end

def gLen : PyData → Option Slot
  | .list ds => some (.v (.int ds.length))
  | .tuple ds => some (.v (.int ds.length))
  | .dict ds => some (.v (.int ds.length))
  | .str z => if okLen z.length then some (.v (.int z.length)) else none
  | _ => none
def gTuple : PyData → Option Slot
  | .list ds => some (.v (.tuple ds))
  | .tuple ds => some (.v (.tuple ds))
  | _ => none
def gList : PyData → Option Slot
  | .list ds => some (.o (.list ds))
  | .tuple ds => some (.o (.list ds))
  | _ => none
def gInt : PyData → Option Slot
  | .int i => some (.v (.int i))
  | .bool b => some (.v (.int (if b then 1 else 0)))
  | _ => none
def gAbs : PyData → Option Slot
  | .int i => some (.v (.int (if i < 0 then -i else i)))
  | _ => none
def gNeg : PyData → Option Slot
  | .int i => some (.v (.int (-i)))
  | _ => none
def gStr : PyData → Option Slot
  | .int i => if decide (i.natAbs.log2 < 1920) then some (.v (.str (toString i))) else none
  | _ => none
def reprOk (d : PyData) : Bool := d.showable && (!d.hasDict || noList d) && decide (d.depth ≤ 60) && okLen d.shown.length
def gRepr (d : PyData) : Option Slot := if reprOk d then some (.v (.str d.shown)) else none
def intsD : List PyData → Option (List Int)
  | [] => some []
  | .int i :: ds => (intsD ds).map (i :: ·)
  | _ => none
def gSum : PyData → Option Slot
  | .list ds => (intsD ds).map fun ns => .v (.int ns.sum)
  | .tuple ds => (intsD ds).map fun ns => .v (.int ns.sum)
  | _ => none
def alikeB (ds : List PyData) : Bool := ds.all (fun d => ds.all fun e => PySem.W.alike d e) && ds.all (fun d => !isNone d) && decide (PyData.depthAll ds ≤ 60)
def gMin : PyData → Option Slot
  | .list (d :: ds) => if alikeB (d :: ds) then some (.v (PySem.W.minD d ds)) else none
  | .tuple (d :: ds) => if alikeB (d :: ds) then some (.v (PySem.W.minD d ds)) else none
  | _ => none
def gMax : PyData → Option Slot
  | .list (d :: ds) => if alikeB (d :: ds) then some (.v (PySem.W.maxD d ds)) else none
  | .tuple (d :: ds) => if alikeB (d :: ds) then some (.v (PySem.W.maxD d ds)) else none
  | _ => none
def gMin2 : PyData → PyData → Option Slot
  | .int i, .int j => some (.v (.int (if j < i then j else i)))
  | _, _ => none
def gMax2 : PyData → PyData → Option Slot
  | .int i, .int j => some (.v (.int (if j > i then j else i)))
  | _, _ => none
def smallD : PyData → Bool
  | .str x => decide ((x.length : Int) < 2 ^ 63)
  | .list xs => decide ((xs.length : Int) < 2 ^ 63)
  | .tuple xs => decide ((xs.length : Int) < 2 ^ 63)
  | _ => true
def gAll : PyData → Option Slot
  | .list ds => if PyData.plainAll ds && ds.all smallD then some (.v (.bool (ds.all PyData.truthy))) else none
  | .tuple ds => if PyData.plainAll ds && ds.all smallD then some (.v (.bool (ds.all PyData.truthy))) else none
  | _ => none
def gAny : PyData → Option Slot
  | .list ds => if PyData.plainAll ds && ds.all smallD then some (.v (.bool (ds.any PyData.truthy))) else none
  | .tuple ds => if PyData.plainAll ds && ds.all smallD then some (.v (.bool (ds.any PyData.truthy))) else none
  | _ => none
def sortB (ds : List PyData) : Bool := ds.all (fun d => ds.all fun e => PySem.W.alike d e) && (ds.all (fun d => match d with | .tuple (_ :: _) => true | _ => false) || ds.all (fun d => match d with | .none => false | .tuple _ => false | _ => true)) && ds.all (fun d => decide (d.depth ≤ 60))
def sortD (ds : List PyData) : List PyData := ds.mergeSort (PySem.W.dataLe false id)
def gSorted : PyData → Option Slot
  | .list ds => if sortB ds then some (.o (.list (sortD ds))) else none
  | .tuple ds => if sortB ds then some (.o (.list (sortD ds))) else none
  | _ => none
section
variable {X : Cx}
theorem cd_of1 {f : Value} {g : PyData → Option Slot} (h : ∀ (pins : List (Addr × Obj)) (s : Shared) (σ : L2.St) (H F : Hp) (x : V) (u : Value) (dx : PyData) (sl : Slot) (Q : VK), Inv X pins σ H s → RelV x u → Sub F H → RdD F H x dx → g dx = some sl → (∀ v F' H', Out F H sl v F' H' → Q v H') →
    wpAny (model X.prog X.w) X.A (call f [u]) (EP X pins σ Q) X.xe s) : CD1 X f g := fun pins s σ H xs us Q I r ⟨F, x, dx, sl, e, sb, rx, q, k⟩ => by
  subst e
  cases r with
  | cons r1 r2 =>
    cases r2
    exact h pins s σ H F x _ dx sl Q I r1 sb rx q k
/-- by a rule over values -/
theorem cd_ofR {f : Value} {g : PyData → Option Slot} {r : List V → Hp → VK → Prop} (h : CallR X f r) (i : ∀ (F H : Hp) (x : V) (dx : PyData) (sl : Slot) (Q : VK), Sub F H → RdD F H x dx → g dx = some sl → (∀ v F' H', Out F H sl v F' H' → Q v H') → r [x] H Q) : CD1 X f g :=
  fun pins s σ H xs us Q I rr ⟨F, x, dx, sl, e, sb, rx, q, k⟩ => by
    subst e
    exact h pins s σ H [x] us Q I rr (i F H x dx sl Q sb rx q k)
theorem RdD.dct {F H : Hp} {v : V} {kvs : List (PyData × PyData)} (s : Sub F H) (h : RdD F H v (.dict kvs)) : ∃ a, v = .ref a ∧ ((∃ ps, H a = some (.dK ps) ∧ RpK F ps kvs) ∨ ∃ ps, H a = some (.dT ps) ∧ RpT F ps kvs) := by
  rcases h with h | ⟨a, o, e, h1, h2⟩
  · cases h with
    | dK e r => exact ⟨_, rfl, .inl ⟨_, s _ _ e, r⟩⟩
    | dT e r => exact ⟨_, rfl, .inr ⟨_, s _ _ e, r⟩⟩
  · cases h2 with
    | dK r => exact ⟨_, e, .inl ⟨_, h1, r⟩⟩
    | dT r => exact ⟨_, e, .inr ⟨_, h1, r⟩⟩
theorem RpK.len {F : Hp} {ps : List (Key × V)} {kvs : List (PyData × PyData)} (h : RpK F ps kvs) : ps.length = kvs.length := by
  have := congrArg List.length h.keys
  simpa using this.symm
theorem RpT.len {F : Hp} {ps : List (List Key × V)} {kvs : List (PyData × PyData)} (h : RpT F ps kvs) : ps.length = kvs.length := by
  have := congrArg List.length h.keys
  simpa using this.symm
theorem c_len : CD1 X (.builtin "len") gLen := by
  refine cd_of1 fun pins s σ H F x u dx sl Q I r sb rx q k => ?_
  unfold gLen at q
  split at q
  · cases q
    obtain ⟨a, xs, rfl, e1, r1⟩ := rx.lst sb
    exact call_len_seq pins s σ H [.ref a] [u] Q I (.cons r .nil) ⟨a, xs, rfl, .inl (.inl (.inl e1)), by rw [r1.length]; exact k _ _ _ (.v (.int _))⟩
  · cases q
    obtain ⟨a, xs, rfl, e1, r1⟩ := rx.tup sb
    exact call_len_seq pins s σ H [.ref a] [u] Q I (.cons r .nil) ⟨a, xs, rfl, .inr (.inl (.inl (sb _ _ e1))), by rw [r1.length]; exact k _ _ _ (.v (.int _))⟩
  · cases q
    obtain ⟨a, rfl, ⟨ps, e1, r1⟩ | ⟨ps, e1, r1⟩⟩ := rx.dct sb
    · exact call_lenD pins s σ H [.ref a] [u] Q I (.cons r .nil) ⟨a, ps, rfl, e1, by rw [r1.len]; exact k _ _ _ (.v (.int _))⟩
    · exact call_len_dT pins s σ H [.ref a] [u] Q I (.cons r .nil) ⟨a, ps, rfl, e1, by rw [r1.len]; exact k _ _ _ (.v (.int _))⟩
  · split at q
    · rename_i hz
      cases q
      rw [rx.str] at r
      exact call_len_str pins s σ H [_] [u] Q I (.cons r .nil) ⟨_, rfl, okLen_le hz, k _ _ _ (.v (.int _))⟩
    · cases q
  · cases q
theorem c_tuple : CD1 X (.type "tuple") gTuple := cd_ofR call_tuple_of fun F H x dx sl Q sb rx q k => by
  unfold gTuple at q
  split at q
  · cases q
    obtain ⟨a, xs, rfl, e1, r1⟩ := rx.lst sb
    exact ⟨a, xs, rfl, .inl ⟨.inl (.inl e1), fun l hl => k _ _ _ (.t r1 hl)⟩⟩
  · cases q
    obtain ⟨a, xs, rfl, e1, r1⟩ := rx.tup sb
    exact ⟨a, xs, rfl, .inr ⟨.inl (.inl (sb _ _ e1)), k _ _ _ (.v (.tup e1 r1))⟩⟩
  · cases q
theorem c_list : CD1 X (.type "list") gList := cd_ofR call_list_of fun F H x dx sl Q sb rx q k => by
  unfold gList at q
  split at q
  · cases q
    obtain ⟨a, xs, rfl, e1, r1⟩ := rx.lst sb
    exact ⟨a, xs, rfl, .inl (.inl (.inl e1)), fun l hl => k _ _ _ (.o (.lst r1) hl)⟩
  · cases q
    obtain ⟨a, xs, rfl, e1, r1⟩ := rx.tup sb
    exact ⟨a, xs, rfl, .inr (.inl (.inl (sb _ _ e1))), fun l hl => k _ _ _ (.o (.lst r1) hl)⟩
  · cases q
theorem c_int : CD1 X (.type "int") gInt := cd_ofR call_int1 fun F H x dx sl Q sb rx q k => by
  unfold gInt at q
  split at q
  · cases q
    rw [rx.int]
    exact .inl ⟨_, rfl, k _ _ _ (.v (.int _))⟩
  · cases q
    rw [rx.bl]
    exact .inr ⟨_, rfl, k _ _ _ (.v (.int _))⟩
  · cases q
theorem c_abs : CD1 X (.builtin "abs") gAbs := cd_ofR call_abs fun F H x dx sl Q sb rx q k => by
  unfold gAbs at q
  split at q
  · cases q
    rw [rx.int]
    exact ⟨_, rfl, k _ _ _ (.v (.int _))⟩
  · cases q
theorem c_str : CD1 X (.type "str") gStr := cd_ofR call_str_int fun F H x dx sl Q sb rx q k => by
  unfold gStr at q
  split at q
  · split at q
    · rename_i hz
      cases q
      rw [rx.int]
      exact ⟨_, rfl, of_decide_eq_true hz, k _ _ _ (.v (.str _))⟩
    · cases q
  · cases q
theorem u_neg {K : PySem.W.Frag} {a : Expr} {m : S → R Opd} {pos : Pos} (h : PE X a (tP K m)) : PE X (.UnaryOp .USub a pos) (tM K (m1 gNeg m)) := imE (pe_un un_neg h) (r_1 fun F H x dx sl Q sb rx q k => by
  unfold gNeg at q
  split at q
  · cases q
    rw [rx.int]
    exact ⟨_, rfl, k _ _ _ (.v (.int _))⟩
  · cases q)
theorem c_repr (hg : X.A.guards = some []) (hu : X.A.units + 64 < cLine) : CD1 X (.builtin "repr") gRepr := by
  refine cd_of1 fun pins s σ H F x u dx sl Q I r sb rx q k => ?_
  unfold gRepr at q
  split at q
  · rename_i hz
    cases q
    unfold reprOk at hz
    simp only [Bool.and_eq_true, decide_eq_true_eq] at hz
    obtain ⟨⟨⟨h1, h2⟩, h3⟩, h4⟩ := hz
    have fin : ∀ h' tk t', (∀ b o, s.heap.get? b = some o → h'.get? b = some o) → EP X pins σ Q (.str dx.shown t') { s with heap := h', toks := tk } := fun h' tk t' hk => ⟨.str dx.shown, H, I.kept hk, ⟨_, rfl⟩, k _ _ _ (.v (.str _))⟩
    have obj : ∀ a, x = .ref a → wpAny (model X.prog X.w) X.A (call (.builtin "repr") [u]) (EP X pins σ Q) X.xe s := fun a e => by
      obtain ⟨as, hr, hn⟩ := rx.readsZ I sb r
      rw [e] at r
      cases r
      refine repr_of_reads' hr h1 (fun hd => hn (by
        rw [hd] at h2
        simpa using h2)) hg (by omega) (fun _ _ q => q) (fun h' u' tk hk => fin h' tk u' hk) (okLen_le h4)
    rcases rx with rx | ⟨a, o, e, _⟩
    · cases rx with
      | non =>
        cases r
        exact PySem.P.repr_of_none (fin s.heap (s.toks + 1) s.toks fun _ _ q => q)
      | bl b =>
        cases r
        exact PySem.P.repr_of_bool (fin s.heap (s.toks + 1) s.toks fun _ _ q => q)
      | int i =>
        obtain ⟨t, rfl⟩ := r
        exact PySem.P.repr_of_int (by simpa [PyData.showable] using h1) (fin s.heap (s.toks + 1) s.toks fun _ _ q => q)
      | str z =>
        obtain ⟨t, rfl⟩ := r
        exact PySem.P.repr_of_str (fin s.heap (s.toks + 1) s.toks fun _ _ q => q) (okLen_le h4)
      | lst _ _ => exact obj _ rfl
      | tup _ _ => exact obj _ rfl
      | dK _ _ => exact obj _ rfl
      | dT _ _ => exact obj _ rfl
    · exact obj a e
  · cases q
end
end Pd
end
section
set_option linter.all false
set_option maxRecDepth 100000
/-! Pd, part F: sum, min, max, all, any, sorted, isinstance, list(range(..)). -/
namespace Pd
open PySem PySem.Spec PyProof.Rows L2

section
variable {X : Cx}
theorem ints_rp {F : Hp} : ∀ {ds : List PyData} {ns : List Int} {vs : List V}, intsD ds = some ns → RpL F vs ds → vs = ns.map V.int
  | [], ns, vs, h, r => by
    cases h
    cases r
    rfl
  | d :: ds, ns, vs, h, r => by
    cases r with
    | cons a b =>
      cases d with
      | int i =>
        obtain ⟨ms, h1, rfl⟩ := Option.map_eq_some_iff.mp (show (intsD ds).map (i :: ·) = some ns from h)
        cases a
        rw [ints_rp h1 b]
        rfl
      | _ => cases h
/-- sum of a tuple of ints -/
theorem sum_tup {P : Program} {w : World} {A : Around} {E : Value → Shared → Prop} {s : Shared} {l : Addr} {its : Array Value} {ns : List Int} {Q : Value → Shared → Prop} (hh : A.handled = none) (hl : s.heap.IsTuple l its) (hi : IntsAre its.toList ns)
    (h : ∀ h' tk t', (∀ b o, s.heap.get? b = some o → h'.get? b = some o) → Q (.int ns.sum t') { s with heap := h', toks := tk }) : wpAny (model P w) A (call (.builtin "sum") [.ref l]) Q E s := by
  obtain ⟨xs, e⟩ := hi.allInts.items
  have e' : its = intItems xs := by simpa using e
  subst e'
  have hn : numsOf (intItems xs).toList = ns := hi.numsOf
  rw [nums_intItems] at hn
  have hlt : l < s.heap.objs.size := by
    obtain ⟨_, z, _⟩ := hl
    exact Heap.lt_size z
  refine call_sum_walkG (wpAny_pyIter_tuple hl ?_)
  refine ⟨_, _, _, _, _, _, numAt xs, rfl, Walks.tuple (A := A.in1) hh _ l (Nat.ne_of_lt hlt) (intItems xs), ⟨⟨_, Heap.get?_push_size _ rfl, rfl, rfl⟩, hl.push _⟩, fun b hb => ?_, fun _ _ => intItems_at, fun h' tk t' hk => ?_⟩
  · show b < (s.heap.push _).objs.size
    rw [Heap.size_push]
    rcases List.mem_cons.mp hb with rfl | hb
    · exact Nat.lt_succ_self _
    · rcases List.mem_cons.mp hb with rfl | hb
      · exact Nat.lt_succ_of_lt hlt
      · cases hb
  · have q := h h' tk t' fun b o z => hk b o (fun m => absurd (Heap.lt_size z) (by
      rw [List.mem_singleton.mp m]
      exact Nat.lt_irrefl _)) (Heap.get?_push_of_some _ z)
    have e2 : preSum (numAt xs) (intItems xs).size = ns.sum := by
      rw [preSum_eq, hn, List.take_of_length_le]
      rw [← hn]
      simp [intItems]
    rw [e2]
    exact q
theorem c_sum (hc : X.calm = true) : CD1 X (.builtin "sum") gSum := by
  refine cd_of1 fun pins s σ H F x u dx sl Q I r sb rx q k => ?_
  unfold gSum at q
  split at q
  · obtain ⟨ns, h1, rfl⟩ := Option.map_eq_some_iff.mp q
    obtain ⟨a, xs, rfl, e1, r1⟩ := rx.lst sb
    have e2 := ints_rp h1 r1
    subst e2
    exact cr_sum hc pins s σ H [.ref a] [u] Q I (.cons r .nil) ⟨a, ns, rfl, .inl (.inl e1), k _ _ _ (.v (.int _))⟩
  · obtain ⟨ns, h1, rfl⟩ := Option.map_eq_some_iff.mp q
    obtain ⟨a, xs, rfl, e1, r1⟩ := rx.tup sb
    have e2 := ints_rp h1 r1
    subst e2
    obtain ⟨its, rv, ht, _⟩ := I.tuple (.inl (.inl (sb _ _ e1)))
    cases r
    exact sum_tup (I.ok.hd hc) (show s.heap.IsTuple a its.toArray from ht) (by simpa using Vals.ints rv) fun h' tk t' hk => ⟨.int ns.sum, H, I.kept hk, ⟨_, rfl⟩, k _ _ _ (.v (.int _))⟩
  · cases q

/-! ### least, greatest, all, any -/
theorem readsAll_len' {h : Heap} : ∀ {vs : List Value} {ds : List PyData} {as : List Addr}, ReadsAll h vs ds as → vs.length = ds.length
  | _, _, _, .nil => rfl
  | _, _, _, .cons _ t => congrArg Nat.succ (readsAll_len' t)
/-- a value that reads the same as a member stands for it -/
theorem alikeB_ok {ds : List PyData} (h : alikeB ds = true) : PySem.W.AlikeAll ds ∧ PyData.depthAll ds ≤ 60 := by
  unfold alikeB at h
  simp only [Bool.and_eq_true, List.all_eq_true, decide_eq_true_eq] at h
  refine ⟨⟨fun x hx y hy => h.1.1 x hx y hy, fun x hx z => ?_⟩, h.2⟩
  have := h.1.2 x hx
  rw [z] at this
  cases this
theorem alike_self_plain : ∀ d : PyData, PySem.W.alike d d = true → d.plain = true
  | .none, _ => rfl
  | .bool _, _ => rfl
  | .int _, _ => rfl
  | .str _, _ => rfl
  | .list xs, h => by
    rw [PyData.plain]
    exact alike_selfs xs (by simpa [PySem.W.alike] using h)
  | .tuple xs, h => by
    rw [PyData.plain]
    exact alike_selfs xs (by simpa [PySem.W.alike] using h)
  | .dict _, h => by simp [PySem.W.alike] at h
where alike_selfs : ∀ ds : List PyData, PySem.W.alikeAll ds ds = true → PyData.plainAll ds = true
  | [], _ => rfl
  | d :: ds, h => by
    rw [PySem.W.alikeAll, Bool.and_eq_true] at h
    rw [PyData.plainAll, alike_self_plain d h.1, alike_selfs ds h.2]
    rfl
/-- an item's data by what it reads -/
theorem item_is {pins : List (Addr × Obj)} {s : Shared} {σ : L2.St} {H F : Hp} (I : Inv X pins σ H s) (sb : Sub F H) {vs : List V} {ds : List PyData} {us : List Value} {i : Nat} {v : Value} {d : PyData} {as : List Addr} {h' : Heap} (r : RpL F vs ds) (rv : Vals vs us) (hv : us[i]? = some v)
    (hr : Reads h' v d as) (hk : ∀ b o, s.heap.get? b = some o → h'.get? b = some o) (hp : d.plain = true) : ∃ x, vs[i]? = some x ∧ RelV x v ∧ Rp F x d := by
  have hi : i < us.length := (List.getElem?_eq_some_iff.mp hv).1
  have hi' : i < vs.length := by
    rw [rv.length]
    exact hi
  obtain ⟨u, h1, h2⟩ := rv.get (List.getElem?_eq_getElem hi')
  rw [hv] at h1
  cases h1
  obtain ⟨e, h3, h4⟩ := r.of_get (List.getElem?_eq_getElem hi')
  obtain ⟨bs, hr2, _⟩ := h4.readsN I sb _ e _ v (Nat.lt_succ_self _) h2
  have := PySem.SeqAt.plain_unique d e v as bs hp hr (PyProof.Rows.Reads.keeps hk hr2)
  subst this
  exact ⟨_, List.getElem?_eq_getElem hi', h2, h4⟩
theorem minD_mem (x : PyData) : ∀ xs : List PyData, PySem.W.minD x xs ∈ x :: xs := by
  intro xs
  unfold PySem.W.minD
  have : ∀ (l : List PyData) (a : PyData), l.foldl (fun a y => if PySem.W.dataLt y a then y else a) a = a ∨ l.foldl (fun a y => if PySem.W.dataLt y a then y else a) a ∈ l := by
    intro l
    induction l with
    | nil => exact fun a => .inl rfl
    | cons y l ih =>
      intro a
      rw [List.foldl_cons]
      rcases ih (if PySem.W.dataLt y a then y else a) with h | h
      · rw [h]
        split
        · exact .inr (by simp)
        · exact .inl rfl
      · exact .inr (by simp [h])
  rcases this xs x with h | h
  · rw [h]
    simp
  · simp [h]
theorem maxD_mem (x : PyData) : ∀ xs : List PyData, PySem.W.maxD x xs ∈ x :: xs := by
  intro xs
  unfold PySem.W.maxD
  have : ∀ (l : List PyData) (a : PyData), l.foldl (fun a y => if PySem.W.dataLt a y then y else a) a = a ∨ l.foldl (fun a y => if PySem.W.dataLt a y then y else a) a ∈ l := by
    intro l
    induction l with
    | nil => exact fun a => .inl rfl
    | cons y l ih =>
      intro a
      rw [List.foldl_cons]
      rcases ih (if PySem.W.dataLt a y then y else a) with h | h
      · rw [h]
        split
        · exact .inr (by simp)
        · exact .inl rfl
      · exact .inr (by simp [h])
  rcases this xs x with h | h
  · rw [h]
    simp
  · simp [h]
theorem alike_plain {ds : List PyData} (h : PySem.W.AlikeAll ds) {d : PyData} (m : d ∈ ds) : d.plain = true := alike_self_plain d (h.1 d m d m)
theorem c_min (hc : X.calm = true) (hu : X.A.units + 64 < cLine) : CD1 X (.builtin "min") gMin := by
  refine cd_of1 fun pins s σ H F x u dx sl Q I r sb rx q k => ?_
  unfold gMin at q
  split at q
  · rename_i d ds
    split at q
    · rename_i hz
      cases q
      obtain ⟨h1, h2⟩ := alikeB_ok hz
      obtain ⟨a, xs, rfl, e1, r1⟩ := rx.lst sb
      obtain ⟨its, rv, hl, _⟩ := I.list (.inl (.inl e1))
      obtain ⟨as, hr, _⟩ := RpL.reads I sb _ _ its r1 rv
      cases r
      refine PySem.W.min_list_data (I.ok.hd hc) hl.isList (by simpa using hr) h1 (by omega) fun i v h' tk bs hv hr' hk => ?_
      obtain ⟨y, _, h4, h5⟩ := item_is I sb r1 rv (by simpa using hv) hr' hk (alike_plain h1 (minD_mem d ds))
      exact ⟨y, H, I.kept hk, h4, k _ _ _ (.v h5)⟩
    · cases q
  · rename_i d ds
    split at q
    · rename_i hz
      cases q
      obtain ⟨h1, h2⟩ := alikeB_ok hz
      obtain ⟨a, xs, rfl, e1, r1⟩ := rx.tup sb
      obtain ⟨its, rv, hl, _⟩ := I.tuple (.inl (.inl (sb _ _ e1)))
      obtain ⟨as, hr, _⟩ := RpL.reads I sb _ _ its r1 rv
      cases r
      refine PySem.W.min_tuple_data (I.ok.hd hc) (show s.heap.IsTuple a its.toArray from hl) (by simpa using hr) h1 (by omega) fun i v h' tk bs hv hr' hk => ?_
      obtain ⟨y, _, h4, h5⟩ := item_is I sb r1 rv (by simpa using hv) hr' hk (alike_plain h1 (minD_mem d ds))
      exact ⟨y, H, I.kept hk, h4, k _ _ _ (.v h5)⟩
    · cases q
  · cases q
theorem c_max (hc : X.calm = true) (hu : X.A.units + 64 < cLine) : CD1 X (.builtin "max") gMax := by
  refine cd_of1 fun pins s σ H F x u dx sl Q I r sb rx q k => ?_
  unfold gMax at q
  split at q
  · rename_i d ds
    split at q
    · rename_i hz
      cases q
      obtain ⟨h1, h2⟩ := alikeB_ok hz
      obtain ⟨a, xs, rfl, e1, r1⟩ := rx.lst sb
      obtain ⟨its, rv, hl, _⟩ := I.list (.inl (.inl e1))
      obtain ⟨as, hr, _⟩ := RpL.reads I sb _ _ its r1 rv
      cases r
      refine PySem.W.max_list_data (I.ok.hd hc) hl.isList (by simpa using hr) h1 (by omega) fun i v h' tk bs hv hr' hk => ?_
      obtain ⟨y, _, h4, h5⟩ := item_is I sb r1 rv (by simpa using hv) hr' hk (alike_plain h1 (maxD_mem d ds))
      exact ⟨y, H, I.kept hk, h4, k _ _ _ (.v h5)⟩
    · cases q
  · rename_i d ds
    split at q
    · rename_i hz
      cases q
      obtain ⟨h1, h2⟩ := alikeB_ok hz
      obtain ⟨a, xs, rfl, e1, r1⟩ := rx.tup sb
      obtain ⟨its, rv, hl, _⟩ := I.tuple (.inl (.inl (sb _ _ e1)))
      obtain ⟨as, hr, _⟩ := RpL.reads I sb _ _ its r1 rv
      cases r
      refine PySem.W.max_tuple_data (I.ok.hd hc) (show s.heap.IsTuple a its.toArray from hl) (by simpa using hr) h1 (by omega) fun i v h' tk bs hv hr' hk => ?_
      obtain ⟨y, _, h4, h5⟩ := item_is I sb r1 rv (by simpa using hv) hr' hk (alike_plain h1 (maxD_mem d ds))
      exact ⟨y, H, I.kept hk, h4, k _ _ _ (.v h5)⟩
    · cases q
  · cases q
theorem c_min2 (hc : X.calm = true) : CD2 X (.builtin "min") gMin2 := fun pins s σ H xs us Q I rr ⟨F, x, y, dx, dy, sl, e, sb, rx, ry, q, k⟩ => by
  subst e
  unfold gMin2 at q
  split at q
  · cases q
    rw [rx.int, ry.int] at rr
    exact call_min2 hc pins s σ H _ us Q I rr ⟨_, _, rfl, k _ _ _ (.v (.int _))⟩
  · cases q
theorem c_max2 (hc : X.calm = true) : CD2 X (.builtin "max") gMax2 := fun pins s σ H xs us Q I rr ⟨F, x, y, dx, dy, sl, e, sb, rx, ry, q, k⟩ => by
  subst e
  unfold gMax2 at q
  split at q
  · cases q
    rw [rx.int, ry.int] at rr
    exact call_max2 hc pins s σ H _ us Q I rr ⟨_, _, rfl, k _ _ _ (.v (.int _))⟩
  · cases q
theorem small_ok {ds : List PyData} (h : ds.all smallD = true) : ∀ x ∈ ds, x.fits63 := fun x hx => by
  have := List.all_eq_true.mp h x hx
  cases x with
  | str z => exact of_decide_eq_true (p := (z.length : Int) < 2 ^ 63) this
  | list z => exact of_decide_eq_true (p := (z.length : Int) < 2 ^ 63) this
  | tuple z => exact of_decide_eq_true (p := (z.length : Int) < 2 ^ 63) this
  | _ => exact True.intro
theorem c_all (hc : X.calm = true) : CD1 X (.builtin "all") gAll := by
  refine cd_of1 fun pins s σ H F x u dx sl Q I r sb rx q k => ?_
  unfold gAll at q
  split at q
  · split at q
    · rename_i hz
      cases q
      obtain ⟨h1, h2⟩ := Bool.and_eq_true_iff.mp hz
      obtain ⟨a, xs, rfl, e1, r1⟩ := rx.lst sb
      obtain ⟨its, rv, hl, _⟩ := I.list (.inl (.inl e1))
      obtain ⟨as, hr, _⟩ := RpL.reads I sb _ _ its r1 rv
      cases r
      exact PySem.W.all_list_data (I.ok.hd hc) hl.isList (by simpa using hr) h1 (small_ok h2) fun h' tk hk => ⟨.bl _, H, I.kept hk, rfl, k _ _ _ (.v (.bl _))⟩
    · cases q
  · split at q
    · rename_i hz
      cases q
      obtain ⟨h1, h2⟩ := Bool.and_eq_true_iff.mp hz
      obtain ⟨a, xs, rfl, e1, r1⟩ := rx.tup sb
      obtain ⟨its, rv, hl, _⟩ := I.tuple (.inl (.inl (sb _ _ e1)))
      obtain ⟨as, hr, _⟩ := RpL.reads I sb _ _ its r1 rv
      cases r
      exact PySem.W.all_tuple_data (I.ok.hd hc) (show s.heap.IsTuple a its.toArray from hl) (by simpa using hr) h1 (small_ok h2) fun h' tk hk => ⟨.bl _, H, I.kept hk, rfl, k _ _ _ (.v (.bl _))⟩
    · cases q
  · cases q
theorem c_any (hc : X.calm = true) : CD1 X (.builtin "any") gAny := by
  refine cd_of1 fun pins s σ H F x u dx sl Q I r sb rx q k => ?_
  unfold gAny at q
  split at q
  · split at q
    · rename_i hz
      cases q
      obtain ⟨h1, h2⟩ := Bool.and_eq_true_iff.mp hz
      obtain ⟨a, xs, rfl, e1, r1⟩ := rx.lst sb
      obtain ⟨its, rv, hl, _⟩ := I.list (.inl (.inl e1))
      obtain ⟨as, hr, _⟩ := RpL.reads I sb _ _ its r1 rv
      cases r
      exact PySem.W.any_list_data (I.ok.hd hc) hl.isList (by simpa using hr) h1 (small_ok h2) fun h' tk hk => ⟨.bl _, H, I.kept hk, rfl, k _ _ _ (.v (.bl _))⟩
    · cases q
  · split at q
    · rename_i hz
      cases q
      obtain ⟨h1, h2⟩ := Bool.and_eq_true_iff.mp hz
      obtain ⟨a, xs, rfl, e1, r1⟩ := rx.tup sb
      obtain ⟨its, rv, hl, _⟩ := I.tuple (.inl (.inl (sb _ _ e1)))
      obtain ⟨as, hr, _⟩ := RpL.reads I sb _ _ its r1 rv
      cases r
      exact PySem.W.any_tuple_data (I.ok.hd hc) (show s.heap.IsTuple a its.toArray from hl) (by simpa using hr) h1 (small_ok h2) fun h' tk hk => ⟨.bl _, H, I.kept hk, rfl, k _ _ _ (.v (.bl _))⟩
    · cases q
  · cases q

/-! ### isinstance -/
theorem c_isi {T : String} {b : PyData → Bool} (h : ∀ (s : Shared) (v : Value) (d : PyData) (as : List Addr) (Q : Value → Shared → Prop), Reads s.heap v d as → (∀ tk, s.toks ≤ tk → Q (.bool (b d)) { s with toks := tk }) → wpAny (model X.prog X.w) X.A (call (.builtin "isinstance") [v, .type T]) Q X.xe s) :
    CDT X T fun d => some (.v (.bool (b d))) := fun pins s σ H xs us Q I rr ⟨F, x, dx, sl, e, sb, rx, q, k⟩ => by
  subst e
  cases q
  cases rr with
  | cons r1 r2 =>
    cases r2 with
    | cons r3 r4 =>
      cases r4
      cases r3
      obtain ⟨as, hr⟩ := rx.reads I sb r1
      exact h s _ dx as _ hr fun tk _ => ⟨.bl _, H, I.tok tk, rfl, k _ _ _ (.v (.bl _))⟩
theorem i_int : CDT X "int" fun d => some (.v (.bool d.isInt)) := c_isi fun _ _ _ _ _ r h => PySem.W.isinstance_int_data r h
theorem i_bool : CDT X "bool" fun d => some (.v (.bool d.isBool)) := c_isi fun _ _ _ _ _ r h => PySem.W.isinstance_bool_data r h
theorem i_tuple : CDT X "tuple" fun d => some (.v (.bool d.isTuple)) := c_isi fun _ _ _ _ _ r h => PySem.W.isinstance_tuple_data r h
theorem i_list : CDT X "list" fun d => some (.v (.bool d.isList)) := c_isi fun _ _ _ _ _ r h => PySem.W.isinstance_list_data r h
theorem i_dict : CDT X "dict" fun d => some (.v (.bool d.isDict)) := c_isi fun _ _ _ _ _ r h => PySem.W.isinstance_dict_data r h
theorem i_str : CDT X "str" fun d => some (.v (.bool d.isStr)) := c_isi fun _ _ _ _ _ r h => PySem.W.isinstance_str_data r h
end
end Pd
end
section
set_option linter.all false
set_option maxRecDepth 100000
/-! Pd, part G: sorted of lists and tuples of data; list(range(..)), tuple(range(..)). -/
namespace Pd
open PySem PySem.Spec PyProof.Rows L2

section
variable {P : Program} {w : World} {A : Around} {E : Value → Shared → Prop} {s : Shared}
/-- sorted(x), x a list or a tuple: list.sort on a new list of its items -/
theorem sorted_seq {it : Addr} {T : String} {o : Obj} {vs : List Value} {n : Nat} {ds : List PyData} {Q : Value → Shared → Prop} (hT : T = "list" ∨ T = "tuple") (ho : s.heap.get? it = some o) (hc : o.cls = .type T) (hd : o.data = .seq vs.toArray n)
    (er : PySem.W.EachIs (fun v d => ∃ as, Reads s.heap v d as) vs ds) (hal : PySem.W.AllAlike ds) (hk : PySem.W.Sortable ds) (hL : vs.length ≤ sizeLine) (hu : ∀ d, d ∈ ds → A.units + 2 + d.depth < cLine)
    (h : ∀ h' a out e, (∀ b u, s.heap.get? b = some u → h'.get? b = some u) → s.heap.get? a = none → h'.get? a = some (seqObj "list" (List.toArray out) e) →
      (∀ (β : Type) (R : Value → β → Prop) (bs : List β) (enc : β → PyData), bs.map enc = ds → PySem.W.EachIs R vs bs → out.length = bs.length ∧ PySem.W.EachIs R out (bs.mergeSort (PySem.W.dataLe false enc))) → Q (.ref a) { s with heap := h' }) :
    wpAny (model P w) A (call (.builtin "sorted") [.ref it]) Q E s := by
  refine call_function_entry_kw (kw := []) kind_sorted plain_sorted
    entry_sorted (args_sorted1 _) ?_
  unfold Builtin.«sorted»
  refine wpAny_bind (m := checkCount "sorted" 1 1 _)
    (wpAny_pure (wpAny_bind (wpAny_collect_seq it hT ho hc hd (fun h1 k1 => ?_) (by simpa using hL))))
  have ev : vs.toArray.toList = vs := by simp
  rw [ev]
  refine wpAny_bind (wpAny_newList ?_ hL)
  have at1 : (h1.push (seqObj "list" vs.toArray 0)).get? h1.objs.size = some (seqObj "list" vs.toArray 0) := Heap.get?_push_size _ rfl
  have old : ∀ b u, s.heap.get? b = some u → b ≠ h1.objs.size ∧ (h1.push (seqObj "list" vs.toArray 0)).get? b = some u := fun b u q =>
    ⟨Nat.ne_of_lt (Heap.lt_size (k1 b u q)), Heap.get?_push_of_some _ (k1 b u q)⟩
  have old2 : ∀ b u, s.heap.get? b = some u → (PySem.W.sortingHeap (h1.push (seqObj "list" vs.toArray 0)) h1.objs.size vs).get? b = some u := fun b u q => PySem.W.sortingHeap_old (old b u q).1 (old b u q).2
  have er2 : PySem.W.EachIs (fun v d => ∃ as, Reads (PySem.W.sortingHeap (h1.push (seqObj "list" vs.toArray 0)) h1.objs.size vs) v d as) vs ds := er.mono fun _ _ ⟨as, r⟩ => ⟨as, PyProof.Rows.Reads.keeps old2 r⟩
  refine wpAny_bind (wpAny_holding (wpAny_call_entry_kw slot_list_sort
    ⟨_, at1, rfl⟩ entry_list_sort ?body (args_list_sort _)))
  case body =>
    refine PySem.W.list_sort_vals (s := { s with heap := h1.push (seqObj "list" vs.toArray 0) }) at1 (PySem.W.SortsAt.data (s := { s with heap := PySem.W.sortingHeap (h1.push (seqObj "list" vs.toArray 0)) h1.objs.size vs }) er2 hal hk
      fun d hd => by
        have := hu d hd
        show A.units + 1 + 1 + d.depth < cLine
        omega) hL ⟨_, rfl, wpAny_pure ⟨_, rfl, ?_⟩⟩
    obtain ⟨e, he⟩ := sortedHeap_at (out := (PySem.W.sortVals (PySem.W.dataKind (PySem.W.sortingHeap (h1.push (seqObj "list" vs.toArray 0)) h1.objs.size vs) ds) false vs vs).toArray) at1
    refine h _ h1.objs.size _ e (fun b u q => ?_) ?_ he fun β R bs enc eb eR => ?_
    · obtain ⟨n1, n2⟩ := old b u q
      rw [sortedHeap_old n1 (Heap.lt_size n2)]
      exact n2
    · cases z : s.heap.get? h1.objs.size with
      | none => rfl
      | some u => exact absurd rfl (old _ _ z).1
    · subst eb
      refine ⟨by rw [PySem.W.sortVals_length false rfl]; exact eR.length, ?_⟩
      have er3 : PySem.W.EachIs (fun v b => ∃ as, Reads (PySem.W.sortingHeap (h1.push (seqObj "list" vs.toArray 0)) h1.objs.size vs) v (enc b) as) vs bs := by
        clear h er he hal hk hu eR at1 old old2
        have : ∀ {vs : List Value} {bs : List β} {h0 : Heap}, PySem.W.EachIs (fun v d => ∃ as, Reads h0 v d as) vs (bs.map enc) → PySem.W.EachIs (fun v b => ∃ as, Reads h0 v (enc b) as) vs bs := by
          intro vs bs h0 q
          induction bs generalizing vs with
          | nil =>
            cases q
            exact .nil
          | cons b bs ih =>
            cases q with
            | cons q1 q2 => exact .cons q1 (ih q2)
        exact this er2
      exact PySem.W.sortVals_data false eR er3 hal
end
theorem obj_is {P : Program} {w : World} {H : Hp} {h : Heap} {a : Addr} : ∀ {o : HO}, ObjOk P w H h a o → ∃ u, h.get? a = some u
  | .lst _, ⟨_, _, _, _, e⟩ => ⟨_, e⟩
  | .tup _, ⟨_, _, _, ⟨_, e, _⟩⟩ => ⟨_, e⟩
  | .dK _, ⟨_, _, _, _, _, _, _, e, _⟩ => ⟨_, e⟩
  | .dT _, ⟨_, _, _, _, _, _, _, e, _⟩ => ⟨_, e⟩
  | .set _ _, ⟨_, _, _, _, e, _⟩ => ⟨_, e⟩
  | .ins _ _ _, ⟨_, _, _, e, _⟩ => ⟨_, e⟩
  | .own _, ⟨_, e⟩ => ⟨_, e⟩
  | .xd _, ⟨_, ⟨_, _, _, e, _⟩, _⟩ => ⟨_, e⟩
  | .rng _ _, ⟨_, _, _, e⟩ => ⟨_, e⟩
  | .frz _ _, ⟨e, _⟩ => ⟨_, e⟩
  | .tbl _, e => ⟨_, e⟩
  | .met _ _, e => ⟨_, e⟩
  | .ext _, ⟨_, ⟨_, e⟩, _⟩ => ⟨_, e⟩
theorem free_of {X : Cx} {pins : List (Addr × Obj)} {s : Shared} {σ : L2.St} {H : Hp} {a : Addr} (I : Inv X pins σ H s) (h : s.heap.get? a = none) : H a = none := by
  cases q : H a with
  | none => rfl
  | some o =>
    obtain ⟨u, e⟩ := obj_is (I.hok a o q)
    rw [h] at e
    cases e
section
variable {X : Cx}
theorem sortB_ok {ds : List PyData} (h : sortB ds = true) : PySem.W.AllAlike ds ∧ PySem.W.Sortable ds ∧ ∀ d ∈ ds, d.depth ≤ 60 := by
  unfold sortB at h
  simp only [Bool.and_eq_true, Bool.or_eq_true, List.all_eq_true, decide_eq_true_eq] at h
  refine ⟨fun d hd e he => h.1.1 d hd e he, ?_, h.2⟩
  rcases h.1.2 with q | q
  · refine .inl fun d hd => ?_
    have := q d hd
    split at this
    · exact ⟨_, _, rfl⟩
    · cases this
  · refine .inr fun d hd => ⟨fun z => ?_, fun xs z => ?_⟩
    · have := q d hd
      rw [z] at this
      cases this
    · have := q d hd
      rw [z] at this
      cases this
theorem each_zip {F : Hp} : ∀ {us : List Value} {vs : List V} {ds : List PyData}, Vals vs us → RpL F vs ds → PySem.W.EachIs (fun (u : Value) (p : V × PyData) => RelV p.1 u ∧ Rp F p.1 p.2) us (vs.zip ds)
  | _, _, _, .nil, .nil => .nil
  | _, _, _, .cons a b, .cons c d => .cons ⟨a, c⟩ (each_zip b d)
theorem each_unzip {F : Hp} : ∀ {us : List Value} {ps : List (V × PyData)}, PySem.W.EachIs (fun (u : Value) (p : V × PyData) => RelV p.1 u ∧ Rp F p.1 p.2) us ps → Vals (ps.map (·.1)) us ∧ RpL F (ps.map (·.1)) (ps.map (·.2))
  | _, _, .nil => ⟨.nil, .nil⟩
  | _, _, .cons a b => ⟨.cons a.1 (each_unzip b).1, .cons a.2 (each_unzip b).2⟩
theorem zip_snd : ∀ {vs : List V} {ds : List PyData}, vs.length = ds.length → (vs.zip ds).map (·.2) = ds
  | [], [], _ => rfl
  | _ :: vs, _ :: ds, h => by
    rw [List.zip_cons_cons, List.map_cons, zip_snd (Nat.succ.inj h)]
theorem each_reads {pins : List (Addr × Obj)} {s : Shared} {σ : L2.St} {H F : Hp} (I : Inv X pins σ H s) (sb : Sub F H) : ∀ {us : List Value} {vs : List V} {ds : List PyData}, Vals vs us → RpL F vs ds → PySem.W.EachIs (fun v d => ∃ as, Reads s.heap v d as) us ds
  | _, _, _, .nil, .nil => .nil
  | _, _, _, .cons a b, .cons c d => .cons (let ⟨as, h, _⟩ := c.readsN I sb _ _ _ _ (Nat.lt_succ_self _) a; ⟨as, h⟩) (each_reads I sb b d)
theorem sortD_zip (vs : List V) (ds : List PyData) (h : vs.length = ds.length) : ((vs.zip ds).mergeSort (PySem.W.dataLe false (·.2))).map (·.2) = sortD ds := by
  unfold sortD
  have e := PySem.W.sort_maps (r := PySem.W.dataLe false (·.2)) (s := PySem.W.dataLe false id) (fun p : V × PyData => p.2) (l := vs.zip ds) fun _ _ _ _ => rfl
  rw [zip_snd h] at e
  exact e
theorem c_sorted (hu : X.A.units + 66 < cLine) : CD1 X (.builtin "sorted") gSorted := by
  refine cd_of1 fun pins s σ H F x u dx sl Q I r sb rx q k => ?_
  have fin : ∀ {a : Addr} {T : String} {ob : Obj} {its : List Value} {n : Nat} {xs : List V} {ds : List PyData}, (T = "list" ∨ T = "tuple") → s.heap.get? a = some ob → ob.cls = .type T → ob.data = .seq its.toArray n → Vals xs its → RpL F xs ds → sortB ds = true → xs.length ≤ sizeLine →
      (∀ v F' H', Out F H (.o (.list (sortD ds))) v F' H' → Q v H') → wpAny (model X.prog X.w) X.A (call (.builtin "sorted") [.ref a]) (EP X pins σ Q) X.xe s := fun {a T ob its n xs ds} hT h1 h2 h3 rv r1 hz hl kk => by
    obtain ⟨a1, a2, a3⟩ := sortB_ok hz
    refine sorted_seq (A := X.A) hT h1 h2 h3 (each_reads I sb rv r1) a1 a2 (by rw [← rv.length]; exact hl) (fun d hd => by
      have := a3 d hd
      omega) fun h' p out e hk hp hat all => ?_
    obtain ⟨l1, l2⟩ := all _ _ (xs.zip ds) (·.2) (zip_snd r1.length) (each_zip rv r1)
    obtain ⟨v1, v2⟩ := each_unzip l2
    rw [sortD_zip xs ds r1.length] at v2
    have hz2 : (((xs.zip ds).mergeSort (PySem.W.dataLe false (·.2))).map (·.1)).length ≤ sizeLine := by
      rw [List.length_map, List.length_mergeSort, List.length_zip, r1.length, Nat.min_self, ← r1.length]
      exact hl
    exact ⟨.ref p, _, I.laidN (o := .lst (((xs.zip ds).mergeSort (PySem.W.dataLe false (·.2))).map (·.1))) (t' := s.toks) hk hp (free_of I hp) ⟨hz2, out, e, v1, hat⟩, rfl, kk _ _ _ (.o (.lst v2) (free_of I hp))⟩
  unfold gSorted at q
  split at q
  · split at q
    · rename_i hz
      cases q
      obtain ⟨a, xs, rfl, e1, r1⟩ := rx.lst sb
      obtain ⟨hl, its, n, rv, h1⟩ := (show ObjOk X.prog X.w H s.heap a (.lst xs) from I.hok a _ e1)
      cases r
      exact fin (.inl rfl) h1 rfl rfl rv r1 hz hl k
    · cases q
  · split at q
    · rename_i hz
      cases q
      obtain ⟨a, xs, rfl, e1, r1⟩ := rx.tup sb
      obtain ⟨its, rv, ⟨ob, h1, h2, n, h3⟩, hl⟩ := I.tuple (.inl (.inl (sb _ _ e1)))
      cases r
      exact fin (.inr rfl) h1 h2 h3 rv r1 hz hl k
    · cases q
  · cases q
end

/-! ### ranges as data -/
def mRg1 (m : S → R Slot) : S → R (Int × Int) := fun st => match m st with
  | .ok (.v (.int n)) st1 => .ok (0, n) st1
  | _ => .bad
def mRg2 (m m' : S → R Slot) : S → R (Int × Int) := fun st => match m st with
  | .ok (.v (.int i)) st1 => match m' st1 with
    | .ok (.v (.int j)) st2 => .ok (i, j) st2
    | _ => .bad
  | _ => .bad
def rgOk (a b : Int) : Bool := decide (-16777216 ≤ a) && decide (a ≤ 16777216) && decide (-16777216 ≤ b) && decide (b ≤ 16777216) && decide (b - a ≤ 16777216)
def rgD (a b : Int) : List PyData := (List.range (b - a).toNat).map fun i => .int (a + (i : Nat))
def mLRg (m : S → R (Int × Int)) : S → R Slot := fun st => match m st with
  | .ok (a, b) st1 => if rgOk a b then .ok (.o (.list (rgD a b))) st1 else .bad
  | .bad => .bad
def mTRg (m : S → R (Int × Int)) : S → R Slot := fun st => match m st with
  | .ok (a, b) st1 => if rgOk a b then .ok (.v (.tuple (rgD a b))) st1 else .bad
  | .bad => .bad
abbrev TRg := L2.St → Hp → (Int → Int → Hp → Prop) → Prop
def tRg (K : PySem.W.Frag) (m : S → R (Int × Int)) : TRg := fun σ H Q => ∃ sa B F st r st', SR K sa B F H σ st ∧ m st = .ok r st' ∧ ∀ sa' F' H', Rch K B σ sa F st sa' F' H' st' → Q r.1 r.2 H'
theorem rgV_rp (F : Hp) (a b : Int) : RpL F (rgV a b) (rgD a b) := by
  unfold rgV rgD
  generalize List.range (b - a).toNat = l
  induction l with
  | nil => exact .nil
  | cons i l ih => exact .cons (.int _) ih
theorem rgOk_ok {a b : Int} (h : rgOk a b = true) : RgOk a b := by
  unfold rgOk at h
  simp only [Bool.and_eq_true, decide_eq_true_eq] at h
  refine ⟨by omega, by omega, by omega, by omega, ?_⟩
  have : (2 : Nat) ^ 24 = 16777216 := by decide
  omega
section
variable {K : PySem.W.Frag} {X : Cx} {e a b : Expr} {m m' : S → R Slot} {mr : S → R (Int × Int)} {p pos : Pos}
theorem imR {t t' : TRg} (h : PRg X e t) (i : ∀ σ H Q, t' σ H Q → t σ H Q) : PRg X e t' := fun pins s σ H Q I q => h pins s σ H Q I (i σ H _ q)
theorem g_1 (hg : Gl X "range") (hm : X.mg "range" = none) (ha : PE X a (tM K m)) (na : starEach [a] X.env = (false, eval a X.env) :: starEach [] X.env := by rfl) : PRg X (.Call (.Name "range" p) [a] [] pos) (tRg K (mRg1 m)) :=
  imR (prg_1 hg hm ha na) fun σ H Q ⟨sa, B, F, st, r', st', h0, h1, k⟩ => by
    unfold mRg1 at h1
    cases q : m st with
    | bad =>
      rw [q] at h1
      cases h1
    | ok r st1 =>
      rw [q] at h1
      cases r with
      | v d =>
        cases d with
        | int i =>
          cases h1
          exact ⟨sa, B, F, st, _, _, h0, q, fun sa' F' H' v R r => by
            cases (show Rp F' v (.int i) from r)
            exact ⟨_, rfl, k sa' F' H' R⟩⟩
        | _ => cases h1
      | _ => cases h1
theorem g_2 (hg : Gl X "range") (hm : X.mg "range" = none) (ha : PE X a (tM K m)) (hb : PE X b (tM K m')) (na : starEach [a, b] X.env = (false, eval a X.env) :: starEach [b] X.env := by rfl) (nb : starEach [b] X.env = (false, eval b X.env) :: starEach [] X.env := by rfl) (hp : (backTo pos (starEach [b] X.env)).any (·.1) = false := by rfl) : PRg X (.Call (.Name "range" p) [a, b] [] pos) (tRg K (mRg2 m m')) :=
  imR (prg_2 hg hm ha hb na nb hp) fun σ H Q ⟨sa, B, F, st, r', st', h0, h1, k⟩ => by
    unfold mRg2 at h1
    cases q : m st with
    | bad =>
      rw [q] at h1
      cases h1
    | ok r st1 =>
      rw [q] at h1
      cases r with
      | v d =>
        cases d with
        | int i =>
          cases q2 : m' st1 with
          | bad =>
            simp only [q2] at h1
            cases h1
          | ok r2 st2 =>
            simp only [q2] at h1
            cases r2 with
            | v d2 =>
              cases d2 with
              | int j =>
                cases h1
                refine ⟨sa, B, F, st, _, _, h0, q, fun sa1 F1 H1 v R1 r1 => ⟨sa1, B, F1, st1, _, _, R1.r, q2, fun sa2 F2 H2 v2 R2 r2 => ?_⟩⟩
                cases (show Rp F1 v (.int i) from r1)
                cases (show Rp F2 v2 (.int j) from r2)
                exact ⟨i, j, rfl, rfl, k sa2 F2 H2 (R1.trans R2)⟩
              | _ => cases h1
            | _ => cases h1
        | _ => cases h1
      | _ => cases h1
theorem d_lrg (hc : X.calm = true) (hg : Gl X "list") (hm : X.mg "list" = none) (h : PRg X e (tRg K mr)) (na : starEach [e] X.env = (false, eval e X.env) :: starEach [] X.env := by rfl) : PE X (.Call (.Name "list" p) [e] [] pos) (tM K (mLRg mr)) :=
  imE (pe_listRg hc hg hm h na) fun σ H Q ⟨sa, B, F, st, r', st', h0, h1, k⟩ => by
    unfold mLRg at h1
    cases q : mr st with
    | bad =>
      rw [q] at h1
      cases h1
    | ok r st1 =>
      obtain ⟨i, j⟩ := r
      simp only [q] at h1
      split at h1
      · rename_i hz
        cases h1
        refine ⟨sa, B, F, st, _, _, h0, q, fun sa1 F1 H1 R1 => ⟨rgOk_ok hz, fun p hp => ?_⟩⟩
        obtain ⟨a, b⟩ := R1.out (.o (.lst (rgV_rp _ i j)) hp)
        exact k _ _ _ _ a b
      · cases h1
theorem d_trg (hc : X.calm = true) (hg : Gl X "tuple") (hm : X.mg "tuple" = none) (h : PRg X e (tRg K mr)) (na : starEach [e] X.env = (false, eval e X.env) :: starEach [] X.env := by rfl) : PE X (.Call (.Name "tuple" p) [e] [] pos) (tM K (mTRg mr)) :=
  imE (pe_tupRg hc hg hm h na) fun σ H Q ⟨sa, B, F, st, r', st', h0, h1, k⟩ => by
    unfold mTRg at h1
    cases q : mr st with
    | bad =>
      rw [q] at h1
      cases h1
    | ok r st1 =>
      obtain ⟨i, j⟩ := r
      simp only [q] at h1
      split at h1
      · rename_i hz
        cases h1
        refine ⟨sa, B, F, st, _, _, h0, q, fun sa1 F1 H1 R1 => ⟨rgOk_ok hz, fun p hp => ?_⟩⟩
        obtain ⟨a, b⟩ := R1.out (.t (rgV_rp _ i j) hp)
        exact k _ _ _ _ a b
      · cases h1
end
end Pd
end
section
set_option linter.all false
set_option maxRecDepth 100000
/-! Pd, part H: enumerate over a tuple. -/
namespace Pd
open PySem PySem.Spec PyProof.Rows L2

set_option maxHeartbeats 1000000 in
theorem enum1_meets {v : Value} {o : Obj} {C : Heap → Prop} (B : Begins v o C) :
    Meets (Builtin.«enumerate.__new__» ⟨[.type "enumerate", v], []⟩) (fun _ R s => C s.heap ∧
      R (.ok (.ret (.ref (s.heap.push o).objs.size))) { s with heap := (s.heap.push o).push { cls := .type "enumerate", data := .fields #[.none, .bool false, .ref s.heap.objs.size, rawInt 0, .none, .none] } }) :=
  .of_wp fun prog w A R s h => by
    obtain ⟨hp, g, d, tk, os⟩ := s
    obtain ⟨h1, h⟩ := h
    have hsub := sub_enumerate
    have go : ∀ {A' : Around} {E : Value → Shared → Prop} {Q : Value → Shared → Prop}, Q (.ref hp.objs.size) ⟨hp.push o, g, d, tk, os⟩ →
        wpAny (model prog w) A' (pyIter v) Q E ⟨hp, g, d, tk, os⟩ := fun q => B.iter prog w _ _ ⟨hp, g, d, tk, os⟩ _ h1 q
    wp_walk using go
    refine wpAny_stack_any fun st => wpAny_pure ?_
    split
    · rename_i c _ _ _ _ _
      cases (c == Value.type "enumerate") <;> (wp_walk using go; exact ⟨_, rfl, h⟩)
    · wp_walk using go
      exact ⟨_, rfl, h⟩
section
variable {prog : Program} {w : World} {A : Around} {E : Value → Shared → Prop} {s : Shared}
theorem enum1_call {v : Value} {o : Obj} {C : Heap → Prop} {Q : Value → Shared → Prop} (B : Begins v o C) (hc : C s.heap)
    (h : ∀ h', IsEnum h' (s.heap.objs.size + 1) s.heap.objs.size 0 .none → h'.get? s.heap.objs.size = some o → (∀ b u, s.heap.get? b = some u → h'.get? b = some u) → Q (.ref (s.heap.objs.size + 1)) { s with heap := h' }) :
    wpAny (model prog w) A (call (.type "enumerate") [v]) Q E s := by
  refine callType_new F.called_enumerate (by decide) (F.typeCall_enumerate_1 _) (F.newCall_enumerate_1 _)
    (fun obj => F.args_object_init_2 obj _) F.entry_enumerate_new (enum1_meets B) ⟨hc, ?_⟩
  have hz : (s.heap.push o).objs.size = s.heap.objs.size + 1 := Heap.size_push ..
  show _ ∧ _
  rw [hz]
  have at2 := Heap.get?_push_size (s.heap.push o) (o := { cls := .type "enumerate", data := .fields #[.none, .bool false, .ref s.heap.objs.size, rawInt 0, .none, .none] }) rfl
  rw [hz] at at2
  exact ⟨⟨_, at2, rfl⟩, h _ at2 (Heap.get?_push_of_some _ (Heap.get?_push_size _ B.free)) fun b u q => Heap.get?_push_of_some _ (Heap.get?_push_of_some _ q)⟩
end

/-- the tuple at a, each item in a new pair -/
def ItE (K : PySem.W.Frag) (a : Addr) : It :=
  ⟨fun i H => ∃ (xs : List V) (x : V), SqT K H a xs ∧ xs[i]? = some x, fun i H v H' => ∃ T x, v = .ref T ∧ H T = none ∧ H' = upd H T (.tup [.int (i : Nat), x]) ∧ ∀ xs, SqT K H a xs → xs[i]? = some x,
    fun i H => ∃ xs : List V, SqT K H a xs ∧ xs.length = i⟩
theorem enumT_turn {P : Program} {w : World} {K : PySem.W.Frag} {elts : List Expr} {kk : Nat} {tpos : Pos} (a e it : Addr) (nai : a ≠ it) :
    Turn P w K (.Tuple elts kk tpos) (ItE K a) [e, it] e (fun i h => (∃ old, IsEnum h e it ((i : Nat) : Int) old) ∧ h.IsTupleIter it a i ∧ e ≠ it ∧ e ≠ a) where
  mem := by simp
  obj := fun i h st b hb => by
    obtain ⟨⟨old, he⟩, ⟨o, ho, hc, hd⟩, _⟩ := st
    rcases (show b = e ∨ b = it by simpa using hb) with rfl | rfl
    · exact ⟨_, he, fun v q => nomatch q⟩
    · exact ⟨o, ho, fun v q => by
        rw [hd] at q
        cases q⟩
  keep := fun i h h' ⟨⟨old, he⟩, hi, hne⟩ k => ⟨⟨old, k e (by simp) _ he⟩, hi.at fun o q => k it (by simp) o q, hne⟩
  item := by
    intro X hP hw hK hc i pins s σ H E I hf st hg
    subst hP hw hK
    obtain ⟨⟨old, he⟩, hit, hne, hea⟩ := st
    obtain ⟨xs, x, hq, hx⟩ := hg
    obtain ⟨its, rv, p, hz⟩ := I.tuple hq
    obtain ⟨u, hu, ru⟩ := rv.get hx
    have el := Heap.lt_size he
    have il : it < s.heap.objs.size := by
      obtain ⟨_, q, _⟩ := hit
      exact Heap.lt_size q
    have hlt : i < its.toArray.size := by
      have := (List.getElem?_eq_some_iff.mp hu).1
      simpa using this
    refine wpAny_pyNext_enum_itemD (Draws.tuple (A := X.A.in1) (I.ok.hd hc) it a nai its.toArray) he ⟨hit, p⟩ hlt hne (by simp [hne, hea]) fun y h' tk hy ho hit' hT hsz hk => ?_
    have ey : y = u := by
      have q : its.toArray[i]? = some y := hy
      rw [show its.toArray[i]? = some u by simpa using hu] at q
      exact (Option.some.inj q).symm
    subst ey
    refine ⟨_, rfl, wpAny_letOwnedTupleGo_enum (s := { s with heap := h', toks := tk + 1 }) ho fun h2 he' sb => ?_⟩
    have at2 : h2.get? s.heap.objs.size = some { cls := .type "tuple", data := .seq #[.int i tk, y] } := (sb.2 _ (Nat.ne_of_gt el)).trans hT
    have new : ObjOk X.prog X.w (upd H s.heap.objs.size (.tup [.int (i : Nat), x])) h2 s.heap.objs.size (.tup [.int (i : Nat), x]) :=
      ⟨by show 2 ≤ sizeLine; decide, [.int i tk, y], .cons ⟨_, rfl⟩ (.cons ru .nil), ⟨_, at2, rfl, _, rfl⟩⟩
    have I1 : Inv X pins σ (upd H s.heap.objs.size (.tup [.int (i : Nat), x])) { s with heap := h2, toks := tk + 1 } :=
      I.turnedNew (ch := [e, it]) (fun b ob hb q => (sb.2 b fun z => hb (by simp [z])).trans (hk b ob (fun z => hb (by simp [z])) (fun z => hb (by simp [z])) q)) hf (Nat.le_refl _) new
    refine ⟨.ref s.heap.objs.size, _, I1, rfl, ⟨_, x, rfl, I.hok.fresh (Nat.le_refl _), rfl, fun ys hy => by
      rw [I.tuple_inj hy hq]
      exact hx⟩, ⟨⟨y, ?_⟩, hit'.1.at fun o q => (sb.2 it (Ne.symm hne)).trans q, hne, hea⟩, fun b hb => ?_⟩
    · rw [show ((i + 1 : Nat) : Int) = (i : Int) + 1 by omega]
      exact he'
    · have lt : b < s.heap.objs.size := by
        rcases (show b = e ∨ b = it by simpa using hb) with rfl | rfl
        · exact el
        · exact il
      rw [upd_ne (Nat.ne_of_lt lt)]
      exact (hf b hb).1
  done := by
    intro X hP hw hK hc i pins s σ H E I hf st hg
    subst hP hw hK
    obtain ⟨⟨old, he⟩, hit, hne, hea⟩ := st
    obtain ⟨xs, hq, hx⟩ := hg
    obtain ⟨its, rv, p, hz⟩ := I.tuple hq
    obtain ⟨f0, f1, f2, f3, f4, f5⟩ := hf it (by simp)
    have e2 : i = its.toArray.size := by
      rw [List.size_toArray, ← rv.length]
      exact hx.symm
    subst e2
    exact wpAny_pyNext_enum_endD (Draws.tuple (A := X.A.in1) (I.ok.hd hc) it a nai its.toArray) he ⟨hit, p⟩ fun h' eb => ⟨rfl, I.turned (t' := s.toks) (fun b o hb q => eb b o hb q) f0 f1 f3 f4 f5⟩
  self := fun A i s Q E ⟨⟨_, he⟩, _⟩ h => wpAny_pyIter_enum he h
def iEnT (K : PySem.W.Frag) (ta : TA) : TI := fun σ H R => ta σ H fun vs H1 => ∃ a xs, vs = [.ref a] ∧ ((SqL K H1 a xs ∧ R (Ite K a) H1) ∨ (SqT K H1 a xs ∧ R (ItE K a) H1))
theorem pi_enT {X : Cx} {e : Expr} {ta : TA} {p pos tpos : Pos} {elts : List Expr} {kk : Nat} (hg : Gl X "enumerate") (hm : X.mg "enumerate" = none) (ha : PA X [e] ta) (hs : starEach [e] X.env = [(false, eval e X.env)] := by rfl) :
    PI X (.Tuple elts kk tpos) (.Call (.Name "enumerate" p) [e] [] pos) (iEnT X.K ta) := by
  refine ⟨fun pins s σ H R I h => ?_⟩
  refine Call_ (ld_blt I hg hm boot_enumerate (PyProof.Rows.callWith_type1
    (thn (ha.run pos pins s σ H _ I h) fun us s1 ⟨vs, H1, I1, r1, a, xs, ex, q1⟩ => ?_) hs rfl))
  subst ex
  cases r1 with
  | cons r rr =>
    cases rr
    cases r
    have two : ∀ b, b ∈ [s1.heap.objs.size + 1, s1.heap.objs.size] → FpOk X pins H1 b := fun b hb => by
      have le : s1.heap.objs.size ≤ b := by
        rcases (show b = s1.heap.objs.size + 1 ∨ b = s1.heap.objs.size by simpa using hb) with z | z <;> omega
      exact I1.fpOk le (I1.hok.fresh le)
    rcases q1 with ⟨hq, q⟩ | ⟨hq, q⟩
    · obtain ⟨its, rv, p', hz⟩ := I1.list hq
      refine call_enumerate_list p'.isList fun h' he hit hsz hk => wpAny_pyIter_enum he ?_
      exact ⟨s1.heap.objs.size + 1, [s1.heap.objs.size + 1, s1.heap.objs.size], _, _, H1, rfl, I1.kept (t' := s1.toks) hk,
        turn_enum a (s1.heap.objs.size + 1) s1.heap.objs.size, ⟨⟨.none, he⟩, hit, Nat.succ_ne_self _⟩, two, q⟩
    · obtain ⟨its, rv, p', hz⟩ := I1.tuple hq
      have la : a < s1.heap.objs.size := by
        obtain ⟨_, z, _⟩ := p'
        exact Heap.lt_size z
      refine enum1_call (begins_tuple a its.toArray) p' fun h' he hit hk => wpAny_pyIter_enum he ?_
      refine ⟨s1.heap.objs.size + 1, [s1.heap.objs.size + 1, s1.heap.objs.size], _, _, H1, rfl, I1.kept (t' := s1.toks) hk,
        enumT_turn a (s1.heap.objs.size + 1) s1.heap.objs.size (Nat.ne_of_lt la), ⟨⟨.none, he⟩, ⟨_, hit, rfl, rfl⟩, Nat.succ_ne_self _, fun z => ?_⟩, two, q⟩
      have z' : s1.heap.objs.size + 1 = a := z
      rw [← z'] at la
      exact absurd la (Nat.not_lt.mpr (Nat.le_succ _))
end Pd
end
section
set_option linter.all false
set_option maxRecDepth 100000
/-! Pd, part I: targets, statements. -/
namespace Pd
open PySem PySem.Spec PyProof.Rows L2

/-! ### a place is written -/
section
variable {K : PySem.W.Frag} {B : Hp} {σ : L2.St} {sa : Sa} {F H : Hp} {st : S}
/-- some places are forgotten -/
theorem SR.forget (h : SR K sa B F H σ st) {σ' : L2.St} {ss' : List Slot} (hl : σ'.length = ss'.length) (k : ∀ (i : Nat) (x : Slot), ss'[i]? = some x → x ≠ .no → st.ss[i]? = some x ∧ σ'[i]? = σ[i]?) : SR K sa B F H σ' { st with ss := ss' } where
  bh := h.bh
  fh := h.fh
  len := hl
  sl := fun i d e => by
    obtain ⟨e1, e2⟩ := k i _ e (fun z => nomatch z)
    rw [e2]
    exact h.sl i d e1
  so := fun i d e => by
    obtain ⟨e1, e2⟩ := k i _ e (fun z => nomatch z)
    rw [e2]
    exact h.so i d e1
  ap := fun i j d e a n q1 q2 q3 q4 => by
    obtain ⟨e1, e2⟩ := k i _ q1 (fun z => nomatch z)
    obtain ⟨e3, e4⟩ := k j _ q2 (fun z => nomatch z)
    rw [e2] at q3
    rw [e4] at q4
    exact h.ap i j d e a n e1 e3 q3 q4
  sx := fun i e => by
    obtain ⟨e1, e2⟩ := k i _ e (fun z => nomatch z)
    rw [e2]
    exact h.sx i e1
  sc := fun i ns e => by
    obtain ⟨e1, e2⟩ := k i _ e (fun z => nomatch z)
    rw [e2]
    exact h.sc i ns e1
  sr := h.sr
  sy := fun i e => by
    obtain ⟨e1, e2⟩ := k i _ e (fun z => nomatch z)
    rw [e2]
    exact h.sy i e1
theorem get_set {α : Type} {l : List α} {i j : Nat} {x y : α} (h : (l.set i x)[j]? = some y) : (j = i ∧ y = x) ∨ (j ≠ i ∧ l[j]? = some y) := by
  by_cases e : i = j
  · subst e
    have hl : i < (l.set i x).length := (List.getElem?_eq_some_iff.mp h).1
    rw [List.getElem?_set_self (by simpa using hl)] at h
    exact .inl ⟨rfl, (Option.some.inj h).symm⟩
  · rw [List.getElem?_set_ne e] at h
    exact .inr ⟨Ne.symm e, h⟩
/-- a result goes to place i -/
theorem SR.put (h : SR K sa B F H σ st) {i : Nat} {v : V} {r : Slot} (rr : RRep sa B F H σ st v r) : SR K sa B F H (σ.set i (some v)) { st with ss := st.ss.set i r } := by
  have len : (σ.set i (some v)).length = (st.ss.set i r).length := by simp [h.len]
  have at' : ∀ (j : Nat) (x : Slot), (st.ss.set i r)[j]? = some x → (j = i ∧ x = r ∧ (σ.set i (some v))[i]? = some (some v)) ∨ (j ≠ i ∧ st.ss[j]? = some x ∧ (σ.set i (some v))[j]? = σ[j]?) := fun j x q => by
    rcases get_set q with ⟨e1, e2⟩ | ⟨e1, e2⟩
    · subst e1
      have hl : j < (st.ss.set j r).length := (List.getElem?_eq_some_iff.mp q).1
      exact .inl ⟨rfl, e2, List.getElem?_set_self (by rw [h.len]; simpa using hl)⟩
    · exact .inr ⟨e1, e2, List.getElem?_set_ne (Ne.symm e1)⟩
  refine ⟨h.bh, h.fh, len, fun j d q => ?_, fun j d q => ?_, fun j k d e a n q1 q2 q3 q4 => ?_, fun j q => ?_, fun j ns q => ?_, h.sr, fun j q => ?_⟩
  · rcases at' j _ q with ⟨e1, e2, e3⟩ | ⟨e1, e2, e3⟩
    · subst e1
      subst e2
      exact ⟨v, e3, rr⟩
    · rw [e3]
      exact h.sl j d e2
  · rcases at' j _ q with ⟨e1, e2, e3⟩ | ⟨e1, e2, e3⟩
    · subst e1
      subst e2
      obtain ⟨a, o, rfl, h1, h2, h3, h4, h5, _⟩ := rr
      exact ⟨a, o, e3, h1, h2, h3, h4, h5⟩
    · rw [e3]
      exact h.so j d e2
  · rcases at' j _ q1 with ⟨e1, e2, e3⟩ | ⟨e1, e2, e3⟩
    · rcases at' k _ q2 with ⟨f1, f2, f3⟩ | ⟨f1, f2, f3⟩
      · exact n (e1.trans f1.symm)
      · subst e1
        subst e2
        obtain ⟨a', o, rfl, h1, h2, h3, h4, h5, h6⟩ := rr
        rw [e3] at q3
        cases q3
        rw [f3] at q4
        exact h6 k e f2 q4
    · rcases at' k _ q2 with ⟨f1, f2, f3⟩ | ⟨f1, f2, f3⟩
      · subst f1
        subst f2
        obtain ⟨a', o, rfl, h1, h2, h3, h4, h5, h6⟩ := rr
        rw [f3] at q4
        cases q4
        rw [e3] at q3
        exact h6 j d e2 q3
      · rw [e3] at q3
        rw [f3] at q4
        exact h.ap j k d e a n e2 f2 q3 q4
  · rcases at' j _ q with ⟨e1, e2, e3⟩ | ⟨e1, e2, e3⟩
    · subst e1
      subst e2
      exact ⟨rr.1, by rw [e3, rr.2]⟩
    · rw [e3]
      exact h.sx j e2
  · rcases at' j _ q with ⟨e1, e2, e3⟩ | ⟨e1, e2, e3⟩
    · subst e2
      exact False.elim rr
    · rw [e3]
      exact h.sc j ns e2
  · rcases at' j _ q with ⟨e1, e2, e3⟩ | ⟨e1, e2, e3⟩
    · subst e1
      subst e2
      exact ⟨rr.1, by rw [e3, rr.2]⟩
    · rw [e3]
      exact h.sy j e2
/-- the object that place i holds alone is changed -/
theorem SR.mut (h : SR K sa B F H σ st) {i : Nat} {d d' : PyData} {a : Addr} {o' : HO} (e : st.ss[i]? = some (.o d)) (ea : σ[i]? = some (some (.ref a))) (r : OR F o' d') : SR K sa B F (upd H a o') σ { st with ss := st.ss.set i (.o d') } := by
  obtain ⟨a', o, e1, e2, e3, e4, e5, e6⟩ := h.so i d e
  rw [ea] at e1
  cases e1
  have hi : i < st.ss.length := (List.getElem?_eq_some_iff.mp e).1
  have at' : ∀ (j : Nat) (x : Slot), (st.ss.set i (.o d'))[j]? = some x → (j = i ∧ x = .o d') ∨ (j ≠ i ∧ st.ss[j]? = some x) := fun j x q => get_set q
  refine ⟨h.bh.off e4, h.fh.off e5, by simp [h.len], fun j x q => ?_, fun j x q => ?_, fun j k x y b n q1 q2 q3 q4 => ?_, fun j q => ?_, fun j ns q => ?_, fun s q => ?_, fun j q => ?_⟩
  · rcases at' j _ q with ⟨_, z⟩ | ⟨n, z⟩
    · cases z
    · exact h.sl j x z
  · rcases at' j _ q with ⟨n, z⟩ | ⟨n, z⟩
    · subst n
      cases z
      exact ⟨a, o', ea, upd_same, r, e4, e5, e6⟩
    · obtain ⟨b, u, f1, f2, f3, f4, f5, f6⟩ := h.so j x z
      have nb : b ≠ a := fun w => h.ap j i x d b n z e f1 (by rw [w]; exact ea)
      exact ⟨b, u, f1, by rw [upd_ne nb]; exact f2, f3, f4, f5, f6⟩
  · have g : ∀ (l : Nat) (x : PyData), (st.ss.set i (.o d'))[l]? = some (.o x) → ∃ y, st.ss[l]? = some (.o y) := fun l x q => by
      rcases at' l _ q with ⟨n, z⟩ | ⟨n, z⟩
      · exact ⟨d, by rw [n]; exact e⟩
      · exact ⟨x, z⟩
    obtain ⟨x', z1⟩ := g j x q1
    obtain ⟨y', z2⟩ := g k y q2
    exact h.ap j k x' y' b n z1 z2 q3 q4
  · rcases at' j _ q with ⟨_, z⟩ | ⟨n, z⟩
    · cases z
    · exact h.sx j z
  · rcases at' j _ q with ⟨_, z⟩ | ⟨n, z⟩
    · cases z
    · exact h.sc j ns z
  · obtain ⟨f1, f2, f3, f4, f5⟩ := h.sr s q
    obtain ⟨n1, n2⟩ := e6 (by rw [q]; rfl)
    exact ⟨f1.off (Ne.symm n1) (Ne.symm n2), f2, f3, f4, f5⟩
  · rcases at' j _ q with ⟨_, z⟩ | ⟨n, z⟩
    · cases z
    · exact h.sy j z
end

/-! ### targets -/
/-- a target stores d; idx: the places that it may change -/
def tG (K : PySem.W.Frag) (idx : List Nat) (g : PyData → S → Option S) : TG := fun v σ H Q => ∃ sa B F st d st', SR K sa B F H σ st ∧ Rp F v d ∧ g d st = some st' ∧ ∀ σ', SR K sa B F H σ' st' → st'.src = st.src → wipe σ' idx = wipe σ idx → Q σ' H
def tGs (K : PySem.W.Frag) (idx : List Nat) (g : List PyData → S → Option S) : TGs := fun vs σ H Q => ∃ sa B F st ds st', SR K sa B F H σ st ∧ RpL F vs ds ∧ g ds st = some st' ∧ ∀ σ', SR K sa B F H σ' st' → st'.src = st.src → wipe σ' idx = wipe σ idx → Q σ' H
def gN (i : Nat) : PyData → S → Option S := fun d st => some { st with ss := st.ss.set i (.v d) }
def gNl : List PyData → S → Option S := fun ds st => match ds with
  | [] => some st
  | _ => none
def gCn (g : PyData → S → Option S) (gs : List PyData → S → Option S) : List PyData → S → Option S := fun ds st => match ds with
  | d :: r => match g d st with
    | some st1 => gs r st1
    | none => none
  | [] => none
def gTp (gs : List PyData → S → Option S) : PyData → S → Option S := fun d st => match d with
  | .tuple ds => gs ds st
  | .list ds => gs ds st
  | _ => none
theorem wipe_at {σ : L2.St} {i : Nat} {idx : List Nat} (h : i ∈ idx) (hi : i < σ.length) : (wipe σ idx)[i]? = some none := by
  induction idx with
  | nil => cases h
  | cons k idx ih =>
    unfold wipe
    by_cases e : k = i
    · subst e
      exact List.getElem?_set_self (by rw [wipe_length]; exact hi)
    · rw [List.getElem?_set_ne e]
      rcases List.mem_cons.mp h with z | z
      · exact absurd z.symm e
      · exact ih z
theorem wipe_set {σ : L2.St} {i : Nat} {x : Option V} {idx : List Nat} (h : i ∈ idx) : wipe (σ.set i x) idx = wipe σ idx := by
  apply List.ext_getElem?
  intro j
  by_cases m : j ∈ idx
  · by_cases hj : j < σ.length
    · rw [wipe_at m hj, wipe_at m (by simpa using hj)]
    · rw [List.getElem?_eq_none (by rw [wipe_length]; simpa using hj), List.getElem?_eq_none (by rw [wipe_length]; simpa using hj)]
  · rw [wipe_out m, wipe_out m, List.getElem?_set_ne]
    exact fun e => m (by rw [← e]; exact h)
section
variable {K : PySem.W.Frag} {X : Cx} {e : Expr} {es : List Expr} {idx : List Nat} {g : PyData → S → Option S} {gs : List PyData → S → Option S} {pos : Pos}
theorem imG {t t' : TG} (h : PG X e t) (i : ∀ v σ H Q, t' v σ H Q → t v σ H Q) : PG X e t' := ⟨fun pins s σ H v u Q I r q => h.run pins s σ H v u Q I r (i v σ H Q q)⟩
theorem imGs {t t' : TGs} (h : PGs X es t) (i : ∀ v σ H Q, t' v σ H Q → t v σ H Q) : PGs X es t' := ⟨fun pins s σ H v u Q I r q => h.run pins s σ H v u Q I r (i v σ H Q q)⟩
theorem q_name {i : Nat} (h : PG X e (gName i)) (hi : i ∈ idx) : PG X e (tG K idx (gN i)) := imG h fun v σ H Q ⟨sa, B, F, st, d, st', h0, r, e, k⟩ => by
  cases e
  exact k _ (h0.put (v := v) (r := .v d) r) rfl (wipe_set hi)
theorem q_nil : PGs X [] (tGs K idx gNl) := imGs pgs_nil fun v σ H Q ⟨sa, B, F, st, d, st', h0, r, e, k⟩ => by
  unfold gNl at e
  cases r with
  | nil =>
    cases e
    exact ⟨rfl, k σ h0 rfl rfl⟩
  | cons _ _ => cases e
theorem q_cons (h : PG X e (tG K idx g)) (h' : PGs X es (tGs K idx gs)) (hs : (assignEach (e :: es) X.env).map (·.2) = assign e X.env :: (assignEach es X.env).map (·.2) := by rfl) : PGs X (e :: es) (tGs K idx (gCn g gs)) := imGs (pgs_cons h h' hs) fun v σ H Q ⟨sa, B, F, st, d, st', h0, r, e, k⟩ => by
  unfold gCn at e
  cases r with
  | nil => cases e
  | @cons v vs d ds r1 r2 =>
    simp only at e
    cases q : g d st with
    | none =>
      rw [q] at e
      cases e
    | some st1 =>
      rw [q] at e
      exact ⟨v, vs, rfl, sa, B, F, st, d, st1, h0, r1, q, fun σ1 S1 e1 w1 => ⟨sa, B, F, st1, ds, st', S1, r2, e, fun σ2 S2 e2 w2 => k σ2 S2 (e2.trans e1) (w2.trans w1)⟩⟩
theorem pg_seq {k : Nat} {t : TGs} {n : Nat} (hc : X.calm = true) (h : PGs X es t) (hn : (assignEach es X.env).length = n := by rfl) (hst : (assignEach es X.env).findIdx? (·.1) = none := by rfl) :
    PG X (.Tuple es k pos) fun v σ H Q => gTup X.K n t v σ H Q ∨ gLst X.K n t v σ H Q := ⟨fun pins s σ H v u Q I r hw => by
  rcases hw with hw | hw
  · exact (pg_tup hc h hn hst).run pins s σ H v u Q I r hw
  · exact (pg_lst hc h hn hst).run pins s σ H v u Q I r hw⟩
/-- the number of items -/
theorem q_tup {k n : Nat} (hc : X.calm = true) (h : PGs X es (tGs X.K idx gs)) (hg : ∀ ds st st', gs ds st = some st' → ds.length = n) (hn : (assignEach es X.env).length = n := by rfl) (hst : (assignEach es X.env).findIdx? (·.1) = none := by rfl) : PG X (.Tuple es k pos) (tG X.K idx (gTp gs)) := imG (pg_seq hc h hn hst) fun v σ H Q ⟨sa, B, F, st, d, st', h0, r, e, k⟩ => by
  unfold gTp at e
  split at e
  · cases r with
    | tup e1 r1 => exact .inl ⟨_, _, rfl, .inl (.inl (h0.fh _ _ e1)), by rw [r1.length]; exact hg _ _ _ e, sa, B, F, st, _, st', h0, r1, e, k⟩
  · cases r with
    | lst e1 r1 => exact .inr ⟨_, _, rfl, .inl (.inl (h0.fh _ _ e1)), by rw [r1.length]; exact hg _ _ _ e, sa, B, F, st, _, st', h0, r1, e, k⟩
  · cases e
theorem gl_nil : ∀ ds st st', gNl ds st = some st' → ds.length = 0 := fun ds st st' h => by
  cases ds with
  | nil => rfl
  | cons _ _ => cases h
theorem gl_cons {n : Nat} (h : ∀ ds st st', gs ds st = some st' → ds.length = n) : ∀ ds st st', gCn g gs ds st = some st' → ds.length = n + 1 := fun ds st st' e => by
  cases ds with
  | nil => cases e
  | cons d ds =>
    unfold gCn at e
    simp only at e
    cases q : g d st with
    | none =>
      rw [q] at e
      cases e
    | some st1 =>
      rw [q] at e
      rw [List.length_cons, h _ _ _ e]
end

/-! ### statements -/
inductive RS where
  | nx (s : S) | ret (r : Slot) (s : S) | bk (s : S) | ct (s : S) | bad
/-- what is wanted of a statement's outcome -/
def rsK (K : PySem.W.Frag) (B : Hp) (sa : Sa) (F : Hp) (st : S) (D : Ends) : RS → Prop
  | .nx st' => ∀ sa' F' H' σ', Rch K B σ' sa F st sa' F' H' st' → D.nx σ' H'
  | .ret r st' => ∀ sa' F' H' σ' v, Rch K B σ' sa F st sa' F' H' st' → RRep sa' B F' H' σ' st' v r → D.rt v H'
  | .bk st' => ∀ sa' F' H' σ', Rch K B σ' sa F st sa' F' H' st' → D.bk σ' H'
  | .ct st' => ∀ sa' F' H' σ', Rch K B σ' sa F st sa' F' H' st' → D.ct σ' H'
  | .bad => False
def tMS (K : PySem.W.Frag) (m : S → RS) : TS := fun D σ H => ∃ sa B F st, SR K sa B F H σ st ∧ rsK K B sa F st D (m st)
theorem rsK.step {K : PySem.W.Frag} {B : Hp} {sa sa1 : Sa} {F F1 H1 : Hp} {σ1 : L2.St} {st st1 : S} {D : Ends} {r : RS} (R : Rch K B σ1 sa F st sa1 F1 H1 st1) (h : rsK K B sa F st D r) : rsK K B sa1 F1 st1 D r := by
  cases r with
  | nx st' => exact fun sa' F' H' σ' R2 => h sa' F' H' σ' (R.trans R2)
  | ret r st' => exact fun sa' F' H' σ' v R2 => h sa' F' H' σ' v (R.trans R2)
  | bk st' => exact fun sa' F' H' σ' R2 => h sa' F' H' σ' (R.trans R2)
  | ct st' => exact fun sa' F' H' σ' R2 => h sa' F' H' σ' (R.trans R2)
  | bad => exact h
/-- other ends -/
theorem rsK.ends {K : PySem.W.Frag} {B : Hp} {sa : Sa} {F : Hp} {st : S} {D D' : Ends} {r : RS} (h : rsK K B sa F st D r) (hr : ∀ v H, D.rt v H → D'.rt v H)
    (hn : ∀ st', r = .nx st' → (∀ sa' F' H' σ', Rch K B σ' sa F st sa' F' H' st' → D.nx σ' H') → ∀ sa' F' H' σ', Rch K B σ' sa F st sa' F' H' st' → D'.nx σ' H')
    (hb : ∀ st', r = .bk st' → (∀ sa' F' H' σ', Rch K B σ' sa F st sa' F' H' st' → D.bk σ' H') → ∀ sa' F' H' σ', Rch K B σ' sa F st sa' F' H' st' → D'.bk σ' H')
    (hc : ∀ st', r = .ct st' → (∀ sa' F' H' σ', Rch K B σ' sa F st sa' F' H' st' → D.ct σ' H') → ∀ sa' F' H' σ', Rch K B σ' sa F st sa' F' H' st' → D'.ct σ' H') : rsK K B sa F st D' r := by
  cases r with
  | nx st' => exact hn st' rfl h
  | ret r st' => exact fun sa' F' H' σ' v R q => hr v H' (h sa' F' H' σ' v R q)
  | bk st' => exact hb st' rfl h
  | ct st' => exact hc st' rfl h
  | bad => exact h

def sNil : S → RS := fun st => .nx st
def sSeq (m m' : S → RS) : S → RS := fun st => match m st with
  | .nx st1 => m' st1
  | r => r
def sIf (c : S → R Bool) (m m' : S → RS) : S → RS := fun st => match c st with
  | .ok true st1 => m st1
  | .ok false st1 => m' st1
  | .bad => .bad
def sSet (i : Nat) (m : S → R Slot) : S → RS := fun st => match m st with
  | .ok r st1 => .nx { st1 with ss := st1.ss.set i r }
  | .bad => .bad
def sAsg (m : S → R PyData) (g : PyData → S → Option S) : S → RS := fun st => match m st with
  | .ok d st1 => match g d st1 with
    | some st2 => .nx st2
    | none => .bad
  | .bad => .bad
def sRet (m : S → R Slot) : S → RS := fun st => match m st with
  | .ok r st1 => .ret r st1
  | .bad => .bad
def sRetN : S → RS := fun st => .ret (.v .none) st
def sDrop (m : S → R Slot) : S → RS := fun st => match m st with
  | .ok _ st1 => .nx st1
  | .bad => .bad
/-- a name's value, moved out of it -/
def mMv (i : Nat) : S → R Slot := fun st => match st.ss[i]? with
  | some (.v d) => .ok (.v d) st
  | some (.o d) => .ok (.o d) { st with ss := st.ss.set i .no }
  | some .src => .ok .src st
  | some .cel => .ok .cel st
  | _ => .bad
section
variable {K : PySem.W.Frag} {X : Cx} {e a b : Expr} {st : Stmt} {sts : List Stmt} {m : S → R Slot} {mf : S → R PyData} {c : S → R Bool} {s1 s2 : S → RS} {g : PyData → S → Option S} {idx : List Nat} {pos : Pos}
theorem b_nil : PSs X [] (tMS K sNil) := imB pss_nil fun D σ H ⟨sa, B, F, st, h0, h1⟩ => h1 sa F H σ (.refl h0)
theorem r_seq : ∀ D σ H, tMS K (sSeq s1 s2) D σ H → tSeq (tMS K s1) (tMS K s2) D σ H := fun D σ H ⟨sa, B, F, st, h0, h1⟩ => by
  refine ⟨sa, B, F, st, h0, ?_⟩
  unfold sSeq at h1
  cases q : s1 st with
  | nx st1 =>
    rw [q] at h1
    exact fun sa' F' H' σ' R => ⟨sa', B, F', st1, R.r, h1.step R⟩
  | ret r st1 =>
    rw [q] at h1
    exact h1
  | bk st1 =>
    rw [q] at h1
    exact h1
  | ct st1 =>
    rw [q] at h1
    exact h1
  | bad =>
    rw [q] at h1
    exact h1
theorem b_cons (h : PS X st (tMS K s1)) (h' : PSs X sts (tMS K s2)) : PSs X (st :: sts) (tMS K (sSeq s1 s2)) := imB (pss_cons h h') r_seq
theorem b_one (h : PS X st (tMS K s1)) : PSs X [st] (tMS K s1) := pss_one h
theorem s_pass : PS X (.Pass pos) (tMS K sNil) := imS ps_pass fun D σ H ⟨sa, B, F, st, h0, h1⟩ => h1 sa F H σ (.refl h0)
theorem s_break : PS X (.Break pos) (tMS K fun st => .bk st) := imS ps_break fun D σ H ⟨sa, B, F, st, h0, h1⟩ => h1 sa F H σ (.refl h0)
theorem s_cont : PS X (.Continue pos) (tMS K fun st => .ct st) := imS ps_continue fun D σ H ⟨sa, B, F, st, h0, h1⟩ => h1 sa F H σ (.refl h0)
theorem s_if {sa sb : List Stmt} (hc : PT X e (tMT K c)) (ha : PSs X sa (tMS K s1)) (hb : PSs X sb (tMS K s2)) : PS X (.If e sa sb pos) (tMS K (sIf c s1 s2)) := imS (ps_if hc ha hb) fun D σ H ⟨sa, B, F, st, h0, h1⟩ => by
  unfold sIf at h1
  cases q : c st with
  | bad =>
    rw [q] at h1
    exact h1.elim
  | ok b st1 =>
    rw [q] at h1
    refine ⟨sa, B, F, st, _, _, h0, q, fun sa1 F1 H1 R => ?_⟩
    cases b with
    | true =>
      try dsimp only
      rw [if_pos rfl]
      exact ⟨sa1, B, F1, st1, R.r, h1.step R⟩
    | false =>
      try dsimp only
      rw [if_neg Bool.false_ne_true]
      exact ⟨sa1, B, F1, st1, R.r, h1.step R⟩
/-- name = e, by an assignment's rule -/
theorem s_set {i : Nat} (h : PS X st (tAsg (tM K m) (gName i))) : PS X st (tMS K (sSet i m)) := imS h fun D σ H ⟨sa, B, F, st, h0, h1⟩ => by
  unfold sSet at h1
  cases q : m st with
  | bad =>
    rw [q] at h1
    exact h1.elim
  | ok r st1 =>
    rw [q] at h1
    refine ⟨sa, B, F, st, _, _, h0, q, fun sa1 F1 H1 v R rr => ?_⟩
    exact h1 sa1 F1 H1 _ ⟨R.r.put rr, R.x, R.k, R.s⟩
theorem s_asg (h : PS X st (tAsg (tF K mf) (tG K idx g))) : PS X st (tMS K (sAsg mf g)) := imS h fun D σ H ⟨sa, B, F, st, h0, h1⟩ => by
  unfold sAsg at h1
  cases q : mf st with
  | bad =>
    rw [q] at h1
    exact h1.elim
  | ok d st1 =>
    simp only [q] at h1
    cases q2 : g d st1 with
    | none =>
      simp only [q2] at h1
      exact h1.elim
    | some st2 =>
      simp only [q2] at h1
      refine ⟨sa, B, F, st, _, _, h0, q, fun sa1 F1 H1 v R rr => ⟨sa1, B, F1, st1, d, st2, R.r, rr, q2, fun σ' S' es _ => ?_⟩⟩
      exact h1 sa1 F1 H1 σ' ⟨S', R.x, R.k, fun z => by rw [es]; exact R.s z⟩
theorem s_ret (h : PE X e (tM K m)) : PS X (.Return (some e) pos) (tMS K (sRet m)) := imS (ps_ret h) fun D σ H ⟨sa, B, F, st, h0, h1⟩ => by
  unfold sRet at h1
  cases q : m st with
  | bad =>
    rw [q] at h1
    exact h1.elim
  | ok r st1 =>
    rw [q] at h1
    exact ⟨sa, B, F, st, _, _, h0, q, fun sa1 F1 H1 v R rr => h1 sa1 F1 H1 σ v R rr⟩
theorem s_retN : PS X (.Return none pos) (tMS K sRetN) := imS ps_retN fun D σ H ⟨sa, B, F, st, h0, h1⟩ => h1 sa F H σ .non (.refl h0) Rp.non
theorem s_expr (h : PE X e (tM K m)) (hs : swapsWith e none pos.line X.env = pure false := by rfl) : PS X (.Expr e pos) (tMS K (sDrop m)) := imS (ps_expr h hs) fun D σ H ⟨sa, B, F, st, h0, h1⟩ => by
  unfold sDrop at h1
  cases q : m st with
  | bad =>
    rw [q] at h1
    exact h1.elim
  | ok r st1 =>
    rw [q] at h1
    exact ⟨sa, B, F, st, _, _, h0, q, fun sa1 F1 H1 v R rr => h1 sa1 F1 H1 σ R⟩
theorem d_mv {i : Nat} (h : PE X e (tVar i)) : PE X e (tM K (mMv i)) := imE h fun σ H Q ⟨sa, B, F, st, r', st', h0, h1, k⟩ => by
  unfold mMv at h1
  cases q : st.ss[i]? with
  | none =>
    rw [q] at h1
    cases h1
  | some x =>
    rw [q] at h1
    cases x with
    | v d =>
      cases h1
      obtain ⟨v, e1, e2⟩ := h0.sl i d q
      exact ⟨v, e1, k sa F H v (.refl h0) e2⟩
    | o d =>
      cases h1
      obtain ⟨a, o, e1, e2, e3, e4, e5, e6⟩ := h0.so i d q
      have S' : SR K sa B F H σ { st with ss := st.ss.set i .no } := h0.forget (by rw [h0.len]; simp) fun j x qj hn => by
        rcases get_set qj with ⟨_, z⟩ | ⟨_, z⟩
        · exact absurd z hn
        · exact ⟨z, rfl⟩
      refine ⟨.ref a, e1, k sa F H _ ⟨S', FX.refl, fun _ => rfl, fun z => z⟩ ⟨a, o, rfl, e2, e3, e4, e5, e6, fun j x qj z => ?_⟩⟩
      rcases get_set qj with ⟨_, w⟩ | ⟨n, w⟩
      · cases w
      · exact h0.ap j i x d a n w q z e1
    | src =>
      cases h1
      obtain ⟨e1, e2⟩ := h0.sx i q
      exact ⟨_, e2, k sa F H _ (.refl h0) ⟨e1, rfl⟩⟩
    | cel =>
      cases h1
      obtain ⟨e1, e2⟩ := h0.sy i q
      exact ⟨_, e2, k sa F H _ (.refl h0) ⟨e1, rfl⟩⟩
    | no => cases h1
    | scr _ => cases h1

/-! ### two or three names at once -/
def sPar2 (i j : Nat) (m m' : S → R Slot) : S → RS := fun st => match m st with
  | .ok r st1 => match m' st1 with
    | .ok r' st2 => .nx { st2 with ss := (st2.ss.set i r).set j r' }
    | .bad => .bad
  | .bad => .bad
def sPar3 (i j l : Nat) (m m' m'' : S → R Slot) : S → RS := fun st => match m st with
  | .ok r st1 => match m' st1 with
    | .ok r' st2 => match m'' st2 with
      | .ok r'' st3 => .nx { st3 with ss := ((st3.ss.set i r).set j r').set l r'' }
      | .bad => .bad
    | .bad => .bad
  | .bad => .bad
/-- a result that waits is protected -/
theorem RRep.wait {B : Hp} {σ : L2.St} {sa : Sa} {F H : Hp} {st : S} {v : V} {r : Slot} (h : SR K sa B F H σ st) (rr : RRep sa B F H σ st v r) : ∃ B', Sub B B' ∧ SR K sa B' F H σ st ∧
    ∀ sa' F' H' st', Rch K B' σ sa F st sa' F' H' st' → RRep sa' B F' H' σ st' v r ∧ (∀ d, r = .o d → ∃ a, v = .ref a ∧ B' a ≠ none) := by
  cases r with
  | v d => exact ⟨B, Sub.refl B, h, fun sa' F' H' st' R => ⟨Rp.mono R.x.le rr, fun d e => nomatch e⟩⟩
  | src => exact ⟨B, Sub.refl B, h, fun sa' F' H' st' R => ⟨⟨R.s rr.1, by rw [R.k rr.1]; exact rr.2⟩, fun d e => nomatch e⟩⟩
  | cel => exact ⟨B, Sub.refl B, h, fun sa' F' H' st' R => ⟨⟨R.s rr.1, by rw [R.k rr.1]; exact rr.2⟩, fun d e => nomatch e⟩⟩
  | no => exact rr.elim
  | scr _ => exact rr.elim
  | o d =>
    obtain ⟨a, o, rfl, h1, h2, h3, h4, h5, h6⟩ := rr
    refine ⟨upd B a o, Sub.new h3, h.prot h1 h3 h5 h6, fun sa' F' H' st' R => ?_⟩
    have hB : (upd B a o) a ≠ none := by
      rw [upd_same]
      exact fun z => nomatch z
    refine ⟨⟨a, o, rfl, R.r.bh _ _ upd_same, h2.mono R.x.le, h3, R.x.out a h4 hB, fun z => ?_, fun j e q z => ?_⟩, fun d' _ => ⟨a, rfl, hB⟩⟩
    · obtain ⟨s, hs⟩ := Option.isSome_iff_exists.mp z
      obtain ⟨_, e2, e3, _⟩ := R.r.sr s hs
      exact ⟨fun w => hB (by
        rw [← w] at e2
        exact e2), fun w => hB (by
        rw [← w] at e3
        exact e3)⟩
    · obtain ⟨b, u, f1, f2, f3, f4, _⟩ := R.r.so j e q
      rw [z] at f1
      cases f1
      exact hB f4
/-- where another object is put, a result still is one -/
theorem RRep.beside {B : Hp} {σ : L2.St} {sa : Sa} {F H : Hp} {st : S} {v v' : V} {r r' : Slot} {i : Nat} (h : RRep sa B F H σ st v r) (hd : ∀ d d', r = .o d → r' = .o d' → v ≠ v') : RRep sa B F H (σ.set i (some v')) { st with ss := st.ss.set i r' } v r := by
  cases r with
  | v d => exact h
  | src => exact h
  | cel => exact h
  | no => exact h.elim
  | scr _ => exact h.elim
  | o d =>
    obtain ⟨a, o, rfl, h1, h2, h3, h4, h5, h6⟩ := h
    refine ⟨a, o, rfl, h1, h2, h3, h4, h5, fun j e q z => ?_⟩
    rcases get_set q with ⟨e1, e2⟩ | ⟨e1, e2⟩
    · subst e1
      rcases get_set z with ⟨_, w⟩ | ⟨w, _⟩
      · exact hd d e rfl e2.symm (Option.some.inj w)
      · exact w rfl
    · rw [List.getElem?_set_ne (Ne.symm e1)] at z
      exact h6 j e e2 z
theorem s_par2 {i j : Nat} {m' : S → R Slot} (hij : i ≠ j) (h : PS X st (tPar i j (tCons (tM K m) (tCons (tM K m') tNil)))) : PS X st (tMS K (sPar2 i j m m')) := imS h fun D σ H ⟨sa, B, F, st, h0, h1⟩ => by
  unfold sPar2 at h1
  cases q : m st with
  | bad =>
    simp only [q] at h1
    exact h1.elim
  | ok r st1 =>
    cases q2 : m' st1 with
    | bad =>
      simp only [q, q2] at h1
      exact h1.elim
    | ok r' st2 =>
      simp only [q, q2] at h1
      refine ⟨sa, B, F, st, r, st1, h0, q, fun sa1 F1 H1 v R1 rr1 => ?_⟩
      obtain ⟨B', sb, S1, kp⟩ := rr1.wait R1.r
      refine ⟨sa1, B', F1, st1, r', st2, S1, q2, fun sa2 F2 H2 w R2 rr2 => ⟨v, w, rfl, ?_⟩⟩
      obtain ⟨k1, k2⟩ := kp sa2 F2 H2 st2 R2
      have R : Rch K B σ sa F st sa2 F2 H2 st2 := R1.trans ⟨R2.r.less sb, R2.x.weak sb, R2.k, R2.s⟩
      have rr2' : RRep sa2 B F2 H2 σ st2 w r' := by
        cases r' with
        | v d => exact rr2
        | src => exact rr2
        | cel => exact rr2
        | no => exact rr2.elim
        | scr _ => exact rr2.elim
        | o d =>
          obtain ⟨a, o, e, t1, t2, t3, t4⟩ := rr2
          exact ⟨a, o, e, t1, t2, sb.none_of t3, t4⟩
      have ne : ∀ d d', r' = .o d → r = .o d' → w ≠ v := fun d d' e1 e2 z => by
        subst e1
        obtain ⟨a, ea, ha⟩ := k2 d' e2
        obtain ⟨a2, o, e, t1, t2, t3, t4⟩ := rr2
        rw [e, ea] at z
        cases z
        exact ha t3
      have S2 := (R.r.put k1).put (i := j) (rr2'.beside (i := i) ne)
      exact h1 sa2 F2 H2 _ ⟨S2, R.x, R.k, R.s⟩
end
end Pd
end
section
set_option linter.all false
set_option maxRecDepth 100000
/-! Pd, part J: what is walked; for, while, list comprehensions. -/
namespace Pd
open PySem PySem.Spec PyProof.Rows L2

/-! ### what is walked -/
def SrcAt (σ0 σ : L2.St) (st : S) : Opd → Prop
  | .s j d => st.ss[j]? = some (.o d) ∧ σ[j]? = σ0[j]?
  | _ => True
/-- the iterator yields the items ds -/
structure Drv (K : PySem.W.Frag) (J : It) (σ0 : L2.St) (o : Opd) (F0 : Hp) (ds : List PyData) : Prop where
  go : ∀ (i : Nat) (sa : Sa) (B F H : Hp) (σ : L2.St) (st : S), SR K sa B F H σ st → Sub F0 F → SrcAt σ0 σ st o → i < ds.length → J.go i H
  stop : ∀ (sa : Sa) (B F H : Hp) (σ : L2.St) (st : S), SR K sa B F H σ st → Sub F0 F → SrcAt σ0 σ st o → J.stop ds.length H
  yld : ∀ (i : Nat) (sa : Sa) (B F H : Hp) (σ : L2.St) (st : S) (x : V) (H' : Hp) (d : PyData), SR K sa B F H σ st → Sub F0 F → SrcAt σ0 σ st o → ds[i]? = some d → J.yld i H x H' → ∃ F', SR K sa B F' H' σ st ∧ FX B F F' ∧ Rp F' x d
def tI (K : PySem.W.Frag) (m : S → R (Opd × List PyData)) : TI := fun σ H R => ∃ sa B F st o ds st', SR K sa B F H σ st ∧ m st = .ok (o, ds) st' ∧
  ∀ sa' F' H' J, Rch K B σ sa F st sa' F' H' st' → SrcAt σ σ st' o → Drv K J σ o F' ds → R J H'
def frzO : Opd → Opd
  | .t d => .v d
  | x => x
def mSeq (m : S → R Opd) : S → R (Opd × List PyData) := fun st => match m st with
  | .ok x st1 => match seqD x.d with
    | some ds => .ok (frzO x, ds) st1
    | none => .bad
  | .bad => .bad
def enumD (ds : List PyData) : List PyData := ds.zipIdx.map fun p => .tuple [.int (p.2 : Nat), p.1]
def mEnum (m : S → R Opd) : S → R (Opd × List PyData) := fun st => match m st with
  | .ok x st1 => match seqD x.d with
    | some ds => .ok (frzO x, enumD ds) st1
    | none => .bad
  | .bad => .bad
def mRgI (m : S → R (List PyData)) : S → R (Opd × List PyData) := fun st => match m st with
  | .ok [.int n] st1 => if rgOk 0 n then .ok (.v .none, rgD 0 n) st1 else .bad
  | _ => .bad
def mRgI2 (m : S → R (List PyData)) : S → R (Opd × List PyData) := fun st => match m st with
  | .ok [.int a, .int b] st1 => if rgOk a b then .ok (.v .none, rgD a b) st1 else .bad
  | _ => .bad
def zipD (xs ys : List PyData) : List PyData := (xs.zip ys).map fun p => .tuple [p.1, p.2]
open Classical in
noncomputable def mZip (m m' : S → R Opd) : S → R (Opd × List PyData) := fun st => match m st with
  | .ok x st1 => match m' st1 with
    | .ok y st2 => match x, y with
      | .v (.list xs), .v (.list ys) => .ok (.v .none, zipD xs ys) st2
      | .v (.tuple xs), .v (.tuple ys) => .ok (.v .none, zipD xs ys) st2
      | _, _ => .bad
    | .bad => .bad
  | .bad => .bad
section
variable {K : PySem.W.Frag}
/-- a list or tuple at a holds the items -/
def HoldsL (K : PySem.W.Frag) (σ0 : L2.St) (o : Opd) (F0 : Hp) (a : Addr) (ds : List PyData) : Prop := ∀ (sa : Sa) (B F H : Hp) (σ : L2.St) (st : S), SR K sa B F H σ st → Sub F0 F → SrcAt σ0 σ st o → ∃ xs, H a = some (.lst xs) ∧ RpL F xs ds
theorem seq_src {B : Hp} {σ : L2.St} {sa sa' : Sa} {F F' H' : Hp} {st st' : S} {x : Opd} {v : V} {ds : List PyData} (R : Rch K B σ sa F st sa' F' H' st') (p : PRep sa' B F' H' σ st' v x) (e : seqD x.d = some ds) :
    ∃ F2 a, v = .ref a ∧ Rch K B σ sa F st sa' F2 H' st' ∧ SrcAt σ σ st' (frzO x) ∧ (((∃ xs, H' a = some (.lst xs)) ∧ HoldsL K σ (frzO x) F2 a ds) ∨ ∃ xs, F2 a = some (.tup xs) ∧ RpL F2 xs ds) := by
  have val : ∀ {F2 : Hp} {d : PyData}, Rch K B σ sa F st sa' F2 H' st' → Rp F2 v d → seqD d = some ds → ∃ F2 a, v = .ref a ∧ Rch K B σ sa F st sa' F2 H' st' ∧ SrcAt σ σ st' (.v d) ∧ (((∃ xs, H' a = some (.lst xs)) ∧ HoldsL K σ (.v d) F2 a ds) ∨ ∃ xs, F2 a = some (.tup xs) ∧ RpL F2 xs ds) := by
    intro F2 d R2 r e
    cases r with
    | lst e1 r1 =>
      cases e
      exact ⟨F2, _, rfl, R2, True.intro, .inl ⟨⟨_, R2.r.fh _ _ e1⟩, fun sa3 B3 F3 H3 σ3 st3 S3 s3 _ => ⟨_, S3.fh _ _ (s3 _ _ e1), r1.mono s3⟩⟩⟩
    | tup e1 r1 =>
      cases e
      exact ⟨F2, _, rfl, R2, True.intro, .inr ⟨_, e1, r1⟩⟩
    | _ => cases e
  cases x with
  | v d => exact val R p e
  | t d =>
    obtain ⟨F2, R2, r2⟩ := R.frz p
    exact val R2 r2 e
  | s j d =>
    obtain ⟨a, o, e1, e2, e3, _⟩ := R.r.so j d p.1
    have q := p.2
    rw [e1] at q
    have q' : V.ref a = v := Option.some.inj (Option.some.inj q)
    cases e3 with
    | lst r1 =>
      cases e
      refine ⟨F', a, q'.symm, R, ⟨p.1, rfl⟩, .inl ⟨⟨_, e2⟩, fun sa3 B3 F3 H3 σ3 st3 S3 s3 z => ?_⟩⟩
      obtain ⟨b, u, f1, f2, f3, _⟩ := S3.so j _ z.1
      rw [z.2, e1] at f1
      cases f1
      cases f3 with
      | lst r3 => exact ⟨_, f2, r3⟩
    | dK _ => cases e
    | dT _ => cases e
theorem drv_list {σ0 : L2.St} {o : Opd} {F0 : Hp} {a : Addr} {ds : List PyData} (h : HoldsL K σ0 o F0 a ds) : Drv K (Itl K a) σ0 o F0 ds where
  go := fun i sa B F H σ st S1 s1 z hi => by
    obtain ⟨xs, e, r⟩ := h sa B F H σ st S1 s1 z
    exact ⟨xs, _, .inl (.inl e), List.getElem?_eq_getElem (by rw [r.length]; exact hi)⟩
  stop := fun sa B F H σ st S1 s1 z => by
    obtain ⟨xs, e, r⟩ := h sa B F H σ st S1 s1 z
    exact ⟨xs, .inl (.inl e), Nat.le_of_eq r.length⟩
  yld := fun i sa B F H σ st x H' d S1 s1 z hd y => by
    obtain ⟨xs, e, r⟩ := h sa B F H σ st S1 s1 z
    obtain ⟨rfl, y2⟩ := y
    obtain ⟨v, h1, h2⟩ := r.get hd
    rw [y2 xs (.inl (.inl e))] at h1
    cases h1
    exact ⟨F, S1, FX.refl, h2⟩
theorem drv_tup {σ0 : L2.St} {o : Opd} {F0 : Hp} {a : Addr} {xs : List V} {ds : List PyData} (e : F0 a = some (.tup xs)) (r : RpL F0 xs ds) : Drv K (Itt K a) σ0 o F0 ds where
  go := fun i sa B F H σ st S1 s1 _ hi => ⟨xs, _, .inl (.inl (S1.fh _ _ (s1 _ _ e))), List.getElem?_eq_getElem (by rw [r.length]; exact hi)⟩
  stop := fun sa B F H σ st S1 s1 _ => ⟨xs, .inl (.inl (S1.fh _ _ (s1 _ _ e))), Nat.le_of_eq r.length⟩
  yld := fun i sa B F H σ st x H' d S1 s1 _ hd y => by
    obtain ⟨rfl, y2⟩ := y
    obtain ⟨v, h1, h2⟩ := r.get hd
    rw [y2 xs (.inl (.inl (S1.fh _ _ (s1 _ _ e))))] at h1
    cases h1
    exact ⟨F, S1, FX.refl, h2.mono s1⟩
theorem enumD_at {ds : List PyData} {i : Nat} {d : PyData} (h : (enumD ds)[i]? = some d) : ∃ y, ds[i]? = some y ∧ d = .tuple [.int (i : Nat), y] := by
  unfold enumD at h
  rw [List.getElem?_map, List.getElem?_zipIdx] at h
  cases q : ds[i]? with
  | none =>
    rw [q] at h
    cases h
  | some y =>
    rw [q] at h
    simp only [Option.map_some, Nat.zero_add] at h
    exact ⟨y, rfl, (Option.some.inj h).symm⟩
theorem enumD_len (ds : List PyData) : (enumD ds).length = ds.length := by simp [enumD]
/-- a new pair of what is held -/
theorem pair_new {sa : Sa} {B F H : Hp} {σ : L2.St} {st : S} {T : Addr} {x y : V} {dx dy : PyData} (S1 : SR K sa B F H σ st) (hT : H T = none) (rx : Rp F x dx) (ry : Rp F y dy) :
    ∃ F', SR K sa B F' (upd H T (.tup [x, y])) σ st ∧ FX B F F' ∧ Rp F' (.ref T) (.tuple [dx, dy]) := by
  obtain ⟨n1, n2⟩ := S1.news hT
  have hf := S1.fh.none_of hT
  exact ⟨upd F T (.tup [x, y]), (S1.alloc hT).freeze upd_same hf n1 n2, FX.new S1.bh hT S1.fh, .tup upd_same (.cons (rx.mono (Sub.new hf)) (.cons (ry.mono (Sub.new hf)) .nil))⟩
theorem drv_enL {σ0 : L2.St} {o : Opd} {F0 : Hp} {a : Addr} {ds : List PyData} (h : HoldsL K σ0 o F0 a ds) : Drv K (Ite K a) σ0 o F0 (enumD ds) where
  go := fun i sa B F H σ st S1 s1 z hi => by
    obtain ⟨xs, e, r⟩ := h sa B F H σ st S1 s1 z
    rw [enumD_len] at hi
    exact ⟨xs, _, .inl (.inl e), List.getElem?_eq_getElem (by rw [r.length]; exact hi)⟩
  stop := fun sa B F H σ st S1 s1 z => by
    obtain ⟨xs, e, r⟩ := h sa B F H σ st S1 s1 z
    exact ⟨xs, .inl (.inl e), by rw [enumD_len]; exact Nat.le_of_eq r.length⟩
  yld := fun i sa B F H σ st x H' d S1 s1 z hd y => by
    obtain ⟨xs, e, r⟩ := h sa B F H σ st S1 s1 z
    obtain ⟨y0, h0, rfl⟩ := enumD_at hd
    obtain ⟨T, u, rfl, hT, rfl, y2⟩ := y
    obtain ⟨v, h1, h2⟩ := r.get h0
    rw [y2 xs (.inl (.inl e))] at h1
    cases h1
    exact pair_new S1 hT (.int _) h2
theorem drv_enT {σ0 : L2.St} {o : Opd} {F0 : Hp} {a : Addr} {xs : List V} {ds : List PyData} (e : F0 a = some (.tup xs)) (r : RpL F0 xs ds) : Drv K (ItE K a) σ0 o F0 (enumD ds) where
  go := fun i sa B F H σ st S1 s1 _ hi => ⟨xs, _, .inl (.inl (S1.fh _ _ (s1 _ _ e))), List.getElem?_eq_getElem (by
    rw [enumD_len] at hi
    rw [r.length]
    exact hi)⟩
  stop := fun sa B F H σ st S1 s1 _ => ⟨xs, .inl (.inl (S1.fh _ _ (s1 _ _ e))), by rw [enumD_len]; exact r.length⟩
  yld := fun i sa B F H σ st x H' d S1 s1 _ hd y => by
    obtain ⟨y0, h0, rfl⟩ := enumD_at hd
    obtain ⟨T, u, rfl, hT, rfl, y2⟩ := y
    obtain ⟨v, h1, h2⟩ := r.get h0
    rw [y2 xs (.inl (.inl (S1.fh _ _ (s1 _ _ e))))] at h1
    cases h1
    exact pair_new S1 hT (.int _) (h2.mono s1)
theorem zipD_at {xs ys : List PyData} {i : Nat} {d : PyData} (h : (zipD xs ys)[i]? = some d) : ∃ x y, xs[i]? = some x ∧ ys[i]? = some y ∧ d = .tuple [x, y] := by
  unfold zipD at h
  rw [List.getElem?_map] at h
  obtain ⟨p, h1, h2⟩ := Option.map_eq_some_iff.mp h
  obtain ⟨a, b⟩ := p
  obtain ⟨h3, h4⟩ := List.getElem?_zip_eq_some.mp h1
  exact ⟨a, b, h3, h4, h2.symm⟩
theorem zipD_len (xs ys : List PyData) : (zipD xs ys).length = min xs.length ys.length := by simp [zipD]
theorem drv_zipL {σ0 : L2.St} {o : Opd} {F0 : Hp} {a b : Addr} {vs ws : List V} {xs ys : List PyData} (e : F0 a = some (.lst vs)) (r : RpL F0 vs xs) (e' : F0 b = some (.lst ws)) (r' : RpL F0 ws ys) : Drv K (Itz K a b) σ0 o F0 (zipD xs ys) where
  go := fun i sa B F H σ st S1 s1 _ hi => by
    rw [zipD_len] at hi
    exact ⟨vs, ws, _, _, .inl (.inl (S1.fh _ _ (s1 _ _ e))), .inl (.inl (S1.fh _ _ (s1 _ _ e'))), List.getElem?_eq_getElem (by rw [r.length]; omega), List.getElem?_eq_getElem (by rw [r'.length]; omega)⟩
  stop := fun sa B F H σ st S1 s1 _ => ⟨vs, ws, .inl (.inl (S1.fh _ _ (s1 _ _ e))), .inl (.inl (S1.fh _ _ (s1 _ _ e'))), by
    rw [zipD_len, r.length, r'.length]
    omega⟩
  yld := fun i sa B F H σ st x H' d S1 s1 _ hd y => by
    obtain ⟨x0, y0, h0, h0', rfl⟩ := zipD_at hd
    obtain ⟨T, u, u', rfl, hT, rfl, y2, y3⟩ := y
    obtain ⟨v, h1, h2⟩ := r.get h0
    obtain ⟨v', h1', h2'⟩ := r'.get h0'
    rw [y2 vs (.inl (.inl (S1.fh _ _ (s1 _ _ e))))] at h1
    rw [y3 ws (.inl (.inl (S1.fh _ _ (s1 _ _ e'))))] at h1'
    cases h1
    cases h1'
    exact pair_new S1 hT (h2.mono s1) (h2'.mono s1)
theorem drv_zipT {σ0 : L2.St} {o : Opd} {F0 : Hp} {a b : Addr} {vs ws : List V} {xs ys : List PyData} (e : F0 a = some (.tup vs)) (r : RpL F0 vs xs) (e' : F0 b = some (.tup ws)) (r' : RpL F0 ws ys) : Drv K (RZ.ItzT K a b) σ0 o F0 (zipD xs ys) where
  go := fun i sa B F H σ st S1 s1 _ hi => by
    rw [zipD_len] at hi
    exact ⟨vs, ws, _, _, .inl (.inl (S1.fh _ _ (s1 _ _ e))), .inl (.inl (S1.fh _ _ (s1 _ _ e'))), List.getElem?_eq_getElem (by rw [r.length]; omega), List.getElem?_eq_getElem (by rw [r'.length]; omega)⟩
  stop := fun sa B F H σ st S1 s1 _ => ⟨vs, ws, .inl (.inl (S1.fh _ _ (s1 _ _ e))), .inl (.inl (S1.fh _ _ (s1 _ _ e'))), by
    rw [zipD_len, r.length, r'.length]
    omega⟩
  yld := fun i sa B F H σ st x H' d S1 s1 _ hd y => by
    obtain ⟨x0, y0, h0, h0', rfl⟩ := zipD_at hd
    obtain ⟨T, u, u', rfl, hT, rfl, y2, y3⟩ := y
    obtain ⟨v, h1, h2⟩ := r.get h0
    obtain ⟨v', h1', h2'⟩ := r'.get h0'
    rw [y2 vs (.inl (.inl (S1.fh _ _ (s1 _ _ e))))] at h1
    rw [y3 ws (.inl (.inl (S1.fh _ _ (s1 _ _ e'))))] at h1'
    cases h1
    cases h1'
    exact pair_new S1 hT (h2.mono s1) (h2'.mono s1)
theorem drv_rng {σ0 : L2.St} {o : Opd} {F0 : Hp} {a b : Int} : Drv K (Itr a (b - a).toNat) σ0 o F0 (rgD a b) where
  go := fun i sa B F H σ st S1 s1 _ hi => by
    have e : (rgD a b).length = (b - a).toNat := by simp [rgD]
    rw [e] at hi
    exact hi
  stop := fun sa B F H σ st S1 s1 _ => by
    have e : (rgD a b).length = (b - a).toNat := by simp [rgD]
    rw [e]
    exact Nat.le_refl _
  yld := fun i sa B F H σ st x H' d S1 s1 _ hd y => by
    obtain ⟨rfl, rfl⟩ := y
    unfold rgD at hd
    rw [List.getElem?_map] at hd
    obtain ⟨j, h1, rfl⟩ := Option.map_eq_some_iff.mp hd
    have hj : j = i := by
      rw [List.getElem?_eq_some_iff] at h1
      obtain ⟨h2, h3⟩ := h1
      rw [List.getElem_range] at h3
      exact h3.symm
    subst hj
    exact ⟨F, S1, FX.refl, .int _⟩
end
section
variable {X : Cx} {tg e e' : Expr} {es : List Expr} {m m' : S → R Opd} {ma : S → R (List PyData)} {p pos tpos : Pos} {elts : List Expr} {kk : Nat}
theorem imI {wi wi' : TI} (h : PI X tg e wi) (i : ∀ σ H R, wi' σ H R → wi σ H R) : PI X tg e wi' := ⟨fun pins s σ H R I q => h.run pins s σ H R I (i σ H R q)⟩
/-- a list or a tuple is walked -/
theorem pi_any {tl : TE} (hl : PE X e tl) : PI X tg e fun σ H R => tl σ H fun x H1 => ∃ a, x = .ref a ∧ (((∃ xs, SqL X.K H1 a xs) ∧ R (Itl X.K a) H1) ∨ ((∃ xs, SqT X.K H1 a xs) ∧ R (Itt X.K a) H1)) := by
  refine ⟨fun pins s σ H R I h => thn (hl.run pins s σ H _ I h) fun v s1 ⟨x, H1, I1, r1, a, ex, q1⟩ => ?_⟩
  subst ex
  cases r1
  have one : ∀ b, b ∈ [s1.heap.objs.size] → FpOk X pins H1 b := fun b hb => by
    rw [show b = s1.heap.objs.size by simpa using hb]
    exact I1.fpOk (Nat.le_refl _) (I1.hok.fresh (Nat.le_refl _))
  rcases q1 with ⟨⟨xs, hq⟩, q⟩ | ⟨⟨xs, hq⟩, q⟩
  · obtain ⟨its, rv, pl, _⟩ := I1.list hq
    exact wpAny_pyIter_list pl.isList ⟨s1.heap.objs.size, [s1.heap.objs.size], _, _, H1, rfl, I1.kept (t' := s1.toks) fun b o z => Heap.get?_push_of_some _ z,
      turn_list a _, ⟨_, Heap.get?_push_size _ rfl, rfl, rfl⟩, one, q⟩
  · obtain ⟨its, rv, pl, _⟩ := I1.tuple hq
    exact wpAny_pyIter_tuple (show s1.heap.IsTuple a its.toArray from pl) ⟨s1.heap.objs.size, [s1.heap.objs.size], _, _, H1, rfl, I1.kept (t' := s1.toks) fun b o z => Heap.get?_push_of_some _ z,
      turn_tuple a _, ⟨_, Heap.get?_push_size _ rfl, rfl, rfl⟩, one, q⟩
theorem i_seq (h : PE X e (tP X.K m)) : PI X tg e (tI X.K (mSeq m)) := imI (pi_any h) fun σ H R ⟨sa, B, F, st, o, ds, st', h0, h1, k⟩ => by
  unfold mSeq at h1
  cases q : m st with
  | bad =>
    simp only [q] at h1
    cases h1
  | ok x st1 =>
    cases q2 : seqD x.d with
    | none =>
      simp only [q, q2] at h1
      cases h1
    | some ys =>
      simp only [q, q2] at h1
      cases h1
      refine ⟨sa, B, F, st, x, _, h0, q, fun sa1 F1 H1 v R1 p1 => ?_⟩
      obtain ⟨F2, a, rfl, R2, sc, ⟨⟨xs, e1⟩, hl⟩ | ⟨xs, e1, r1⟩⟩ := seq_src R1 p1 q2
      · exact ⟨a, rfl, .inl ⟨⟨xs, .inl (.inl e1)⟩, k sa1 F2 H1 _ R2 sc (drv_list hl)⟩⟩
      · exact ⟨a, rfl, .inr ⟨⟨xs, .inl (.inl (R2.r.fh _ _ e1))⟩, k sa1 F2 H1 _ R2 sc (drv_tup e1 r1)⟩⟩
theorem i_enum (hg : Gl X "enumerate") (hm : X.mg "enumerate" = none) (h : PE X e (tP X.K m)) (hs : starEach (e :: []) X.env = (false, eval e X.env) :: starEach [] X.env := by rfl) (hs1 : starEach [e] X.env = [(false, eval e X.env)] := by rfl) :
    PI X (.Tuple elts kk tpos) (.Call (.Name "enumerate" p) [e] [] pos) (tI X.K (mEnum m)) := imI (pi_enT hg hm (pa_cons h pa_nil hs) hs1) fun σ H R ⟨sa, B, F, st, o, ds, st', h0, h1, k⟩ => by
  unfold mEnum at h1
  cases q : m st with
  | bad =>
    simp only [q] at h1
    cases h1
  | ok x st1 =>
    cases q2 : seqD x.d with
    | none =>
      simp only [q, q2] at h1
      cases h1
    | some ys =>
      simp only [q, q2] at h1
      cases h1
      refine ⟨sa, B, F, st, x, _, h0, q, fun sa1 F1 H1 v R1 p1 => ?_⟩
      obtain ⟨F2, a, rfl, R2, sc, ⟨⟨xs, e1⟩, hl⟩ | ⟨xs, e1, r1⟩⟩ := seq_src R1 p1 q2
      · exact ⟨a, xs, rfl, .inl ⟨.inl (.inl e1), k sa1 F2 H1 _ R2 sc (drv_enL hl)⟩⟩
      · exact ⟨a, xs, rfl, .inr ⟨.inl (.inl (R2.r.fh _ _ e1)), k sa1 F2 H1 _ R2 sc (drv_enT e1 r1)⟩⟩
theorem i_zip (hg : Gl X "zip") (hm : X.mg "zip" = none) (h : PE X e (tP X.K m)) (h' : PE X e' (tP X.K m')) (hs : starEach (e :: [e']) X.env = (false, eval e X.env) :: starEach [e'] X.env := by rfl) (hs' : starEach (e' :: []) X.env = (false, eval e' X.env) :: starEach [] X.env := by rfl) (hs2 : ((backTo pos (starEach [e'] X.env)).any fun x => x.fst) = false := by rfl) :
    PI X (.Tuple elts kk tpos) (.Call (.Name "zip" p) [e, e'] [] pos) (tI X.K (mZip m m')) := imI (RZ.pi_zipA hg hm (pa_cons h (pa_cons h' pa_nil hs') hs) hs hs2) fun σ H R ⟨sa, B, F, st, o, ds, st', h0, h1, k⟩ => by
  unfold mZip at h1
  cases q : m st with
  | bad =>
    simp only [q] at h1
    cases h1
  | ok x st1 =>
    cases q2 : m' st1 with
    | bad =>
      simp only [q, q2] at h1
      cases h1
    | ok y st2 =>
      simp only [q, q2] at h1
      refine ⟨sa, B, F, st, x, _, h0, q, fun sa1 F1 H1 v R1 p1 => ⟨sa1, B, F1, st1, y, _, R1.r, q2, fun sa2 F2 H2 w R2 p2 => ?_⟩⟩
      split at h1
      · cases h1
        have r1 := Rp.mono R2.x.le (show Rp F1 v _ from p1)
        have r2 : Rp F2 w _ := p2
        cases r1 with
        | lst e1 r1 =>
          cases r2 with
          | lst e2 r2 => exact ⟨_, _, _, _, rfl, .inl ⟨.inl (.inl (R2.r.fh _ _ e1)), .inl (.inl (R2.r.fh _ _ e2)), k sa2 F2 H2 _ (R1.trans R2) True.intro (drv_zipL e1 r1 e2 r2)⟩⟩
      · cases h1
        have r1 := Rp.mono R2.x.le (show Rp F1 v _ from p1)
        have r2 : Rp F2 w _ := p2
        cases r1 with
        | tup e1 r1 =>
          cases r2 with
          | tup e2 r2 => exact ⟨_, _, _, _, rfl, .inr ⟨.inl (.inl (R2.r.fh _ _ e1)), .inl (.inl (R2.r.fh _ _ e2)), k sa2 F2 H2 _ (R1.trans R2) True.intro (drv_zipT e1 r1 e2 r2)⟩⟩
      · cases h1
theorem i_rng1 {a : Expr} (hg : Gl X "range") (hm : X.mg "range" = none) (h : PA X [a] (tAL X.K ma)) (hs : starEach [a] X.env = [(false, eval a X.env)] := by rfl) : PI X tg (.Call (.Name "range" p) [a] [] pos) (tI X.K (mRgI ma)) :=
  imI (pi_range1 hg hm h hs) fun σ H R ⟨sa, B, F, st, o, ds, st', h0, h1, k⟩ => by
    unfold mRgI at h1
    split at h1
    · rename_i n st1 q
      split at h1
      · rename_i hz
        cases h1
        refine ⟨sa, B, F, st, _, _, h0, q, fun sa1 F1 H1 vs R1 r1 => ?_⟩
        cases r1 with
        | cons r1 r2 =>
          cases r2
          cases r1
          obtain ⟨_, _, h3, h4, _⟩ := rgOk_ok hz
          refine ⟨n, rfl, h3, h4, ?_⟩
          have := k sa1 F1 H1 _ R1 True.intro (drv_rng (a := 0) (b := n))
          rw [Int.sub_zero] at this
          exact this
      · cases h1
    · cases h1
theorem i_rng2 {a b : Expr} (hg : Gl X "range") (hm : X.mg "range" = none) (h : PA X [a, b] (tAL X.K ma)) (hs : starEach [a, b] X.env = [(false, eval a X.env), (false, eval b X.env)] := by rfl) (hs2 : starEach [b] X.env = [(false, eval b X.env)] := by rfl) : PI X tg (.Call (.Name "range" p) [a, b] [] pos) (tI X.K (mRgI2 ma)) :=
  imI (pi_range2 hg hm h hs hs2) fun σ H R ⟨sa, B, F, st, o, ds, st', h0, h1, k⟩ => by
    unfold mRgI2 at h1
    split at h1
    · rename_i a' b' st1 q
      split at h1
      · rename_i hz
        cases h1
        refine ⟨sa, B, F, st, _, _, h0, q, fun sa1 F1 H1 vs R1 r1 => ?_⟩
        cases r1 with
        | cons r1 r2 =>
          cases r2 with
          | cons r2 r3 =>
            cases r3
            cases r1
            cases r2
            obtain ⟨h1, h2, h3, h4, _⟩ := rgOk_ok hz
            exact ⟨a', b', rfl, ⟨h1, h2, h3, h4⟩, k sa1 F1 H1 _ R1 True.intro (drv_rng (a := a') (b := b'))⟩
      · cases h1
    · cases h1
end
end Pd
end
section
set_option linter.all false
set_option maxRecDepth 100000
/-! Pd, part K: for, while, list comprehensions. -/
namespace Pd
open PySem PySem.Spec PyProof.Rows L2

/-! ### what is walked, frozen -/
def tL (K : PySem.W.Frag) (m : S → R (List PyData)) : TI := fun σ H R => ∃ sa B F st ds st', SR K sa B F H σ st ∧ m st = .ok ds st' ∧
  ∀ sa' F' H' J, Rch K B σ sa F st sa' F' H' st' → Drv K J σ (.v .none) F' ds → R J H'
def mV (m : S → R PyData) : S → R Opd := fun st => match m st with
  | .ok d st1 => .ok (.v d) st1
  | .bad => .bad
def jSeq (m : S → R PyData) : S → R (List PyData) := fun st => match m st with
  | .ok (.list ds) st1 => .ok ds st1
  | .ok (.tuple ds) st1 => .ok ds st1
  | _ => .bad
def jEnum (m : S → R PyData) : S → R (List PyData) := fun st => match m st with
  | .ok (.list ds) st1 => .ok (enumD ds) st1
  | .ok (.tuple ds) st1 => .ok (enumD ds) st1
  | _ => .bad
def jZip (m m' : S → R PyData) : S → R (List PyData) := fun st => match m st with
  | .ok (.list xs) st1 => match m' st1 with
    | .ok (.list ys) st2 => .ok (zipD xs ys) st2
    | _ => .bad
  | .ok (.tuple xs) st1 => match m' st1 with
    | .ok (.tuple ys) st2 => .ok (zipD xs ys) st2
    | _ => .bad
  | _ => .bad
def jRg (m : S → R (List PyData)) : S → R (List PyData) := fun st => match m st with
  | .ok [.int n] st1 => if rgOk 0 n then .ok (rgD 0 n) st1 else .bad
  | _ => .bad
def jRg2 (m : S → R (List PyData)) : S → R (List PyData) := fun st => match m st with
  | .ok [.int a, .int b] st1 => if rgOk a b then .ok (rgD a b) st1 else .bad
  | _ => .bad
section
variable {K : PySem.W.Frag} {X : Cx} {tg e e' : Expr} {mf mf' : S → R PyData} {ma : S → R (List PyData)} {p pos tpos : Pos} {elts : List Expr} {kk : Nat}
theorem r_v : ∀ σ H Q, tP K (mV mf) σ H Q → tF K mf σ H Q := fun σ H Q ⟨sa, B, F, st, r, st', h0, h1, k⟩ => by
  unfold mV at h1
  cases q : mf st with
  | bad =>
    rw [q] at h1
    cases h1
  | ok d st1 =>
    rw [q] at h1
    cases h1
    exact ⟨sa, B, F, st, d, _, h0, q, k⟩
theorem p_frz (h : PE X e (tF K mf)) : PE X e (tP K (mV mf)) := imE h r_v
theorem drv_v {J : It} {σ0 : L2.St} {d : PyData} {F0 : Hp} {ds : List PyData} (h : Drv K J σ0 (.v d) F0 ds) : Drv K J σ0 (.v .none) F0 ds := ⟨h.go, h.stop, h.yld⟩
theorem j_seq (h : PE X e (tF X.K mf)) : PI X tg e (tL X.K (jSeq mf)) := imI (i_seq (p_frz h)) fun σ H R ⟨sa, B, F, st, ds, st', h0, h1, k⟩ => by
  unfold jSeq at h1
  split at h1
  · rename_i q
    cases h1
    exact ⟨sa, B, F, st, _, _, _, h0, by simp only [mSeq, mV, q]; rfl, fun sa' F' H' J R1 _ D => k sa' F' H' J R1 (drv_v D)⟩
  · rename_i q
    cases h1
    exact ⟨sa, B, F, st, _, _, _, h0, by simp only [mSeq, mV, q]; rfl, fun sa' F' H' J R1 _ D => k sa' F' H' J R1 (drv_v D)⟩
  · cases h1
theorem j_enum (hg : Gl X "enumerate") (hm : X.mg "enumerate" = none) (h : PE X e (tF X.K mf)) (hs : starEach (e :: []) X.env = (false, eval e X.env) :: starEach [] X.env := by rfl) (hs1 : starEach [e] X.env = [(false, eval e X.env)] := by rfl) :
    PI X (.Tuple elts kk tpos) (.Call (.Name "enumerate" p) [e] [] pos) (tL X.K (jEnum mf)) := imI (i_enum hg hm (p_frz h) hs hs1) fun σ H R ⟨sa, B, F, st, ds, st', h0, h1, k⟩ => by
  unfold jEnum at h1
  split at h1
  · rename_i q
    cases h1
    exact ⟨sa, B, F, st, _, _, _, h0, by simp only [mEnum, mV, q]; rfl, fun sa' F' H' J R1 _ D => k sa' F' H' J R1 (drv_v D)⟩
  · rename_i q
    cases h1
    exact ⟨sa, B, F, st, _, _, _, h0, by simp only [mEnum, mV, q]; rfl, fun sa' F' H' J R1 _ D => k sa' F' H' J R1 (drv_v D)⟩
  · cases h1
theorem j_zip (hg : Gl X "zip") (hm : X.mg "zip" = none) (h : PE X e (tF X.K mf)) (h' : PE X e' (tF X.K mf')) (hs : starEach (e :: [e']) X.env = (false, eval e X.env) :: starEach [e'] X.env := by rfl) (hs' : starEach (e' :: []) X.env = (false, eval e' X.env) :: starEach [] X.env := by rfl) (hs2 : ((backTo pos (starEach [e'] X.env)).any fun x => x.fst) = false := by rfl) :
    PI X (.Tuple elts kk tpos) (.Call (.Name "zip" p) [e, e'] [] pos) (tL X.K (jZip mf mf')) := imI (i_zip hg hm (p_frz h) (p_frz h') hs hs' hs2) fun σ H R ⟨sa, B, F, st, ds, st', h0, h1, k⟩ => by
  unfold jZip at h1
  split at h1
  · rename_i q
    split at h1
    · rename_i q2
      cases h1
      exact ⟨sa, B, F, st, _, _, _, h0, by simp only [mZip, mV, q, q2]; rfl, fun sa' F' H' J R1 _ D => k sa' F' H' J R1 (drv_v D)⟩
    · cases h1
  · rename_i q
    split at h1
    · rename_i q2
      cases h1
      exact ⟨sa, B, F, st, _, _, _, h0, by simp only [mZip, mV, q, q2]; rfl, fun sa' F' H' J R1 _ D => k sa' F' H' J R1 (drv_v D)⟩
    · cases h1
  · cases h1
theorem j_rng1 {a : Expr} (hg : Gl X "range") (hm : X.mg "range" = none) (h : PA X [a] (tAL X.K ma)) (hs : starEach [a] X.env = [(false, eval a X.env)] := by rfl) : PI X tg (.Call (.Name "range" p) [a] [] pos) (tL X.K (jRg ma)) :=
  imI (i_rng1 hg hm h hs) fun σ H R ⟨sa, B, F, st, ds, st', h0, h1, k⟩ => by
    unfold jRg at h1
    split at h1
    · rename_i q
      split at h1
      · rename_i hz
        cases h1
        exact ⟨sa, B, F, st, _, _, _, h0, by simp only [mRgI, q, hz, if_true]; rfl, fun sa' F' H' J R1 _ D => k sa' F' H' J R1 (drv_v D)⟩
      · cases h1
    · cases h1
theorem j_rng2 {a b : Expr} (hg : Gl X "range") (hm : X.mg "range" = none) (h : PA X [a, b] (tAL X.K ma)) (hs : starEach [a, b] X.env = [(false, eval a X.env), (false, eval b X.env)] := by rfl) (hs2 : starEach [b] X.env = [(false, eval b X.env)] := by rfl) : PI X tg (.Call (.Name "range" p) [a, b] [] pos) (tL X.K (jRg2 ma)) :=
  imI (i_rng2 hg hm h hs hs2) fun σ H R ⟨sa, B, F, st, ds, st', h0, h1, k⟩ => by
    unfold jRg2 at h1
    split at h1
    · rename_i q
      split at h1
      · rename_i hz
        cases h1
        exact ⟨sa, B, F, st, _, _, _, h0, by simp only [mRgI2, q, hz, if_true]; rfl, fun sa' F' H' J R1 _ D => k sa' F' H' J R1 (drv_v D)⟩
      · cases h1
    · cases h1
end

/-! ### for -/
def forGo (g : PyData → S → Option S) (m : S → RS) : List PyData → S → RS
  | [], st => .nx st
  | d :: ds, st => match g d st with
    | some st1 => match m st1 with
      | .nx st2 => forGo g m ds st2
      | .ct st2 => forGo g m ds st2
      | .bk st2 => .nx st2
      | .ret r st2 => .ret r st2
      | .bad => .bad
    | none => .bad
def sFor (mi : S → R (List PyData)) (g : PyData → S → Option S) (m : S → RS) : S → RS := fun st => match mi st with
  | .ok ds st1 => forGo g m ds st1
  | .bad => .bad
section
variable {K : PySem.W.Frag} {X : Cx} {tg e : Expr} {body : List Stmt} {mi : S → R (List PyData)} {g : PyData → S → Option S} {mb : S → RS} {c : S → R Bool} {idx : List Nat} {pos : Pos}
theorem s_for (hp : PassesOwn (model X.prog X.w) X.A X.env X.xe) (hc : X.calm = true) (hi : PI X tg e (tL K mi)) (hg : PG X tg (tG K idx g)) (hb : PSs X body (tMS K mb)) (hs : ∀ x, foldedSetIterable e X.env x = pure x := by intro _; rfl) :
    PS X (.For tg e body [] pos) (tMS K (sFor mi g mb)) := imS (ps_for hp hc hi hg hb hs) fun D σ H ⟨sa, B, F, st, h0, h1⟩ => by
  unfold sFor at h1
  cases q : mi st with
  | bad =>
    simp only [q] at h1
    exact h1.elim
  | ok ds st1 =>
    simp only [q] at h1
    refine ⟨sa, B, F, st, ds, st1, h0, q, fun sa1 F1 H1 J R1 dr => ?_⟩
    refine ⟨fun i n σ' H' => ∃ sa2 F2 st2, SR K sa2 B F2 H' σ' st2 ∧ Sub F1 F2 ∧ (n = ds.length - i ∧ i ≤ ds.length) ∧ rsK K B sa2 F2 st2 D (forGo g mb (ds.drop i) st2), ⟨_, sa1, F1, st1, R1.r, Sub.refl _, ⟨rfl, Nat.zero_le _⟩, h1.step R1⟩, fun i n σ' H' ⟨sa2, F2, st2, S2, s2, e2, h2⟩ => ?_⟩
    by_cases hi : i < ds.length
    · rw [List.drop_eq_getElem_cons hi] at h2
      unfold forGo at h2
      cases q2 : g ds[i] st2 with
      | none =>
        simp only [q2] at h2
        exact h2.elim
      | some st3 =>
        simp only [q2] at h2
        refine .inr ⟨dr.go i sa2 B F2 H' σ' st2 S2 s2 True.intro hi, fun σ'' H'' => ∃ sa3 F3 st3, SR K sa3 B F3 H'' σ'' st3 ∧ Sub F1 F3 ∧ rsK K B sa3 F3 st3 D (forGo g mb (ds.drop (i + 1)) st3), fun σ'' H'' ⟨sa3, F3, st3, S3, s3, h3⟩ => ⟨ds.length - (i + 1), by omega, sa3, F3, st3, S3, s3, ⟨rfl, hi⟩, h3⟩, fun x H3 y => ?_⟩
        obtain ⟨F3, S3, x3, r3⟩ := dr.yld i sa2 B F2 H' σ' st2 x H3 ds[i] S2 s2 True.intro (List.getElem?_eq_getElem hi) y
        refine ⟨sa2, B, F3, st2, ds[i], st3, S3, r3, q2, fun σ4 S4 e4 _ => ⟨sa2, B, F3, st3, S4, ?_⟩⟩
        have h3 : rsK K B sa2 F3 st3 D (match mb st3 with
          | .nx st2 => forGo g mb (ds.drop (i + 1)) st2
          | .ct st2 => forGo g mb (ds.drop (i + 1)) st2
          | .bk st2 => .nx st2
          | .ret r st2 => .ret r st2
          | .bad => .bad) := h2.step (σ1 := σ4) (H1 := H3) ⟨S4, x3, fun _ => rfl, fun z => by rw [e4]; exact z⟩
        have s3 := s2.trans x3.le
        cases q3 : mb st3 with
        | nx st4 =>
          simp only [q3] at h3
          exact fun sa5 F5 H5 σ5 R5 => ⟨sa5, F5, st4, R5.r, s3.trans R5.x.le, h3.step R5⟩
        | ct st4 =>
          simp only [q3] at h3
          exact fun sa5 F5 H5 σ5 R5 => ⟨sa5, F5, st4, R5.r, s3.trans R5.x.le, h3.step R5⟩
        | bk st4 =>
          simp only [q3] at h3
          exact h3
        | ret r st4 =>
          simp only [q3] at h3
          exact h3
        | bad =>
          simp only [q3] at h3
          exact h3
    · have hl : i = ds.length := by omega
      subst hl
      rw [List.drop_length] at h2
      exact .inl ⟨dr.stop sa2 B F2 H' σ' st2 S2 s2 True.intro, h2 sa2 F2 H' σ' (.refl S2)⟩

/-! ### while -/
def whGo (c : S → R Bool) (m : S → RS) : Nat → S → RS
  | 0, _ => .bad
  | k + 1, st => match c st with
    | .ok true st1 => match m st1 with
      | .nx st2 => whGo c m k st2
      | .ct st2 => whGo c m k st2
      | .bk st2 => .nx st2
      | .ret r st2 => .ret r st2
      | .bad => .bad
    | .ok false st1 => .nx st1
    | .bad => .bad
open Classical in
noncomputable def sWhile (c : S → R Bool) (m : S → RS) : S → RS := fun st => if h : ∃ k, whGo c m k st ≠ .bad then whGo c m h.choose st else .bad
theorem whGo_more {c : S → R Bool} {m : S → RS} : ∀ {k l : Nat} {st : S}, whGo c m k st ≠ .bad → k ≤ l → whGo c m l st = whGo c m k st
  | 0, _, _, h, _ => absurd rfl h
  | k + 1, 0, _, _, h => by omega
  | k + 1, l + 1, st, h, hl => by
    have hl' : k ≤ l := by omega
    unfold whGo at h ⊢
    cases q : c st with
    | bad => rfl
    | ok b st1 =>
      cases b with
      | false => rfl
      | true =>
        simp only [q] at h ⊢
        cases q2 : m st1 with
        | nx st2 =>
          simp only [q2] at h ⊢
          exact whGo_more h hl'
        | ct st2 =>
          simp only [q2] at h ⊢
          exact whGo_more h hl'
        | bk st2 => rfl
        | ret r st2 => rfl
        | bad => rfl
theorem sWhile_of {c : S → R Bool} {m : S → RS} {k : Nat} {st : S} (h : whGo c m k st ≠ .bad) : sWhile c m st = whGo c m k st := by
  unfold sWhile
  have hx : ∃ k, whGo c m k st ≠ .bad := ⟨k, h⟩
  rw [dif_pos hx]
  rcases Nat.le_total k hx.choose with z | z
  · exact whGo_more h z
  · exact (whGo_more hx.choose_spec z).symm
theorem sWhile_fuel {c : S → R Bool} {m : S → RS} {st : S} : ∃ k, sWhile c m st = whGo c m k st := by
  by_cases h : ∃ k, whGo c m k st ≠ .bad
  · obtain ⟨k, hk⟩ := h
    exact ⟨k, sWhile_of hk⟩
  · exact ⟨0, by
      unfold sWhile
      rw [dif_neg h]
      rfl⟩
/-- a turn of while -/
theorem sWhile_turn {c : S → R Bool} {m : S → RS} {st : S} : sWhile c m st = match c st with
    | .ok true st1 => match m st1 with
      | .nx st2 => sWhile c m st2
      | .ct st2 => sWhile c m st2
      | .bk st2 => .nx st2
      | .ret r st2 => .ret r st2
      | .bad => .bad
    | .ok false st1 => .nx st1
    | .bad => .bad := by
  have one : ∀ k, whGo c m (k + 1) st = match c st with
    | .ok true st1 => match m st1 with
      | .nx st2 => whGo c m k st2
      | .ct st2 => whGo c m k st2
      | .bk st2 => .nx st2
      | .ret r st2 => .ret r st2
      | .bad => .bad
    | .ok false st1 => .nx st1
    | .bad => .bad := fun k => rfl
  have none_ : (∀ k, whGo c m (k + 1) st = .bad) → sWhile c m st = .bad := fun h => by
    unfold sWhile
    rw [dif_neg]
    rintro ⟨k, hk⟩
    cases k with
    | zero => exact hk rfl
    | succ k => exact hk (h k)
  cases q : c st with
  | bad => exact none_ fun k => by rw [one, q]
  | ok b st1 =>
    cases b with
    | false =>
      have : whGo c m 1 st = .nx st1 := by rw [one, q]
      rw [sWhile_of (k := 1) (by rw [this]; exact fun z => nomatch z), this]
    | true =>
      dsimp only
      cases q2 : m st1 with
      | nx st2 =>
        dsimp only
        have e : ∀ k, whGo c m (k + 1) st = whGo c m k st2 := fun k => by rw [one, q]; dsimp only; rw [q2]
        obtain ⟨k, hk⟩ := sWhile_fuel (c := c) (m := m) (st := st2)
        rw [hk]
        by_cases z : whGo c m k st2 = .bad
        · rw [z]
          refine none_ fun l => ?_
          rw [e]
          cases w : whGo c m l st2 with
          | bad => rfl
          | _ =>
            have := sWhile_of (k := l) (c := c) (m := m) (st := st2) (by rw [w]; exact fun z => nomatch z)
            rw [hk, z, w] at this
            cases this
        · rw [sWhile_of (k := k + 1) (by rw [e]; exact z), e]
      | ct st2 =>
        dsimp only
        have e : ∀ k, whGo c m (k + 1) st = whGo c m k st2 := fun k => by rw [one, q]; dsimp only; rw [q2]
        obtain ⟨k, hk⟩ := sWhile_fuel (c := c) (m := m) (st := st2)
        rw [hk]
        by_cases z : whGo c m k st2 = .bad
        · rw [z]
          refine none_ fun l => ?_
          rw [e]
          cases w : whGo c m l st2 with
          | bad => rfl
          | _ =>
            have := sWhile_of (k := l) (c := c) (m := m) (st := st2) (by rw [w]; exact fun z => nomatch z)
            rw [hk, z, w] at this
            cases this
        · rw [sWhile_of (k := k + 1) (by rw [e]; exact z), e]
      | bk st2 =>
        have : whGo c m 1 st = .nx st2 := by rw [one, q]; dsimp only; rw [q2]
        rw [sWhile_of (k := 1) (by rw [this]; exact fun z => nomatch z), this]
      | ret r st2 =>
        have : whGo c m 1 st = .ret r st2 := by rw [one, q]; dsimp only; rw [q2]
        rw [sWhile_of (k := 1) (by rw [this]; exact fun z => nomatch z), this]
      | bad => exact none_ fun k => by rw [one, q]; dsimp only; rw [q2]
theorem s_while (hp : PassesOwn (model X.prog X.w) X.A X.env X.xe) (hc : PT X e (tMT K c)) (hb : PSs X body (tMS K mb)) : PS X (.While e body [] pos) (tMS K (sWhile c mb)) := imS (ps_while hp hc hb) fun D σ H ⟨sa, B, F, st, h0, h1⟩ => by
  obtain ⟨k, hk⟩ := sWhile_fuel (c := c) (m := mb) (st := st)
  rw [hk] at h1
  refine ⟨fun n σ' H' => ∃ sa2 F2 st2, SR K sa2 B F2 H' σ' st2 ∧ rsK K B sa2 F2 st2 D (whGo c mb n st2), ⟨k, sa, F, st, h0, h1⟩, fun n σ' H' ⟨sa2, F2, st2, S2, h2⟩ => ?_⟩
  cases n with
  | zero => exact h2.elim
  | succ n =>
    unfold whGo at h2
    cases q : c st2 with
    | bad =>
      simp only [q] at h2
      exact h2.elim
    | ok b st3 =>
      refine ⟨sa2, B, F2, st2, b, st3, S2, q, fun sa3 F3 H3 R3 => ?_⟩
      cases b with
      | false =>
        simp only [q] at h2
        rw [if_neg Bool.false_ne_true]
        exact h2 sa3 F3 H3 σ' R3
      | true =>
        simp only [q] at h2
        rw [if_pos rfl]
        refine ⟨fun σ'' H'' => ∃ sa4 F4 st4, SR K sa4 B F4 H'' σ'' st4 ∧ rsK K B sa4 F4 st4 D (whGo c mb n st4), fun σ'' H'' z => ⟨n, Nat.lt_succ_self n, z⟩, sa3, B, F3, st3, R3.r, ?_⟩
        cases q3 : mb st3 with
        | nx st4 =>
          simp only [q3] at h2
          exact fun sa5 F5 H5 σ5 R5 => ⟨sa5, F5, st4, R5.r, (h2.step R3).step R5⟩
        | ct st4 =>
          simp only [q3] at h2
          exact fun sa5 F5 H5 σ5 R5 => ⟨sa5, F5, st4, R5.r, (h2.step R3).step R5⟩
        | bk st4 =>
          simp only [q3] at h2
          exact h2.step R3
        | ret r st4 =>
          simp only [q3] at h2
          exact h2.step R3
        | bad =>
          simp only [q3] at h2
          exact h2.step R3
end
end Pd
end
section
set_option linter.all false
set_option maxRecDepth 100000
/-! Pd, part L: list comprehensions. -/
namespace Pd
open PySem PySem.Spec PyProof.Rows L2

def wipeS (ss : List Slot) : List Nat → List Slot
  | [] => ss
  | v :: vs => (wipeS ss vs).set v .no
def backS : Option Slot → Slot
  | some (.v d) => .v d
  | some .src => .src
  | some .cel => .cel
  | some (.scr ns) => .scr ns
  | _ => .no
def restS (ss0 ss1 : List Slot) : List Nat → List Slot
  | [] => ss1
  | v :: vs => (restS ss0 ss1 vs).set v (backS ss0[v]?)
def S.wipe (st : S) (vs : List Nat) : S := { st with ss := wipeS st.ss vs }
def S.rest (st st0 : S) (vs : List Nat) : S := { st with ss := restS st0.ss st.ss vs }
theorem wipeS_length (ss : List Slot) : ∀ vs : List Nat, (wipeS ss vs).length = ss.length
  | [] => rfl
  | v :: vs => by
    unfold wipeS
    rw [List.length_set, wipeS_length ss vs]
theorem restS_length (ss0 ss : List Slot) : ∀ vs : List Nat, (restS ss0 ss vs).length = ss.length
  | [] => rfl
  | v :: vs => by
    unfold restS
    rw [List.length_set, restS_length ss0 ss vs]
theorem wipeS_at {ss : List Slot} {i : Nat} {x : Slot} : ∀ {vs : List Nat}, (wipeS ss vs)[i]? = some x → x ≠ .no → ss[i]? = some x ∧ i ∉ vs
  | [], h, _ => ⟨h, List.not_mem_nil⟩
  | v :: vs, h, n => by
    unfold wipeS at h
    rcases get_set h with ⟨_, z⟩ | ⟨z, w⟩
    · exact absurd z n
    · obtain ⟨h1, h2⟩ := wipeS_at w n
      exact ⟨h1, fun m => (List.mem_cons.mp m).elim z h2⟩
theorem restS_at {ss0 ss : List Slot} {i : Nat} {x : Slot} : ∀ {vs : List Nat}, (restS ss0 ss vs)[i]? = some x → (i ∈ vs ∧ x = backS ss0[i]?) ∨ (i ∉ vs ∧ ss[i]? = some x)
  | [], h => .inr ⟨List.not_mem_nil, h⟩
  | v :: vs, h => by
    unfold restS at h
    rcases get_set h with ⟨z, w⟩ | ⟨z, w⟩
    · subst z
      exact .inl ⟨List.mem_cons_self, w⟩
    · rcases restS_at w with ⟨h1, h2⟩ | ⟨h1, h2⟩
      · exact .inl ⟨List.mem_cons_of_mem _ h1, h2⟩
      · exact .inr ⟨fun m => (List.mem_cons.mp m).elim z h1, h2⟩
theorem wipe_off {σ : L2.St} {i : Nat} {vs : List Nat} (h : i ∉ vs) : (wipe σ vs)[i]? = σ[i]? := wipe_out h
theorem wipe_wipe {σ : L2.St} {vs ws : List Nat} (h : ∀ i ∈ ws, i ∈ vs) : wipe (wipe σ ws) vs = wipe σ vs := by
  apply List.ext_getElem?
  intro j
  by_cases m : j ∈ vs
  · by_cases hj : j < σ.length
    · rw [wipe_at m hj, wipe_at m (by rw [wipe_length]; exact hj)]
    · rw [List.getElem?_eq_none (by rw [wipe_length, wipe_length]; omega), List.getElem?_eq_none (by rw [wipe_length]; omega)]
  · rw [wipe_out m, wipe_out m, wipe_out fun z => m (h j z)]
section
variable {K : PySem.W.Frag} {B : Hp} {σ : L2.St} {sa : Sa} {F H : Hp} {st : S}
theorem SR.wipes (h : SR K sa B F H σ st) (vs : List Nat) : SR K sa B F H (wipe σ vs) (st.wipe vs) := h.forget (by rw [wipe_length, wipeS_length, h.len]) fun i x e n => by
  obtain ⟨h1, h2⟩ := wipeS_at e n
  exact ⟨h1, wipe_out h2⟩
theorem SR.rests {sa1 : Sa} {B1 F1 H1 : Hp} {st1 : S} {vs : List Nat} (h1 : SR K sa1 B1 F1 H1 σ st1) (h : SR K sa B F H (wipe σ vs) st) (s : Sub F1 F) (k : SaK st1 sa1 sa) (z : st1.src.isSome = true → st.src.isSome = true) : SR K sa B F H σ (st.rest st1 vs) := by
  have old : ∀ (i : Nat) (x : Slot), x = backS st1.ss[i]? → (∃ d, st1.ss[i]? = some (.v d) ∧ x = .v d) ∨ (st1.ss[i]? = some .src ∧ x = .src) ∨ (∃ ns, st1.ss[i]? = some (.scr ns) ∧ x = .scr ns) ∨ x = .no ∨ (st1.ss[i]? = some .cel ∧ x = .cel) := fun i x e => by
    cases q : st1.ss[i]? with
    | none =>
      rw [q] at e
      exact .inr (.inr (.inr (.inl e)))
    | some y =>
      rw [q] at e
      cases y with
      | v d => exact .inl ⟨d, rfl, e⟩
      | src => exact .inr (.inl ⟨rfl, e⟩)
      | scr ns => exact .inr (.inr (.inl ⟨ns, rfl, e⟩))
      | o d => exact .inr (.inr (.inr (.inl e)))
      | no => exact .inr (.inr (.inr (.inl e)))
      | cel => exact .inr (.inr (.inr (.inr ⟨rfl, e⟩)))
  have own : ∀ (i : Nat) (d : PyData), (restS st1.ss st.ss vs)[i]? = some (.o d) → i ∉ vs ∧ st.ss[i]? = some (.o d) ∧ (wipe σ vs)[i]? = σ[i]? := fun i d e => by
    rcases restS_at e with ⟨e1, e2⟩ | ⟨e1, e2⟩
    · rcases old i _ e2 with ⟨d, _, w⟩ | ⟨_, w⟩ | ⟨ns, _, w⟩ | w | ⟨_, w⟩ <;> cases w
    · exact ⟨e1, e2, wipe_out e1⟩
  refine ⟨h.bh, h.fh, by show σ.length = (restS st1.ss st.ss vs).length; rw [restS_length, ← h.len, wipe_length], fun i d e => ?_, fun i d e => ?_, fun i j d e a n q1 q2 q3 q4 => ?_, fun i e => ?_, fun i ns e => ?_, h.sr, fun i e => ?_⟩
  · rcases restS_at e with ⟨e1, e2⟩ | ⟨e1, e2⟩
    · rcases old i _ e2 with ⟨d', h', w⟩ | ⟨_, w⟩ | ⟨ns, _, w⟩ | w | ⟨_, w⟩
      · cases w
        obtain ⟨v, f1, f2⟩ := h1.sl i d h'
        exact ⟨v, f1, f2.mono s⟩
      all_goals cases w
    · obtain ⟨v, f1, f2⟩ := h.sl i d e2
      rw [wipe_out e1] at f1
      exact ⟨v, f1, f2⟩
  · obtain ⟨e1, e2, e3⟩ := own i d e
    rw [← e3]
    exact h.so i d e2
  · obtain ⟨_, e2, e3⟩ := own i d q1
    obtain ⟨_, f2, f3⟩ := own j e q2
    rw [← e3] at q3
    rw [← f3] at q4
    exact h.ap i j d e a n e2 f2 q3 q4
  · rcases restS_at e with ⟨e1, e2⟩ | ⟨e1, e2⟩
    · rcases old i _ e2 with ⟨d', _, w⟩ | ⟨h', w⟩ | ⟨ns, _, w⟩ | w | ⟨_, w⟩
      · cases w
      · obtain ⟨f1, f2⟩ := h1.sx i h'
        exact ⟨z f1, by rw [f2, k f1]⟩
      all_goals cases w
    · obtain ⟨f1, f2⟩ := h.sx i e2
      rw [wipe_out e1] at f2
      exact ⟨f1, f2⟩
  · rcases restS_at e with ⟨e1, e2⟩ | ⟨e1, e2⟩
    · rcases old i _ e2 with ⟨d', _, w⟩ | ⟨_, w⟩ | ⟨ns', h', w⟩ | w | ⟨_, w⟩
      · cases w
      · cases w
      · cases w
        obtain ⟨a, f1, f2⟩ := h1.sc i ns h'
        exact ⟨a, f1, sqL_mono s f2⟩
      · cases w
      · cases w
    · obtain ⟨a, f1, f2⟩ := h.sc i ns e2
      rw [wipe_out e1] at f1
      exact ⟨a, f1, f2⟩
  · rcases restS_at e with ⟨e1, e2⟩ | ⟨e1, e2⟩
    · rcases old i _ e2 with ⟨d', _, w⟩ | ⟨_, w⟩ | ⟨ns', _, w⟩ | w | ⟨h', w⟩
      · cases w
      · cases w
      · cases w
      · cases w
      · obtain ⟨f1, f2⟩ := h1.sy i h'
        exact ⟨z f1, by rw [f2, k f1]⟩
    · obtain ⟨f1, f2⟩ := h.sy i e2
      rw [wipe_out e1] at f2
      exact ⟨f1, f2⟩
/-- a protected object is changed -/
theorem SR.bump {D : Addr} {o o' : HO} (h : SR K sa (upd B D o) F H σ st) (hf : F D = none) : SR K sa (upd B D o') F (upd H D o') σ st where
  bh := fun a u e => by
    by_cases q : a = D
    · subst q
      rw [upd_same] at e ⊢
      exact e
    · rw [upd_ne q] at e ⊢
      exact h.bh a u (by rw [upd_ne q]; exact e)
  fh := h.fh.off hf
  len := h.len
  sl := h.sl
  so := fun i d e => by
    obtain ⟨a, u, e1, e2, e3, e4, e5, e6⟩ := h.so i d e
    have n : a ≠ D := fun z => by
      rw [z, upd_same] at e4
      cases e4
    rw [upd_ne n] at e4
    exact ⟨a, u, e1, by rw [upd_ne n]; exact e2, e3, by rw [upd_ne n]; exact e4, e5, e6⟩
  ap := h.ap
  sx := h.sx
  sy := h.sy
  sc := h.sc
  sr := fun x e => by
    obtain ⟨e1, e2, e3, e4, e5⟩ := h.sr x e
    have n1 : sa.1 ≠ D := fun z => by
      rw [z, upd_same] at e2
      cases e2
    have n2 : sa.2 ≠ D := fun z => by
      rw [z, upd_same] at e3
      cases e3
    rw [upd_ne n1] at e2
    rw [upd_ne n2] at e3
    exact ⟨e1.off n1 n2, by rw [upd_ne n1]; exact e2, by rw [upd_ne n2]; exact e3, e4, e5⟩
/-- what is protected apart -/
theorem SR.apart {D : Addr} {o : HO} (h : SR K sa (upd B D o) F H σ st) : (st.src.isSome = true → D ≠ sa.1 ∧ D ≠ sa.2) ∧ ∀ (i : Nat) (e : PyData), st.ss[i]? = some (.o e) → σ[i]? ≠ some (some (.ref D)) := by
  refine ⟨fun z => ?_, fun i e q z => ?_⟩
  · obtain ⟨s, hs⟩ := Option.isSome_iff_exists.mp z
    obtain ⟨_, e2, e3, _⟩ := h.sr s hs
    refine ⟨fun w => ?_, fun w => ?_⟩
    · rw [← w, upd_same] at e2
      cases e2
    · rw [← w, upd_same] at e3
      cases e3
  · obtain ⟨b, u, f1, f2, f3, f4, _⟩ := h.so i e q
    rw [z] at f1
    cases f1
    rw [upd_same] at f4
    cases f4
theorem FX.at {D : Addr} {o : HO} {F' : Hp} (h : FX (upd B D o) F F') (hf : F D = none) : F' D = none := h.out D hf (by
  rw [upd_same]
  exact fun z => nomatch z)
end

/-! ### one clause -/
def lcGo (vs : List Nat) (g : PyData → S → Option S) (t : S → R Bool) (e : S → R PyData) : List PyData → List PyData → S → R (List PyData)
  | [], acc, st => .ok acc st
  | d :: ds, acc, st => match g d st with
    | none => .bad
    | some st1 => match t st1 with
      | .bad => .bad
      | .ok false st2 => lcGo vs g t e ds acc (st2.wipe vs)
      | .ok true st2 => match e st2 with
        | .bad => .bad
        | .ok x st3 => lcGo vs g t e ds (acc ++ [x]) (st3.wipe vs)
def mLc (mi : S → R (List PyData)) (vs : List Nat) (g : PyData → S → Option S) (t : S → R Bool) (e : S → R PyData) : S → R Slot := fun st => match mi st with
  | .bad => .bad
  | .ok ds st1 => if okLen ds.length then match lcGo vs g t e ds [] (st1.wipe vs) with
      | .ok acc st2 => .ok (.o (.list acc)) (st2.rest st1 vs)
      | .bad => .bad
    else .bad
def tYesM : S → R Bool := fun st => .ok true st
section
variable {K : PySem.W.Frag} {X : Cx} {mi : S → R (List PyData)} {vs : List Nat} {g : PyData → S → Option S} {t : S → R Bool} {me : S → R PyData}
/-- where a comprehension's list is at D -/
structure LcI (K : PySem.W.Frag) (B : Hp) (σw : L2.St) (sa1 : Sa) (F1 : Hp) (st1 : S) (D : Addr) (H : Hp) (sa : Sa) (F : Hp) (st : S) (vacc : List V) (acc : List PyData) : Prop where
  r : SR K sa (upd B D (.lst vacc)) F H σw st
  x : FX B F1 F
  n : F D = none
  a : RpL F vacc acc
  k : SaK st1 sa1 sa
  s : st1.src.isSome = true → st.src.isSome = true
theorem LcI.at {B : Hp} {σw : L2.St} {sa1 : Sa} {F1 : Hp} {st1 : S} {D : Addr} {H : Hp} {sa : Sa} {F : Hp} {st : S} {vacc : List V} {acc : List PyData} (h : LcI K B σw sa1 F1 st1 D H sa F st vacc acc) : H D = some (.lst vacc) := h.r.bh _ _ upd_same
theorem LcI.go {B : Hp} {σw σ' : L2.St} {sa1 : Sa} {F1 : Hp} {st1 : S} {D : Addr} {H : Hp} {sa : Sa} {F : Hp} {st : S} {vacc : List V} {acc : List PyData} (hb : B D = none) (h : LcI K B σw sa1 F1 st1 D H sa F st vacc acc)
    {sa2 : Sa} {F2 H2 : Hp} {st2 : S} (R : Rch K (upd B D (.lst vacc)) σ' sa F st sa2 F2 H2 st2) : LcI K B σ' sa1 F1 st1 D H2 sa2 F2 st2 vacc acc :=
  ⟨R.r, h.x.trans (R.x.weak (Sub.new hb)), R.x.at h.n, h.a.mono R.x.le, fun z => (R.k (h.s z)).trans (h.k z), fun z => R.s (h.s z)⟩
theorem LcI.wip {B : Hp} {σ' : L2.St} {sa1 : Sa} {F1 : Hp} {st1 : S} {D : Addr} {H : Hp} {sa : Sa} {F : Hp} {st : S} {vacc : List V} {acc : List PyData} (vs : List Nat) (h : LcI K B σ' sa1 F1 st1 D H sa F st vacc acc) : LcI K B (wipe σ' vs) sa1 F1 st1 D H sa F (st.wipe vs) vacc acc :=
  ⟨h.r.wipes vs, h.x, h.n, h.a, h.k, h.s⟩
theorem LcI.more {B : Hp} {σ' : L2.St} {sa1 : Sa} {F1 : Hp} {st1 : S} {D : Addr} {H : Hp} {sa : Sa} {F : Hp} {st : S} {vacc : List V} {acc : List PyData} (h : LcI K B σ' sa1 F1 st1 D H sa F st vacc acc) {y : V} {d : PyData} (r : Rp F y d) :
    LcI K B σ' sa1 F1 st1 D (upd H D (.lst (vacc ++ [y]))) sa F st (vacc ++ [y]) (acc ++ [d]) :=
  ⟨h.r.bump h.n, h.x, h.n, h.a.snoc r, h.k, h.s⟩
theorem LcI.done {B : Hp} {σ : L2.St} {sa sa0 sa1 : Sa} {F0 F1 H1 : Hp} {st0 st1 st : S} {D : Addr} {H F : Hp} {vacc : List V} {acc : List PyData} {Q : VK} (R1 : Rch K B σ sa0 F0 st0 sa1 F1 H1 st1) (hb : B D = none) (h : LcI K B (wipe σ vs) sa1 F1 st1 D H sa F st vacc acc)
    (k : ∀ sa' F' H' v, Rch K B σ sa0 F0 st0 sa' F' H' (st.rest st1 vs) → RRep sa' B F' H' σ (st.rest st1 vs) v (.o (.list acc)) → Q v H') : Q (.ref D) H := by
  have S2 := R1.r.rests h.r h.x.le h.k h.s
  obtain ⟨p1, p2⟩ := S2.apart
  exact k sa F H _ ⟨S2.less (Sub.new hb), R1.x.trans h.x, fun z => (h.k (R1.s z)).trans (R1.k z), fun z => h.s (R1.s z)⟩ ⟨D, _, rfl, h.at, .lst h.a, hb, h.n, p1, p2⟩
theorem LcI.start {B : Hp} {σ : L2.St} {sa1 : Sa} {F1 H1 : Hp} {st1 : S} {D : Addr} (vs : List Nat) (h : SR K sa1 B F1 H1 σ st1) (hD : H1 D = none) : LcI K B (wipe σ vs) sa1 F1 st1 D (upd H1 D (.lst [])) sa1 F1 (st1.wipe vs) [] [] := by
  have S1 := h.wipes vs
  obtain ⟨n1, n2⟩ := S1.news hD
  exact ⟨(S1.alloc hD).prot upd_same (h.bh.none_of hD) n1 n2, FX.refl, h.fh.none_of hD, .nil, fun _ => rfl, fun z => z⟩
theorem lcGo_len : ∀ {ds acc : List PyData} {st st' : S} {r : List PyData}, lcGo vs g t me ds acc st = .ok r st' → True := fun _ => True.intro
theorem r_lc {wi : TI} {gg : TG} {tt : TT} {te : TE} (hi : wi = tL K mi) (hg : gg = tG K vs g) (ht : tt = tMT K t) (he : te = tF K me) : ∀ σ H Q, tM K (mLc mi vs g t me) σ H Q → tLc wi gg tt te vs σ H Q := fun σ H Q ⟨sa, B, F, st, r, st', h0, h1, k⟩ => by
  subst hi hg ht he
  unfold mLc at h1
  cases q : mi st with
  | bad =>
    simp only [q] at h1
    cases h1
  | ok ds st1 =>
    simp only [q] at h1
    split at h1
    · rename_i hz
      cases q2 : lcGo vs g t me ds [] (st1.wipe vs) with
      | bad =>
        simp only [q2] at h1
        cases h1
      | ok res st2 =>
        simp only [q2] at h1
        cases h1
        refine ⟨sa, B, F, st, ds, st1, h0, q, fun sa1 F1 H1 J R1 dr D hD => ?_⟩
        have hb : B D = none := R1.r.bh.none_of hD
        refine ⟨fun i n H' => ∃ sa2 F2 st2' vacc acc, LcI K B (wipe σ vs) sa1 F1 st1 D H' sa2 F2 st2' vacc acc ∧ (n = ds.length - i ∧ i ≤ ds.length) ∧ acc.length ≤ i ∧ lcGo vs g t me (ds.drop i) acc st2' = .ok res st2,
          ⟨_, sa1, F1, _, [], [], LcI.start vs R1.r hD, ⟨rfl, Nat.zero_le _⟩, Nat.le_refl _, q2⟩, fun i n H' ⟨sa2, F2, st2', vacc, acc, L, ⟨hn, hi⟩, hl, q3⟩ => ?_⟩
        by_cases hi' : i < ds.length
        · rw [List.drop_eq_getElem_cons hi'] at q3
          unfold lcGo at q3
          cases q4 : g ds[i] st2' with
          | none =>
            simp only [q4] at q3
            cases q3
          | some st3 =>
            simp only [q4] at q3
            refine .inr ⟨dr.go i sa2 _ F2 H' _ st2' L.r L.x.le True.intro hi', fun H'' => ∃ sa3 F3 st3' vacc' acc', LcI K B (wipe σ vs) sa1 F1 st1 D H'' sa3 F3 st3' vacc' acc' ∧ acc'.length ≤ i + 1 ∧ lcGo vs g t me (ds.drop (i + 1)) acc' st3' = .ok res st2,
              fun H'' ⟨sa3, F3, st3', vacc', acc', L', hl', q'⟩ => ⟨ds.length - (i + 1), by omega, sa3, F3, st3', vacc', acc', L', ⟨rfl, hi'⟩, hl', q'⟩, fun x H3 y => ?_⟩
            obtain ⟨F3, S3, x3, r3⟩ := dr.yld i sa2 _ F2 H' _ st2' x H3 ds[i] L.r L.x.le True.intro (List.getElem?_eq_getElem hi') y
            have L3 := L.go hb ⟨S3, x3, fun _ => rfl, fun z => z⟩
            refine ⟨sa2, _, F3, st2', ds[i], st3, S3, r3, q4, fun σ4 S4 e4 w4 => ?_⟩
            have L4 := L3.go hb (σ' := σ4) ⟨S4, FX.refl, fun _ => rfl, fun z => by rw [e4]; exact z⟩
            have w4' : wipe σ4 vs = wipe σ vs := w4.trans (wipe_wipe fun i h => h)
            refine ⟨w4', ?_⟩
            cases q5 : t st3 with
            | bad =>
              simp only [q5] at q3
              cases q3
            | ok b st5 =>
              refine ⟨sa2, _, F3, st3, b, st5, S4, q5, fun sa5 F5 H5 R5 => ?_⟩
              have L5 := L4.go hb R5
              cases b with
              | false =>
                simp only [q5] at q3
                try dsimp only
                rw [if_neg Bool.false_ne_true]
                have L6 := L5.wip vs
                rw [w4'] at L6
                exact ⟨sa5, F5, _, vacc, acc, L6, by omega, q3⟩
              | true =>
                simp only [q5] at q3
                try dsimp only
                rw [if_pos rfl]
                cases q6 : me st5 with
                | bad =>
                  simp only [q6] at q3
                  cases q3
                | ok d st7 =>
                  simp only [q6] at q3
                  refine ⟨sa5, _, F5, st5, d, st7, L5.r, q6, fun sa7 F7 H7 y7 R7 r7 => ?_⟩
                  have L7 := L5.go hb R7
                  have L8 := (L7.more r7).wip vs
                  rw [w4'] at L8
                  have hlen : vacc.length = acc.length := L.a.length
                  exact ⟨vacc, L7.at, by have := okLen_le hz; omega, sa7, F7, _, _, _, L8, by simp; omega, q3⟩
        · have hl' : i = ds.length := by omega
          subst hl'
          rw [List.drop_length] at q3
          cases q3
          exact .inl ⟨dr.stop sa2 _ F2 H' _ _ L.r L.x.le True.intro, L.done R1 hb k⟩
    · cases h1
variable {elt tg iter : Expr} {ifs : List Expr} {scope : Scope} {own : List (Str × Nat)} {pos : Pos}
theorem d_lc (hc : X.calm = true) (hN : X.N.Nodup) (hi : PI X tg iter (tL K mi)) (ok : BlkOk X.N X.env.scope scope own) (hvs : own.map (·.2) = vs)
    (hg : ∀ (s : Shared) (H : Hp) (C : Addr) (cl : List (Str × Addr)) (fp : List Addr), PG (X.blk s H scope (compEnvC scope cl C X.env) fp) tg (tG K vs g)) (ht : ∀ (s : Shared) (H : Hp) (C : Addr) (cl : List (Str × Addr)) (fp : List Addr), PTs (X.blk s H scope (compEnvC scope cl C X.env) fp) ifs (tMT K t))
    (he : ∀ (s : Shared) (H : Hp) (C : Addr) (cl : List (Str × Addr)) (fp : List Addr), PE (X.blk s H scope (compEnvC scope cl C X.env) fp) elt (tF K me)) (hs : ∀ x, foldedSetIterable iter X.env x = pure x := by intro _; rfl) :
    PE X (.ListComp elt [⟨tg, iter, ifs, 0⟩] scope pos) (tM K (mLc mi vs g t me)) := by
  subst hvs
  exact imE (pe_lc hc hN hi ok hg ht he hs) (r_lc rfl rfl rfl rfl)
theorem s_lc {i : Nat} {y : Str} {py spos : Pos} (hc : X.calm = true) (hN : X.N.Nodup) (hy : X.N[i]? = some y) (hyl : X.env.scope.names.lookup y = some .local)
    (hsw : swapsWith (.ListComp elt [⟨tg, iter, ifs, 0⟩] scope pos) (some (.Name y py)) spos.line X.env = pure true) (hi : PI X tg iter (tL K mi)) (ok : BlkOk X.N X.env.scope scope own) (hvs : own.map (·.2) = vs)
    (hg : ∀ (s : Shared) (H : Hp) (C : Addr) (cl : List (Str × Addr)) (fp : List Addr), PG (X.blk s H scope (compEnvC scope cl C X.env) fp) tg (tG K vs g)) (ht : ∀ (s : Shared) (H : Hp) (C : Addr) (cl : List (Str × Addr)) (fp : List Addr), PTs (X.blk s H scope (compEnvC scope cl C X.env) fp) ifs (tMT K t))
    (he : ∀ (s : Shared) (H : Hp) (C : Addr) (cl : List (Str × Addr)) (fp : List Addr), PE (X.blk s H scope (compEnvC scope cl C X.env) fp) elt (tF K me)) (hs : ∀ x, foldedSetIterable iter X.env x = pure x := by intro _; rfl) :
    PS X (.Assign [.Name y py] (.ListComp elt [⟨tg, iter, ifs, 0⟩] scope pos) spos) (tMS K (sSet i (mLc mi vs g t me))) := by
  subst hvs
  exact s_set (imS (ps_setLc hc hN hy hyl hsw hi ok hg ht he hs) fun D σ H h => r_lc rfl rfl rfl rfl σ H _ h)
theorem t_yes : PTs X [] (tMT K tYesM) := ⟨fun pins s σ H Q I ⟨sa, B, F, st, b, st', h0, h1, k⟩ => pts_nil.run pins s σ H Q I (by
  cases h1
  exact k sa F H (.refl h0))⟩
theorem t_one {c : Expr} {m : S → R Bool} (h : PT X c (tMT K m)) : PTs X [c] (tMT K m) := pts_one h

/-! ### two clauses -/
theorem lcGo_grow : ∀ {ds acc : List PyData} {st st' : S} {r : List PyData}, lcGo vs g t me ds acc st = .ok r st' → acc.length ≤ r.length
  | [], acc, st, st', r, h => by
    cases h
    exact Nat.le_refl _
  | d :: ds, acc, st, st', r, h => by
    unfold lcGo at h
    cases q : g d st with
    | none =>
      simp only [q] at h
      cases h
    | some st1 =>
      simp only [q] at h
      cases q2 : t st1 with
      | bad =>
        simp only [q2] at h
        cases h
      | ok b st2 =>
        cases b with
        | false =>
          simp only [q2] at h
          exact lcGo_grow h
        | true =>
          simp only [q2] at h
          cases q3 : me st2 with
          | bad =>
            simp only [q3] at h
            cases h
          | ok x st3 =>
            simp only [q3] at h
            have := lcGo_grow h
            simp at this
            omega
end
def lcGo2 (vs : List Nat) (g : PyData → S → Option S) (t : S → R Bool) (mi1 : S → R (List PyData)) (vs1 : List Nat) (g1 : PyData → S → Option S) (t1 : S → R Bool) (e : S → R PyData) : List PyData → List PyData → S → R (List PyData)
  | [], acc, st => .ok acc st
  | d :: ds, acc, st => match g d st with
    | none => .bad
    | some st1 => match t st1 with
      | .bad => .bad
      | .ok false st2 => lcGo2 vs g t mi1 vs1 g1 t1 e ds acc (st2.wipe vs)
      | .ok true st2 => match mi1 st2 with
        | .bad => .bad
        | .ok ds1 st3 => match lcGo vs1 g1 t1 e ds1 acc (st3.wipe vs1) with
          | .bad => .bad
          | .ok acc' st4 => lcGo2 vs g t mi1 vs1 g1 t1 e ds acc' (st4.wipe vs)
def mLc2 (mi : S → R (List PyData)) (vs : List Nat) (g : PyData → S → Option S) (t : S → R Bool) (mi1 : S → R (List PyData)) (vs1 : List Nat) (g1 : PyData → S → Option S) (t1 : S → R Bool) (e : S → R PyData) : S → R Slot := fun st => match mi st with
  | .bad => .bad
  | .ok ds st1 => match lcGo2 vs g t mi1 vs1 g1 t1 e ds [] (st1.wipe vs) with
      | .ok acc st2 => if okLen acc.length then .ok (.o (.list acc)) (st2.rest st1 vs) else .bad
      | .bad => .bad
section
variable {K : PySem.W.Frag} {X : Cx} {mi mi1 : S → R (List PyData)} {vs vs1 : List Nat} {g g1 : PyData → S → Option S} {t t1 : S → R Bool} {me : S → R PyData}
theorem lcGo2_grow : ∀ {ds acc : List PyData} {st st' : S} {r : List PyData}, lcGo2 vs g t mi1 vs1 g1 t1 me ds acc st = .ok r st' → acc.length ≤ r.length
  | [], acc, st, st', r, h => by
    cases h
    exact Nat.le_refl _
  | d :: ds, acc, st, st', r, h => by
    unfold lcGo2 at h
    cases q : g d st with
    | none =>
      simp only [q] at h
      cases h
    | some st1 =>
      simp only [q] at h
      cases q2 : t st1 with
      | bad =>
        simp only [q2] at h
        cases h
      | ok b st2 =>
        cases b with
        | false =>
          simp only [q2] at h
          exact lcGo2_grow h
        | true =>
          simp only [q2] at h
          cases q3 : mi1 st2 with
          | bad =>
            simp only [q3] at h
            cases h
          | ok ds1 st3 =>
            simp only [q3] at h
            cases q4 : lcGo vs1 g1 t1 me ds1 acc (st3.wipe vs1) with
            | bad =>
              simp only [q4] at h
              cases h
            | ok acc' st4 =>
              simp only [q4] at h
              exact Nat.le_trans (lcGo_grow q4) (lcGo2_grow h)
theorem r_lc2 {wi wi1 : TI} {gg gg1 : TG} {tt tt1 : TT} {te : TE} (hv : ∀ i ∈ vs1, i ∈ vs) (hi : wi = tL K mi) (hg : gg = tG K vs g) (ht : tt = tMT K t) (hi1 : wi1 = tL K mi1) (hg1 : gg1 = tG K vs1 g1) (ht1 : tt1 = tMT K t1) (he : te = tF K me) :
    ∀ σ H Q, tM K (mLc2 mi vs g t mi1 vs1 g1 t1 me) σ H Q → tLc2 wi gg tt wi1 gg1 tt1 te vs vs1 σ H Q := fun σ H Q ⟨sa, B, F, st, r, st', h0, h1, k⟩ => by
  subst hi hg ht hi1 hg1 ht1 he
  unfold mLc2 at h1
  cases q : mi st with
  | bad =>
    simp only [q] at h1
    cases h1
  | ok ds st1 =>
    simp only [q] at h1
    cases q2 : lcGo2 vs g t mi1 vs1 g1 t1 me ds [] (st1.wipe vs) with
    | bad =>
      simp only [q2] at h1
      cases h1
    | ok res st2 =>
      simp only [q2] at h1
      split at h1
      · rename_i hz
        have hz := okLen_le hz
        cases h1
        refine ⟨sa, B, F, st, ds, st1, h0, q, fun sa1 F1 H1 J R1 dr D hD => ?_⟩
        have hb : B D = none := R1.r.bh.none_of hD
        refine ⟨fun i n H' => ∃ sa2 F2 st2' vacc acc, LcI K B (wipe σ vs) sa1 F1 st1 D H' sa2 F2 st2' vacc acc ∧ (n = ds.length - i ∧ i ≤ ds.length) ∧ lcGo2 vs g t mi1 vs1 g1 t1 me (ds.drop i) acc st2' = .ok res st2,
          ⟨_, sa1, F1, _, [], [], LcI.start vs R1.r hD, ⟨rfl, Nat.zero_le _⟩, q2⟩, fun i n H' ⟨sa2, F2, st2', vacc, acc, L, ⟨hn, hi⟩, q3⟩ => ?_⟩
        by_cases hi' : i < ds.length
        · rw [List.drop_eq_getElem_cons hi'] at q3
          unfold lcGo2 at q3
          cases q4 : g ds[i] st2' with
          | none =>
            simp only [q4] at q3
            cases q3
          | some st3 =>
            simp only [q4] at q3
            refine .inr ⟨dr.go i sa2 _ F2 H' _ st2' L.r L.x.le True.intro hi', fun H'' => ∃ sa3 F3 st3' vacc' acc', LcI K B (wipe σ vs) sa1 F1 st1 D H'' sa3 F3 st3' vacc' acc' ∧ lcGo2 vs g t mi1 vs1 g1 t1 me (ds.drop (i + 1)) acc' st3' = .ok res st2,
              fun H'' ⟨sa3, F3, st3', vacc', acc', L', q'⟩ => ⟨ds.length - (i + 1), by omega, sa3, F3, st3', vacc', acc', L', ⟨rfl, hi'⟩, q'⟩, fun x H3 y => ?_⟩
            obtain ⟨F3, S3, x3, r3⟩ := dr.yld i sa2 _ F2 H' _ st2' x H3 ds[i] L.r L.x.le True.intro (List.getElem?_eq_getElem hi') y
            have L3 := L.go hb ⟨S3, x3, fun _ => rfl, fun z => z⟩
            refine ⟨sa2, _, F3, st2', ds[i], st3, S3, r3, q4, fun σ4 S4 e4 w4 => ?_⟩
            have L4 := L3.go hb (σ' := σ4) ⟨S4, FX.refl, fun _ => rfl, fun z => by rw [e4]; exact z⟩
            have w4' : wipe σ4 vs = wipe σ vs := w4.trans (wipe_wipe fun i h => h)
            refine ⟨w4', ?_⟩
            cases q5 : t st3 with
            | bad =>
              simp only [q5] at q3
              cases q3
            | ok b st5 =>
              refine ⟨sa2, _, F3, st3, b, st5, S4, q5, fun sa5 F5 H5 R5 => ?_⟩
              have L5 := L4.go hb R5
              cases b with
              | false =>
                simp only [q5] at q3
                try dsimp only
                rw [if_neg Bool.false_ne_true]
                have L6 := L5.wip vs
                rw [w4'] at L6
                exact ⟨sa5, F5, _, vacc, acc, L6, q3⟩
              | true =>
                simp only [q5] at q3
                try dsimp only
                rw [if_pos rfl]
                cases q6 : mi1 st5 with
                | bad =>
                  simp only [q6] at q3
                  cases q3
                | ok ds1 st6 =>
                  simp only [q6] at q3
                  cases q7 : lcGo vs1 g1 t1 me ds1 acc (st6.wipe vs1) with
                  | bad =>
                    simp only [q7] at q3
                    cases q3
                  | ok acc7 st7 =>
                    simp only [q7] at q3
                    have top : acc7.length ≤ res.length := lcGo2_grow q3
                    refine ⟨sa5, _, F5, st5, ds1, st6, L5.r, q6, fun sa6 F6 H6 J1 R6 dr1 => ?_⟩
                    have L6 := (L5.go hb R6).wip vs1
                    refine ⟨fun j n H' => ∃ sa2 F2 st2' vacc acc, LcI K B (wipe σ4 vs1) sa1 F1 st1 D H' sa2 F2 st2' vacc acc ∧ Sub F6 F2 ∧ (n = ds1.length - j ∧ j ≤ ds1.length) ∧ lcGo vs1 g1 t1 me (ds1.drop j) acc st2' = .ok acc7 st7,
                      ⟨_, sa6, F6, _, vacc, acc, L6, Sub.refl _, ⟨rfl, Nat.zero_le _⟩, q7⟩, fun j n1 H' ⟨sa2, F2, st2', vacc, acc, L, s2, ⟨hn1, hj⟩, q8⟩ => ?_⟩
                    by_cases hj' : j < ds1.length
                    · rw [List.drop_eq_getElem_cons hj'] at q8
                      unfold lcGo at q8
                      cases q9 : g1 ds1[j] st2' with
                      | none =>
                        simp only [q9] at q8
                        cases q8
                      | some st9 =>
                        simp only [q9] at q8
                        refine .inr ⟨dr1.go j sa2 _ F2 H' _ st2' L.r s2 True.intro hj', fun H'' => ∃ sa3 F3 st3' vacc' acc', LcI K B (wipe σ4 vs1) sa1 F1 st1 D H'' sa3 F3 st3' vacc' acc' ∧ Sub F6 F3 ∧ lcGo vs1 g1 t1 me (ds1.drop (j + 1)) acc' st3' = .ok acc7 st7,
                          fun H'' ⟨sa3, F3, st3', vacc', acc', L', s3, q'⟩ => ⟨ds1.length - (j + 1), by omega, sa3, F3, st3', vacc', acc', L', s3, ⟨rfl, hj'⟩, q'⟩, fun x H9 y => ?_⟩
                        obtain ⟨F9, S9, x9, r9⟩ := dr1.yld j sa2 _ F2 H' _ st2' x H9 ds1[j] L.r s2 True.intro (List.getElem?_eq_getElem hj') y
                        have L9 := L.go hb ⟨S9, x9, fun _ => rfl, fun z => z⟩
                        refine ⟨sa2, _, F9, st2', ds1[j], st9, S9, r9, q9, fun σ10 S10 e10 w10 => ?_⟩
                        have L10 := L9.go hb (σ' := σ10) ⟨S10, FX.refl, fun _ => rfl, fun z => by rw [e10]; exact z⟩
                        have w10' : wipe σ10 vs1 = wipe σ4 vs1 := w10.trans (wipe_wipe fun i h => h)
                        refine ⟨w10', ?_⟩
                        have s9 := s2.trans x9.le
                        cases q11 : t1 st9 with
                        | bad =>
                          simp only [q11] at q8
                          cases q8
                        | ok b st11 =>
                          refine ⟨sa2, _, F9, st9, b, st11, S10, q11, fun sa11 F11 H11 R11 => ?_⟩
                          have L11 := L10.go hb R11
                          cases b with
                          | false =>
                            simp only [q11] at q8
                            try dsimp only
                            rw [if_neg Bool.false_ne_true]
                            have L12 := L11.wip vs1
                            rw [w10'] at L12
                            exact ⟨sa11, F11, _, vacc, acc, L12, s9.trans R11.x.le, q8⟩
                          | true =>
                            simp only [q11] at q8
                            try dsimp only
                            rw [if_pos rfl]
                            cases q12 : me st11 with
                            | bad =>
                              simp only [q12] at q8
                              cases q8
                            | ok d st13 =>
                              simp only [q12] at q8
                              refine ⟨sa11, _, F11, st11, d, st13, L11.r, q12, fun sa13 F13 H13 y13 R13 r13 => ?_⟩
                              have L13 := L11.go hb R13
                              have L14 := (L13.more r13).wip vs1
                              rw [w10'] at L14
                              have hlen : vacc.length = acc.length := L.a.length
                              have hgr := lcGo_grow q8
                              simp only [List.length_append, List.length_singleton] at hgr
                              exact ⟨vacc, L13.at, by omega, sa13, F13, _, _, _, L14, (s9.trans R11.x.le).trans R13.x.le, q8⟩
                    · have hl' : j = ds1.length := by omega
                      subst hl'
                      rw [List.drop_length] at q8
                      cases q8
                      have L15 := L.wip vs
                      rw [wipe_wipe hv, w4'] at L15
                      exact .inl ⟨dr1.stop sa2 _ F2 H' _ _ L.r s2 True.intro, sa2, F2, _, vacc, _, L15, q3⟩
        · have hl' : i = ds.length := by omega
          subst hl'
          rw [List.drop_length] at q3
          cases q3
          exact .inl ⟨dr.stop sa2 _ F2 H' _ _ L.r L.x.le True.intro, L.done R1 hb k⟩
      · cases h1
variable {elt tg iter tg1 iter1 : Expr} {ifs ifs1 : List Expr} {scope : Scope} {own : List (Str × Nat)} {pos : Pos}
theorem d_lc2 (hc : X.calm = true) (hN : X.N.Nodup) (hi : PI X tg iter (tL K mi)) (ok : BlkOk X.N X.env.scope scope own) (hvs : own.map (·.2) = vs) (hv : ∀ i ∈ vs1, i ∈ vs)
    (hg : ∀ (s : Shared) (H : Hp) (C : Addr) (cl : List (Str × Addr)) (fp : List Addr), PG (X.blk s H scope (compEnvC scope cl C X.env) fp) tg (tG K vs g)) (ht : ∀ (s : Shared) (H : Hp) (C : Addr) (cl : List (Str × Addr)) (fp : List Addr), PTs (X.blk s H scope (compEnvC scope cl C X.env) fp) ifs (tMT K t))
    (hi1 : ∀ (s : Shared) (H : Hp) (C : Addr) (cl : List (Str × Addr)) (fp : List Addr), PI (X.blk s H scope (compEnvC scope cl C X.env) fp) tg1 iter1 (tL K mi1))
    (hg1 : ∀ (s : Shared) (H : Hp) (C : Addr) (cl : List (Str × Addr)) (fp : List Addr), PG (X.blk s H scope (compEnvC scope cl C X.env) fp) tg1 (tG K vs1 g1)) (ht1 : ∀ (s : Shared) (H : Hp) (C : Addr) (cl : List (Str × Addr)) (fp : List Addr), PTs (X.blk s H scope (compEnvC scope cl C X.env) fp) ifs1 (tMT K t1))
    (he : ∀ (s : Shared) (H : Hp) (C : Addr) (cl : List (Str × Addr)) (fp : List Addr), PE (X.blk s H scope (compEnvC scope cl C X.env) fp) elt (tF K me)) (hs : ∀ x, foldedSetIterable iter X.env x = pure x := by intro _; rfl) (hs1 : ∀ env x, foldedSetIterable iter1 env x = pure x := by intro _ _; rfl) :
    PE X (.ListComp elt [⟨tg, iter, ifs, 0⟩, ⟨tg1, iter1, ifs1, 0⟩] scope pos) (tM K (mLc2 mi vs g t mi1 vs1 g1 t1 me)) := by
  subst hvs
  exact imE (pe_lc2 hc hN hi ok hv hg ht hi1 hg1 ht1 he hs hs1) (r_lc2 hv rfl rfl rfl rfl rfl rfl rfl)
theorem s_lc2 {i : Nat} {y : Str} {py spos : Pos} (hc : X.calm = true) (hN : X.N.Nodup) (hy : X.N[i]? = some y) (hyl : X.env.scope.names.lookup y = some .local)
    (hsw : swapsWith (.ListComp elt [⟨tg, iter, ifs, 0⟩, ⟨tg1, iter1, ifs1, 0⟩] scope pos) (some (.Name y py)) spos.line X.env = pure true) (hi : PI X tg iter (tL K mi)) (ok : BlkOk X.N X.env.scope scope own) (hvs : own.map (·.2) = vs) (hv : ∀ i ∈ vs1, i ∈ vs)
    (hg : ∀ (s : Shared) (H : Hp) (C : Addr) (cl : List (Str × Addr)) (fp : List Addr), PG (X.blk s H scope (compEnvC scope cl C X.env) fp) tg (tG K vs g)) (ht : ∀ (s : Shared) (H : Hp) (C : Addr) (cl : List (Str × Addr)) (fp : List Addr), PTs (X.blk s H scope (compEnvC scope cl C X.env) fp) ifs (tMT K t))
    (hi1 : ∀ (s : Shared) (H : Hp) (C : Addr) (cl : List (Str × Addr)) (fp : List Addr), PI (X.blk s H scope (compEnvC scope cl C X.env) fp) tg1 iter1 (tL K mi1))
    (hg1 : ∀ (s : Shared) (H : Hp) (C : Addr) (cl : List (Str × Addr)) (fp : List Addr), PG (X.blk s H scope (compEnvC scope cl C X.env) fp) tg1 (tG K vs1 g1)) (ht1 : ∀ (s : Shared) (H : Hp) (C : Addr) (cl : List (Str × Addr)) (fp : List Addr), PTs (X.blk s H scope (compEnvC scope cl C X.env) fp) ifs1 (tMT K t1))
    (he : ∀ (s : Shared) (H : Hp) (C : Addr) (cl : List (Str × Addr)) (fp : List Addr), PE (X.blk s H scope (compEnvC scope cl C X.env) fp) elt (tF K me)) (hs : ∀ x, foldedSetIterable iter X.env x = pure x := by intro _; rfl) (hs1 : ∀ env x, foldedSetIterable iter1 env x = pure x := by intro _ _; rfl) :
    PS X (.Assign [.Name y py] (.ListComp elt [⟨tg, iter, ifs, 0⟩, ⟨tg1, iter1, ifs1, 0⟩] scope pos) spos) (tMS K (sSet i (mLc2 mi vs g t mi1 vs1 g1 t1 me))) := by
  subst hvs
  exact s_set (imS (ps_setLc2 hc hN hy hyl hsw hi ok hv hg ht hi1 hg1 ht1 he hs hs1) fun D σ H h => r_lc2 hv rfl rfl rfl rfl rfl rfl rfl σ H _ h)
end
end Pd
end
section
set_option linter.all false
set_option maxRecDepth 100000
/-! Pd, part M: what changes a list of one's own. -/
namespace Pd
open PySem PySem.Spec PyProof.Rows L2

def mMut (g : List PyData → List PyData → Option (PyData × List PyData)) (i : Nat) (ma : S → R (List PyData)) : S → R Slot := fun st => match st.ss[i]? with
  | some (.o (.list _)) => match ma st with
    | .ok as st1 => match st1.ss[i]? with
      | some (.o (.list ds)) => match g ds as with
        | some (d, ds') => .ok (.v d) { st1 with ss := st1.ss.set i (.o (.list ds')) }
        | none => .bad
      | _ => .bad
    | .bad => .bad
  | _ => .bad
/-- the heap rule does what g tells -/
def MutOk (r : V → List V → Hp → VK → Prop) (g : List PyData → List PyData → Option (PyData × List PyData)) : Prop :=
  ∀ (F H : Hp) (a : Addr) (xs vs : List V) (ds as : List PyData) (d : PyData) (ds' : List PyData) (Q : VK), Sub F H → H a = some (.lst xs) → F a = none → RpL F xs ds → RpL F vs as → g ds as = some (d, ds') →
    (∀ v xs', Rp F v d → RpL F xs' ds' → Q v (upd H a (.lst xs'))) → r (.ref a) vs H Q
def gApp : List PyData → List PyData → Option (PyData × List PyData) := fun ds as => match as with
  | [d] => if okLen (ds.length + 1) then some (.none, ds ++ [d]) else none
  | _ => none
def gExt : List PyData → List PyData → Option (PyData × List PyData) := fun ds as => match as with
  | [.list es] => if okLen (ds.length + es.length) then some (.none, ds ++ es) else none
  | _ => none
def gPop : List PyData → List PyData → Option (PyData × List PyData) := fun ds as => match as with
  | [] => match ds[ds.length - 1]? with
    | some d => some (d, ds.dropLast)
    | none => none
  | _ => none
def gPopAt : List PyData → List PyData → Option (PyData × List PyData) := fun ds as => match as with
  | [.int i] => if okLen ds.length then match ixN ds.length i with
      | some k => match ds[k]? with
        | some d => some (d, ds.eraseIdx k)
        | none => none
      | none => none
    else none
  | _ => none
def gIns : List PyData → List PyData → Option (PyData × List PyData) := fun ds as => match as with
  | [.int i, d] => if decide (0 ≤ i) && decide (i ≤ 16777216) && okLen (ds.length + 1) then some (.none, ds.take i.toNat ++ d :: ds.drop i.toNat) else none
  | _ => none
theorem RpL.one {F : Hp} {vs : List V} {d : PyData} (h : RpL F vs [d]) : ∃ v, vs = [v] ∧ Rp F v d := by
  cases h with
  | cons r r2 =>
    cases r2
    exact ⟨_, rfl, r⟩
theorem RpL.two {F : Hp} {vs : List V} {d e : PyData} (h : RpL F vs [d, e]) : ∃ v w, vs = [v, w] ∧ Rp F v d ∧ Rp F w e := by
  cases h with
  | cons r r2 =>
    cases r2 with
    | cons r' r3 =>
      cases r3
      exact ⟨_, _, rfl, r, r'⟩
theorem mo_app : MutOk rAppend gApp := fun F H a xs vs ds as d ds' Q s hH hF r ra e k => by
  unfold gApp at e
  split at e
  · split at e
    · rename_i hz
      cases e
      obtain ⟨v, rfl, rv⟩ := ra.one
      have := okLen_le hz
      exact ⟨a, xs, v, rfl, rfl, hH, by rw [r.length]; omega, k _ _ .non (r.snoc rv)⟩
    · cases e
  · cases e
theorem mo_ext : MutOk rExtend gExt := fun F H a xs vs ds as d ds' Q s hH hF r ra e k => by
  unfold gExt at e
  split at e
  · split at e
    · rename_i hz
      cases e
      obtain ⟨v, rfl, rv⟩ := ra.one
      cases rv with
      | lst e1 r1 =>
        have := okLen_le hz
        exact ⟨a, _, xs, _, rfl, rfl, hH, s _ _ e1, by rw [r.length, r1.length]; omega, k _ _ .non (r.append r1)⟩
    · cases e
  · cases e
theorem mo_pop : MutOk rPop gPop := fun F H a xs vs ds as d ds' Q s hH hF r ra e k => by
  unfold gPop at e
  split at e
  · split at e
    · rename_i d' q
      cases e
      cases ra
      rw [← r.length] at q
      obtain ⟨v, h1, h2⟩ := r.get q
      exact ⟨a, xs, v, rfl, rfl, hH, h1, k _ _ h2 r.dropLast⟩
    · cases e
  · cases e
theorem mo_popAt : MutOk rPopAt gPopAt := fun F H a xs vs ds as d ds' Q s hH hF r ra e k => by
  unfold gPopAt at e
  split at e
  · rename_i i
    split at e
    · rename_i hz
      have hz := okLen_le hz
      have hs : sizeLine = 16777216 := rfl
      cases q : ixN ds.length i with
      | none =>
        simp only [q] at e
        cases e
      | some j =>
        simp only [q] at e
        cases q2 : ds[j]? with
        | none =>
          simp only [q2] at e
          cases e
        | some d' =>
          simp only [q2] at e
          cases e
          obtain ⟨v, rfl, rv⟩ := ra.one
          cases rv
          rw [← r.length] at q hz
          obtain ⟨h1, h2, h3, h4⟩ := ixN_seq q
          obtain ⟨v, f1, f2⟩ := r.get q2
          exact ⟨a, xs, i, j, v, rfl, rfl, hH, by omega, by omega, h1, f1, k _ _ f2 (r.erase j)⟩
    · cases e
  · cases e
section
variable {X : Cx} {o e e' : Expr} {es : List Expr} {ma : S → R (List PyData)} {i : Nat} {name : Str} {apos cpos : Pos} {id : String} {r : V → List V → Hp → VK → Prop} {g : List PyData → List PyData → Option (PyData × List PyData)}
theorem m_mut (slot : PySem.Slot "list" name id) (hty : typeOf (.builtin id) = pure (.type "method_descriptor")) (hm : MtR X id r) (mo : MutOk r g) (ho : PE X o (tVar i)) (ha : PA X (e :: es) (tAL X.K ma))
    (hbase : attributeBase o name X.env (eval o X.env) = eval o X.env := by rfl)
    (hfew : ((backTo cpos (starEach (e :: es) X.env)).all (fun x => !x.1) && (backToKw cpos (keywordEach [] X.env)).all (fun x => x.1.isSome)
      && decide ((e :: es).length + ([] : List Keyword).length + (if ([] : List Keyword).isEmpty then 0 else 1) < 30)) = true := by rfl)
    (hline : (apos.endLine == cpos.line) = true := by rfl) (hs : starEach (e :: es) X.env = (false, eval e X.env) :: starEach es X.env := by rfl) (hplain : (backTo cpos (starEach es X.env)).any (·.1) = false := by rfl) :
    PE X (.Call (.Attribute o name apos) (e :: es) [] cpos) (tM X.K (mMut g i ma)) := imE (pe_bm PySem.F.plainAttrs_list slot hty hm ho ha hbase hfew hline hs hplain) fun σ H Q ⟨sa, B, F, st, r', st', h0, h1, k⟩ => by
  unfold mMut at h1
  split at h1
  · rename_i dd q
    cases q2 : ma st with
    | bad =>
      simp only [q2] at h1
      cases h1
    | ok as st1 =>
      simp only [q2] at h1
      split at h1
      · rename_i ds q3
        split at h1
        · rename_i d ds' q4
          cases h1
          obtain ⟨a, o, e1, e2, e3, _⟩ := h0.so i _ q
          cases e3 with
          | lst rr =>
            refine ⟨.ref a, e1, .inl ⟨rfl, _, .inl (.inl e2)⟩, sa, B, F, st, as, st1, h0, q2, fun sa1 F1 H1 vs R1 r1 => ?_⟩
            obtain ⟨b, u, f1, f2, f3, f4, f5, f6⟩ := R1.r.so i _ q3
            rw [e1] at f1
            cases f1
            cases f3 with
            | lst r3 =>
              refine mo F1 H1 a _ vs ds as d ds' Q R1.r.fh f2 f5 r3 r1 q4 fun v xs' rv rx => ?_
              exact k sa1 F1 _ v ⟨R1.r.mut q3 e1 (.lst rx), R1.x, R1.k, R1.s⟩ rv
        · cases h1
      · cases h1
  · cases h1
theorem m_mut0 (slot : PySem.Slot "list" name id) (hty : typeOf (.builtin id) = pure (.type "method_descriptor")) (hm : MtR X id r) (mo : MutOk r g) (ho : PE X o (tVar i))
    (hbase : attributeBase o name X.env (eval o X.env) = eval o X.env := by rfl) (hline : (apos.endLine == cpos.line) = true := by rfl) :
    PE X (.Call (.Attribute o name apos) [] [] cpos) (tM X.K (mMut g i mNil)) := imE (pe_bm0 PySem.F.plainAttrs_list slot hty hm ho hbase hline) fun σ H Q ⟨sa, B, F, st, r', st', h0, h1, k⟩ => by
  unfold mMut mNil at h1
  split at h1
  · rename_i dd q
    simp only [q] at h1
    split at h1
    · rename_i d ds' q4
      cases h1
      obtain ⟨a, o, e1, e2, e3, f4, f5, f6⟩ := h0.so i _ q
      cases e3 with
      | lst r3 =>
        refine ⟨.ref a, e1, .inl ⟨rfl, _, .inl (.inl e2)⟩, mo F H a _ [] _ [] d ds' Q h0.fh e2 f5 r3 .nil q4 fun v xs' rv rx => ?_⟩
        exact k sa F _ v ⟨h0.mut q e1 (.lst rx), FX.refl, fun _ => rfl, fun z => z⟩ rv
    · cases h1
  · cases h1
theorem m_app (ho : PE X o (tVar i)) (ha : PA X [e] (tAL X.K ma)) (hbase : attributeBase o "append" X.env (eval o X.env) = eval o X.env := by rfl)
    (hfew : ((backTo cpos (starEach (e :: []) X.env)).all (fun x => !x.1) && (backToKw cpos (keywordEach [] X.env)).all (fun x => x.1.isSome)
      && decide ((e :: []).length + ([] : List Keyword).length + (if ([] : List Keyword).isEmpty then 0 else 1) < 30)) = true := by rfl)
    (hline : (apos.endLine == cpos.line) = true := by rfl) (hs : starEach (e :: []) X.env = (false, eval e X.env) :: starEach [] X.env := by rfl) (hplain : (backTo cpos (starEach [] X.env)).any (·.1) = false := by rfl) :
    PE X (.Call (.Attribute o "append" apos) [e] [] cpos) (tM X.K (mMut gApp i ma)) := m_mut PySem.F.slot_list_append PySem.F.type_list_append mt_append mo_app ho ha hbase hfew hline hs hplain
theorem m_ext (ho : PE X o (tVar i)) (ha : PA X [e] (tAL X.K ma)) (hbase : attributeBase o "extend" X.env (eval o X.env) = eval o X.env := by rfl)
    (hfew : ((backTo cpos (starEach (e :: []) X.env)).all (fun x => !x.1) && (backToKw cpos (keywordEach [] X.env)).all (fun x => x.1.isSome)
      && decide ((e :: []).length + ([] : List Keyword).length + (if ([] : List Keyword).isEmpty then 0 else 1) < 30)) = true := by rfl)
    (hline : (apos.endLine == cpos.line) = true := by rfl) (hs : starEach (e :: []) X.env = (false, eval e X.env) :: starEach [] X.env := by rfl) (hplain : (backTo cpos (starEach [] X.env)).any (·.1) = false := by rfl) :
    PE X (.Call (.Attribute o "extend" apos) [e] [] cpos) (tM X.K (mMut gExt i ma)) := m_mut PySem.F.slot_list_extend PySem.F.type_list_extend mt_extend mo_ext ho ha hbase hfew hline hs hplain
theorem m_popAt (ho : PE X o (tVar i)) (ha : PA X [e] (tAL X.K ma)) (hbase : attributeBase o "pop" X.env (eval o X.env) = eval o X.env := by rfl)
    (hfew : ((backTo cpos (starEach (e :: []) X.env)).all (fun x => !x.1) && (backToKw cpos (keywordEach [] X.env)).all (fun x => x.1.isSome)
      && decide ((e :: []).length + ([] : List Keyword).length + (if ([] : List Keyword).isEmpty then 0 else 1) < 30)) = true := by rfl)
    (hline : (apos.endLine == cpos.line) = true := by rfl) (hs : starEach (e :: []) X.env = (false, eval e X.env) :: starEach [] X.env := by rfl) (hplain : (backTo cpos (starEach [] X.env)).any (·.1) = false := by rfl) :
    PE X (.Call (.Attribute o "pop" apos) [e] [] cpos) (tM X.K (mMut gPopAt i ma)) := m_mut PySem.F.slot_list_pop PySem.F.type_list_pop mt_popAt mo_popAt ho ha hbase hfew hline hs hplain
theorem m_pop (ho : PE X o (tVar i)) (hbase : attributeBase o "pop" X.env (eval o X.env) = eval o X.env := by rfl) (hline : (apos.endLine == cpos.line) = true := by rfl) :
    PE X (.Call (.Attribute o "pop" apos) [] [] cpos) (tM X.K (mMut gPop i mNil)) := m_mut0 PySem.F.slot_list_pop PySem.F.type_list_pop mt_pop mo_pop ho hbase hline
end
end Pd
end
section
set_option linter.all false
set_option maxRecDepth 100000
/-! Pd, part N: defs, calls, the law's own call. -/
namespace Pd
open PySem PySem.Spec PyProof.Rows L2

/-! ### what is handed in, what comes back -/
inductive SlR (K : PySem.W.Frag) (sa : Sa) (F : Hp) (src : Option Src) : V → Slot → Prop
  | v {x : V} {d : PyData} : Rp F x d → SlR K sa F src x (.v d)
  | src : src.isSome = true → SlR K sa F src (.ref sa.1) .src
  | scr {a : Addr} {ns : List Int} : SqL K F a (ns.map V.int) → SlR K sa F src (.ref a) (.scr ns)
inductive SlRs (K : PySem.W.Frag) (sa : Sa) (F : Hp) (src : Option Src) : List V → List Slot → Prop
  | nil : SlRs K sa F src [] []
  | cons {x : V} {xs : List V} {r : Slot} {rs : List Slot} : SlR K sa F src x r → SlRs K sa F src xs rs → SlRs K sa F src (x :: xs) (r :: rs)
def Slot.isSrc : Slot → Bool
  | .src => true
  | _ => false
theorem SlRs.length {K : PySem.W.Frag} {sa : Sa} {F : Hp} {src : Option Src} : ∀ {xs : List V} {rs : List Slot}, SlRs K sa F src xs rs → xs.length = rs.length
  | _, _, .nil => rfl
  | _, _, .cons _ t => congrArg Nat.succ (SlRs.length t)
theorem SlR.mono {K : PySem.W.Frag} {sa : Sa} {F G : Hp} {src : Option Src} {x : V} {r : Slot} (s : Sub F G) (h : SlR K sa F src x r) : SlR K sa G src x r := by
  cases h with
  | v r => exact .v (r.mono s)
  | src z => exact .src z
  | scr q => exact .scr (sqL_mono s q)
theorem SlRs.mono {K : PySem.W.Frag} {sa : Sa} {F G : Hp} {src : Option Src} (s : Sub F G) : ∀ {xs : List V} {rs : List Slot}, SlRs K sa F src xs rs → SlRs K sa G src xs rs
  | _, _, .nil => .nil
  | _, _, .cons h t => .cons (h.mono s) (SlRs.mono s t)
theorem SlRs.off {K : PySem.W.Frag} {sa : Sa} {F : Hp} {src : Option Src} : ∀ {xs : List V} {rs : List Slot}, SlRs K sa F src xs rs → rs.any Slot.isSrc = false → SlRs K sa F none xs rs
  | _, _, .nil, _ => .nil
  | _, _, .cons h t, e => by
    rw [List.any_cons, Bool.or_eq_false_iff] at e
    refine .cons ?_ (SlRs.off t e.2)
    cases h with
    | v r => exact .v r
    | src z => cases e.1
    | scr q => exact .scr q
theorem SlRs.on {K : PySem.W.Frag} {sa : Sa} {F : Hp} {src : Option Src} : ∀ {xs : List V} {rs : List Slot}, SlRs K sa F src xs rs → rs.any Slot.isSrc = true → src.isSome = true
  | _, _, .nil, e => by cases e
  | _, _, .cons h t, e => by
    rw [List.any_cons, Bool.or_eq_true_iff] at e
    rcases e with e | e
    · cases h with
      | v r => cases e
      | src z => exact z
      | scr q => cases e
    · exact SlRs.on t e
theorem SlRs.get {K : PySem.W.Frag} {sa : Sa} {F : Hp} {src : Option Src} : ∀ {xs : List V} {rs : List Slot} {i : Nat} {r : Slot}, SlRs K sa F src xs rs → rs[i]? = some r → ∃ x, xs[i]? = some x ∧ SlR K sa F src x r
  | _, _, 0, _, .cons a _, e => by
    cases e
    exact ⟨_, rfl, a⟩
  | _, _, i + 1, _, .cons _ b, e => by
    obtain ⟨v, h1, h2⟩ := SlRs.get (i := i) b (by simpa using e)
    exact ⟨v, by simpa using h1, h2⟩
  | _, _, _, _, .nil, e => by simp at e
/-- a call's end -/
structure CallEnd (sa : Sa) (F H : Hp) (src : Option Src) (sa' : Sa) (F' H' : Hp) (src' : Option Src) (v : V) (r : Slot) : Prop where
  fx : Sub F F'
  fh : Sub F' H'
  new : ∀ a, F a = none → H a ≠ none → F' a = none
  keep : ∀ a o, H a = some o → (src.isSome = true → a ≠ sa.1 ∧ a ≠ sa.2) → H' a = some o
  ks : src.isSome = true → sa' = sa ∧ src'.isSome = true
  sr : ∀ s, src' = some s → SrcR H' sa' s ∧ F' sa'.1 = none ∧ F' sa'.2 = none ∧ (src = none → H sa'.1 = none ∧ H sa'.2 = none)
  rr : match r with
    | .v d => Rp F' v d
    | .o d => ∃ a o, v = .ref a ∧ H' a = some o ∧ OR F' o d ∧ H a = none ∧ F' a = none ∧ (src'.isSome = true → a ≠ sa'.1 ∧ a ≠ sa'.2)
    | .src => src'.isSome = true ∧ v = .ref sa'.1
    | _ => False
abbrev GFn := List Slot → Option Src → Option (Slot × Option Src)
def spG (K : PySem.W.Frag) (n : Nat) (g : GFn) : Sp := fun vs H Q _ => ∃ (sa : Sa) (F : Hp) (src : Option Src) (as : List Slot) (r : Slot) (src' : Option Src),
  as.length = n ∧ Sub F H ∧ SlRs K sa F src vs as ∧ (∀ s, src = some s → SrcR H sa s ∧ F sa.1 = none ∧ F sa.2 = none) ∧ g as src = some (r, src') ∧
  ∀ sa' F' H' v, CallEnd sa F H src sa' F' H' src' v r → Q v H'

/-! ### a call's arguments -/
def tSL (K : PySem.W.Frag) (m : S → R (List Slot)) : TA := fun σ H Q => ∃ sa B F st as st', SR K sa B F H σ st ∧ m st = .ok as st' ∧ ∀ sa' F' H' vs, Rch K B σ sa F st sa' F' H' st' → SlRs K sa' F' st'.src vs as → Q vs H'
def xNil : S → R (List Slot) := fun st => .ok [] st
def xCons (m : S → R PyData) (ms : S → R (List Slot)) : S → R (List Slot) := fun st => match m st with
  | .ok d st1 => match ms st1 with
    | .ok as st2 => .ok (.v d :: as) st2
    | .bad => .bad
  | .bad => .bad
def xSrc (i : Nat) (ms : S → R (List Slot)) : S → R (List Slot) := fun st => match st.ss[i]? with
  | some .src => match ms st with
    | .ok as st2 => .ok (.src :: as) st2
    | .bad => .bad
  | some (.scr ns) => match ms st with
    | .ok as st2 => .ok (.scr ns :: as) st2
    | .bad => .bad
  | _ => .bad
section
variable {K : PySem.W.Frag} {X : Cx} {e : Expr} {es : List Expr} {mf : S → R PyData} {ms : S → R (List Slot)}
theorem x_nil : PA X [] (tSL K xNil) := imA pa_nil fun σ H Q ⟨sa, B, F, st, d, st', h0, h1, k⟩ => by
  cases h1
  exact k sa F H [] (.refl h0) .nil
theorem x_cons (h : PE X e (tF K mf)) (h' : PA X es (tSL K ms)) (hs : starEach (e :: es) X.env = (false, eval e X.env) :: starEach es X.env := by rfl) : PA X (e :: es) (tSL K (xCons mf ms)) := imA (pa_cons h h' hs) fun σ H Q ⟨sa, B, F, st, as, st', h0, h1, k⟩ => by
  unfold xCons at h1
  cases q : mf st with
  | bad =>
    simp only [q] at h1
    cases h1
  | ok d st1 =>
    cases q2 : ms st1 with
    | bad =>
      simp only [q, q2] at h1
      cases h1
    | ok as st2 =>
      simp only [q, q2] at h1
      cases h1
      exact ⟨sa, B, F, st, d, st1, h0, q, fun sa1 F1 H1 v R1 r1 => ⟨sa1, B, F1, st1, as, _, R1.r, q2, fun sa2 F2 H2 vs R2 r2 => k sa2 F2 H2 _ (R1.trans R2) (.cons (.v (r1.mono R2.x.le)) r2)⟩⟩
theorem x_src {i : Nat} (h : PE X e (tVar i)) (h' : PA X es (tSL K ms)) (hs : starEach (e :: es) X.env = (false, eval e X.env) :: starEach es X.env := by rfl) : PA X (e :: es) (tSL K (xSrc i ms)) := imA (pa_cons h h' hs) fun σ H Q ⟨sa, B, F, st, as, st', h0, h1, k⟩ => by
  unfold xSrc at h1
  split at h1
  · rename_i q
    cases q2 : ms st with
    | bad =>
      simp only [q2] at h1
      cases h1
    | ok as st2 =>
      simp only [q2] at h1
      cases h1
      obtain ⟨e1, e2⟩ := h0.sx i q
      refine ⟨_, e2, sa, B, F, st, as, _, h0, q2, fun sa2 F2 H2 vs R2 r2 => k sa2 F2 H2 _ R2 (.cons ?_ r2)⟩
      rw [← R2.k e1]
      exact .src (R2.s e1)
  · rename_i ns q
    cases q2 : ms st with
    | bad =>
      simp only [q2] at h1
      cases h1
    | ok as st2 =>
      simp only [q2] at h1
      cases h1
      obtain ⟨a, e1, e2⟩ := h0.sc i ns q
      exact ⟨_, e1, sa, B, F, st, as, _, h0, q2, fun sa2 F2 H2 vs R2 r2 => k sa2 F2 H2 _ R2 (.cons (.scr (sqL_mono R2.x.le e2)) r2)⟩
  · cases h1
end

/-! ### the call, as a state sees it -/
def mCall (g : GFn) (ms : S → R (List Slot)) : S → R Slot := fun st => match ms st with
  | .bad => .bad
  | .ok as st1 => if as.any Slot.isSrc then match g as st1.src with
      | some (r, some s) => .ok r { st1 with src := some s }
      | _ => .bad
    else match g as none with
      | some (r, none) => .ok r st1
      | some (r, some s) => match st1.src with
        | none => .ok r { st1 with src := some s }
        | some _ => .bad
      | none => .bad
theorem CallEnd.rch {K : PySem.W.Frag} {B F H F' H' : Hp} {σ : L2.St} {sa sa' : Sa} {st : S} {src' : Option Src} {v : V} {r : Slot} (S1 : SR K sa B F H σ st) (c : CallEnd sa F H st.src sa' F' H' src' v r) :
    Rch K B σ sa F st sa' F' H' { st with src := src' } ∧ RRep sa' B F' H' σ { st with src := src' } v r := by
  have sp : ∀ {s}, st.src = some s → st.src.isSome = true := fun e => by
    rw [e]
    rfl
  have nsrc : ∀ a o, H a = some o → (st.src.isSome = true → a ≠ sa.1 ∧ a ≠ sa.2) → (src'.isSome = true → a ≠ sa'.1 ∧ a ≠ sa'.2) := fun a o ha hn z => by
    cases q : st.src with
    | some s =>
      have w := sp q
      rw [(c.ks w).1]
      exact hn w
    | none =>
      obtain ⟨s', hs'⟩ := Option.isSome_iff_exists.mp z
      obtain ⟨_, _, _, f⟩ := c.sr s' hs'
      obtain ⟨f1, f2⟩ := f q
      refine ⟨fun w => ?_, fun w => ?_⟩
      · rw [← w, ha] at f1
        cases f1
      · rw [← w, ha] at f2
        cases f2
  have bsrc : ∀ a, B a ≠ none → st.src.isSome = true → a ≠ sa.1 ∧ a ≠ sa.2 := fun a hb z => by
    obtain ⟨s, hs⟩ := Option.isSome_iff_exists.mp z
    obtain ⟨_, e2, e3, _⟩ := S1.sr s hs
    exact ⟨fun w => hb (by rw [w]; exact e2), fun w => hb (by rw [w]; exact e3)⟩
  have SR' : SR K sa' B F' H' σ { st with src := src' } := by
    refine ⟨fun a o e => ?_, c.fh, S1.len, fun i d e => ?_, fun i d e => ?_, S1.ap, fun i e => ?_, fun i ns e => ?_, fun s e => ?_, fun i e => ?_⟩
    · exact c.keep a o (S1.bh a o e) (bsrc a (by
        rw [e]
        exact fun z => nomatch z))
    · obtain ⟨x, e1, e2⟩ := S1.sl i d e
      exact ⟨x, e1, e2.mono c.fx⟩
    · obtain ⟨a, o, e1, e2, e3, e4, e5, e6⟩ := S1.so i d e
      exact ⟨a, o, e1, c.keep a o e2 e6, e3.mono c.fx, e4, c.new a e5 (by
        rw [e2]
        exact fun z => nomatch z), nsrc a o e2 e6⟩
    · obtain ⟨e1, e2⟩ := S1.sx i e
      obtain ⟨e3, e4⟩ := c.ks e1
      exact ⟨e4, by rw [e3]; exact e2⟩
    · obtain ⟨a, e1, e2⟩ := S1.sc i ns e
      exact ⟨a, e1, sqL_mono c.fx e2⟩
    · obtain ⟨f1, f2, f3, f4⟩ := c.sr s e
      refine ⟨f1, ?_, ?_, f2, f3⟩
      · cases q : st.src with
        | some s0 =>
          rw [(c.ks (sp q)).1]
          exact (S1.sr s0 q).2.1
        | none => exact S1.bh.none_of (f4 q).1
      · cases q : st.src with
        | some s0 =>
          rw [(c.ks (sp q)).1]
          exact (S1.sr s0 q).2.2.1
        | none => exact S1.bh.none_of (f4 q).2
    · obtain ⟨e1, e2⟩ := S1.sy i e
      obtain ⟨e3, e4⟩ := c.ks e1
      exact ⟨e4, by rw [e3]; exact e2⟩
  refine ⟨⟨SR', ⟨c.fx, fun a n b => c.new a n fun z => b (S1.bh.none_of z)⟩, fun z => (c.ks z).1, fun z => (c.ks z).2⟩, ?_⟩
  have rr := c.rr
  cases r with
  | v d => exact rr
  | src => exact rr
  | no => exact rr
  | cel => exact rr.elim
  | scr _ => exact rr
  | o d =>
    obtain ⟨a, o, e1, e2, e3, e4, e5, e6⟩ := rr
    refine ⟨a, o, e1, e2, e3, S1.bh.none_of e4, e5, e6, fun i e q w => ?_⟩
    obtain ⟨b, u, f1, f2, _⟩ := S1.so i e q
    rw [w] at f1
    cases f1
    rw [e4] at f2
    cases f2
/-- without the source: it stays -/
theorem CallEnd.more {K : PySem.W.Frag} {B F H F' H' : Hp} {σ : L2.St} {sa sa' : Sa} {st : S} {v : V} {r : Slot} (S1 : SR K sa B F H σ st) (c : CallEnd sa F H none sa' F' H' none v r) : CallEnd sa F H st.src sa F' H' st.src v r := by
  have kp : ∀ a o, H a = some o → H' a = some o := fun a o e => c.keep a o e fun z => nomatch z
  have out : ∀ s, st.src = some s → SrcR H sa s := fun s e => (S1.sr s e).1
  refine ⟨c.fx, c.fh, c.new, fun a o e _ => kp a o e, fun z => ⟨rfl, z⟩, fun s e => ?_, ?_⟩
  · obtain ⟨e1, _, _, e4, e5⟩ := S1.sr s e
    refine ⟨⟨kp _ _ e1.1, kp _ _ e1.2⟩, c.new _ e4 e1.at1, c.new _ e5 e1.at2, fun z => ?_⟩
    rw [z] at e
    cases e
  · have rr := c.rr
    cases r with
    | v d => exact rr
    | no => exact rr
    | cel => exact rr
    | scr _ => exact rr
    | src => cases rr.1
    | o d =>
      obtain ⟨a, o, e1, e2, e3, e4, e5, e6⟩ := rr
      refine ⟨a, o, e1, e2, e3, e4, e5, fun z => ?_⟩
      obtain ⟨s, hs⟩ := Option.isSome_iff_exists.mp z
      have q := out s hs
      exact ⟨fun w => q.at1 (by rw [← w]; exact e4), fun w => q.at2 (by rw [← w]; exact e4)⟩
/-- a call's reading -/
theorem r_call {K : PySem.W.Frag} {n : Nat} {g : GFn} {ms : S → R (List Slot)} {E : XK} (hn : ∀ st as st', ms st = .ok as st' → as.length = n) : ∀ σ H Q, tM K (mCall g ms) σ H Q → tCall (spG K n g) [] E (tSL K ms) σ H Q := fun σ H Q ⟨sa, B, F, st, r, st', h0, h1, k⟩ => by
  unfold mCall at h1
  cases q : ms st with
  | bad =>
    simp only [q] at h1
    cases h1
  | ok as st1 =>
    simp only [q] at h1
    refine ⟨sa, B, F, st, as, st1, h0, q, fun sa1 F1 H1 vs R1 r1 => ?_⟩
    show spG K n g (vs ++ []) H1 Q E
    rw [List.append_nil]
    have S1 := R1.r
    split at h1
    · split at h1
      · rename_i r s q3
        cases h1
        refine ⟨sa1, F1, st1.src, as, _, some s, hn _ _ _ q, S1.fh, r1, fun s e => ?_, q3, fun sa2 F2 H2 v c => ?_⟩
        · obtain ⟨e1, _, _, e4, e5⟩ := S1.sr s e
          exact ⟨e1, e4, e5⟩
        · obtain ⟨R2, rr⟩ := c.rch S1
          exact k sa2 F2 H2 v (R1.trans R2) rr
      · cases h1
    · rename_i hno
      have r1' : SlRs K sa1 F1 none vs as := r1.off (by simpa using hno)
      split at h1
      · rename_i r q3
        cases h1
        refine ⟨sa1, F1, none, as, _, none, hn _ _ _ q, S1.fh, r1', fun s e => (nomatch e), q3, fun sa2 F2 H2 v c => ?_⟩
        obtain ⟨R2, rr⟩ := (c.more S1).rch S1
        exact k sa1 F2 H2 v (R1.trans R2) rr
      · rename_i r s q3
        cases q4 : st1.src with
        | some _ =>
          simp only [q4] at h1
          cases h1
        | none =>
          simp only [q4] at h1
          cases h1
          refine ⟨sa1, F1, none, as, _, some s, hn _ _ _ q, S1.fh, r1', fun s e => (nomatch e), q3, fun sa2 F2 H2 v c => ?_⟩
          have c' : CallEnd sa1 F1 H1 st1.src sa2 F2 H2 (some s) v r := by
            rw [q4]
            exact c
          obtain ⟨R2, rr⟩ := c'.rch S1
          exact k sa2 F2 H2 v (R1.trans R2) rr
      · cases h1

/-! ### a def's body -/
def startS (n : Nat) (as : List Slot) : List Slot := as ++ List.replicate (n - as.length) .no
def gOf (n : Nat) (m : S → RS) : GFn := fun as src => match m ⟨startS n as, src⟩ with
  | .ret .cel _ => none
  | .ret r st' => some (r, st'.src)
  | .nx st' => some (.v .none, st'.src)
  | _ => none
/-- what stands at the entry, beside the source -/
def besides (sa : Sa) (src : Option Src) (H : Hp) : Hp := fun a => if src.isSome = true ∧ (a = sa.1 ∨ a = sa.2) then none else H a
theorem besides_sub {sa : Sa} {src : Option Src} {H : Hp} : Sub (besides sa src H) H := fun a o e => by
  unfold besides at e
  split at e
  · cases e
  · exact e
theorem body_start {K : PySem.W.Frag} {sa : Sa} {F H : Hp} {src : Option Src} {vs : List V} {as : List Slot} {N : List Str} (s : Sub F H) (r : SlRs K sa F src vs as) (hs : ∀ s, src = some s → SrcR H sa s ∧ F sa.1 = none ∧ F sa.2 = none) :
    SR K sa (besides sa src H) F H (L2.start N vs) ⟨startS N.length as, src⟩ := by
  have hl := r.length
  have at' : ∀ (i : Nat) (x : Slot), (startS N.length as)[i]? = some x → x ≠ .no → as[i]? = some x ∧ ∃ v, (L2.start N vs)[i]? = some (some v) ∧ SlR K sa F src v x := fun i x e n => by
    unfold startS at e
    by_cases hi : i < as.length
    · rw [List.getElem?_append_left hi] at e
      obtain ⟨v, e1, e2⟩ := r.get e
      refine ⟨e, v, ?_, e2⟩
      unfold L2.start
      rw [List.getElem?_append_left (by rw [List.length_map, hl]; exact hi), List.getElem?_map, e1]
      rfl
    · rw [List.getElem?_append_right (by omega), List.getElem?_replicate] at e
      split at e
      · cases e
        exact absurd rfl n
      · cases e
  have noO : ∀ (i : Nat) (d : PyData), (startS N.length as)[i]? = some (.o d) → False := fun i d e => by
    obtain ⟨_, v, _, z⟩ := at' i _ e (fun z => nomatch z)
    cases z
  refine ⟨besides_sub, s, ?_, fun i d e => ?_, fun i d e => (noO i d e).elim, fun i j d e a n q1 q2 q3 q4 => (noO i d q1).elim, fun i e => ?_, fun i ns e => ?_, fun x e => ?_, fun i e => ?_⟩
  · show (L2.start N vs).length = (startS N.length as).length
    unfold L2.start startS
    simp [hl]
  · obtain ⟨_, v, e1, z⟩ := at' i _ e (fun z => nomatch z)
    cases z with
    | v r => exact ⟨v, e1, r⟩
  · obtain ⟨_, v, e1, z⟩ := at' i _ e (fun z => nomatch z)
    cases z with
    | src w => exact ⟨w, e1⟩
  · obtain ⟨_, v, e1, z⟩ := at' i _ e (fun z => nomatch z)
    cases z with
    | scr w => exact ⟨_, e1, w⟩
  · have e' : src = some x := e
    obtain ⟨e1, e2, e3⟩ := hs x e'
    exact ⟨e1, by unfold besides; rw [e', if_pos ⟨rfl, .inl rfl⟩], by unfold besides; rw [e', if_pos ⟨rfl, .inr rfl⟩], e2, e3⟩
  · obtain ⟨_, v, e1, z⟩ := at' i _ e (fun z => nomatch z)
    cases z
theorem body_end {K : PySem.W.Frag} {sa sa' : Sa} {F H F' H' : Hp} {src : Option Src} {st st' : S} {σ : L2.St} {v : V} {r : Slot} (hr : r ≠ .cel) (e : st.src = src) (hs : ∀ s, src = some s → SrcR H sa s ∧ F sa.1 = none ∧ F sa.2 = none)
    (R : Rch K (besides sa src H) σ sa F st sa' F' H' st') (rr : RRep sa' (besides sa src H) F' H' σ st' v r) : CallEnd sa F H src sa' F' H' st'.src v r := by
  subst e
  have bs : ∀ a, (st.src.isSome = true → a ≠ sa.1 ∧ a ≠ sa.2) → besides sa st.src H a = H a := fun a n => by
    unfold besides
    rw [if_neg]
    rintro ⟨z, w⟩
    obtain ⟨n1, n2⟩ := n z
    exact w.elim n1 n2
  have sub : ∀ a, (st'.src.isSome = true → a ≠ sa'.1 ∧ a ≠ sa'.2) → st.src.isSome = true → a ≠ sa.1 ∧ a ≠ sa.2 := fun a h z => by
    rw [← R.k z]
    exact h (R.s z)
  refine ⟨R.x.le, R.r.fh, fun a n h => ?_, fun a o e n => R.r.bh a o (by rw [bs a n]; exact e), fun z => ⟨R.k z, R.s z⟩, fun s e => ?_, ?_⟩
  · by_cases z : st.src.isSome = true ∧ (a = sa.1 ∨ a = sa.2)
    · obtain ⟨z1, z2⟩ := z
      obtain ⟨s', hs'⟩ := Option.isSome_iff_exists.mp (R.s z1)
      obtain ⟨_, _, _, e4, e5⟩ := R.r.sr s' hs'
      rw [R.k z1] at e4 e5
      rcases z2 with z2 | z2
      · rw [z2]
        exact e4
      · rw [z2]
        exact e5
    · refine R.x.out a n ?_
      unfold besides
      rw [if_neg z]
      exact h
  · obtain ⟨e1, e2, e3, e4, e5⟩ := R.r.sr s e
    refine ⟨e1, e4, e5, fun z => ?_⟩
    have nz : ∀ a, besides sa st.src H a = H a := fun a => bs a fun w => by
      rw [z] at w
      cases w
    rw [nz] at e2 e3
    exact ⟨e2, e3⟩
  · cases r with
    | v d => exact rr
    | src => exact rr
    | cel => exact absurd rfl hr
    | no => exact rr
    | scr _ => exact rr
    | o d =>
      obtain ⟨a, o, e1, e2, e3, e4, e5, e6, _⟩ := rr
      exact ⟨a, o, e1, e2, e3, by rw [← bs a (sub a e6)]; exact e4, e5, e6⟩
/-- the body's reading at the promise -/
theorem body_reads {K : PySem.W.Frag} {n : Nat} {N : List Str} {m : S → RS} {vs : List V} {H : Hp} {Q : VK} {E : XK} (h : spG K n (gOf N.length m) vs H Q E) : tMS K m { nx := fun _ H' => Q .non H', rt := Q } (L2.start N vs) H := by
  obtain ⟨sa, F, src, as, r0, src', hn, s, rs, hs, hg, k⟩ := h
  refine ⟨sa, _, F, _, body_start s rs hs, ?_⟩
  unfold gOf at hg
  cases q : m ⟨startS N.length as, src⟩ with
  | ret r st' =>
    rw [q] at hg
    have nc : r ≠ .cel := fun z => by
      rw [z] at hg
      cases hg
    have hg' : some (r, st'.src) = some (r0, src') := by
      cases r with
      | cel => exact absurd rfl nc
      | _ => exact hg
    cases hg'
    exact fun sa' F' H' σ' v R rr => k sa' F' H' v (body_end (st := ⟨startS N.length as, src⟩) nc rfl hs R rr)
  | nx st' =>
    rw [q] at hg
    cases hg
    exact fun sa' F' H' σ' R => k sa' F' H' .non (body_end (st := ⟨startS N.length as, src⟩) (σ := σ') (fun z => nomatch z) rfl hs R Rp.non)
  | bk st' =>
    rw [q] at hg
    cases hg
  | ct st' =>
    rw [q] at hg
    cases hg
  | bad =>
    rw [q] at hg
    cases hg
end Pd
end
section
set_option linter.all false
set_option maxRecDepth 100000
/-! Pd, part O: defs whose callers hold no guard (repr asks for that), the head for them. -/
namespace Pd
open PySem PySem.Spec PyProof.Rows L2

abbrev CXZ : CXT := fun _ _ _ _ _ _ => False
/-- a def, run where no guard is held -/
structure FnG (P : Program) (w : World) (K : PySem.W.Frag) (mg : Str → Option Value) (base : Heap) (k : Nat) (f : Addr) (fd : FuncData) (ps : List Str) (sp : Sp) : Prop where
  many : ∀ as H Q E, sp as H Q E → as.length = ps.length
  go : ∀ (A : Around) (fr : List Env) (s : Shared) (H : Hp) (ar : Args) (us : List Value) (as : List V) (Q : VK) (E : XK), A.guards = some [] → Room k A → Env0 P w K mg base A fr s H → BindsTo s fd ar (ps.zip us) → Vals as us → sp as H Q E →
    codeAny (model P w) A (.call (.ref f) ar) (CR CXZ fr P w H s Q E) s
theorem FnG.up {P : Program} {w : World} {K : PySem.W.Frag} {mg : Str → Option Value} {base : Heap} {j k : Nat} {f : Addr} {fd : FuncData} {ps : List Str} {sp : Sp} (F : FnG P w K mg base j f fd ps sp) (h : j ≤ k) : FnG P w K mg base k f fd ps sp :=
  ⟨F.many, fun A fr s H ar us as Q E hg hr => F.go A fr s H ar us as Q E hg (hr.mono h)⟩
/-- the context of a body -/
abbrev bodyX (P : Program) (w : World) (K : PySem.W.Frag) (mg : Str → Option Value) (base : Heap) (N : List Str) (qual : Str) (sc : Scope) (f : Addr) (cd : Value) (A : Around) (fr : List Env) (s : Shared) (H : Hp) (E : XK) : Cx := (cxOf CXZ P w K mg base N qual sc f cd A fr s H E).nox
theorem fn_okG {P : Program} {w : World} {K : PySem.W.Frag} {mg : Str → Option Value} {base : Heap} {x qual : Str} {params : Arguments} {body : List Stmt} {sc : Scope} {dvs : List V} {kws : List (Str × V)} {f : Addr} {fd : FuncData} {N ps : List Str} {k : Nat} {sp : Sp}
    (F : FunD K x qual params body sc dvs kws f fd) (S : FnScope N ps sc) (len : ∀ as H Q E, sp as H Q E → as.length = ps.length)
    (hb : ∀ (cd : Value) (A : Around) (fr : List Env) (s : Shared) (H : Hp) (as : List V) (Q : VK) (E : XK), A.guards = some [] → Room k (A.deeper (envOfC qual sc s.heap.objs.size f cd)) → sp as H Q E →
      ∃ t, PSs (bodyX P w K mg base N qual sc f cd A fr s H E) body t ∧ t { nx := fun _ H' => Q .non H', rt := Q } (L2.start N as) H) : FnG P w K mg base (k + 1) f fd ps sp := by
  obtain ⟨oc, od, dV, kV, doc, pm, an, cd, ct, osl, rfl, lk, hcd, _, _⟩ := F.ex
  refine ⟨len, fun A fr s H ar us as Q E hg hr e0 hbd r hsp => ?_⟩
  have inK : K.In s.heap := e0.mod.kin.keeps fun b o e => (e0.bs b o e).1
  have nl : s.heap.NoLimit := e0.mod.nolimit.keeps fun b o e => (e0.bs b o e).1
  refine codeAny_call_function hr.depth (inK _ _ lk) rfl S.co S.gen rfl (PySem.W.codeRec_of inK hcd) (hbd _ _ _ _ (wpAny_newFunctionEnv_cells S.kind (fun ⟨n, v⟩ hy => ?_) fun env he s1 x => ?_))
  · rcases S.par n (List.of_mem_zip hy).1 with q | q
    · exact .inl q
    · exact .inr ⟨q, PySem.W.cellsFrom_some _ _ _ (.inl q)⟩
  · subst he
    refine ⟨nl.keeps x.toInCall.keep, codeAny_func ?_⟩
    obtain ⟨t, ht, hq⟩ := hb cd A fr s H as Q E hg (hr.deeper _) hsp
    have I := inv_start (CX := CXZ) (E := E) S hr.hd e0 (len _ _ _ _ hsp) r x
    refine wpAny_mono (ht.nox.run [] s1 (L2.start N as) H _ I hq) (fun fl s' hs => ?_) fun e s' hs => hs
    cases fl with
    | ret u =>
      obtain ⟨v, σ', H', J, rv, q⟩ := hs
      exact ⟨v, H', J.os, J.bare, J.base, J.hok, rv, q⟩
    | next =>
      obtain ⟨σ', H', J, q⟩ := hs
      exact ⟨.non, H', J.os, J.bare, J.base, J.hok, rfl, q⟩
    | brk =>
      obtain ⟨σ', H', J, q⟩ := hs
      exact q.elim
    | cont =>
      obtain ⟨σ', H', J, q⟩ := hs
      exact q.elim
/-- the rule for a def, by its state function -/
theorem fn_okM {P : Program} {w : World} {K : PySem.W.Frag} {mg : Str → Option Value} {base : Heap} {x qual : Str} {params : Arguments} {body : List Stmt} {sc : Scope} {dvs : List V} {kws : List (Str × V)} {f : Addr} {fd : FuncData} {N ps : List Str} {k : Nat} {m : S → RS}
    (F : FunD K x qual params body sc dvs kws f fd) (S : FnScope N ps sc)
    (hb : ∀ (cd : Value) (A : Around) (fr : List Env) (s : Shared) (H : Hp) (E : XK), A.guards = some [] → Room k (A.deeper (envOfC qual sc s.heap.objs.size f cd)) → PSs (bodyX P w K mg base N qual sc f cd A fr s H E) body (tMS K m)) :
    FnG P w K mg base (k + 1) f fd ps (spG K ps.length (gOf N.length m)) :=
  fn_okG F S (fun as H Q E ⟨_, _, _, _, _, _, e, _, r, _⟩ => r.length.trans e) fun cd A fr s H as Q E hg hr h => ⟨_, hb cd A fr s H E hg hr, body_reads h⟩
section
variable {X : Cx} {k n : Nat} {f : Addr} {fd : FuncData} {ps : List Str} {sp : Sp} {E : XK} {x : Str} {p pos : Pos} {e : Expr} {es : List Expr} {t : TA} {g : GFn} {ms : S → R (List Slot)}
theorem run_g {pins : List (Addr × Obj)} {σ : L2.St} {H : Hp} {s : Shared} {Q : VK} {us : List Value} {as : List V} (F : FnG X.prog X.w X.K X.mg X.base k f fd ps sp) (hg : X.A.guards = some []) (hr : Room k X.A) (hb : Binds X.K fd ps []) (I : Inv X pins σ H s) (r : Vals as us) (h : sp (as ++ []) H Q E) :
    wpAny (model X.prog X.w) X.A (call (.ref f) us) (EP X pins σ Q) X.xe s := by
  rw [List.append_nil] at h
  have hl : (us ++ []).length = ps.length := by rw [List.append_nil, ← r.length]; exact F.many _ _ _ _ h
  have b := hb s us I.kIn hl
  rw [List.append_nil] at b
  refine wpAny_call (codeAny_mono (F.go X.A X.stack s H ⟨us, []⟩ us as Q E hg hr I.env0 b r h) fun o s' hq => ?_)
  cases o with
  | error e => exact hq.elim
  | ok fl =>
    cases fl with
    | ret u => exact I.after hq
    | next => exact hq.elim
    | brk => exact hq.elim
    | cont => exact hq.elim
theorem pe_g (F : FnG X.prog X.w X.K X.mg X.base k f fd ps sp) (hgd : X.A.guards = some []) (hr : Room k X.A) (hg : Gl X x) (hm : X.mg x = some (.ref f)) (hk : PySem.W.keepIn X.K (.ref f) = true) (hb : Binds X.K fd ps []) (ha : PA X (e :: es) t)
    (hdb : (x == ("__debug__" : Str)) = false := by decide) (he : starEach (e :: es) X.env = (false, eval e X.env) :: starEach es X.env := by rfl) (hpl : (backTo pos (starEach es X.env)).any (·.1) = false := by rfl) :
    PE X (.Call (.Name x p) (e :: es) [] pos) (tCall sp [] E t) := by
  refine ⟨fun pins s σ H Q I h => wpAny_Call_Name_kw (ld_glob I hg hm ?_ hdb)⟩
  exact PySem.W.callWith_K (h₀ := X.base) I.ok.mod.kin hk (thn (ha.run pos pins s σ H _ I h) fun us s1 ⟨vs, H1, I1, r, q⟩ => ⟨I1.kIn, run_g F hgd hr hb I1 r q⟩) he hpl
theorem pe_g0 (F : FnG X.prog X.w X.K X.mg X.base k f fd ps sp) (hgd : X.A.guards = some []) (hr : Room k X.A) (hg : Gl X x) (hm : X.mg x = some (.ref f)) (hk : PySem.W.keepIn X.K (.ref f) = true) (hb : Binds X.K fd ps [])
    (hdb : (x == ("__debug__" : Str)) = false := by decide) : PE X (.Call (.Name x p) [] [] pos) (tCall sp [] E tNil) := by
  refine ⟨fun pins s σ H Q I h => wpAny_Call_Name_kw (ld_glob I hg hm ?_ hdb)⟩
  exact PySem.W.callWith_K0 I.kIn hk (run_g (us := []) F hgd hr hb I .nil h)
/-- a call of a def -/
structure Def (P : Program) (w : World) (K : PySem.W.Frag) (mg : Str → Option Value) (base : Heap) (k n : Nat) (x : Str) (g : GFn) : Prop where
  ex : ∃ (f : Addr) (fd : FuncData) (ps : List Str), ps.length = n ∧ FnG P w K mg base k f fd ps (spG K n g) ∧ mg x = some (.ref f) ∧ PySem.W.keepIn K (.ref f) = true ∧ Binds K fd ps []
theorem d_call (F : Def X.prog X.w X.K X.mg X.base k n x g) (hgd : X.A.guards = some []) (hr : Room k X.A) (hg : Gl X x) (ha : PA X (e :: es) (tSL X.K ms)) (hn : ∀ st as st', ms st = .ok as st' → as.length = n)
    (hdb : (x == ("__debug__" : Str)) = false := by decide) (he : starEach (e :: es) X.env = (false, eval e X.env) :: starEach es X.env := by rfl) (hpl : (backTo pos (starEach es X.env)).any (·.1) = false := by rfl) :
    PE X (.Call (.Name x p) (e :: es) [] pos) (tM X.K (mCall g ms)) := by
  obtain ⟨f, fd, ps, hl, F, hm, hk, hb⟩ := F.ex
  exact imE (pe_g (E := fun _ _ _ => False) F hgd hr hg hm hk hb ha hdb he hpl) (r_call hn)
theorem d_call0 (F : Def X.prog X.w X.K X.mg X.base k 0 x g) (hgd : X.A.guards = some []) (hr : Room k X.A) (hg : Gl X x) (hdb : (x == ("__debug__" : Str)) = false := by decide) : PE X (.Call (.Name x p) [] [] pos) (tM X.K (mCall g xNil)) := by
  obtain ⟨f, fd, ps, hl, F, hm, hk, hb⟩ := F.ex
  refine imE (pe_g0 (E := fun _ _ _ => False) F hgd hr hg hm hk hb hdb) fun σ H Q h => ?_
  have h2 := r_call (n := 0) (E := fun _ _ _ => False) (fun st as st' e => by cases e; rfl) σ H Q h
  obtain ⟨sa, B, F2, st, as, st', h0, h1, k2⟩ := h2
  cases h1
  exact k2 sa F2 H [] (.refl h0) .nil
theorem xn_nil : ∀ st as st', xNil st = .ok as st' → as.length = 0 := fun st as st' h => by
  cases h
  rfl
theorem xn_cons {mf : S → R PyData} {ms : S → R (List Slot)} {n : Nat} (h : ∀ st as st', ms st = .ok as st' → as.length = n) : ∀ st as st', xCons mf ms st = .ok as st' → as.length = n + 1 := fun st as st' e => by
  unfold xCons at e
  cases q : mf st with
  | bad =>
    simp only [q] at e
    cases e
  | ok d st1 =>
    cases q2 : ms st1 with
    | bad =>
      simp only [q, q2] at e
      cases e
    | ok as st2 =>
      simp only [q, q2] at e
      cases e
      rw [List.length_cons, h _ _ _ q2]
theorem xn_src {i : Nat} {ms : S → R (List Slot)} {n : Nat} (h : ∀ st as st', ms st = .ok as st' → as.length = n) : ∀ st as st', xSrc i ms st = .ok as st' → as.length = n + 1 := fun st as st' e => by
  unfold xSrc at e
  split at e
  · cases q2 : ms st with
    | bad =>
      simp only [q2] at e
      cases e
    | ok as st2 =>
      simp only [q2] at e
      cases e
      rw [List.length_cons, h _ _ _ q2]
  · cases q2 : ms st with
    | bad =>
      simp only [q2] at e
      cases e
    | ok as st2 =>
      simp only [q2] at e
      cases e
      rw [List.length_cons, h _ _ _ q2]
  · cases e
end

/-! ### the law's own call -/
/-- the law's promise: it answers True -/
def spLaw (K : PySem.W.Frag) (n : Nat) : Sp := fun as H Q _ => ∃ (a : Addr) (ns : List Int), as = [.ref a] ∧ ns.length ≤ n ∧ Only H ∧ SqL K H a (ns.map V.int) ∧ ∀ H', Q (.bl true) H'
theorem spLaw_of {K : PySem.W.Frag} {n : Nat} {g : GFn} (h : ∀ ns : List Int, ns.length ≤ n → ∃ s, g [.scr ns] none = some (.v (.bool true), s)) : ∀ as H Q E, spLaw K n as H Q E → spG K 1 g as H Q E := fun as H Q E ⟨a, ns, e, hl, _, hq, k⟩ => by
  subst e
  obtain ⟨s, hs⟩ := h ns hl
  refine ⟨(0, 0), H, none, [.scr ns], _, s, rfl, Sub.refl H, .cons (.scr hq) .nil, fun s e => (nomatch e), hs, fun sa' F' H' v c => ?_⟩
  have rr : Rp F' v (.bool true) := c.rr
  cases rr
  exact k H'
theorem law_g {P : Program} {w : World} {K : PySem.W.Frag} {mg mb : Str → Option Value} {k : Nat} {fa a : Addr} {fd : FuncData} {x : Str} {sp : Sp} {s₁ : Shared} {cells : List Value} {ns : List Int}
    (inK : K.In s₁.heap) (hg : s₁.heap.Ns mainGlobals mg) (hb : s₁.heap.Ns builtinsNs mb) (hbb : ∀ y : Str, y ≠ "__name__" → mb y = bootBuiltins y) (nl : s₁.heap.NoLimit) (gens : s₁.gens = #[])
    (ha : s₁.heap.get? a = some { cls := .type "list", data := .seq cells.toArray }) (hi : IntsAre cells ns) (hl : ns.length ≤ sizeLine) (hr : Room k callerA)
    (F : ∀ bs : Heap, K.In bs → bs.Ns mainGlobals mg → FnG P w K mg bs k fa fd [x] sp) (hbd : ∀ (s : Shared) (u : Value), BindsTo s fd ⟨[u], []⟩ [(x, u)]) (hsp : ∀ H : Hp, Only H → SqL K H a (ns.map V.int) → sp [.ref a] H (fun v _ => v = .bl true) fun _ _ _ => False) :
    codeAny (model P w) callerA (.call (.ref fa) ⟨[.ref a], []⟩) (fun r s' => r = .ok (.ret (.bool true)) ∧ OldK s₁.heap s'.heap ∧ s'.os = s₁.os ∧ AllBare s'.gens) s₁ := by
  have rels := vals_ints hi
  have lens := hi.length
  have main : ∀ H : Hp, Only H → SqL K H a (ns.map V.int) → HOk P w H s₁.heap → (∀ b, H b ≠ none → b = a ∧ K.lookup a = none) →
      codeAny (model P w) callerA (.call (.ref fa) ⟨[.ref a], []⟩) (fun r s' => r = .ok (.ret (.bool true)) ∧ OldK s₁.heap s'.heap ∧ s'.os = s₁.os ∧ AllBare s'.gens) s₁ := fun H on sq ok one => by
    have seen : ∀ {b : Addr} {o : Obj}, s₁.heap.get? b = some o → H b = none → (hidT s₁.heap H).get? b = some o := fun e n => hidT_get e n
    have dictFree : ∀ {b : Addr} {o : Obj} {es : Array DictEntry} {ep : Nat}, s₁.heap.get? b = some o → o.data = .dict es ep → H b = none := fun {b o es ep} e d => by
      cases q : H b with
      | none => rfl
      | some u =>
        obtain ⟨e', _⟩ := one b (by rw [q]; exact fun z => nomatch z)
        rw [e', ha] at e
        cases e
        exact Data.noConfusion d
    have nsAt : ∀ {b : Addr} {m : Str → Option Value}, s₁.heap.Ns b m → (hidT s₁.heap H).Ns b m := fun {b m} ⟨o, es, ep, e, d, r⟩ => ⟨o, es, ep, seen e (dictFree e d), d, r⟩
    have inB : K.In (hidT s₁.heap H) := fun b o e => seen (inK b o e) (by
      cases q : H b with
      | none => rfl
      | some u =>
        obtain ⟨e1, e2⟩ := one b (by rw [q]; exact fun z => nomatch z)
        rw [e1, e2] at e
        cases e)
    have md : Mod K mg (hidT s₁.heap H) := ⟨inB, nsAt hg, ⟨mb, nsAt hb, hbb⟩, let ⟨mc, z1, z2⟩ := nl; ⟨mc, nsAt z1, z2⟩⟩
    have env : Env0 P w K mg (hidT s₁.heap H) callerA [] s₁ H := ⟨rfl, md, fun b o e => of_hidT e, Nat.le_of_eq (hidT_size _ _), trivial, fun b hb => (List.not_mem_nil (show b ∈ ([] : List Addr) from hb)).elim, ok, .of_eq gens⟩
    refine codeAny_mono ((F _ inB (nsAt hg)).go callerA [] s₁ H ⟨[.ref a], []⟩ [.ref a] [.ref a] _ _ rfl hr env (hbd s₁ (.ref a)) (.cons rfl .nil) (hsp H on sq)) fun r s' h => ?_
    cases r with
    | error e => exact h.elim
    | ok fl =>
      cases fl with
      | next => exact h.elim
      | brk => exact h.elim
      | cont => exact h.elim
      | ret u =>
        obtain ⟨v, H', os, bare, un, ok', rv, q⟩ := h
        cases (show v = .bl true from q)
        cases (show u = Value.bool true from rv)
        refine ⟨rfl, OldK.of_keep fun b o e => ?_, os, bare⟩
        rcases on b with z | ⟨ob, xs, z⟩
        · exact un.keep b o e z (fun m => by cases (show b ∈ ([] : List Addr) from m)) (by simp)
        · obtain ⟨e1, _⟩ := ok b _ z
          obtain ⟨e2, _⟩ := ok' b _ (un.frzs b ob _ z)
          rw [e] at e1
          cases e1
          exact e2
  cases hk : K.lookup a with
  | some o =>
    have e := inK a o hk
    rw [ha] at e
    cases e
    refine main (fun _ => none) (fun _ => .inl rfl) (.inr ⟨_, cells.toArray, _, hk, rfl, rfl, rfl, by rw [List.size_toArray, lens]; exact hl, by simpa using rels⟩) (fun b u z => by cases (show (none : Option HO) = some u from z)) fun b z => absurd rfl z
  | none =>
    refine main (fun b => if b = a then some (.frz { cls := .type "list", data := .seq cells.toArray } (.lst (ns.map V.int))) else none) (fun b => ?_) (.inl (.inr ⟨{ cls := .type "list", data := .seq cells.toArray }, if_pos rfl⟩)) (fun b u z => ?_) fun b z => ?_
    · by_cases q : b = a
      · exact .inr ⟨_, _, if_pos q⟩
      · exact .inl (if_neg q)
    · by_cases q : b = a
      · have z := (if_pos q).symm.trans z
        cases z
        rw [q]
        exact ⟨ha, by rw [List.length_map]; exact hl, cells, _, rels, ha⟩
      · cases (if_neg q).symm.trans z
    · by_cases q : b = a
      · exact ⟨q, hk⟩
      · exact absurd (if_neg q) z
theorem walk_g {l : PySem.W.OpenLaw} {n k : Nat} {q : Program} {loose : List Str} {XP : (Str → Option Value) → Heap → Prop} {YP : World → Heap → Prop} {d : DefRec} {x : Str} (hn : l.most = some n) (hn2 : n ≤ sizeLine) (hdf : d.params.defaults = []) (hr : Room k callerA)
    (F : ∀ (w : World) (mg : Str → Option Value) (fa : Addr) (h : Heap), YP w h → h.Ns mainGlobals mg → mg d.name = some (.ref fa) →
      ∃ (K : PySem.W.Frag) (fd : FuncData), K.In h ∧ (∀ (s : Shared) (u : Value), BindsTo s fd ⟨[u], []⟩ [(x, u)]) ∧ ∀ bs : Heap, K.In bs → bs.Ns mainGlobals mg → FnG l.prog w K mg bs k fa fd [x] (spLaw K n)) :
    PySem.W.WalkO q loose XP YP l.row.toRowW d [] (fun f vs => PySem.call f vs) := by
  refine Att.attach_call hn hdf fun w s₀ s₁ mg mb fa o pm cd doc a vs ns G Y ho hd hcd hmg hobj hints hlen hg => ?_
  obtain ⟨K, fd, inK, hb, hF⟩ := F w mg fa _ Y G.T.g hmg
  exact law_g inK G.T.g G.T.b G.T.builtins G.T.nolimit hg hobj hints (Nat.le_trans hlen hn2) hr hF hb fun H on sq => ⟨a, ns, rfl, hlen, on, sq, fun _ => rfl⟩
theorem FnG.imp {P : Program} {w : World} {K : PySem.W.Frag} {mg : Str → Option Value} {base : Heap} {k : Nat} {f : Addr} {fd : FuncData} {ps : List Str} {sp sp' : Sp} (F : FnG P w K mg base k f fd ps sp) (h : ∀ as H Q E, sp' as H Q E → sp as H Q E) : FnG P w K mg base k f fd ps sp' :=
  ⟨fun as H Q E q => F.many as H Q E (h _ _ _ _ q), fun A fr s H ar us as Q E hg hr e hb hv hs => F.go A fr s H ar us as Q E hg hr e hb hv (h _ _ _ _ hs)⟩
end Pd
end
section
set_option linter.all false
set_option maxRecDepth 100000
/-! Pd, part P: the law's source: how it is made, read, changed; the script walked; x[::-1]. -/
namespace Pd
open PySem PySem.Spec PyProof.Rows L2

def srcKvs (c : Addr) (s : Src) : List (Key × V) := [(.inr (Str.ofString "cells"), .ref c), (.inr (Str.ofString "left"), .int s.left), (.inr (Str.ofString "mixed"), .int s.mixed), (.inr (Str.ofString "turn"), .int s.turn)]
/-- a key's number -/
structure KeyI (key : Str) (p : Src → Int) (u : Int → Src → Src) : Prop where
  get : ∀ c s, valV (srcKvs c s) (.inr key) = some (.int (p s))
  put : ∀ c s n, putK (srcKvs c s) (.inr key) (.int n) = srcKvs c (u n s)
  cells : ∀ s n, (u n s).cells = s.cells
def uLeft (n : Int) (s : Src) : Src := { s with left := n }
def uMixed (n : Int) (s : Src) : Src := { s with mixed := n }
def uTurn (n : Int) (s : Src) : Src := { s with turn := n }
theorem key_left : KeyI (Str.ofString "left") Src.left uLeft := ⟨fun _ _ => rfl, fun _ _ _ => rfl, fun _ _ => rfl⟩
theorem key_mixed : KeyI (Str.ofString "mixed") Src.mixed uMixed := ⟨fun _ _ => rfl, fun _ _ _ => rfl, fun _ _ => rfl⟩
theorem key_turn : KeyI (Str.ofString "turn") Src.turn uTurn := ⟨fun _ _ => rfl, fun _ _ _ => rfl, fun _ _ => rfl⟩
theorem key_cells (c : Addr) (s : Src) : valV (srcKvs c s) (.inr (Str.ofString "cells")) = some (.ref c) := rfl
section
variable {K : PySem.W.Frag} {sa : Sa} {B F H H' : Hp} {σ : L2.St} {st : S} {s s' : Src}
theorem SR.srcTo (h : SR K sa B F H σ st) (e : st.src = some s) (off : ∀ a, a ≠ sa.1 → a ≠ sa.2 → H' a = H a) (r : SrcR H' sa s') : SR K sa B F H' σ { st with src := some s' } := by
  have yes : st.src.isSome = true := by
    rw [e]
    rfl
  obtain ⟨_, e2, e3, e4, e5⟩ := h.sr s e
  have kp : ∀ {G : Hp} {a : Addr} {o : HO}, G sa.1 = none → G sa.2 = none → G a = some o → H a = some o → H' a = some o := fun {G a o} g1 g2 g h => by
    rw [off a (fun z => by
      rw [z, g1] at g
      cases g) fun z => by
      rw [z, g2] at g
      cases g]
    exact h
  refine ⟨fun a o q => kp e2 e3 q (h.bh a o q), fun a o q => kp e4 e5 q (h.fh a o q), h.len, h.sl, fun i d q => ?_, h.ap, fun i q => ⟨rfl, (h.sx i q).2⟩, h.sc, fun x q => ?_, fun i q => ⟨rfl, (h.sy i q).2⟩⟩
  · obtain ⟨a, o, f1, f2, f3, f4, f5, f6⟩ := h.so i d q
    obtain ⟨n1, n2⟩ := f6 yes
    exact ⟨a, o, f1, by rw [off a n1 n2]; exact f2, f3, f4, f5, fun _ => ⟨n1, n2⟩⟩
  · cases q
    exact ⟨r, e2, e3, e4, e5⟩
end
def mGetS (p : Src → Int) (mo : S → R Slot) : S → R Slot := fun st => match mo st with
  | .ok .src st1 => match st1.src with
    | some s => .ok (.v (.int (p s))) st1
    | none => .bad
  | _ => .bad
def mCel (mo : S → R Slot) : S → R Slot := fun st => match mo st with
  | .ok .src st1 => match st1.src with
    | some s => .ok .cel st1
    | none => .bad
  | _ => .bad
def mCelLen (mo : S → R Slot) : S → R Slot := fun st => match mo st with
  | .ok .cel st1 => match st1.src with
    | some s => .ok (.v (.int s.cells.length)) st1
    | none => .bad
  | _ => .bad
def mCelPop (mo : S → R Slot) : S → R Slot := fun st => match mo st with
  | .ok .cel st1 => match st1.src with
    | some s => match s.cells[s.cells.length - 1]? with
      | some n => .ok (.v (.int n)) { st1 with src := some { s with cells := s.cells.dropLast } }
      | none => .bad
    | none => .bad
  | _ => .bad
def sPutS (u : Int → Src → Src) (mo : S → R Slot) (mv : S → R PyData) : S → RS := fun st => match mv st with
  | .ok (.int n) st1 => match mo st1 with
    | .ok .src st2 => match st2.src with
      | some s => .nx { st2 with src := some (u n s) }
      | none => .bad
    | _ => .bad
  | _ => .bad
def intsOf : List PyData → Option (List Int)
  | [] => some []
  | .int i :: r => match intsOf r with
    | some l => some (i :: l)
    | none => none
  | _ => none
theorem intsOf_rp {F : Hp} : ∀ {vs : List V} {ds : List PyData} {ns : List Int}, RpL F vs ds → intsOf ds = some ns → vs = ns.map V.int
  | _, _, _, .nil, e => by
    cases e
    rfl
  | _, _, _, .cons (d := d) (ds := ds) r t, e => by
    cases d with
    | int i =>
      unfold intsOf at e
      cases q : intsOf ds with
      | none =>
        rw [q] at e
        cases e
      | some l =>
        rw [q] at e
        cases e
        cases r
        rw [intsOf_rp t q]
        rfl
    | _ => cases e
theorem intsOf_map (ns : List Int) : intsOf (ns.map PyData.int) = some ns := by
  induction ns with
  | nil => rfl
  | cons i l ih =>
    rw [List.map_cons]
    unfold intsOf
    rw [ih]
/-- {'cells': .., 'left': .., 'mixed': .., 'turn': ..} -/
def mNewS (mc : S → R Slot) (ml mm mt : S → R PyData) : S → R Slot := fun st => match mc st with
  | .ok (.o (.list ds)) st1 => match intsOf ds with
    | some ns => match ml st1 with
      | .ok (.int l) st2 => match mm st2 with
        | .ok (.int m) st3 => match mt st3 with
          | .ok (.int t) st4 => match st4.src with
            | none => .ok .src { st4 with src := some ⟨ns, l, m, t⟩ }
            | some _ => .bad
          | _ => .bad
        | _ => .bad
      | _ => .bad
    | none => .bad
  | _ => .bad
section
variable {X : Cx} {o e : Expr} {mo mc : S → R Slot} {mv ml mm mt : S → R PyData} {key : Str} {p : Src → Int} {u : Int → Src → Src} {j : Nat} {ps pos pos' apos : Pos}
theorem k_get (hu : X.A.units + 1 < cLine) (hk : KeyI key p u) (ho : PE X o (tM X.K mo)) (hs : NoSl (.Constant (.str key) j ps) := by intro _ _; rfl) : PE X (.Subscript o (.Constant (.str key) j ps) pos) (tM X.K (mGetS p mo)) :=
  imE (pe_dget hu ho pe_str hs) fun σ H Q ⟨sa, B, F, st, r', st', h0, h1, k⟩ => by
    unfold mGetS at h1
    split at h1
    · rename_i st1 q
      cases q2 : st1.src with
      | none =>
        simp only [q2] at h1
        cases h1
      | some s =>
        simp only [q2] at h1
        cases h1
        refine ⟨sa, B, F, st, _, _, h0, q, fun sa1 F1 H1 v R1 rr => ?_⟩
        obtain ⟨_, rfl⟩ := rr
        have sr := (R1.r.sr s q2).1
        have g : DGet H1 sa1.1 (kV (.inr key)) (valV (srcKvs sa1.2 s) (.inr key)) := DGet.k sr.1
        rw [hk.get sa1.2 s] at g
        exact ⟨sa1.1, _, rfl, g, k sa1 F1 H1 _ R1 (.int (p s))⟩
    · cases h1
theorem k_cel (hu : X.A.units + 1 < cLine) (ho : PE X o (tM X.K mo)) (hs : NoSl (.Constant (.str (Str.ofString "cells")) j ps) := by intro _ _; rfl) : PE X (.Subscript o (.Constant (.str (Str.ofString "cells")) j ps) pos) (tM X.K (mCel mo)) :=
  imE (pe_dget hu ho pe_str hs) fun σ H Q ⟨sa, B, F, st, r', st', h0, h1, k⟩ => by
    unfold mCel at h1
    split at h1
    · rename_i st1 q
      cases q2 : st1.src with
      | none =>
        simp only [q2] at h1
        cases h1
      | some s =>
        simp only [q2] at h1
        cases h1
        refine ⟨sa, B, F, st, _, _, h0, q, fun sa1 F1 H1 v R1 rr => ?_⟩
        obtain ⟨yes, rfl⟩ := rr
        have sr := (R1.r.sr s q2).1
        have g : DGet H1 sa1.1 (kV (.inr (Str.ofString "cells"))) (valV (srcKvs sa1.2 s) (.inr (Str.ofString "cells"))) := DGet.k sr.1
        rw [key_cells sa1.2 s] at g
        exact ⟨sa1.1, _, rfl, g, k sa1 F1 H1 _ R1 ⟨yes, rfl⟩⟩
    · cases h1
theorem k_len (hg : Gl X "len") (hm : X.mg "len" = none) (ho : PE X e (tM X.K mc)) (hs : starEach (e :: []) X.env = (false, eval e X.env) :: starEach [] X.env := by rfl) (hpl : (backTo pos (starEach [] X.env)).any (·.1) = false := by rfl) (hdb : ((Str.ofString "len") == ("__debug__" : Str)) = false := by decide) :
    PE X (.Call (.Name "len" ps) [e] [] pos) (tM X.K (mCelLen mc)) := imE (pe_callB call_len hg hm boot_len (pa_cons ho pa_nil hs) (he := hs) (hpl := hpl)) fun σ H Q ⟨sa, B, F, st, r', st', h0, h1, k⟩ => by
  unfold mCelLen at h1
  split at h1
  · rename_i st1 q
    cases q2 : st1.src with
    | none =>
      simp only [q2] at h1
      cases h1
    | some s =>
      simp only [q2] at h1
      cases h1
      refine ⟨sa, B, F, st, _, _, h0, q, fun sa1 F1 H1 v R1 rr => ?_⟩
      obtain ⟨yes, rfl⟩ := rr
      have sr := (R1.r.sr s q2).1
      exact ⟨_, s.cells.length, rfl, .inl ⟨_, .inl (.inl sr.2), by rw [List.length_map]⟩, k sa1 F1 H1 _ R1 (.int _)⟩
  · cases h1
theorem k_pop (ho : PE X o (tM X.K mc)) (hbase : attributeBase o "pop" X.env (eval o X.env) = eval o X.env := by rfl) (hline : (apos.endLine == pos.line) = true := by rfl) :
    PE X (.Call (.Attribute o "pop" apos) [] [] pos) (tM X.K (mCelPop mc)) := imE (pe_bm0 PySem.F.plainAttrs_list PySem.F.slot_list_pop PySem.F.type_list_pop mt_pop ho hbase hline) fun σ H Q ⟨sa, B, F, st, r', st', h0, h1, k⟩ => by
  unfold mCelPop at h1
  split at h1
  · rename_i st1 q
    cases q2 : st1.src with
    | none =>
      simp only [q2] at h1
      cases h1
    | some s =>
      simp only [q2] at h1
      cases q3 : s.cells[s.cells.length - 1]? with
      | none =>
        simp only [q3] at h1
        cases h1
      | some n =>
        simp only [q3] at h1
        cases h1
        refine ⟨sa, B, F, st, _, _, h0, q, fun sa1 F1 H1 v R1 rr => ?_⟩
        obtain ⟨yes, rfl⟩ := rr
        have sr := (R1.r.sr s q2).1
        refine ⟨.inl ⟨rfl, _, .inl (.inl sr.2)⟩, sa1.2, _, .int n, rfl, rfl, sr.2, ?_, ?_⟩
        · rw [List.length_map, List.getElem?_map, q3]
          rfl
        · have S2 := R1.r.srcTo q2 (H' := upd H1 sa1.2 (.lst (s.cells.map V.int).dropLast)) (s' := { s with cells := s.cells.dropLast }) (fun a _ n => upd_ne n) ⟨by rw [upd_ne sr.ne]; exact sr.1, by rw [upd_same, List.map_dropLast]⟩
          exact k sa1 F1 _ _ ⟨S2, R1.x, R1.k, fun z => rfl⟩ (.int n)
  · cases h1
theorem s_put (hu : X.A.units + 1 < cLine) (hk : KeyI key p u) (ho : PE X o (tM X.K mo)) (hv : PE X e (tF X.K mv)) (hs : swapsWith e (some (.Subscript o (.Constant (.str key) j ps) pos')) pos.line X.env = pure false := by rfl) :
    PS X (.Assign [.Subscript o (.Constant (.str key) j ps) pos'] e pos) (tMS X.K (sPutS u mo mv)) := imS (ps_dput hu ho pe_str hv hs) fun D σ H ⟨sa, B, F, st, h0, h1⟩ => by
  unfold sPutS at h1
  split at h1
  · rename_i n st1 q
    split at h1
    · rename_i st2 q1
      cases q2 : st2.src with
      | none =>
        simp only [q2] at h1
        exact h1.elim
      | some s =>
        simp only [q2] at h1
        refine ⟨sa, B, F, st, _, _, h0, q, fun sa1 F1 H1 v R1 r1 => ⟨sa1, B, F1, st1, _, _, R1.r, q1, fun sa2 F2 H2 w R2 rr => ?_⟩⟩
        obtain ⟨yes, rfl⟩ := rr
        cases r1
        have sr := (R2.r.sr s q2).1
        have g := DPut.k (k := .inr key) (v := .int n) sr.1 (by show 4 < sizeLine; rw [show sizeLine = 16777216 from rfl]; omega)
        have g : DPut H2 sa2.1 (kV (.inr key)) (.int n) (upd H2 sa2.1 (.dK (putK (srcKvs sa2.2 s) (.inr key) (.int n)))) := g
        rw [hk.put sa2.2 s n] at g
        refine ⟨sa2.1, _, rfl, g, ?_⟩
        have S2 := R2.r.srcTo q2 (H' := upd H2 sa2.1 (.dK (srcKvs sa2.2 (u n s)))) (s' := u n s) (fun a n _ => upd_ne n) ⟨upd_same, by rw [upd_ne (Ne.symm sr.ne), sr.2, hk.cells]⟩
        exact h1 sa2 F2 _ σ ⟨S2, (R1.trans R2).x, (R1.trans R2).k, fun z => rfl⟩
    · exact h1.elim
  · exact h1.elim
end

/-! ### x[::-1] -/
def gRev : PyData → Option Slot
  | .list ds => some (.o (.list ds.reverse))
  | _ => none
section
variable {X : Cx} {e : Expr} {m : S → R Opd} {k : Nat} {p1 p2 p3 pos : Pos}
theorem d_rev (he : PE X e (tP X.K m)) : PE X (.Subscript e (.Slice none none (some (.UnaryOp .USub (.Constant (.int 1) k p1) p2)) p3) pos) (tM X.K (m1 gRev m)) := imE (pe_revL he) fun σ H Q ⟨sa, B, F, st, r', st', h0, h1, kk⟩ => by
  unfold m1 at h1
  cases q : m st with
  | bad =>
    simp only [q] at h1
    cases h1
  | ok x st1 =>
    simp only [q] at h1
    unfold gRev at h1
    split at h1
    · rename_i sl q2
      split at q2
      · rename_i ds q3
        cases q2
        cases h1
        refine ⟨sa, B, F, st, x, _, h0, q, fun sa1 F1 H1 v R1 p1 => ?_⟩
        have rd := p1.rd R1.r
        rw [q3] at rd
        obtain ⟨a, xs, rfl, e1, r1⟩ := rd.lst R1.r.fh
        refine ⟨a, xs, rfl, .inl (.inl e1), fun D hD => ?_⟩
        obtain ⟨n1, n2⟩ := R1.r.news hD
        exact kk sa1 F1 _ _ ⟨R1.r.alloc hD, R1.x, R1.k, R1.s⟩ ⟨D, _, rfl, upd_same, .lst r1.reverse, R1.r.bh.none_of hD, R1.r.fh.none_of hD, n1, n2⟩
      · cases q2
    · cases h1
end

/-! ### the script walked -/
def jScr (i : Nat) : S → R (List PyData) := fun st => match st.ss[i]? with
  | some (.scr ns) => .ok (ns.map PyData.int) st
  | _ => .bad
section
variable {X : Cx} {tg e : Expr} {i : Nat}
theorem rp_ints {F : Hp} : ∀ ns : List Int, RpL F (ns.map V.int) (ns.map PyData.int)
  | [] => .nil
  | n :: ns => .cons (.int n) (rp_ints ns)
theorem sqL_one {K : PySem.W.Frag} {F : Hp} {a : Addr} {xs : List V} (h : SqL K F a xs) {J : It} (e : J = Itl K a) {i : Nat} {x : V} {H' H : Hp} (s : Sub F H) (y : (Itl K a).yld i H x H') : H' = H ∧ xs[i]? = some x := by
  obtain ⟨rfl, y2⟩ := y
  exact ⟨rfl, y2 xs (sqL_mono s h)⟩
theorem i_scr (h : PE X e (tVar i)) : PI X tg e (tL X.K (jScr i)) := imI (pi_any h) fun σ H R ⟨sa, B, F, st, ds, st', h0, h1, k⟩ => by
  unfold jScr at h1
  split at h1
  · rename_i ns q
    cases h1
    obtain ⟨a, e1, e2⟩ := h0.sc i ns q
    refine ⟨_, e1, a, rfl, .inl ⟨⟨_, sqL_mono h0.fh e2⟩, k sa F H _ (.refl h0) ⟨fun j sa B F' H σ st S1 s1 _ hj => ?_, fun sa B F' H σ st S1 s1 _ => ?_, fun j sa B F' H σ st x H' d S1 s1 _ hd y => ?_⟩⟩⟩
    · rw [List.length_map] at hj
      exact ⟨_, _, sqL_mono (s1.trans S1.fh) e2, List.getElem?_eq_getElem (by rw [List.length_map]; exact hj)⟩
    · exact ⟨_, sqL_mono (s1.trans S1.fh) e2, by rw [List.length_map, List.length_map]; exact Nat.le_refl _⟩
    · obtain ⟨rfl, h3⟩ := sqL_one e2 rfl (s1.trans S1.fh) y
      obtain ⟨v, f1, f2⟩ := (rp_ints (F := F') ns).get hd
      rw [h3] at f1
      cases f1
      exact ⟨F', S1, FX.refl, f2⟩
  · cases h1
end
end Pd
end
section
set_option linter.all false
set_option maxRecDepth 100000
/-! Pd, part Q: the law's source is made. -/
namespace Pd
open PySem PySem.Spec PyProof.Rows L2
section
variable {X : Cx} {ec el em et : Expr} {mc : S → R Slot} {ml mm mt : S → R PyData} {j1 j2 j3 j4 : Nat} {p1 p2 p3 p4 pos : Pos}
theorem k_new (hc : PE X ec (tM X.K mc)) (hl : PE X el (tF X.K ml)) (hm : PE X em (tF X.K mm)) (ht : PE X et (tF X.K mt)) :
    PE X (.Dict [some (.Constant (.str (Str.ofString "cells")) j1 p1), some (.Constant (.str (Str.ofString "left")) j2 p2), some (.Constant (.str (Str.ofString "mixed")) j3 p3), some (.Constant (.str (Str.ofString "turn")) j4 p4)] [ec, el, em, et] pos) (tM X.K (mNewS mc ml mm mt)) :=
  imE (pe_disp (pps_cons pe_str hc (pps_cons pe_str hl (pps_cons pe_str hm (pps_cons pe_str ht pps_nil)))) rfl rfl (fun z => nomatch z) (by simp)) fun σ H Q ⟨sa, B, F, st, r', st', h0, h1, k⟩ D hD => by
    unfold mNewS at h1
    split at h1
    · rename_i ds st1 q1
      cases qi : intsOf ds with
      | none =>
        simp only [qi] at h1
        cases h1
      | some ns =>
        simp only [qi] at h1
        split at h1
        · rename_i l st2 q2
          split at h1
          · rename_i m st3 q3
            split at h1
            · rename_i t st4 q4
              cases q5 : st4.src with
              | some _ =>
                simp only [q5] at h1
                cases h1
              | none =>
                simp only [q5] at h1
                cases h1
                obtain ⟨n1, n2⟩ := h0.news hD
                have hB := h0.bh.none_of hD
                have S0 : SR X.K sa (upd B D (.dK [])) F (upd H D (.dK [])) σ st := (h0.alloc hD).prot upd_same hB n1 n2
                refine ⟨sa, _, F, st, _, st1, S0, q1, fun sa1 F1 H1 v R1 rr => ?_⟩
                obtain ⟨a, o, rfl, e2, e3, e4, e5, e6, e7⟩ := rr
                have ne : a ≠ D := fun z => by
                  rw [z, upd_same] at e4
                  cases e4
                have S1 : SR X.K sa1 (upd (upd B D (.dK [])) a o) F1 H1 σ st1 := R1.r.prot e2 e4 e6 e7
                refine ⟨sa1, _, F1, st1, _, st2, S1, q2, fun sa2 F2 H2 v2 R2 r2 => ⟨sa2, _, F2, st2, _, st3, R2.r, q3, fun sa3 F3 H3 v3 R3 r3 => ⟨sa3, _, F3, st3, _, st4, R3.r, q4, fun sa4 F4 H4 v4 R4 r4 => ?_⟩⟩⟩
                cases r2
                cases r3
                cases r4
                have R := (R2.trans R3).trans R4
                have atD : (upd (upd B D (.dK [])) a o) D = some (.dK []) := by
                  rw [upd_ne (Ne.symm ne), upd_same]
                have sub0 : Sub B (upd B D (.dK [])) := Sub.new hB
                have sub : Sub B (upd (upd B D (.dK [])) a o) := sub0.trans (Sub.new e4)
                have FD : F4 D = none := R.x.out D (R1.x.out D (h0.fh.none_of hD) (by
                  rw [upd_same]
                  exact fun z => nomatch z)) (by
                  rw [atD]
                  exact fun z => nomatch z)
                have Fa : F4 a = none := R.x.out a e5 (by
                  rw [upd_same]
                  exact fun z => nomatch z)
                have HD : H4 D = some (.dK []) := R.r.bh _ _ atD
                have Ha : H4 a = some o := R.r.bh _ _ upd_same
                have no : st.src.isSome = true → False := fun z => by
                  have w := R.s (R1.s z)
                  rw [q5] at w
                  cases w
                cases e3 with
                | lst rl =>
                  rw [intsOf_rp rl qi] at Ha
                  have fin : SR X.K (D, a) B F4 (upd H4 D (.dK (srcKvs a ⟨ns, l, m, t⟩))) σ { st4 with src := some ⟨ns, l, m, t⟩ } := by
                    refine ⟨(sub.trans R.r.bh).off hB, R.r.fh.off FD, R.r.len, R.r.sl, fun i d e => ?_, R.r.ap, fun i e => ?_, R.r.sc, fun s e => ?_, fun i e => ?_⟩
                    · obtain ⟨b, u, f1, f2, f3, f4, f5, f6⟩ := R.r.so i d e
                      have nD : b ≠ D := fun z => by
                        rw [z, atD] at f4
                        cases f4
                      have na : b ≠ a := fun z => by
                        rw [z, upd_same] at f4
                        cases f4
                      exact ⟨b, u, f1, by rw [upd_ne nD]; exact f2, f3, sub.none_of f4, f5, fun _ => ⟨nD, na⟩⟩
                    · have w := (R.r.sx i e).1
                      rw [q5] at w
                      cases w
                    · cases e
                      exact ⟨⟨upd_same, by rw [upd_ne ne]; exact Ha⟩, hB, sub0.none_of e4, FD, Fa⟩
                    · have w := (R.r.sy i e).1
                      rw [q5] at w
                      cases w
                  refine ⟨HD, [(.inr (Str.ofString "cells"), .ref a), (.inr (Str.ofString "left"), .int l), (.inr (Str.ofString "mixed"), .int m), (.inr (Str.ofString "turn"), .int t)], rfl, by simp, ?_⟩
                  exact k (D, a) F4 _ _ ⟨fin, (R1.x.weak sub0).trans (R.x.weak sub), fun z => (no z).elim, fun _ => rfl⟩ ⟨rfl, rfl⟩
            · cases h1
          · cases h1
        · cases h1
    · cases h1
end
end Pd
end
section
set_option linter.all false
set_option maxRecDepth 100000
/-! Pd, part R: three names at once; numbers counted up; truth of values. -/
namespace Pd
open PySem PySem.Spec PyProof.Rows L2
abbrev gLt : PyData → PyData → Option Slot := gOrd (fun i j => decide (i < j)) PySem.W.dataLt
abbrev gGt : PyData → PyData → Option Slot := gOrd (fun i j => decide (j < i)) fun a b => PySem.W.dataLt b a
abbrev gLe : PyData → PyData → Option Slot := gOrd (fun i j => decide (i ≤ j)) fun a b => !PySem.W.dataLt b a
abbrev gGe : PyData → PyData → Option Slot := gOrd (fun i j => decide (j ≤ i)) fun a b => !PySem.W.dataLt a b
abbrev gIsInt : PyData → Option Slot := fun d => some (.v (.bool d.isInt))
abbrev gIsBool : PyData → Option Slot := fun d => some (.v (.bool d.isBool))
abbrev gIsTuple : PyData → Option Slot := fun d => some (.v (.bool d.isTuple))
abbrev gIsList : PyData → Option Slot := fun d => some (.v (.bool d.isList))
abbrev gIsDict : PyData → Option Slot := fun d => some (.v (.bool d.isDict))
abbrev gIsStr : PyData → Option Slot := fun d => some (.v (.bool d.isStr))
section
variable {K : PySem.W.Frag} {X : Cx} {st : Stmt} {m m' m'' : S → R Slot}
theorem RRep.less {sa : Sa} {B C F H : Hp} {σ : L2.St} {st : S} {v : V} {r : Slot} (s : Sub B C) (h : RRep sa C F H σ st v r) : RRep sa B F H σ st v r := by
  cases r with
  | v d => exact h
  | src => exact h
  | cel => exact h
  | no => exact h.elim
  | scr _ => exact h.elim
  | o d =>
    obtain ⟨a, o, e, t1, t2, t3, t4⟩ := h
    exact ⟨a, o, e, t1, t2, s.none_of t3, t4⟩
theorem s_par3 {i j l : Nat} (h : PS X st (tPar3 i j l (tCons (tM K m) (tCons (tM K m') (tCons (tM K m'') tNil))))) : PS X st (tMS K (sPar3 i j l m m' m'')) := imS h fun D σ H ⟨sa, B, F, st, h0, h1⟩ => by
  unfold sPar3 at h1
  cases q : m st with
  | bad =>
    simp only [q] at h1
    exact h1.elim
  | ok r st1 =>
    cases q2 : m' st1 with
    | bad =>
      simp only [q, q2] at h1
      exact h1.elim
    | ok r' st2 =>
      cases q3 : m'' st2 with
      | bad =>
        simp only [q, q2, q3] at h1
        exact h1.elim
      | ok r'' st3 =>
        simp only [q, q2, q3] at h1
        refine ⟨sa, B, F, st, r, st1, h0, q, fun sa1 F1 H1 v R1 rr1 => ?_⟩
        obtain ⟨B1, sb1, S1, kp1⟩ := rr1.wait R1.r
        refine ⟨sa1, B1, F1, st1, r', st2, S1, q2, fun sa2 F2 H2 w R2 rr2 => ?_⟩
        obtain ⟨B2, sb2, S2, kp2⟩ := rr2.wait R2.r
        refine ⟨sa2, B2, F2, st2, r'', st3, S2, q3, fun sa3 F3 H3 x R3 rr3 => ⟨v, w, x, rfl, ?_⟩⟩
        have R3' : Rch K B1 σ sa2 F2 st2 sa3 F3 H3 st3 := ⟨R3.r.less sb2, R3.x.weak sb2, R3.k, R3.s⟩
        obtain ⟨a1, a2⟩ := kp1 sa3 F3 H3 st3 (R2.trans R3')
        obtain ⟨b1, b2⟩ := kp2 sa3 F3 H3 st3 R3
        have R : Rch K B σ sa F st sa3 F3 H3 st3 := by
          have R23 := R2.trans R3'
          exact R1.trans ⟨R23.r.less sb1, R23.x.weak sb1, R23.k, R23.s⟩
        have n1 : ∀ d d', r' = .o d → r = .o d' → w ≠ v := fun d d' e1 e2 z => by
          subst e1
          obtain ⟨a, ea, ha⟩ := a2 d' e2
          obtain ⟨c, o, e, t1, t2, t3, t4⟩ := rr2
          rw [e, ea] at z
          cases z
          exact ha t3
        have n2 : ∀ d d', r'' = .o d → r = .o d' → x ≠ v := fun d d' e1 e2 z => by
          subst e1
          obtain ⟨a, ea, ha⟩ := a2 d' e2
          obtain ⟨c, o, e, t1, t2, t3, t4⟩ := rr3
          rw [e, ea] at z
          cases z
          exact ha (sb2.none_of t3)
        have n3 : ∀ d d', r'' = .o d → r' = .o d' → x ≠ w := fun d d' e1 e2 z => by
          subst e1
          obtain ⟨a, ea, ha⟩ := b2 d' e2
          obtain ⟨c, o, e, t1, t2, t3, t4⟩ := rr3
          rw [e, ea] at z
          cases z
          exact ha t3
        have b1' := b1.less sb1
        have rr3' := (rr3.less sb2).less sb1
        have Sa := R.r.put (i := i) a1
        have Sb := Sa.put (i := j) (b1'.beside (i := i) n1)
        have Sc := Sb.put (i := l) ((rr3'.beside (i := i) n2).beside (i := j) n3)
        exact h1 sa3 F3 H3 _ ⟨Sc, R.x, R.k, R.s⟩
end
end Pd
end
section
set_option linter.all false
set_option maxRecDepth 100000
/-! Pd, part S: state functions at data with a Lean type. -/
namespace Pd
open PySem PySem.Spec PyProof.Rows L2

abbrev toD {α : Type} [DecidableEq α] [PySem.W.Datum α] (a : α) : PyData := PySem.W.Datum.toD a
abbrev dep (α : Type) [DecidableEq α] [PySem.W.Datum α] : Nat := PySem.W.Datum.depth α
section
variable {α : Type} [DecidableEq α] [PySem.W.Datum α]
theorem shp_toD (h : dep α ≤ 60) (a : α) : shp (toD a) = true := by
  unfold shp
  rw [PySem.W.Datum.plain a, Bool.true_and]
  exact decide_eq_true (Nat.le_trans (PySem.W.Datum.depth_le a) h)
theorem gEq_toD (h : dep α ≤ 60) (a b : α) : gEq (toD a) (toD b) = some (.v (.bool (decide (a = b)))) := by
  unfold gEq
  rw [shp_toD h, shp_toD h, PySem.W.Datum.eqv]
  rfl
theorem gNe_toD (h : dep α ≤ 60) (a b : α) : gNe (toD a) (toD b) = some (.v (.bool (!decide (a = b)))) := by
  unfold gNe
  rw [shp_toD h, shp_toD h, PySem.W.Datum.eqv]
  rfl
theorem gIn_list (h : dep α ≤ 60) (neg : Bool) (a : α) (xs : List α) : gIn neg (toD a) (.list (xs.map toD)) = some (.v (.bool (neg.xor (decide (a ∈ xs))))) := by
  show (if (shp (toD a) && PyData.plainAll (xs.map toD)) = true then some (Slot.v (.bool (neg ^^ (xs.map toD).any fun z => PyData.eqv z (toD a)))) else none) = _
  rw [shp_toD h, PySem.W.plainAll_map, PySem.W.any_datum]
  rfl
theorem gIn_tup (h : dep α ≤ 60) (neg : Bool) (a : α) (xs : List α) : gIn neg (toD a) (.tuple (xs.map toD)) = some (.v (.bool (neg.xor (decide (a ∈ xs))))) := by
  show (if (shp (toD a) && PyData.plainAll (xs.map toD)) = true then some (Slot.v (.bool (neg ^^ (xs.map toD).any fun z => PyData.eqv z (toD a)))) else none) = _
  rw [shp_toD h, PySem.W.plainAll_map, PySem.W.any_datum]
  rfl
end
theorem gIn_int_tup (neg : Bool) (a : Int) (xs : List Int) : gIn neg (.int a) (.tuple (xs.map PyData.int)) = some (.v (.bool (neg.xor (decide (a ∈ xs))))) := gIn_tup (α := Int) (by decide) neg a xs
theorem gIn_int_list (neg : Bool) (a : Int) (xs : List Int) : gIn neg (.int a) (.list (xs.map PyData.int)) = some (.v (.bool (neg.xor (decide (a ∈ xs))))) := gIn_list (α := Int) (by decide) neg a xs
theorem gEq_int (a b : Int) : gEq (.int a) (.int b) = some (.v (.bool (decide (a = b)))) := gEq_toD (α := Int) (by decide) a b
theorem gNe_int (a b : Int) : gNe (.int a) (.int b) = some (.v (.bool (!decide (a = b)))) := gNe_toD (α := Int) (by decide) a b
theorem gEq_bool (a b : Bool) : gEq (.bool a) (.bool b) = some (.v (.bool (a == b))) := by
  rw [show gEq (.bool a) (.bool b) = some (.v (.bool (decide (a = b)))) from gEq_toD (α := Bool) (by decide) a b]
  cases a <;> cases b <;> rfl
theorem gNe_bool (a b : Bool) : gNe (.bool a) (.bool b) = some (.v (.bool (a != b))) := by
  rw [show gNe (.bool a) (.bool b) = some (.v (.bool (!decide (a = b)))) from gNe_toD (α := Bool) (by decide) a b]
  cases a <;> cases b <;> rfl
theorem gNe_str (a b : Str) : gNe (.str a) (.str b) = some (.v (.bool (!decide (a = b)))) := gNe_toD (α := Str) (by decide) a b
theorem gEq_str (a b : Str) : gEq (.str a) (.str b) = some (.v (.bool (decide (a = b)))) := gEq_toD (α := Str) (by decide) a b
/-! ### comprehensions at typed items -/
theorem lcGo_map {α : Type} {vs : List Nat} {g : PyData → S → Option S} {t : S → R Bool} {e : S → R PyData} (w : S) (φ : α → PyData) (p : α → Bool) (f : α → PyData) : ∀ (xs : List α) (acc : List PyData)
    (h : ∀ x ∈ xs, ∃ s1 s2, g (φ x) w = some s1 ∧ t s1 = .ok (p x) s2 ∧ (p x = false → s2.wipe vs = w) ∧ (p x = true → ∃ s3, e s2 = .ok (f x) s3 ∧ s3.wipe vs = w)),
    lcGo vs g t e (xs.map φ) acc w = .ok (acc ++ (xs.filter p).map f) w
  | [], acc, _ => by
    simp [lcGo]
  | x :: xs, acc, h => by
    obtain ⟨s1, s2, h1, h2, h3, h4⟩ := h x List.mem_cons_self
    have ih := fun acc => lcGo_map w φ p f xs acc fun y hy => h y (List.mem_cons_of_mem _ hy)
    rw [List.map_cons]
    unfold lcGo
    rw [h1]
    simp only [h2]
    cases q : p x with
    | false =>
      simp only
      rw [h3 q, ih, List.filter_cons_of_neg (by rw [q]; exact Bool.false_ne_true)]
    | true =>
      obtain ⟨s3, h5, h6⟩ := h4 q
      simp only [h5]
      rw [h6, ih, List.filter_cons_of_pos q, List.map_cons, List.append_assoc]
      rfl
theorem okLen_of {n : Nat} (h : n ≤ 16777216) : okLen n = true := decide_eq_true h
theorem mLc_map {α : Type} {mi : S → R (List PyData)} {vs : List Nat} {g : PyData → S → Option S} {t : S → R Bool} {e : S → R PyData} {st st1 : S} (xs : List α) (φ : α → PyData) (p : α → Bool) (f : α → PyData) (hi : mi st = .ok (xs.map φ) st1) (hl : xs.length ≤ 16777216)
    (h : ∀ x ∈ xs, ∃ s1 s2, g (φ x) (st1.wipe vs) = some s1 ∧ t s1 = .ok (p x) s2 ∧ (p x = false → s2.wipe vs = st1.wipe vs) ∧ (p x = true → ∃ s3, e s2 = .ok (f x) s3 ∧ s3.wipe vs = st1.wipe vs)) :
    mLc mi vs g t e st = .ok (.o (.list ((xs.filter p).map f))) ((st1.wipe vs).rest st1 vs) := by
  unfold mLc
  rw [hi]
  simp only [List.length_map, okLen_of hl, if_true]
  rw [lcGo_map (st1.wipe vs) φ p f xs [] h]
  rfl
/-- the items of enumerate -/
theorem enumD_map {α : Type} (φ : α → PyData) (xs : List α) : enumD (xs.map φ) = xs.zipIdx.map fun q => .tuple [.int (q.2 : Nat), φ q.1] := by
  unfold enumD
  rw [List.zipIdx_map, List.map_map]
  rfl
end Pd
end
section
set_option linter.all false
set_option maxRecDepth 100000
/-! Pd, part T: what state functions come to, applied. -/
namespace Pd
open PySem PySem.Spec PyProof.Rows L2
section
variable {st st' st1 : S} {m m' m'' : S → R Slot} {mf : S → R PyData} {mp mp' : S → R Opd} {c c' : S → R Bool} {s1 s2 : S → RS} {ss : List Slot} {src : Option Src}
theorem v_C (d : PyData) : mC d st = .ok (.v d) st := rfl
theorem v_Var (i : Nat) : mVar i st = (match st.ss[i]? with
  | some (.v d) => .ok (.v d) st
  | some (.o d) => .ok (.v d) { st with ss := st.ss.set i (.v d) }
  | some .src => .ok .src st
  | some .cel => .ok .cel st
  | _ => .bad) := rfl
theorem v_Mv (i : Nat) : mMv i st = (match st.ss[i]? with
  | some (.v d) => .ok (.v d) st
  | some (.o d) => .ok (.o d) { st with ss := st.ss.set i .no }
  | some .src => .ok .src st
  | some .cel => .ok .cel st
  | _ => .bad) := rfl
theorem v_Pk (i : Nat) : mPk i st = (match st.ss[i]? with
  | some (.v d) => .ok (.v d) st
  | some (.o d) => .ok (.s i d) st
  | _ => .bad) := rfl
theorem v_O : mO m st = (match m st with
  | .ok (.v d) st' => .ok (.v d) st'
  | .ok (.o d) st' => .ok (.t d) st'
  | _ => .bad) := rfl
theorem v_F : mF m st = (match m st with
  | .ok (.v d) st' => .ok d st'
  | .ok (.o d) st' => .ok d st'
  | _ => .bad) := rfl
theorem v_B : mB m st = (match m st with
  | .ok (.v (.bool b)) st' => .ok b st'
  | _ => .bad) := rfl
theorem v_m1 (g : PyData → Option Slot) : m1 g mp st = (match mp st with
  | .ok x st1 => match g x.d with
    | some r => .ok r st1
    | none => .bad
  | .bad => .bad) := rfl
open Classical in
theorem v_m2 (g : PyData → PyData → Option Slot) : m2 g mp mp' st = (match mp st with
  | .ok x st1 => match mp' st1 with
    | .ok y st2 => if still x st2 then (match g x.d y.d with
      | some r => .ok r st2
      | none => .bad) else .bad
    | .bad => .bad
  | .bad => .bad) := rfl
theorem still_v (d : PyData) : still (.v d) st = True := rfl
theorem still_t (d : PyData) : still (.t d) st = True := rfl
theorem still_s (i : Nat) (d : PyData) : still (.s i d) st = (st.ss[i]? = some (.o d) ∨ st.ss[i]? = some (.v d)) := rfl
theorem d_v (d : PyData) : (Opd.v d).d = d := rfl
theorem d_t (d : PyData) : (Opd.t d).d = d := rfl
theorem d_s (i : Nat) (d : PyData) : (Opd.s i d).d = d := rfl
theorem v_Seq : sSeq s1 s2 st = (match s1 st with
  | .nx st1 => s2 st1
  | r => r) := rfl
theorem v_Nil : sNil st = .nx st := rfl
theorem v_If : sIf c s1 s2 st = (match c st with
  | .ok true st1 => s1 st1
  | .ok false st1 => s2 st1
  | .bad => .bad) := rfl
theorem v_Set (i : Nat) : sSet i m st = (match m st with
  | .ok r st1 => .nx { st1 with ss := st1.ss.set i r }
  | .bad => .bad) := rfl
theorem v_Ret : sRet m st = (match m st with
  | .ok r st1 => .ret r st1
  | .bad => .bad) := rfl
theorem v_Drop : sDrop m st = (match m st with
  | .ok _ st1 => .nx st1
  | .bad => .bad) := rfl
theorem v_Asg (g : PyData → S → Option S) : sAsg mf g st = (match mf st with
  | .ok d st1 => match g d st1 with
    | some st2 => .nx st2
    | none => .bad
  | .bad => .bad) := rfl
theorem v_Par2 (i j : Nat) : sPar2 i j m m' st = (match m st with
  | .ok r st1 => match m' st1 with
    | .ok r' st2 => .nx { st2 with ss := (st2.ss.set i r).set j r' }
    | .bad => .bad
  | .bad => .bad) := rfl
theorem v_Par3 (i j l : Nat) : sPar3 i j l m m' m'' st = (match m st with
  | .ok r st1 => match m' st1 with
    | .ok r' st2 => match m'' st2 with
      | .ok r'' st3 => .nx { st3 with ss := ((st3.ss.set i r).set j r').set l r'' }
      | .bad => .bad
    | .bad => .bad
  | .bad => .bad) := rfl
theorem v_And : mAnd c c' st = (match c st with
  | .ok true st1 => c' st1
  | .ok false st1 => .ok false st1
  | .bad => .bad) := by
  unfold mAnd
  rfl
theorem v_Or : mOr c c' st = (match c st with
  | .ok true st1 => .ok true st1
  | .ok false st1 => c' st1
  | .bad => .bad) := by
  unfold mOr
  rfl
theorem v_Not : mNot c st = (match c st with
  | .ok b st1 => .ok (!b) st1
  | .bad => .bad) := by
  unfold mNot
  cases c st with
  | bad => rfl
  | ok b s => cases b <;> rfl
theorem v_IfE : mIf c m m' st = (match c st with
  | .ok true st1 => m st1
  | .ok false st1 => m' st1
  | .bad => .bad) := by
  unfold mIf
  rfl
theorem v_Yes : tYesM st = .ok true st := rfl
theorem v_nil : mNil st = .ok [] st := rfl
theorem v_cons {ms : S → R (List PyData)} : mCons mf ms st = (match mf st with
  | .ok d st1 => match ms st1 with
    | .ok ds st2 => .ok (d :: ds) st2
    | .bad => .bad
  | .bad => .bad) := by
  unfold mCons
  rfl
theorem v_tup {ms : S → R (List PyData)} : mTup ms st = (match ms st with
  | .ok ds st1 => if okLen ds.length then .ok (.v (.tuple ds)) st1 else .bad
  | .bad => .bad) := by
  unfold mTup
  rfl
theorem v_lst {ms : S → R (List PyData)} : mLst ms st = (match ms st with
  | .ok ds st1 => if okLen ds.length then .ok (.o (.list ds)) st1 else .bad
  | .bad => .bad) := by
  unfold mLst
  rfl
theorem v_N (i : Nat) (d : PyData) : gN i d st = some { st with ss := st.ss.set i (.v d) } := rfl
theorem v_Nl : gNl [] st = some st := rfl
theorem v_Cn (g : PyData → S → Option S) (gs : List PyData → S → Option S) (d : PyData) (r : List PyData) : gCn g gs (d :: r) st = (match g d st with
  | some st1 => gs r st1
  | none => none) := rfl
theorem v_Tp (gs : List PyData → S → Option S) (ds : List PyData) : gTp gs (.tuple ds) st = gs ds st := rfl
theorem v_TpL (gs : List PyData → S → Option S) (ds : List PyData) : gTp gs (.list ds) st = gs ds st := rfl
theorem v_jSeq : jSeq mf st = (match mf st with
  | .ok (.list ds) st1 => .ok ds st1
  | .ok (.tuple ds) st1 => .ok ds st1
  | _ => .bad) := rfl
theorem v_jEnum : jEnum mf st = (match mf st with
  | .ok (.list ds) st1 => .ok (enumD ds) st1
  | .ok (.tuple ds) st1 => .ok (enumD ds) st1
  | _ => .bad) := rfl
theorem v_jRg {ma : S → R (List PyData)} : jRg ma st = (match ma st with
  | .ok [.int n] st1 => if rgOk 0 n then .ok (rgD 0 n) st1 else .bad
  | _ => .bad) := rfl
theorem v_jRg2 {ma : S → R (List PyData)} : jRg2 ma st = (match ma st with
  | .ok [.int a, .int b] st1 => if rgOk a b then .ok (rgD a b) st1 else .bad
  | _ => .bad) := rfl
theorem v_For (mi : S → R (List PyData)) (g : PyData → S → Option S) : sFor mi g s1 st = (match mi st with
  | .ok ds st1 => forGo g s1 ds st1
  | .bad => .bad) := rfl
theorem v_Call (g : GFn) (ms : S → R (List Slot)) : mCall g ms st = (match ms st with
  | .bad => .bad
  | .ok as st1 => if as.any Slot.isSrc then match g as st1.src with
      | some (r, some s) => .ok r { st1 with src := some s }
      | _ => .bad
    else match g as none with
      | some (r, none) => .ok r st1
      | some (r, some s) => match st1.src with
        | none => .ok r { st1 with src := some s }
        | some _ => .bad
      | none => .bad) := rfl
theorem v_xNil : xNil st = .ok [] st := rfl
theorem v_xCons {ms : S → R (List Slot)} : xCons mf ms st = (match mf st with
  | .ok d st1 => match ms st1 with
    | .ok as st2 => .ok (.v d :: as) st2
    | .bad => .bad
  | .bad => .bad) := rfl
theorem v_xSrc (i : Nat) {ms : S → R (List Slot)} : xSrc i ms st = (match st.ss[i]? with
  | some .src => (match ms st with
    | .ok as st2 => .ok (.src :: as) st2
    | .bad => .bad)
  | some (.scr ns) => (match ms st with
    | .ok as st2 => .ok (.scr ns :: as) st2
    | .bad => .bad)
  | _ => .bad) := rfl
theorem v_Mut (g : List PyData → List PyData → Option (PyData × List PyData)) (i : Nat) {ma : S → R (List PyData)} : mMut g i ma st = (match st.ss[i]? with
  | some (.o (.list _)) => (match ma st with
    | .ok as st1 => match st1.ss[i]? with
      | some (.o (.list ds)) => match g ds as with
        | some (d, ds') => .ok (.v d) { st1 with ss := st1.ss.set i (.o (.list ds')) }
        | none => .bad
      | _ => .bad
    | .bad => .bad)
  | _ => .bad) := rfl
/-! ### a def's answer -/
theorem g_of {n : Nat} {ms : S → RS} {as : List Slot} {d : PyData} {src' : Option Src} {ss' : List Slot} (hs : startS n as = ss) (h : ms ⟨ss, src⟩ = .ret (.v d) ⟨ss', src'⟩) : gOf n ms as src = some (.v d, src') := by
  unfold gOf
  rw [hs, h]
theorem g_ofO {n : Nat} {ms : S → RS} {as : List Slot} {d : PyData} {src' : Option Src} {ss' : List Slot} (hs : startS n as = ss) (h : ms ⟨ss, src⟩ = .ret (.o d) ⟨ss', src'⟩) : gOf n ms as src = some (.o d, src') := by
  unfold gOf
  rw [hs, h]
end
end Pd
end
section
set_option linter.all false
set_option maxRecDepth 100000
/-! Pd, part U: ints, pairs, rows of ints: order, sorting, least. -/
namespace Pd
open PySem PySem.Spec PyProof.Rows L2

abbrev lkD (p : Int × Int) : PyData := .tuple [.int p.1, .int p.2]
abbrev lotD (l : List Int) : PyData := .tuple (l.map PyData.int)
/-! ### orders -/
abbrev leI (a b : Int) : Bool := decide (a ≤ b)
abbrev leK (p q : Int × Int) : Bool := decide (p.1 < q.1 ∨ (p.1 = q.1 ∧ p.2 ≤ q.2))
abbrev leL (a b : List Int) : Bool := decide (a ≤ b)
theorem le_ints (a b : Int) : PySem.W.dataLe false id (.int a) (.int b) = leI a b := by
  show (!PySem.W.dataLt (.int b) (.int a)) = _
  rw [PySem.W.dataLt_int, PySem.W.not_lt_int]
theorem le_links (p q : Int × Int) : PySem.W.dataLe false id (lkD p) (lkD q) = leK p q := by
  have := congrFun (congrFun (PySem.W.dataLe_ii (β := Int × Int) (fun p => p.1) (fun p => p.2)) p) q
  exact this
theorem le_lots (a b : List Int) : PySem.W.dataLe false id (lotD a) (lotD b) = leL a b := by
  show (!PySem.W.dataLt (.tuple (b.map .int)) (.tuple (a.map .int))) = _
  rw [PySem.W.dataLt_tuple]
  show (!PySem.W.rowLt (b.map .int) (a.map .int)) = _
  rw [PySem.W.dataLt_ints]
  by_cases h : b < a
  · have h' : ¬ a ≤ b := fun r => List.not_lt.mpr r h
    simp [h, h']
  · have h' : a ≤ b := List.not_lt.mp h
    simp [h, h']
theorem tr_I (a b c : Int) : leI a b = true → leI b c = true → leI a c = true := by
  simp only [leI, decide_eq_true_eq]
  omega
theorem to_I (a b : Int) : (leI a b || leI b a) = true := by
  simp only [leI, Bool.or_eq_true, decide_eq_true_eq]
  omega
theorem tr_K (a b c : Int × Int) : leK a b = true → leK b c = true → leK a c = true := by
  simp only [leK, decide_eq_true_eq]
  omega
theorem to_K (a b : Int × Int) : (leK a b || leK b a) = true := by
  simp only [leK, Bool.or_eq_true, decide_eq_true_eq]
  omega
theorem an_K (a b : Int × Int) : leK a b = true → leK b a = true → a = b := by
  simp only [leK, decide_eq_true_eq]
  intro h1 h2
  exact Prod.ext (by omega) (by omega)
theorem tr_L (a b c : List Int) : leL a b = true → leL b c = true → leL a c = true := by
  simp only [leL, decide_eq_true_eq]
  exact List.le_trans
theorem to_L (a b : List Int) : (leL a b || leL b a) = true := by
  simp only [leL, Bool.or_eq_true, decide_eq_true_eq]
  exact List.le_total a b
theorem an_L (a b : List Int) : leL a b = true → leL b a = true → a = b := by
  simp only [leL, decide_eq_true_eq]
  exact List.le_antisymm
abbrev srtI (l : List Int) : List Int := l.mergeSort leI
abbrev srtK (l : List (Int × Int)) : List (Int × Int) := l.mergeSort leK
abbrev srtL (l : List (List Int)) : List (List Int) := l.mergeSort leL
theorem sort_ints (l : List Int) : sortD (l.map PyData.int) = (srtI l).map PyData.int :=
  (List.map_mergeSort (fun a _ b _ => (le_ints a b).symm)).symm
theorem sort_links (l : List (Int × Int)) : sortD (l.map lkD) = (srtK l).map lkD :=
  (List.map_mergeSort (fun a _ b _ => (le_links a b).symm)).symm
theorem sort_lots (l : List (List Int)) : sortD (l.map lotD) = (srtL l).map lotD :=
  (List.map_mergeSort (fun a _ b _ => (le_lots a b).symm)).symm
/-- sorting and leaving out may be exchanged -/
theorem sort_filter {α : Type} {le : α → α → Bool} (tr : ∀ a b c, le a b = true → le b c = true → le a c = true) (to : ∀ a b, (le a b || le b a) = true) (an : ∀ a b, le a b = true → le b a = true → a = b) (p : α → Bool) (l : List α) :
    (l.mergeSort le).filter p = (l.filter p).mergeSort le := by
  refine List.Perm.eq_of_pairwise (le := fun a b => le a b = true) (fun a b _ _ h1 h2 => an a b h1 h2) ?_ ?_ ?_
  · exact (List.pairwise_mergeSort tr to l).filter _
  · exact List.pairwise_mergeSort tr to _
  · exact ((List.mergeSort_perm l le).filter p).trans (List.mergeSort_perm _ le).symm
theorem srtL_filter (p : List Int → Bool) (l : List (List Int)) : (srtL l).filter p = srtL (l.filter p) := sort_filter tr_L to_L an_L p l
theorem srt_mem {α : Type} {le : α → α → Bool} {l : List α} {a : α} : a ∈ l.mergeSort le ↔ a ∈ l := List.mem_mergeSort
/-! ### may be sorted -/
theorem sb_ints (l : List Int) : sortB (l.map PyData.int) = true := by
  unfold sortB
  simp only [List.all_map, Bool.and_eq_true, List.all_eq_true, Bool.or_eq_true, Function.comp]
  refine ⟨⟨fun a _ b _ => by simp [PySem.W.alike], .inr fun a _ => by simp⟩, fun a _ => by simp [PyData.depth]⟩
theorem sb_links (l : List (Int × Int)) : sortB (l.map lkD) = true := by
  unfold sortB
  simp only [List.all_map, Bool.and_eq_true, List.all_eq_true, Bool.or_eq_true, Function.comp]
  refine ⟨⟨fun a _ b _ => by simp [PySem.W.alike, PySem.W.alikeAll], .inl fun a _ => by simp⟩, fun a _ => by simp [PyData.depth, PyData.depthAll]⟩
theorem sb_lots (l : List (List Int)) (h : ∀ x ∈ l, x ≠ []) : sortB (l.map lotD) = true := by
  unfold sortB
  simp only [List.all_map, Bool.and_eq_true, List.all_eq_true, Bool.or_eq_true, Function.comp]
  refine ⟨⟨fun a _ b _ => ?_, .inl fun a ha => ?_⟩, fun a _ => ?_⟩
  · simp [PySem.W.alike, PySem.W.alike_ints]
  · cases a with
    | nil => exact absurd rfl (h _ ha)
    | cons x r => rfl
  · simp [PyData.depth, PySem.W.depth_ints]
theorem gSorted_ints (l : List Int) : gSorted (.list (l.map PyData.int)) = some (.o (.list ((srtI l).map PyData.int))) := by
  show (if sortB (l.map PyData.int) then some (Slot.o (.list (sortD (l.map PyData.int)))) else none) = _
  rw [sb_ints, sort_ints]
  rfl
theorem gSorted_links (l : List (Int × Int)) : gSorted (.list (l.map lkD)) = some (.o (.list ((srtK l).map lkD))) := by
  show (if sortB (l.map lkD) then some (Slot.o (.list (sortD (l.map lkD)))) else none) = _
  rw [sb_links, sort_links]
  rfl
theorem gSorted_lots (l : List (List Int)) (h : ∀ x ∈ l, x ≠ []) : gSorted (.list (l.map lotD)) = some (.o (.list ((srtL l).map lotD))) := by
  show (if sortB (l.map lotD) then some (Slot.o (.list (sortD (l.map lotD)))) else none) = _
  rw [sb_lots l h, sort_lots]
  rfl
/-! ### the least -/
theorem ab_ints (l : List Int) : alikeB (l.map PyData.int) = true := by
  unfold alikeB
  simp only [List.all_map, Bool.and_eq_true, List.all_eq_true, Function.comp, decide_eq_true_eq]
  refine ⟨⟨fun a _ b _ => by simp [PySem.W.alike], fun a _ => rfl⟩, ?_⟩
  rw [PySem.W.depth_ints]
  omega
/-- the least of a list (0 of none) -/
def leastI : List Int → Int
  | [] => 0
  | a :: l => l.foldl min a
theorem gMin_ints {l : List Int} (h : l ≠ []) : gMin (.list (l.map PyData.int)) = some (.v (.int (leastI l))) := by
  cases l with
  | nil => exact absurd rfl h
  | cons a l =>
    show (if alikeB ((a :: l).map PyData.int) then some (Slot.v (PySem.W.minD (.int a) (l.map PyData.int))) else none) = _
    rw [ab_ints, PySem.W.minD_ints]
    rfl
theorem fold_min_le : ∀ (l : List Int) (a : Int), l.foldl min a ≤ a ∧ (∀ x ∈ l, l.foldl min a ≤ x) ∧ (l.foldl min a = a ∨ l.foldl min a ∈ l)
  | [], a => ⟨Int.le_refl _, fun x hx => (nomatch hx), .inl rfl⟩
  | b :: l, a => by
    obtain ⟨h1, h2, h3⟩ := fold_min_le l (min a b)
    rw [List.foldl_cons]
    refine ⟨Int.le_trans h1 (Int.min_le_left a b), fun x hx => ?_, ?_⟩
    · rcases List.mem_cons.mp hx with e | e
      · rw [e]
        exact Int.le_trans h1 (Int.min_le_right a b)
      · exact h2 x e
    · rcases h3 with e | e
      · rcases Int.le_total a b with z | z
        · rw [Int.min_eq_left z] at e ⊢
          exact .inl e
        · rw [Int.min_eq_right z] at e ⊢
          exact .inr (List.mem_cons.mpr (.inl e))
      · exact .inr (List.mem_cons_of_mem _ e)
theorem leastI_le {l : List Int} {x : Int} (h : x ∈ l) : leastI l ≤ x := by
  cases l with
  | nil => cases h
  | cons a l =>
    obtain ⟨h1, h2, _⟩ := fold_min_le l a
    rcases List.mem_cons.mp h with e | e
    · rw [e]
      exact h1
    · exact h2 x e
theorem leastI_mem {l : List Int} (h : l ≠ []) : leastI l ∈ l := by
  cases l with
  | nil => exact absurd rfl h
  | cons a l =>
    obtain ⟨_, _, h3⟩ := fold_min_le l a
    rcases h3 with e | e
    · show l.foldl min a ∈ _
      rw [e]
      exact List.mem_cons_self
    · exact List.mem_cons_of_mem _ e
/-! ### small steps -/
theorem at0 (a : PyData) (r : List PyData) : gIx (.tuple (a :: r)) (.int 0) = some (.v a) := by
  simp [gIx, atI, ixN]
theorem at1 (a b : PyData) (r : List PyData) : gIx (.tuple (a :: b :: r)) (.int 1) = some (.v b) := by
  have : (1 : Int) < (r.length : Int) + 1 + 1 := by omega
  simp [gIx, atI, ixN, this]
theorem gTuple_list (ds : List PyData) : gTuple (.list ds) = some (.v (.tuple ds)) := rfl
theorem gLen_list (ds : List PyData) : gLen (.list ds) = some (.v (.int (ds.length : Nat))) := rfl
theorem gLen_tup (ds : List PyData) : gLen (.tuple ds) = some (.v (.int (ds.length : Nat))) := rfl
theorem gAdd_int (a b : Int) : gAdd (.int a) (.int b) = some (.v (.int (a + b))) := rfl
theorem gSub_int (a b : Int) : gSub (.int a) (.int b) = some (.v (.int (a - b))) := rfl
theorem gAdd_list {a b : List PyData} (h : a.length + b.length ≤ 16777216) : gAdd (.list a) (.list b) = some (.o (.list (a ++ b))) := by
  show (if okLen (a.length + b.length) then some (Slot.o (.list (a ++ b))) else none) = _
  rw [okLen_of h]
  rfl
theorem gAdd_tup {a b : List PyData} (h : a.length + b.length ≤ 16777216) : gAdd (.tuple a) (.tuple b) = some (.v (.tuple (a ++ b))) := by
  show (if okLen (a.length + b.length) then some (Slot.v (.tuple (a ++ b))) else none) = _
  rw [okLen_of h]
  rfl
theorem rgOk_of {a b : Int} (h1 : -16777216 ≤ a) (h2 : a ≤ 16777216) (h3 : -16777216 ≤ b) (h4 : b ≤ 16777216) (h5 : b - a ≤ 16777216) : rgOk a b = true := by
  unfold rgOk
  simp [h1, h2, h3, h4, h5]
theorem gLt_int (a b : Int) : gLt (.int a) (.int b) = some (.v (.bool (decide (a < b)))) := rfl
theorem gGt_int (a b : Int) : gGt (.int a) (.int b) = some (.v (.bool (decide (b < a)))) := rfl
theorem gLe_int (a b : Int) : gLe (.int a) (.int b) = some (.v (.bool (decide (a ≤ b)))) := rfl
theorem gGe_int (a b : Int) : gGe (.int a) (.int b) = some (.v (.bool (decide (b ≤ a)))) := rfl
theorem gEq_lot (a b : List Int) : gEq (lotD a) (lotD b) = some (.v (.bool (decide (a = b)))) := by
  have := gEq_toD (α := PySem.W.Tup Int) (by decide) ⟨a⟩ ⟨b⟩
  rw [show decide (a = b) = decide ((⟨a⟩ : PySem.W.Tup Int) = ⟨b⟩) from decide_eq_decide.mpr ⟨fun e => by rw [e], fun e => by cases e; rfl⟩]
  exact this
theorem gNe_lot (a b : List Int) : gNe (lotD a) (lotD b) = some (.v (.bool (!decide (a = b)))) := by
  have := gNe_toD (α := PySem.W.Tup Int) (by decide) ⟨a⟩ ⟨b⟩
  rw [show decide (a = b) = decide ((⟨a⟩ : PySem.W.Tup Int) = ⟨b⟩) from decide_eq_decide.mpr ⟨fun e => by rw [e], fun e => by cases e; rfl⟩]
  exact this
theorem gIn_lot (neg : Bool) (a : List Int) (xs : List (List Int)) : gIn neg (lotD a) (.list (xs.map lotD)) = some (.v (.bool (neg.xor (decide (a ∈ xs))))) := by
  have := gIn_list (α := PySem.W.Tup Int) (by decide) neg ⟨a⟩ (xs.map PySem.W.Tup.mk)
  rw [List.map_map] at this
  rw [show decide (a ∈ xs) = decide ((⟨a⟩ : PySem.W.Tup Int) ∈ xs.map PySem.W.Tup.mk) from decide_eq_decide.mpr (by
    rw [List.mem_map]
    exact ⟨fun e => ⟨a, e, rfl⟩, fun ⟨b, e1, e2⟩ => by cases e2; exact e1⟩)]
  exact this
theorem gIn_ilist (neg : Bool) (a : List Int) (xs : List (List Int)) : gIn neg (.list (a.map PyData.int)) (.list (xs.map fun l => .list (l.map PyData.int))) = some (.v (.bool (neg.xor (decide (a ∈ xs))))) := (gIn_list (α := List Int) (by decide) neg a xs).trans (by congr)
theorem gNe_ilist (a b : List Int) : gNe (.list (a.map PyData.int)) (.list (b.map PyData.int)) = some (.v (.bool (!decide (a = b)))) := gNe_toD (α := List Int) (by decide) a b
/-! ### for, over typed items -/
theorem forGo_fold {α β : Type} {g : PyData → S → Option S} {m : S → RS} (φ : α → PyData) (f : β → α → β) (Rel : β → S → Prop) : ∀ (xs : List α) (b : β) (st : S),
    (∀ x ∈ xs, ∀ b st, Rel b st → ∃ st1 st2, g (φ x) st = some st1 ∧ (m st1 = .nx st2 ∨ m st1 = .ct st2) ∧ Rel (f b x) st2) → Rel b st → ∃ st', forGo g m (xs.map φ) st = .nx st' ∧ Rel (xs.foldl f b) st'
  | [], b, st, _, h => ⟨st, rfl, h⟩
  | x :: xs, b, st, k, h => by
    obtain ⟨st1, st2, h1, h2, h3⟩ := k x List.mem_cons_self b st h
    obtain ⟨st', h4, h5⟩ := forGo_fold φ f Rel xs (f b x) st2 (fun y hy => k y (List.mem_cons_of_mem _ hy)) h3
    refine ⟨st', ?_, h5⟩
    rw [List.map_cons]
    unfold forGo
    rw [h1]
    rcases h2 with h2 | h2
    · simp only [h2]
      exact h4
    · simp only [h2]
      exact h4
end Pd
end
set_option linter.all false
set_option maxRecDepth 100000
/-! Pd, part V: the law's picks (the second kind). -/
noncomputable section
namespace Pd
open PySem PySem.Spec PyProof.Rows L2
section
variable {st : S} {mo mc : S → R Slot} {mv : S → R PyData}
theorem v_GetS (p : Src → Int) : mGetS p mo st = (match mo st with
  | .ok .src st1 => match st1.src with
    | some s => .ok (.v (.int (p s))) st1
    | none => .bad
  | _ => .bad) := rfl
theorem v_Cel : mCel mo st = (match mo st with
  | .ok .src st1 => match st1.src with
    | some s => .ok .cel st1
    | none => .bad
  | _ => .bad) := rfl
theorem v_CelLen : mCelLen mo st = (match mo st with
  | .ok .cel st1 => match st1.src with
    | some s => .ok (.v (.int s.cells.length)) st1
    | none => .bad
  | _ => .bad) := rfl
theorem v_CelPop : mCelPop mo st = (match mo st with
  | .ok .cel st1 => match st1.src with
    | some s => match s.cells[s.cells.length - 1]? with
      | some n => .ok (.v (.int n)) { st1 with src := some { s with cells := s.cells.dropLast } }
      | none => .bad
    | none => .bad
  | _ => .bad) := rfl
theorem v_PutS (u : Int → Src → Src) : sPutS u mo mv st = (match mv st with
  | .ok (.int n) st1 => match mo st1 with
    | .ok .src st2 => match st2.src with
      | some s => .nx { st2 with src := some (u n s) }
      | none => .bad
    | _ => .bad
  | _ => .bad) := rfl
end
theorem gInt_int (a : Int) : gInt (.int a) = some (.v (.int a)) := rfl
theorem gDiv_int {a b : Int} (h1 : 0 < b) (h2 : b < 1073741824) : gDiv (.int a) (.int b) = some (.v (.int (a / b))) := by
  show (if decide (0 < b) && decide (b < 1073741824) then some (Slot.v (.int (a / b))) else none) = _
  simp [h1, h2]
theorem gMod_int {a b : Int} (h1 : 0 < b) : gMod (.int a) (.int b) = some (.v (.int (a % b))) := by
  show (if decide (0 < b) then some (Slot.v (.int (a % b))) else none) = _
  simp [h1]
theorem gMul_int {a b : Int} (h : mulOk a b = true) : gMul (.int a) (.int b) = some (.v (.int (a * b))) := by
  show (if mulOk a b then some (Slot.v (.int (a * b))) else none) = _
  simp [h]
theorem mulOk_r {a b : Int} (h1 : -(2 ^ 64) < b) (h2 : b < 2 ^ 64) : mulOk a b = true := by
  unfold mulOk
  simp only [Bool.or_eq_true, Bool.and_eq_true, decide_eq_true_eq]
  omega
theorem mulOk_l {a b : Int} (h1 : -(2 ^ 64) < a) (h2 : a < 2 ^ 64) : mulOk a b = true := by
  unfold mulOk
  simp only [Bool.or_eq_true, Bool.and_eq_true, decide_eq_true_eq]
  omega
def pick2 : S → RS := (sSeq (sIf (mB (m2 gLt (mPk 1) (mO (mC (.int 2))))) (sRet (mC (.int 0))) sNil)
  (sSeq (sSet 2 (mCel (mVar 0)))
  (sSeq (sWhile (mAnd (mB (m2 gLt (mO (mGetS Src.left (mVar 0))) (mO (mC (.int 2))))) (mB (m2 gGt (mO (mCelLen (mVar 2))) (mO (mC (.int 0)))))) (sPutS uLeft (mVar 0) (mF (mCelPop (mVar 2)))))
  (sSeq (sSet 3 (mGetS Src.left (mVar 0)))
  (sSeq (sIf (mB (m2 gGt (mPk 3) (mO (mC (.int 1))))) (sSeq (sPutS uLeft (mVar 0) (mF (m2 gDiv (mPk 3) (mPk 1))))
  (sRet (m2 gMod (mO (m1 gInt (mPk 3))) (mPk 1)))) sNil)
  (sSeq (sPutS uTurn (mVar 0) (mF (m2 gAdd (mO (mGetS Src.turn (mVar 0))) (mO (mC (.int 1))))))
  (sSeq (sSet 4 (mGetS Src.turn (mVar 0)))
  (sSeq (sSet 5 (m2 gMod (mO (m1 gInt (mO (m2 gAdd (mO (mGetS Src.mixed (mVar 0))) (mO (m2 gMul (mPk 4) (mO (mC (.int 104729))))))))) (mO (mC (.int 998244353)))))
  (sSeq (sSet 5 (m2 gMod (mO (m1 gInt (mO (m2 gAdd (mO (m2 gMul (mPk 5) (mPk 5))) (mO (m2 gMul (mPk 4) (mO (mC (.int 17))))))))) (mO (mC (.int 2147483647)))))
  (sRet (m2 gMod (mO (m1 gInt (mO (m2 gDiv (mPk 5) (mO (mC (.int 16))))))) (mPk 1))))))))))))
def wC : S → R Bool := (mAnd (mB (m2 gLt (mO (mGetS Src.left (mVar 0))) (mO (mC (.int 2))))) (mB (m2 gGt (mO (mCelLen (mVar 2))) (mO (mC (.int 0))))))
def wB : S → RS := (sPutS uLeft (mVar 0) (mF (mCelPop (mVar 2))))
theorem pick2_while (m : Int) : ∀ (k : Nat) (s : Src), s.cells.length = k → ∃ s', sWhile wC wB ⟨[.src, .v (.int m), .cel, .no, .no, .no], some s⟩ = .nx ⟨[.src, .v (.int m), .cel, .no, .no, .no], some s'⟩
  | 0, s, h => by
    refine ⟨s, ?_⟩
    have p0 : (0 : Int) < ((0 : Nat) : Int) ↔ False := by decide
    have c1 : wC ⟨[.src, .v (.int m), .cel, .no, .no, .no], some s⟩ = .ok false ⟨[.src, .v (.int m), .cel, .no, .no, .no], some s⟩ := by
      unfold wC
      by_cases z : s.left < 2
      · simp only [v_GetS, v_Cel, v_CelLen, v_CelPop, v_PutS, v_C, v_Var, v_Mv, v_Pk, v_O, v_F, v_B, v_m1, v_m2, still_v, still_t, still_s, d_v, d_t, d_s, v_Seq, v_Nil, v_If, v_Set, v_Ret, v_Drop, v_Asg, v_Par2, v_Par3, v_And, v_Or, v_Not, v_IfE, v_Yes, v_nil, v_cons, v_tup, v_lst, v_N, v_Nl, v_Cn, v_Tp, v_TpL, v_jSeq, v_jEnum, v_jRg, v_jRg2, v_For, v_Call, v_xNil, v_xCons, v_xSrc, v_Mut, S.wipe, wipeS, S.rest, restS, backS, List.set_cons_zero, List.set_cons_succ, List.getElem?_cons_zero, List.getElem?_cons_succ, List.any_cons, List.any_nil, Slot.isSrc, if_true, Bool.or_false, Bool.false_or, Bool.or_true, Bool.true_or, true_or, or_true, List.length_cons, List.length_nil, Bool.false_eq_true, if_false, reduceIte, reduceCtorEq, gLt_int, gGt_int, h, z, decide_true, decide_false, p0]
      · simp only [v_GetS, v_Cel, v_CelLen, v_CelPop, v_PutS, v_C, v_Var, v_Mv, v_Pk, v_O, v_F, v_B, v_m1, v_m2, still_v, still_t, still_s, d_v, d_t, d_s, v_Seq, v_Nil, v_If, v_Set, v_Ret, v_Drop, v_Asg, v_Par2, v_Par3, v_And, v_Or, v_Not, v_IfE, v_Yes, v_nil, v_cons, v_tup, v_lst, v_N, v_Nl, v_Cn, v_Tp, v_TpL, v_jSeq, v_jEnum, v_jRg, v_jRg2, v_For, v_Call, v_xNil, v_xCons, v_xSrc, v_Mut, S.wipe, wipeS, S.rest, restS, backS, List.set_cons_zero, List.set_cons_succ, List.getElem?_cons_zero, List.getElem?_cons_succ, List.any_cons, List.any_nil, Slot.isSrc, if_true, Bool.or_false, Bool.false_or, Bool.or_true, Bool.true_or, true_or, or_true, List.length_cons, List.length_nil, Bool.false_eq_true, if_false, reduceIte, reduceCtorEq, gLt_int, gGt_int, h, z, decide_true, decide_false, p0]
    rw [sWhile_turn, c1]
  | k + 1, s, h => by
    rw [sWhile_turn]
    by_cases z : s.left < 2
    · have hk : s.cells.length - 1 < s.cells.length := by omega
      have e : s.cells[s.cells.length - 1]? = some s.cells[s.cells.length - 1] := List.getElem?_eq_getElem hk
      obtain ⟨s', h'⟩ := pick2_while m k (uLeft s.cells[s.cells.length - 1] { s with cells := s.cells.dropLast }) (by
        show s.cells.dropLast.length = k
        rw [List.length_dropLast, h]
        rfl)
      refine ⟨s', ?_⟩
      have pos : (0 : Int) < (s.cells.length : Int) := by omega
      have c1 : wC ⟨[.src, .v (.int m), .cel, .no, .no, .no], some s⟩ = .ok true ⟨[.src, .v (.int m), .cel, .no, .no, .no], some s⟩ := by
        unfold wC
        simp only [v_GetS, v_Cel, v_CelLen, v_CelPop, v_PutS, v_C, v_Var, v_Mv, v_Pk, v_O, v_F, v_B, v_m1, v_m2, still_v, still_t, still_s, d_v, d_t, d_s, v_Seq, v_Nil, v_If, v_Set, v_Ret, v_Drop, v_Asg, v_Par2, v_Par3, v_And, v_Or, v_Not, v_IfE, v_Yes, v_nil, v_cons, v_tup, v_lst, v_N, v_Nl, v_Cn, v_Tp, v_TpL, v_jSeq, v_jEnum, v_jRg, v_jRg2, v_For, v_Call, v_xNil, v_xCons, v_xSrc, v_Mut, S.wipe, wipeS, S.rest, restS, backS, List.set_cons_zero, List.set_cons_succ, List.getElem?_cons_zero, List.getElem?_cons_succ, List.any_cons, List.any_nil, Slot.isSrc, if_true, Bool.or_false, Bool.false_or, Bool.or_true, Bool.true_or, true_or, or_true, List.length_cons, List.length_nil, Bool.false_eq_true, if_false, reduceIte, reduceCtorEq, gLt_int, gGt_int, z, decide_true, pos]
      have c2 : wB ⟨[.src, .v (.int m), .cel, .no, .no, .no], some s⟩ = .nx ⟨[.src, .v (.int m), .cel, .no, .no, .no], some (uLeft s.cells[s.cells.length - 1] { s with cells := s.cells.dropLast })⟩ := by
        unfold wB
        simp only [v_GetS, v_Cel, v_CelLen, v_CelPop, v_PutS, v_C, v_Var, v_Mv, v_Pk, v_O, v_F, v_B, v_m1, v_m2, still_v, still_t, still_s, d_v, d_t, d_s, v_Seq, v_Nil, v_If, v_Set, v_Ret, v_Drop, v_Asg, v_Par2, v_Par3, v_And, v_Or, v_Not, v_IfE, v_Yes, v_nil, v_cons, v_tup, v_lst, v_N, v_Nl, v_Cn, v_Tp, v_TpL, v_jSeq, v_jEnum, v_jRg, v_jRg2, v_For, v_Call, v_xNil, v_xCons, v_xSrc, v_Mut, S.wipe, wipeS, S.rest, restS, backS, List.set_cons_zero, List.set_cons_succ, List.getElem?_cons_zero, List.getElem?_cons_succ, List.any_cons, List.any_nil, Slot.isSrc, if_true, Bool.or_false, Bool.false_or, Bool.or_true, Bool.true_or, true_or, or_true, List.length_cons, List.length_nil, Bool.false_eq_true, if_false, reduceIte, reduceCtorEq, e]
      rw [c1]
      simp only [c2]
      exact h'
    · refine ⟨s, ?_⟩
      have c1 : wC ⟨[.src, .v (.int m), .cel, .no, .no, .no], some s⟩ = .ok false ⟨[.src, .v (.int m), .cel, .no, .no, .no], some s⟩ := by
        unfold wC
        simp only [v_GetS, v_Cel, v_CelLen, v_CelPop, v_PutS, v_C, v_Var, v_Mv, v_Pk, v_O, v_F, v_B, v_m1, v_m2, still_v, still_t, still_s, d_v, d_t, d_s, v_Seq, v_Nil, v_If, v_Set, v_Ret, v_Drop, v_Asg, v_Par2, v_Par3, v_And, v_Or, v_Not, v_IfE, v_Yes, v_nil, v_cons, v_tup, v_lst, v_N, v_Nl, v_Cn, v_Tp, v_TpL, v_jSeq, v_jEnum, v_jRg, v_jRg2, v_For, v_Call, v_xNil, v_xCons, v_xSrc, v_Mut, S.wipe, wipeS, S.rest, restS, backS, List.set_cons_zero, List.set_cons_succ, List.getElem?_cons_zero, List.getElem?_cons_succ, List.any_cons, List.any_nil, Slot.isSrc, if_true, Bool.or_false, Bool.false_or, Bool.or_true, Bool.true_or, true_or, or_true, List.length_cons, List.length_nil, Bool.false_eq_true, if_false, reduceIte, reduceCtorEq, gLt_int, gGt_int, z, decide_true, decide_false]
      rw [c1]
theorem pick2_is (m : Int) (hm : m < 1073741824) (s : Src) : ∃ r s', gOf 6 pick2 [.src, .v (.int m)] (some s) = some (.v (.int r), some s') ∧ 0 ≤ r ∧ (2 ≤ m → r < m) ∧ (m < 2 → r = 0) := by
  by_cases z : m < 2
  · refine ⟨0, s, g_of (ss := [.src, .v (.int m), .no, .no, .no, .no]) (ss' := [.src, .v (.int m), .no, .no, .no, .no]) rfl ?_, Int.le_refl _, fun h => absurd z (by omega), fun _ => rfl⟩
    unfold pick2
    simp only [v_GetS, v_Cel, v_CelLen, v_CelPop, v_PutS, v_C, v_Var, v_Mv, v_Pk, v_O, v_F, v_B, v_m1, v_m2, still_v, still_t, still_s, d_v, d_t, d_s, v_Seq, v_Nil, v_If, v_Set, v_Ret, v_Drop, v_Asg, v_Par2, v_Par3, v_And, v_Or, v_Not, v_IfE, v_Yes, v_nil, v_cons, v_tup, v_lst, v_N, v_Nl, v_Cn, v_Tp, v_TpL, v_jSeq, v_jEnum, v_jRg, v_jRg2, v_For, v_Call, v_xNil, v_xCons, v_xSrc, v_Mut, S.wipe, wipeS, S.rest, restS, backS, List.set_cons_zero, List.set_cons_succ, List.getElem?_cons_zero, List.getElem?_cons_succ, List.any_cons, List.any_nil, Slot.isSrc, if_true, Bool.or_false, Bool.false_or, Bool.or_true, Bool.true_or, true_or, or_true, List.length_cons, List.length_nil, Bool.false_eq_true, if_false, reduceIte, reduceCtorEq, gLt_int, z, decide_true]
  · have m0 : 0 < m := by omega
    obtain ⟨s1, hw⟩ := pick2_while m _ s rfl
    unfold wC wB at hw
    by_cases o : 1 < s1.left
    · refine ⟨s1.left % m, uLeft (s1.left / m) s1, g_of (ss := [.src, .v (.int m), .no, .no, .no, .no]) (ss' := [.src, .v (.int m), .cel, .v (.int s1.left), .no, .no]) rfl ?_, Int.emod_nonneg _ (by omega), fun _ => Int.emod_lt_of_pos _ m0, fun h => absurd h z⟩
      unfold pick2
      simp only [v_GetS, v_Cel, v_CelLen, v_CelPop, v_PutS, v_C, v_Var, v_Mv, v_Pk, v_O, v_F, v_B, v_m1, v_m2, still_v, still_t, still_s, d_v, d_t, d_s, v_Seq, v_Nil, v_If, v_Set, v_Ret, v_Drop, v_Asg, v_Par2, v_Par3, v_And, v_Or, v_Not, v_IfE, v_Yes, v_nil, v_cons, v_tup, v_lst, v_N, v_Nl, v_Cn, v_Tp, v_TpL, v_jSeq, v_jEnum, v_jRg, v_jRg2, v_For, v_Call, v_xNil, v_xCons, v_xSrc, v_Mut, S.wipe, wipeS, S.rest, restS, backS, List.set_cons_zero, List.set_cons_succ, List.getElem?_cons_zero, List.getElem?_cons_succ, List.any_cons, List.any_nil, Slot.isSrc, if_true, Bool.or_false, Bool.false_or, Bool.or_true, Bool.true_or, true_or, or_true, List.length_cons, List.length_nil, Bool.false_eq_true, if_false, reduceIte, reduceCtorEq, gLt_int, gGt_int, z, decide_false, hw, o, decide_true, gDiv_int m0 hm, gMod_int m0, gInt_int]
    · have q1 : (0 : Int) < 998244353 := by decide
      have q2 : (0 : Int) < 2147483647 := by decide
      have q3 : (0 : Int) < 16 := by decide
      have q4 : (16 : Int) < 1073741824 := by decide
      have a1 := Int.emod_nonneg (s1.mixed + (s1.turn + 1) * 104729) (show (998244353 : Int) ≠ 0 by decide)
      have a2 := Int.emod_lt_of_pos (s1.mixed + (s1.turn + 1) * 104729) q1
      have mm := mulOk_l (a := (s1.mixed + (s1.turn + 1) * 104729) % 998244353) (b := (s1.mixed + (s1.turn + 1) * 104729) % 998244353) (by omega) (by omega)
      refine ⟨((((s1.mixed + (s1.turn + 1) * 104729) % 998244353) * ((s1.mixed + (s1.turn + 1) * 104729) % 998244353) + (s1.turn + 1) * 17) % 2147483647 / 16) % m, uTurn (s1.turn + 1) s1, g_of (ss := [.src, .v (.int m), .no, .no, .no, .no]) (ss' := [.src, .v (.int m), .cel, .v (.int s1.left), .v (.int (s1.turn + 1)), .v (.int ((((s1.mixed + (s1.turn + 1) * 104729) % 998244353) * ((s1.mixed + (s1.turn + 1) * 104729) % 998244353) + (s1.turn + 1) * 17) % 2147483647))]) rfl ?_, Int.emod_nonneg _ (by omega), fun _ => Int.emod_lt_of_pos _ m0, fun h => absurd h z⟩
      unfold pick2
      simp only [v_GetS, v_Cel, v_CelLen, v_CelPop, v_PutS, v_C, v_Var, v_Mv, v_Pk, v_O, v_F, v_B, v_m1, v_m2, still_v, still_t, still_s, d_v, d_t, d_s, v_Seq, v_Nil, v_If, v_Set, v_Ret, v_Drop, v_Asg, v_Par2, v_Par3, v_And, v_Or, v_Not, v_IfE, v_Yes, v_nil, v_cons, v_tup, v_lst, v_N, v_Nl, v_Cn, v_Tp, v_TpL, v_jSeq, v_jEnum, v_jRg, v_jRg2, v_For, v_Call, v_xNil, v_xCons, v_xSrc, v_Mut, S.wipe, wipeS, S.rest, restS, backS, List.set_cons_zero, List.set_cons_succ, List.getElem?_cons_zero, List.getElem?_cons_succ, List.any_cons, List.any_nil, Slot.isSrc, if_true, Bool.or_false, Bool.false_or, Bool.or_true, Bool.true_or, true_or, or_true, List.length_cons, List.length_nil, Bool.false_eq_true, if_false, reduceIte, reduceCtorEq, gLt_int, gGt_int, z, decide_false, hw, o, decide_true, gDiv_int q3 q4, gMod_int m0, gMod_int q1, gMod_int q2, gInt_int, gAdd_int, gMul_int mm, gMul_int (mulOk_r (a := s1.turn + 1) (b := 104729) (by decide) (by decide)), gMul_int (mulOk_r (a := s1.turn + 1) (b := 17) (by decide) (by decide)), uTurn]
end Pd
end
section
set_option linter.all false
set_option maxRecDepth 100000
/-! Pd, part W: what repr takes. -/
namespace Pd
open PySem PySem.Spec PyProof.Rows L2
structure Sh (k w : Nat) (d : PyData) : Prop where
  lay : PyData.canLay0 d = true
  short : PyData.intsShort 13 d = true
  sh : PyData.showable d = true
  dep : PyData.depth d ≤ k
  wt : PyData.weight d ≤ w
  nd : PyData.hasDict d = false
theorem log_40 {m : Nat} (h : m < 2 ^ 40) : m.log2 < 40 := by
  by_cases z : m = 0
  · subst z
    decide
  · exact (Nat.log2_lt z).mpr h
theorem Sh.int {i : Int} (h1 : -999999999999 ≤ i) (h2 : i ≤ 999999999999) : Sh 0 40 (.int i) := by
  have h3 := log_40 (m := i.natAbs) (by
    have : (2 : Nat) ^ 40 = 1099511627776 := by decide
    omega)
  refine ⟨by simp [PyData.canLay0], ?_, ?_, by simp [PyData.depth], ?_, by simp [PyData.hasDict]⟩
  · simp only [PyData.intsShort, decide_eq_true_eq]
    exact PyData.shown_int_le2 h1 h2
  · simp only [PyData.showable, decide_eq_true_eq]
    omega
  · simp only [PyData.weight]
    split
    · omega
    · omega
theorem Sh.all {k w : Nat} : ∀ {xs : List PyData}, (∀ x ∈ xs, Sh k w x) → PyData.canLayAll0 xs = true ∧ PyData.intsShortAll 13 xs = true ∧ PyData.showableAll xs = true ∧ PyData.depthAll xs ≤ k ∧ PyData.weightAll xs ≤ xs.length * (w + 1) ∧ PyData.hasDictAll xs = false
  | [], _ => by simp [PyData.canLayAll0, PyData.intsShortAll, PyData.showableAll, PyData.depthAll, PyData.weightAll, PyData.hasDictAll]
  | x :: xs, h => by
    have hx := h x List.mem_cons_self
    obtain ⟨a, b, c, d, e, f⟩ := Sh.all (xs := xs) fun y hy => h y (List.mem_cons_of_mem _ hy)
    refine ⟨?_, ?_, ?_, ?_, ?_, ?_⟩
    · rw [PyData.canLayAll0, hx.lay, a]
      rfl
    · rw [PyData.intsShortAll, hx.short, b]
      rfl
    · rw [PyData.showableAll, hx.sh, c]
      rfl
    · rw [PyData.depthAll]
      exact Nat.max_le.mpr ⟨hx.dep, d⟩
    · rw [PyData.weightAll, List.length_cons, Nat.add_mul]
      have := hx.wt
      omega
    · rw [PyData.hasDictAll, hx.nd, f]
      rfl
theorem Sh.tup {k w m : Nat} {xs : List PyData} (h : ∀ x ∈ xs, Sh k w x) (hm : xs.length * (w + 1) ≤ m) : Sh (k + 1) m (.tuple xs) := by
  obtain ⟨a, b, c, d, e, f⟩ := Sh.all h
  refine ⟨by rw [PyData.canLay0]; exact a, by rw [PyData.intsShort]; exact b, by rw [PyData.showable]; exact c, ?_, ?_, by rw [PyData.hasDict]; exact f⟩
  · rw [PyData.depth]
    omega
  · rw [PyData.weight]
    omega
theorem Sh.lst {k w m : Nat} {xs : List PyData} (h : ∀ x ∈ xs, Sh k w x) (hm : xs.length * (w + 1) ≤ m) : Sh (k + 1) m (.list xs) := by
  obtain ⟨a, b, c, d, e, f⟩ := Sh.all h
  refine ⟨by rw [PyData.canLay0]; exact a, by rw [PyData.intsShort]; exact b, by rw [PyData.showable]; exact c, ?_, ?_, by rw [PyData.hasDict]; exact f⟩
  · rw [PyData.depth]
    omega
  · rw [PyData.weight]
    omega
theorem Sh.more {k w k' w' : Nat} {d : PyData} (h : Sh k w d) (hk : k ≤ k') (hw : w ≤ w') : Sh k' w' d := ⟨h.lay, h.short, h.sh, Nat.le_trans h.dep hk, Nat.le_trans h.wt hw, h.nd⟩
theorem Sh.ok {k w : Nat} {d : PyData} (h : Sh k w d) (hk : k ≤ 60) (hw : w ≤ 1048576) : reprOk d = true := by
  have e : (2 : Nat) ^ 20 = 1048576 := by decide
  have l : PyData.layable0 d = true := by
    unfold PyData.layable0
    have h1 := h.dep
    have h2 := h.wt
    simp only [h.lay, Bool.true_and, Bool.and_eq_true, decide_eq_true_eq]
    omega
  have s := PyProof.Rows.shown_le13 l h.short
  have h1 := h.dep
  unfold reprOk
  rw [h.sh, h.nd, okLen_of (by omega)]
  simp
  omega
theorem gRepr_ok {k w : Nat} {d : PyData} (h : Sh k w d) (hk : k ≤ 60) (hw : w ≤ 1048576) : gRepr d = some (.v (.str d.shown)) := by
  unfold gRepr
  rw [h.ok hk hw]
  rfl
theorem Sh.lot {l : List Int} (h : ∀ x ∈ l, -999999999999 ≤ x ∧ x ≤ 999999999999) {m : Nat} (hm : l.length * 41 ≤ m) : Sh 1 m (lotD l) := Sh.tup (k := 0) (w := 40) (fun x hx => by
  obtain ⟨i, hi, rfl⟩ := List.mem_map.mp hx
  exact Sh.int (h i hi).1 (h i hi).2) (by rw [List.length_map]; exact hm)
end Pd
end
section
set_option linter.all false
set_option maxRecDepth 100000
/-! Pd, part X: dict(pairs). -/
namespace Pd
open PySem PySem.Spec PyProof.Rows L2
def keyOf : PyData → Option Key
  | .int i => some (.inl i)
  | .str x => some (.inr x)
  | _ => none
def pairsD : List PyData → Option (List (Key × PyData))
  | [] => some []
  | .tuple [k, v] :: r => match keyOf k with
    | some k' => match pairsD r with
      | some l => some ((k', v) :: l)
      | none => none
    | none => none
  | _ => none
def putD (kvs : List (Key × PyData)) (k : Key) (v : PyData) : List (Key × PyData) :=
  if (kvs.any fun kv => decide (kv.1 = k)) = true then kvs.map (fun kv => if kv.1 = k then (kv.1, v) else kv) else kvs ++ [(k, v)]
def mergeD (kvs more : List (Key × PyData)) : List (Key × PyData) := more.foldl (fun acc kv => putD acc kv.1 kv.2) kvs
def dictD (kvs : List (Key × PyData)) : PyData := .dict (kvs.map fun kv => (kD kv.1, kv.2))
def gDict : PyData → Option Slot
  | .list ds => match pairsD ds with
    | some kvs => some (.o (dictD (mergeD [] kvs)))
    | none => none
  | _ => none
inductive Pk (F : Hp) : List (Key × V) → List (Key × PyData) → Prop
  | nil : Pk F [] []
  | cons {k : Key} {v : V} {d : PyData} {ps : List (Key × V)} {l : List (Key × PyData)} : Rp F v d → Pk F ps l → Pk F ((k, v) :: ps) ((k, d) :: l)
theorem Pk.rp {F : Hp} : ∀ {ps : List (Key × V)} {l : List (Key × PyData)}, Pk F ps l → RpK F ps (l.map fun kv => (kD kv.1, kv.2))
  | _, _, .nil => .nil
  | _, _, .cons r t => .cons r (Pk.rp t)
theorem Pk.any {F : Hp} {k : Key} : ∀ {ps : List (Key × V)} {l : List (Key × PyData)}, Pk F ps l → (ps.any fun kv => decide (kv.1 = k)) = l.any fun kv => decide (kv.1 = k)
  | _, _, .nil => rfl
  | _, _, .cons r t => by rw [List.any_cons, List.any_cons, Pk.any t]
theorem Pk.set {F : Hp} {k : Key} {v : V} {d : PyData} (r : Rp F v d) : ∀ {ps : List (Key × V)} {l : List (Key × PyData)}, Pk F ps l → Pk F (ps.map fun kv => if kv.1 = k then (kv.1, v) else kv) (l.map fun kv => if kv.1 = k then (kv.1, d) else kv)
  | _, _, .nil => .nil
  | _, _, .cons (k := k') r' t => by
    rw [List.map_cons, List.map_cons]
    by_cases h : k' = k
    · rw [if_pos h, if_pos h]
      exact .cons r (Pk.set r t)
    · rw [if_neg h, if_neg h]
      exact .cons r' (Pk.set r t)
theorem Pk.snoc {F : Hp} {k : Key} {v : V} {d : PyData} (r : Rp F v d) : ∀ {ps : List (Key × V)} {l : List (Key × PyData)}, Pk F ps l → Pk F (ps ++ [(k, v)]) (l ++ [(k, d)])
  | _, _, .nil => .cons r .nil
  | _, _, .cons r' t => .cons r' (Pk.snoc r t)
theorem Pk.put {F : Hp} {k : Key} {v : V} {d : PyData} (r : Rp F v d) {ps : List (Key × V)} {l : List (Key × PyData)} (h : Pk F ps l) : Pk F (putK ps k v) (putD l k d) := by
  unfold putK putD
  rw [h.any]
  split
  · exact h.set r
  · exact h.snoc r
theorem Pk.merge {F : Hp} : ∀ {ps qs : List (Key × V)} {l m : List (Key × PyData)}, Pk F qs m → Pk F ps l → Pk F (mergeK ps qs) (mergeD l m)
  | _, _, _, _, .nil, h => h
  | _, _, _, _, .cons r t, h => by
    unfold mergeK mergeD
    rw [List.foldl_cons, List.foldl_cons]
    exact Pk.merge t (h.put r)
theorem keyOf_v {F : Hp} {v : V} {d : PyData} {k : Key} (r : Rp F v d) (e : keyOf d = some k) : v = kV k ∧ d = kD k := by
  cases d with
  | int i =>
    cases e
    cases r
    exact ⟨rfl, rfl⟩
  | str x =>
    cases e
    cases r
    exact ⟨rfl, rfl⟩
  | _ => cases e
theorem pairs_of_rp {K : PySem.W.Frag} {F : Hp} : ∀ {ds : List PyData} {xs : List V} {l : List (Key × PyData)}, RpL F xs ds → pairsD ds = some l → ∃ (ps : List Addr) (kvs : List (Key × V)), xs = ps.map V.ref ∧ Paired (fun p kv => SqT K F p [kV kv.1, kv.2]) ps kvs ∧ Pk F kvs l
  | [], _, l, h, e => by
    cases h
    cases e
    exact ⟨[], [], rfl, .nil, .nil⟩
  | d :: ds, _, l, h, e => by
    cases h with
    | cons r t =>
      unfold pairsD at e
      split at e
      · rename_i heq
        cases heq
      · rename_i k v rest heq
        obtain ⟨hd, tl⟩ := List.cons.inj heq
        subst hd
        subst tl
        cases qk : keyOf k with
        | none =>
          rw [qk] at e
          cases e
        | some k' =>
          cases ql : pairsD ds with
          | none =>
            rw [qk] at e
            simp only [ql] at e
            cases e
          | some l' =>
            rw [qk] at e
            simp only [ql] at e
            cases e
            cases r with
            | tup e1 r1 =>
              obtain ⟨u, w, rfl, ru, rw'⟩ := r1.two
              obtain ⟨ek, _⟩ := keyOf_v ru qk
              subst ek
              obtain ⟨ps, kvs, f1, f2, f3⟩ := pairs_of_rp (K := K) t ql
              exact ⟨_ :: ps, (k', w) :: kvs, by rw [f1]; rfl, .cons (.inl (.inl e1)) f2, .cons rw' f3⟩
      · cases e
theorem paired_mono {K : PySem.W.Frag} {F H : Hp} (s : Sub F H) : ∀ {ps : List Addr} {kvs : List (Key × V)}, Paired (fun p kv => SqT K F p [kV kv.1, kv.2]) ps kvs → Paired (fun p kv => SqT K H p [kV kv.1, kv.2]) ps kvs
  | _, _, .nil => .nil
  | _, _, .cons h t => .cons (by
      rcases h with (z | ⟨u, z⟩) | z
      · exact .inl (.inl (s _ _ z))
      · exact .inl (.inr ⟨u, s _ _ z⟩)
      · exact .inr z) (paired_mono s t)
section
variable {X : Cx}
theorem c_dict (hc : X.calm = true) : CD1 X (.type "dict") gDict := cd_ofR (call_dictP hc) fun F H x dx sl Q sb rx q k => by
  unfold gDict at q
  split at q
  · rename_i ds
    cases ql : pairsD ds with
    | none =>
      rw [ql] at q
      cases q
    | some l =>
      rw [ql] at q
      cases q
      obtain ⟨a, xs, rfl, e1, r1⟩ := rx.lst sb
      obtain ⟨ps, kvs, f1, f2, f3⟩ := pairs_of_rp (K := X.K) r1 ql
      subst f1
      exact ⟨a, ps, kvs, rfl, .inl (.inl e1), paired_mono sb f2, fun p hp => k _ _ _ (.o (.dK (Pk.merge f3 .nil).rp) hp)⟩
  · cases q
end
end Pd
end
set_option linter.all false
set_option maxRecDepth 100000
set_option maxHeartbeats 4000000
/-! Pd, part Y: tools for plain laws. -/
noncomputable section
namespace Pd
open PySem PySem.Spec PyProof.Rows L2
theorem forGo_foldN {α β : Type} {g : PyData → S → Option S} {m : S → RS} (φ : α → PyData) (f : β → α → β) (Rel : Nat → β → S → Prop) : ∀ (xs : List α) (n : Nat) (b : β) (st : S),
    (∀ i x, xs[i]? = some x → ∀ b st, Rel (n + i) b st → ∃ st1 st2, g (φ x) st = some st1 ∧ (m st1 = .nx st2 ∨ m st1 = .ct st2) ∧ Rel (n + i + 1) (f b x) st2) → Rel n b st → ∃ st', forGo g m (xs.map φ) st = .nx st' ∧ Rel (n + xs.length) (xs.foldl f b) st'
  | [], n, b, st, _, h => ⟨st, rfl, h⟩
  | x :: xs, n, b, st, k, h => by
    obtain ⟨st1, st2, h1, h2, h3⟩ := k 0 x rfl b st h
    obtain ⟨st', h4, h5⟩ := forGo_foldN φ f Rel xs (n + 1) (f b x) st2 (fun i y hy b st hr => by
      have e : n + 1 + i = n + (i + 1) := by omega
      rw [e] at hr
      obtain ⟨s1, s2, q1, q2, q3⟩ := k (i + 1) y (by simpa using hy) b st hr
      exact ⟨s1, s2, q1, q2, by rw [e]; exact q3⟩) h3
    refine ⟨st', ?_, by
      rw [List.length_cons, List.foldl_cons, show n + (xs.length + 1) = n + 1 + xs.length by omega]
      exact h5⟩
    rw [List.map_cons]
    unfold forGo
    rw [h1]
    rcases h2 with h2 | h2
    · simp only [h2]
      exact h4
    · simp only [h2]
      exact h4
section
variable {st : S} {m m' : S → R Slot} {mp : S → R Opd}
theorem v_AndV : mAndV m m' st = (match m st with
  | .ok (.v (.bool true)) st1 => m' st1
  | .ok (.v (.bool false)) st1 => .ok (.v (.bool false)) st1
  | _ => .bad) := by
  unfold mAndV
  rfl
theorem v_OrV : mOrV m m' st = (match m st with
  | .ok (.v (.bool false)) st1 => m' st1
  | .ok (.v (.bool true)) st1 => .ok (.v (.bool true)) st1
  | _ => .bad) := by
  unfold mOrV
  rfl
theorem v_NoP : mNoP st = .ok none st := rfl
theorem v_P : mP m st = (match m st with
  | .ok (.v (.int i)) st1 => .ok (some i) st1
  | _ => .bad) := rfl
open Classical in
theorem v_Sl {l h : S → R (Option Int)} : mSl mp l h st = (match mp st with
  | .ok x st1 => match l st1 with
    | .ok lo st2 => match h st2 with
      | .ok hi st3 => if still x st3 ∧ still x st2 then (match gSl x.d lo hi with
        | some r => .ok r st3
        | none => .bad) else .bad
      | .bad => .bad
    | .bad => .bad
  | .bad => .bad) := rfl
end
theorem cut_from (ds : List PyData) {k : Int} (h : 0 ≤ k) : cutD ds (some k) none = ds.drop k.toNat := by
  unfold cutD
  show (ds.drop (if k < 0 then (k + (ds.length : Int)).toNat else min k.toNat ds.length)).take (ds.length - (if k < 0 then (k + (ds.length : Int)).toNat else min k.toNat ds.length)) = _
  rw [if_neg (by omega)]
  by_cases z : k.toNat ≤ ds.length
  · rw [Nat.min_eq_left z]
    exact List.take_of_length_le (by rw [List.length_drop]; omega)
  · rw [Nat.min_eq_right (by omega), List.drop_length, List.drop_eq_nil_of_le (by omega)]
    exact List.take_nil
theorem gSl_tup (ds : List PyData) {k : Int} (h : 0 ≤ k) : gSl (.tuple ds) (some k) none = some (.v (.tuple (ds.drop k.toNat))) := by
  rw [← cut_from ds h]
  rfl
theorem gSl_list (ds : List PyData) {k : Int} (h : 0 ≤ k) : gSl (.list ds) (some k) none = some (.o (.list (ds.drop k.toNat))) := by
  rw [← cut_from ds h]
  rfl
theorem v_jScr (i : Nat) {st : S} : jScr i st = (match st.ss[i]? with
  | some (.scr ns) => .ok (ns.map PyData.int) st
  | _ => .bad) := rfl
theorem v_NewS {mc : S → R Slot} {ml mm mt : S → R PyData} {st : S} : mNewS mc ml mm mt st = (match mc st with
  | .ok (.o (.list ds)) st1 => match intsOf ds with
    | some ns => match ml st1 with
      | .ok (.int l) st2 => match mm st2 with
        | .ok (.int m) st3 => match mt st3 with
          | .ok (.int t) st4 => match st4.src with
            | none => .ok .src { st4 with src := some ⟨ns, l, m, t⟩ }
            | some _ => .bad
          | _ => .bad
        | _ => .bad
      | _ => .bad
    | none => .bad
  | _ => .bad) := rfl
theorem g_ofS {n : Nat} {ms : S → RS} {as : List Slot} {src src' : Option Src} {ss ss' : List Slot} (hs : startS n as = ss) (h : ms ⟨ss, src⟩ = .ret .src ⟨ss', src'⟩) : gOf n ms as src = some (.src, src') := by
  unfold gOf
  rw [hs, h]
theorem perm3 {α : Type} (f g h : α → Bool) (h1 : ∀ x, (f x && g x) = false) (h2 : ∀ x, (f x && h x) = false) (h3 : ∀ x, (g x && h x) = false) : ∀ l : List α, (l.filter f ++ l.filter g ++ l.filter h).Perm (l.filter fun x => f x || g x || h x)
  | [] => List.Perm.refl _
  | x :: l => by
    have ih := perm3 f g h h1 h2 h3 l
    have a := h1 x
    have b := h2 x
    have c := h3 x
    rw [List.filter_cons, List.filter_cons, List.filter_cons, List.filter_cons]
    cases e1 : f x <;> cases e2 : g x <;> cases e3 : h x <;> rw [e1, e2] at a <;> rw [e1, e3] at b <;> rw [e2, e3] at c <;> first | (exact absurd a (by decide)) | (exact absurd b (by decide)) | (exact absurd c (by decide)) | skip
    · rw [if_neg Bool.false_ne_true, if_neg Bool.false_ne_true, if_neg Bool.false_ne_true, if_neg (by decide)]
      exact ih
    · rw [if_neg Bool.false_ne_true, if_neg Bool.false_ne_true, if_pos rfl, if_pos (by decide)]
      exact List.perm_middle.trans (List.Perm.cons x ih)
    · rw [if_neg Bool.false_ne_true, if_pos rfl, if_neg Bool.false_ne_true, if_pos (by decide), List.append_assoc, List.cons_append]
      refine List.perm_middle.trans (List.Perm.cons x ?_)
      rw [← List.append_assoc]
      exact ih
    · rw [if_pos rfl, if_neg Bool.false_ne_true, if_neg Bool.false_ne_true, if_pos (by decide)]
      exact List.Perm.cons x ih
theorem an_I (a b : Int) : leI a b = true → leI b a = true → a = b := by
  simp only [leI, decide_eq_true_eq]
  omega
theorem nil_iff {l : List Int} : l = [] ↔ ∀ x, x ∉ l := by
  cases l with
  | nil => simp
  | cons a l => exact ⟨(fun h => absurd h (List.cons_ne_nil a l)), (fun h => (h a List.mem_cons_self).elim)⟩
theorem srt2 (x y : Int) : srtI [x, y] = [if x ≤ y then x else y, if x ≤ y then y else x] := by
  refine List.Perm.eq_of_pairwise (le := fun a b => leI a b = true) (fun a b _ _ h1 h2 => an_I a b h1 h2) (List.pairwise_mergeSort tr_I to_I _) ?_ ((List.mergeSort_perm _ leI).trans ?_)
  · by_cases h : x ≤ y
    · simp [h]
    · simp [h]
      omega
  · by_cases h : x ≤ y
    · simp [h]
    · simp only [h, if_false]
      exact List.Perm.swap _ _ _
theorem Sh.small {i : Int} (h1 : 0 ≤ i) (h2 : i ≤ 1000) : Sh 0 10 (.int i) := by
  have b := Sh.int (i := i) (by omega) (by omega)
  refine ⟨b.lay, b.short, b.sh, b.dep, ?_, b.nd⟩
  simp only [PyData.weight]
  split
  · omega
  · rename_i h
    have : i.natAbs ≠ 0 := by
      intro z
      apply h
      simp
      omega
    have := (Nat.log2_lt this (k := 10)).mpr (by
      have : (2 : Nat) ^ 10 = 1024 := by decide
      omega)
    omega
abbrev ilD (l : List Int) : PyData := .list (l.map PyData.int)
def rngL (n : Int) : List Int := (List.range n.toNat).map fun i => 0 + ((i : Nat) : Int)
theorem rngL_mem {n x : Int} : x ∈ rngL n ↔ 0 ≤ x ∧ x < n := by
  unfold rngL
  simp only [List.mem_map, List.mem_range]
  refine ⟨fun ⟨i, h1, h2⟩ => by omega, fun ⟨h1, h2⟩ => ⟨x.toNat, by omega, by omega⟩⟩
theorem rgD_0 (n : Int) : rgD 0 n = (rngL n).map PyData.int := by
  unfold rgD rngL
  rw [List.map_map, Int.sub_zero]
  rfl
theorem rngL_len (n : Int) : (rngL n).length = n.toNat := by
  unfold rngL
  rw [List.length_map, List.length_range]
theorem rngL_lt (n : Int) : (rngL n).Pairwise (· < ·) := by
  unfold rngL
  rw [List.pairwise_map]
  exact List.pairwise_lt_range.imp fun h => by omega
theorem rngL_nodup (n : Int) : (rngL n).Nodup := (rngL_lt n).imp fun h e => by omega
/-! ### lots: all parts of a row -/
def stepL (L : List (List Int)) (k : Int) : List (List Int) := L ++ L.map (· ++ [k])
theorem stepL_len (L : List (List Int)) (k : Int) : (stepL L k).length = L.length + L.length := by
  unfold stepL
  rw [List.length_append, List.length_map]
theorem stepL_mem {L : List (List Int)} {k : Int} {l : List Int} (h : l ∈ stepL L k) : l ∈ L ∨ ∃ m ∈ L, l = m ++ [k] := by
  unfold stepL at h
  rcases List.mem_append.mp h with h | h
  · exact .inl h
  · obtain ⟨m, h1, h2⟩ := List.mem_map.mp h
    exact .inr ⟨m, h1, h2.symm⟩
theorem fold_in : ∀ (xs : List Int) (L : List (List Int)) (m : List Int) (p : Int → Bool), m ∈ L → m ++ xs.filter p ∈ xs.foldl stepL L
  | [], L, m, p, h => by simpa using h
  | x :: xs, L, m, p, h => by
    rw [List.foldl_cons]
    cases q : p x with
    | true =>
      rw [List.filter_cons_of_pos q, ← List.singleton_append, ← List.append_assoc]
      exact fold_in xs _ _ p (List.mem_append.mpr (.inr (List.mem_map.mpr ⟨m, h, rfl⟩)))
    | false =>
      rw [List.filter_cons_of_neg (by rw [q]; exact Bool.false_ne_true)]
      exact fold_in xs _ _ p (List.mem_append.mpr (.inl h))
theorem fold_out : ∀ (xs : List Int) (L : List (List Int)) (l : List Int), xs.Nodup → l ∈ xs.foldl stepL L → ∃ m ∈ L, ∃ p : Int → Bool, l = m ++ xs.filter p
  | [], L, l, _, h => ⟨l, h, fun _ => true, by simp⟩
  | x :: xs, L, l, nd, h => by
    rw [List.foldl_cons] at h
    obtain ⟨nx, nd'⟩ := List.nodup_cons.mp nd
    obtain ⟨m', hm, p, e⟩ := fold_out xs _ l nd' h
    have cg : ∀ b : Bool, xs.filter p = xs.filter fun y => if y = x then b else p y := fun b => by
      refine List.filter_congr fun y hy => ?_
      rw [if_neg (fun z => nx (by rw [← z]; exact hy))]
    rcases stepL_mem hm with z | ⟨m, z1, z2⟩
    · refine ⟨m', z, fun y => if y = x then false else p y, ?_⟩
      rw [List.filter_cons_of_neg (by simp), ← cg, e]
    · refine ⟨m, z1, fun y => if y = x then true else p y, ?_⟩
      rw [List.filter_cons_of_pos (by simp), ← cg, e, z2, List.append_assoc]
      rfl
/-! ### links and lots -/
def crosses (l : List Int) (p : Int × Int) : Bool := decide (p.1 ∈ l) != decide (p.2 ∈ l)
def cutC (E : List (Int × Int)) (l : List Int) : Nat := E.countP (crosses l)
/-- a count by where both ends stand -/
def cnt4 (A B : List Int) (E : List (Int × Int)) (f : Bool → Bool → Bool → Bool → Bool) : Nat := E.countP fun p => f (decide (p.1 ∈ A)) (decide (p.1 ∈ B)) (decide (p.2 ∈ A)) (decide (p.2 ∈ B))
theorem cnt4_cons (A B : List Int) (p : Int × Int) (E : List (Int × Int)) (f : Bool → Bool → Bool → Bool → Bool) : cnt4 A B (p :: E) f = cnt4 A B E f + (f (decide (p.1 ∈ A)) (decide (p.1 ∈ B)) (decide (p.2 ∈ A)) (decide (p.2 ∈ B))).toNat := by
  unfold cnt4
  rw [List.countP_cons]
  cases f (decide (p.1 ∈ A)) (decide (p.1 ∈ B)) (decide (p.2 ∈ A)) (decide (p.2 ∈ B)) <;> rfl
theorem cnt4_id (A B : List Int) {f1 f2 f3 f4 f5 : Bool → Bool → Bool → Bool → Bool} (h : ∀ a b c d, (f1 a b c d).toNat + (f2 a b c d).toNat = (f3 a b c d).toNat + (f4 a b c d).toNat + 2 * (f5 a b c d).toNat) : ∀ E : List (Int × Int), cnt4 A B E f1 + cnt4 A B E f2 = cnt4 A B E f3 + cnt4 A B E f4 + 2 * cnt4 A B E f5
  | [] => rfl
  | p :: E => by
    have ih := cnt4_id A B h E
    have hp := h (decide (p.1 ∈ A)) (decide (p.1 ∈ B)) (decide (p.2 ∈ A)) (decide (p.2 ∈ B))
    simp only [cnt4_cons]
    omega
theorem cnt4_3 (A B : List Int) {f1 f2 f3 f4 : Bool → Bool → Bool → Bool → Bool} (h : ∀ a b c d, (f1 a b c d).toNat = (f2 a b c d).toNat + (f3 a b c d).toNat + (f4 a b c d).toNat) : ∀ E : List (Int × Int), cnt4 A B E f1 = cnt4 A B E f2 + cnt4 A B E f3 + cnt4 A B E f4
  | [] => rfl
  | p :: E => by
    have ih := cnt4_3 A B h E
    have hp := h (decide (p.1 ∈ A)) (decide (p.1 ∈ B)) (decide (p.2 ∈ A)) (decide (p.2 ∈ B))
    simp only [cnt4_cons]
    omega
theorem cnt4_4 (A B : List Int) {f1 f2 f3 f4 f5 : Bool → Bool → Bool → Bool → Bool} (h : ∀ a b c d, (f1 a b c d).toNat = (f2 a b c d).toNat + (f3 a b c d).toNat + (f4 a b c d).toNat + (f5 a b c d).toNat) : ∀ E : List (Int × Int), cnt4 A B E f1 = cnt4 A B E f2 + cnt4 A B E f3 + cnt4 A B E f4 + cnt4 A B E f5
  | [] => rfl
  | p :: E => by
    have ih := cnt4_4 A B h E
    have hp := h (decide (p.1 ∈ A)) (decide (p.1 ∈ B)) (decide (p.2 ∈ A)) (decide (p.2 ∈ B))
    simp only [cnt4_cons]
    omega
/-- a link between two lots -/
def linkB (A B : List Int) (p : Int × Int) : Bool := (decide (p.1 ∈ A) && decide (p.2 ∈ B)) || (decide (p.1 ∈ B) && decide (p.2 ∈ A))
def linksN (E : List (Int × Int)) (A B : List Int) : Nat := E.countP (linkB A B)
/-- stations by how they stand to both lots -/
def part (n : Int) (A B : List Int) (p q : Bool) : List Int := (rngL n).filter fun x => (decide (x ∈ A) == p) && (decide (x ∈ B) == q)
theorem part_mem {n : Int} {A B : List Int} {p q : Bool} {x : Int} : x ∈ part n A B p q ↔ (0 ≤ x ∧ x < n) ∧ decide (x ∈ A) = p ∧ decide (x ∈ B) = q := by
  unfold part
  simp [List.mem_filter, rngL_mem]
structure Ok (n : Int) (E : List (Int × Int)) : Prop where
  at_ : ∀ p ∈ E, (0 ≤ p.1 ∧ p.1 < n) ∧ (0 ≤ p.2 ∧ p.2 < n)
theorem cnt_part {n : Int} {E : List (Int × Int)} (ok : Ok n E) (A B : List Int) (p q p' q' : Bool) : linksN E (part n A B p q) (part n A B p' q') = cnt4 A B E fun a b c d => ((a == p && b == q) && (c == p' && d == q')) || ((a == p' && b == q') && (c == p && d == q)) := by
  unfold linksN cnt4
  refine List.countP_congr fun x hx => ?_
  obtain ⟨h1, h2⟩ := ok.at_ x hx
  unfold linkB
  have m1 : ∀ p q, decide (x.1 ∈ part n A B p q) = (decide (x.1 ∈ A) == p && decide (x.1 ∈ B) == q) := fun p q => by
    rw [Bool.eq_iff_iff, decide_eq_true_eq, part_mem, Bool.and_eq_true, beq_iff_eq, beq_iff_eq]
    exact ⟨fun h => h.2, fun h => ⟨h1, h⟩⟩
  have m2 : ∀ p q, decide (x.2 ∈ part n A B p q) = (decide (x.2 ∈ A) == p && decide (x.2 ∈ B) == q) := fun p q => by
    rw [Bool.eq_iff_iff, decide_eq_true_eq, part_mem, Bool.and_eq_true, beq_iff_eq, beq_iff_eq]
    exact ⟨fun h => h.2, fun h => ⟨h2, h⟩⟩
  rw [m1, m1, m2, m2]
theorem cnt_cut {n : Int} {E : List (Int × Int)} (ok : Ok n E) (A B l : List Int) (g : Bool → Bool → Bool) (hl : ∀ x, 0 ≤ x → x < n → decide (x ∈ l) = g (decide (x ∈ A)) (decide (x ∈ B))) : cutC E l = cnt4 A B E fun a b c d => (g a b) != (g c d) := by
  unfold cnt4 cutC
  refine List.countP_congr fun x hx => ?_
  obtain ⟨h1, h2⟩ := ok.at_ x hx
  unfold crosses
  rw [hl x.1 h1.1 h1.2, hl x.2 h2.1 h2.2]
/-! ### the law's source -/
def OB : S → RS := (sSet 1 (m2 gMod (mO (m1 gInt (mO (m2 gAdd (mO (m2 gAdd (mO (m2 gMul (mPk 1) (mO (mC (.int 69069))))) (mO (m2 gMul (mPk 2) (mO (mC (.int 31))))))) (mO (mC (.int 5))))))) (mO (mC (.int 2147483629)))))
def O2 : S → RS := (sSet 3 (mLc (jScr 0) [2] (gN 2) tYesM (mF (m1 gAbs (mPk 2)))))
def O3 : S → RS := (sRet (mNewS (m1 gRev (mPk 3)) (mF (mC (.int 1))) (mF (mVar 1)) (mF (mC (.int 0)))))
def openM : S → RS := sSeq (sSet 1 (mC (.int 11))) (sSeq (sFor (jScr 0) (gN 2) OB) (sSeq O2 O3))
theorem openM_is (ns : List Int) (hn : ns.length ≤ 63) : ∃ s', gOf 4 openM [.scr ns] none = some (.src, some s') := by
  have q1 : (0 : Int) < 2147483629 := by decide
  obtain ⟨st', e1, k, d2, q2, hd⟩ := forGo_foldN (g := gN 2) (m := OB) PyData.int (fun (_ : Unit) _ => ()) (fun k _ st => ∃ v d2, st = ⟨[.scr ns, .v (.int v), d2, .no], none⟩ ∧ backS (some d2) = d2) ns 0 () ⟨[.scr ns, .v (.int 11), .no, .no], none⟩
    (fun k x hk _ st ⟨v, d2, q, _⟩ => by
      subst q
      refine ⟨_, ⟨[.scr ns, .v (.int ((v * 69069 + x * 31 + 5) % 2147483629)), .v (.int x), .no], none⟩, rfl, .inl ?_, _, _, rfl, rfl⟩
      unfold OB
      simp only [v_GetS, v_Cel, v_CelLen, v_CelPop, v_PutS, v_C, v_Var, v_Mv, v_Pk, v_O, v_F, v_B, v_m1, v_m2, still_v, still_t, still_s, d_v, d_t, d_s, v_Seq, v_Nil, v_If, v_Set, v_Ret, v_Drop, v_Asg, v_Par2, v_Par3, v_And, v_Or, v_Not, v_IfE, v_Yes, v_nil, v_cons, v_tup, v_lst, v_N, v_Nl, v_Cn, v_Tp, v_TpL, v_jSeq, v_jEnum, v_jRg, v_jRg2, v_For, v_Call, v_xNil, v_xCons, v_xSrc, v_Mut, S.wipe, wipeS, S.rest, restS, backS, List.set_cons_zero, List.set_cons_succ, List.getElem?_cons_zero, List.getElem?_cons_succ, List.any_cons, List.any_nil, Slot.isSrc, if_true, Bool.or_false, Bool.false_or, Bool.or_true, Bool.true_or, true_or, or_true, List.length_cons, List.length_nil, Bool.false_eq_true, if_false, reduceIte, reduceCtorEq, gAdd_int, gMul_int (mulOk_r (a := v) (b := 69069) (by decide) (by decide)), gMul_int (mulOk_r (a := x) (b := 31) (by decide) (by decide)), gInt_int, gMod_int q1]) ⟨11, .no, rfl, rfl⟩
  have e : mLc (jScr 0) [2] (gN 2) tYesM (mF (m1 gAbs (mPk 2))) ⟨[.scr ns, .v (.int k), d2, .no], none⟩ = .ok (.o (.list ((ns.map fun i => if i < 0 then -i else i).map PyData.int))) ⟨[.scr ns, .v (.int k), d2, .no], none⟩ := by
    rw [mLc_map (st1 := ⟨[.scr ns, .v (.int k), d2, .no], none⟩) ns PyData.int (fun _ => true) (fun i => .int (if i < 0 then -i else i))]
    · rw [List.filter_eq_self.mpr (fun _ _ => rfl), List.map_map]
      show R.ok _ (⟨[.scr ns, .v (.int k), backS (some d2), .no], none⟩ : S) = _
      rw [hd]
      rfl
    · simp only [v_GetS, v_Cel, v_CelLen, v_CelPop, v_PutS, v_C, v_Var, v_Mv, v_Pk, v_O, v_F, v_B, v_m1, v_m2, still_v, still_t, still_s, d_v, d_t, d_s, v_Seq, v_Nil, v_If, v_Set, v_Ret, v_Drop, v_Asg, v_Par2, v_Par3, v_And, v_Or, v_Not, v_IfE, v_Yes, v_nil, v_cons, v_tup, v_lst, v_N, v_Nl, v_Cn, v_Tp, v_TpL, v_jSeq, v_jEnum, v_jRg, v_jRg2, v_For, v_Call, v_xNil, v_xCons, v_xSrc, v_Mut, S.wipe, wipeS, S.rest, restS, backS, List.set_cons_zero, List.set_cons_succ, List.getElem?_cons_zero, List.getElem?_cons_succ, List.any_cons, List.any_nil, Slot.isSrc, if_true, Bool.or_false, Bool.false_or, Bool.or_true, Bool.true_or, true_or, or_true, List.length_cons, List.length_nil, Bool.false_eq_true, if_false, reduceIte, reduceCtorEq, v_jScr]
    · omega
    · intro x hx
      exact ⟨_, ⟨[.scr ns, .v (.int k), .v (.int x), .no], none⟩, rfl, rfl, fun h => (nomatch h), fun _ => ⟨⟨[.scr ns, .v (.int k), .v (.int x), .no], none⟩, rfl, rfl⟩⟩
  have r : gRev (.list ((ns.map fun i => if i < 0 then -i else i).map PyData.int)) = some (.o (.list ((ns.map fun i => if i < 0 then -i else i).reverse.map PyData.int))) := by
    show some (Slot.o (.list (List.reverse _))) = _
    rw [List.map_reverse]
  refine ⟨⟨(ns.map fun i => if i < 0 then -i else i).reverse, 1, k, 0⟩, g_ofS (ss := [.scr ns, .no, .no, .no]) rfl (ss' := [.scr ns, .v (.int k), d2, .o (.list ((ns.map fun i => if i < 0 then -i else i).map PyData.int))]) ?_⟩
  have o3 : O3 ⟨[.scr ns, .v (.int k), d2, .o (.list ((ns.map fun i => if i < 0 then -i else i).map PyData.int))], none⟩ = .ret .src ⟨[.scr ns, .v (.int k), d2, .o (.list ((ns.map fun i => if i < 0 then -i else i).map PyData.int))], some ⟨(ns.map fun i => if i < 0 then -i else i).reverse, 1, k, 0⟩⟩ := by
    unfold O3
    simp only [v_GetS, v_Cel, v_CelLen, v_CelPop, v_PutS, v_C, v_Var, v_Mv, v_Pk, v_O, v_F, v_B, v_m1, v_m2, still_v, still_t, still_s, d_v, d_t, d_s, v_Seq, v_Nil, v_If, v_Set, v_Ret, v_Drop, v_Asg, v_Par2, v_Par3, v_And, v_Or, v_Not, v_IfE, v_Yes, v_nil, v_cons, v_tup, v_lst, v_N, v_Nl, v_Cn, v_Tp, v_TpL, v_jSeq, v_jEnum, v_jRg, v_jRg2, v_For, v_Call, v_xNil, v_xCons, v_xSrc, v_Mut, S.wipe, wipeS, S.rest, restS, backS, List.set_cons_zero, List.set_cons_succ, List.getElem?_cons_zero, List.getElem?_cons_succ, List.any_cons, List.any_nil, Slot.isSrc, if_true, Bool.or_false, Bool.false_or, Bool.or_true, Bool.true_or, true_or, or_true, List.length_cons, List.length_nil, Bool.false_eq_true, if_false, reduceIte, reduceCtorEq, v_NewS, r, intsOf_map]
  have o2 : O2 ⟨[.scr ns, .v (.int k), d2, .no], none⟩ = .nx ⟨[.scr ns, .v (.int k), d2, .o (.list ((ns.map fun i => if i < 0 then -i else i).map PyData.int))], none⟩ := by
    unfold O2
    simp only [v_GetS, v_Cel, v_CelLen, v_CelPop, v_PutS, v_C, v_Var, v_Mv, v_Pk, v_O, v_F, v_B, v_m1, v_m2, still_v, still_t, still_s, d_v, d_t, d_s, v_Seq, v_Nil, v_If, v_Set, v_Ret, v_Drop, v_Asg, v_Par2, v_Par3, v_And, v_Or, v_Not, v_IfE, v_Yes, v_nil, v_cons, v_tup, v_lst, v_N, v_Nl, v_Cn, v_Tp, v_TpL, v_jSeq, v_jEnum, v_jRg, v_jRg2, v_For, v_Call, v_xNil, v_xCons, v_xSrc, v_Mut, S.wipe, wipeS, S.rest, restS, backS, List.set_cons_zero, List.set_cons_succ, List.getElem?_cons_zero, List.getElem?_cons_succ, List.any_cons, List.any_nil, Slot.isSrc, if_true, Bool.or_false, Bool.false_or, Bool.or_true, Bool.true_or, true_or, or_true, List.length_cons, List.length_nil, Bool.false_eq_true, if_false, reduceIte, reduceCtorEq, e]
  unfold openM
  simp only [v_GetS, v_Cel, v_CelLen, v_CelPop, v_PutS, v_C, v_Var, v_Mv, v_Pk, v_O, v_F, v_B, v_m1, v_m2, still_v, still_t, still_s, d_v, d_t, d_s, v_Seq, v_Nil, v_If, v_Set, v_Ret, v_Drop, v_Asg, v_Par2, v_Par3, v_And, v_Or, v_Not, v_IfE, v_Yes, v_nil, v_cons, v_tup, v_lst, v_N, v_Nl, v_Cn, v_Tp, v_TpL, v_jSeq, v_jEnum, v_jRg, v_jRg2, v_For, v_Call, v_xNil, v_xCons, v_xSrc, v_Mut, S.wipe, wipeS, S.rest, restS, backS, List.set_cons_zero, List.set_cons_succ, List.getElem?_cons_zero, List.getElem?_cons_succ, List.any_cons, List.any_nil, Slot.isSrc, if_true, Bool.or_false, Bool.false_or, Bool.or_true, Bool.true_or, true_or, or_true, List.length_cons, List.length_nil, Bool.false_eq_true, if_false, reduceIte, reduceCtorEq, v_jScr, e1, q2]
  rw [o2]
  dsimp only
  exact o3
end Pd
end
set_option linter.all false
set_option maxRecDepth 100000
set_option maxHeartbeats 4000000
/-! Pd, part Z: things in any order. -/
noncomputable section
namespace Pd
open PySem PySem.Spec PyProof.Rows L2
def anyM : S → RS := (sSeq (sSet 2 (m1 gList (mPk 1)))
  (sRet (mLc (jRg (mCons (mF (m1 gLen (mPk 2))) mNil)) [3] (gN 3) tYesM (mF (mMut gPopAt 2 (mCons (mF (mCall (gOf 6 pick2) (xSrc 0 (xCons (mF (m1 gLen (mPk 2))) xNil)))) mNil))))))
def anyE : S → R PyData := (mF (mMut gPopAt 2 (mCons (mF (mCall (gOf 6 pick2) (xSrc 0 (xCons (mF (m1 gLen (mPk 2))) xNil)))) mNil)))
theorem gPopAt_at (l : List PyData) (i : Int) (h0 : 0 ≤ i) (h1 : i < l.length) (hl : l.length ≤ 1000) : ∃ d, gPopAt l [.int i] = some (d, l.eraseIdx i.toNat) ∧ l[i.toNat]? = some d := by
  have hi : i.toNat < l.length := by omega
  refine ⟨l[i.toNat], ?_, List.getElem?_eq_getElem hi⟩
  have e : ixN l.length i = some i.toNat := by
    unfold ixN
    rw [if_pos h0, if_pos h1]
  show (if okLen l.length then (match ixN l.length i with
      | some k => match l[k]? with
        | some d => some (d, l.eraseIdx k)
        | none => none
      | none => none) else none) = _
  rw [okLen_of (by omega), if_pos rfl, e]
  simp only [List.getElem?_eq_getElem hi]
theorem perm_erase {α : Type} : ∀ (l : List α) (i : Nat) (d : α), l[i]? = some d → (d :: l.eraseIdx i).Perm l
  | [], i, d, h => by simp at h
  | a :: l, 0, d, h => by
    cases h
    exact List.Perm.refl _
  | a :: l, i + 1, d, h => by
    have ih := perm_erase l i d (by simpa using h)
    rw [List.eraseIdx_cons_succ]
    exact (List.Perm.swap a d _).trans (List.Perm.cons a ih)
theorem any_go (th : Slot) : ∀ (xs : List PyData) (l acc : List PyData) (s : Src), l.length = xs.length → xs.length ≤ 1000 → ∃ l' s', lcGo [3] (gN 3) tYesM anyE xs acc ⟨[.src, th, .o (.list l), .no], some s⟩ = .ok (acc ++ l') ⟨[.src, th, .o (.list []), .no], some s'⟩ ∧ l'.Perm l
  | [], l, acc, s, h, _ => by
    have : l = [] := List.length_eq_zero_iff.mp h
    subst this
    exact ⟨[], s, by simp [lcGo], List.Perm.refl _⟩
  | x :: xs, l, acc, s, h, hx => by
    rw [List.length_cons] at h hx
    obtain ⟨r, s1, e, r0, r1, r2⟩ := pick2_is (l.length : Nat) (by omega) s
    have hr : r < (l.length : Nat) := by
      by_cases z : 2 ≤ l.length
      · exact r1 (by omega)
      · have := r2 (by omega)
        omega
    obtain ⟨d, g, gd⟩ := gPopAt_at l r r0 hr (by omega)
    have hi : r.toNat < l.length := by omega
    obtain ⟨l', s', e2, p⟩ := any_go th xs (l.eraseIdx r.toNat) (acc ++ [d]) s1 (by
      rw [List.length_eraseIdx, if_pos hi]
      omega) (by omega)
    refine ⟨d :: l', s', ?_, (List.Perm.cons d p).trans (perm_erase l _ d gd)⟩
    have step : anyE ⟨[.src, th, .o (.list l), .v x], some s⟩ = .ok d ⟨[.src, th, .o (.list (l.eraseIdx r.toNat)), .v x], some s1⟩ := by
      unfold anyE
      simp only [v_GetS, v_Cel, v_CelLen, v_CelPop, v_PutS, v_C, v_Var, v_Mv, v_Pk, v_O, v_F, v_B, v_m1, v_m2, still_v, still_t, still_s, d_v, d_t, d_s, v_Seq, v_Nil, v_If, v_Set, v_Ret, v_Drop, v_Asg, v_Par2, v_Par3, v_And, v_Or, v_Not, v_IfE, v_Yes, v_nil, v_cons, v_tup, v_lst, v_N, v_Nl, v_Cn, v_Tp, v_TpL, v_jSeq, v_jEnum, v_jRg, v_jRg2, v_For, v_Call, v_xNil, v_xCons, v_xSrc, v_Mut, S.wipe, wipeS, S.rest, restS, backS, List.set_cons_zero, List.set_cons_succ, List.getElem?_cons_zero, List.getElem?_cons_succ, List.any_cons, List.any_nil, Slot.isSrc, if_true, Bool.or_false, Bool.false_or, Bool.or_true, Bool.true_or, true_or, or_true, List.length_cons, List.length_nil, Bool.false_eq_true, if_false, reduceIte, reduceCtorEq, gLen_list, e, g]
    unfold lcGo
    simp only [v_N, v_Yes, List.set_cons_zero, List.set_cons_succ, step]
    rw [show (⟨[.src, th, .o (.list (l.eraseIdx r.toNat)), .v x], some s1⟩ : S).wipe [3] = ⟨[.src, th, .o (.list (l.eraseIdx r.toNat)), .no], some s1⟩ from rfl, e2, List.append_assoc]
    rfl
theorem any_is (l : List PyData) (hl : l.length ≤ 1000) (s : Src) : ∃ l' s', gOf 4 anyM [.src, .v (.list l)] (some s) = some (.o (.list l'), some s') ∧ l'.Perm l := by
  obtain ⟨l', s', e, p⟩ := any_go (.v (.list l)) (rgD 0 (l.length : Nat)) l [] s (by simp [rgD]) (by simp [rgD]; omega)
  refine ⟨l', s', g_ofO (ss := [.src, .v (.list l), .no, .no]) rfl (ss' := [.src, .v (.list l), .o (.list []), .no]) ?_, p⟩
  have hr : rgOk 0 (l.length : Nat) = true := rgOk_of (by omega) (by omega) (by omega) (by omega) (by omega)
  have gl : gList (.list l) = some (.o (.list l)) := rfl
  have lc : mLc (jRg (mCons (mF (m1 gLen (mPk 2))) mNil)) [3] (gN 3) tYesM anyE ⟨[.src, .v (.list l), .o (.list l), .no], some s⟩ = .ok (.o (.list l')) ⟨[.src, .v (.list l), .o (.list []), .no], some s'⟩ := by
    have ji : jRg (mCons (mF (m1 gLen (mPk 2))) mNil) ⟨[.src, .v (.list l), .o (.list l), .no], some s⟩ = .ok (rgD 0 (l.length : Nat)) ⟨[.src, .v (.list l), .o (.list l), .no], some s⟩ := by
      simp only [v_GetS, v_Cel, v_CelLen, v_CelPop, v_PutS, v_C, v_Var, v_Mv, v_Pk, v_O, v_F, v_B, v_m1, v_m2, still_v, still_t, still_s, d_v, d_t, d_s, v_Seq, v_Nil, v_If, v_Set, v_Ret, v_Drop, v_Asg, v_Par2, v_Par3, v_And, v_Or, v_Not, v_IfE, v_Yes, v_nil, v_cons, v_tup, v_lst, v_N, v_Nl, v_Cn, v_Tp, v_TpL, v_jSeq, v_jEnum, v_jRg, v_jRg2, v_For, v_Call, v_xNil, v_xCons, v_xSrc, v_Mut, S.wipe, wipeS, S.rest, restS, backS, List.set_cons_zero, List.set_cons_succ, List.getElem?_cons_zero, List.getElem?_cons_succ, List.any_cons, List.any_nil, Slot.isSrc, if_true, Bool.or_false, Bool.false_or, Bool.or_true, Bool.true_or, true_or, or_true, List.length_cons, List.length_nil, Bool.false_eq_true, if_false, reduceIte, reduceCtorEq, gLen_list, hr]
    unfold mLc
    rw [ji]
    simp only [okLen_of (n := (rgD 0 (l.length : Nat)).length) (by simp [rgD]; omega), if_true]
    rw [show (⟨[.src, .v (.list l), .o (.list l), .no], some s⟩ : S).wipe [3] = ⟨[.src, .v (.list l), .o (.list l), .no], some s⟩ from rfl, e]
    rfl
  have lc' := lc
  unfold anyE at lc'
  unfold anyM
  simp only [v_GetS, v_Cel, v_CelLen, v_CelPop, v_PutS, v_C, v_Var, v_Mv, v_Pk, v_O, v_F, v_B, v_m1, v_m2, still_v, still_t, still_s, d_v, d_t, d_s, v_Seq, v_Nil, v_If, v_Set, v_Ret, v_Drop, v_Asg, v_Par2, v_Par3, v_And, v_Or, v_Not, v_IfE, v_Yes, v_nil, v_cons, v_tup, v_lst, v_N, v_Nl, v_Cn, v_Tp, v_TpL, v_jSeq, v_jEnum, v_jRg, v_jRg2, v_For, v_Call, v_xNil, v_xCons, v_xSrc, v_Mut, S.wipe, wipeS, S.rest, restS, backS, List.set_cons_zero, List.set_cons_succ, List.getElem?_cons_zero, List.getElem?_cons_succ, List.any_cons, List.any_nil, Slot.isSrc, if_true, Bool.or_false, Bool.false_or, Bool.or_true, Bool.true_or, true_or, or_true, List.length_cons, List.length_nil, Bool.false_eq_true, if_false, reduceIte, reduceCtorEq, gl, lc']
end Pd
end
set_option linter.all false
set_option maxRecDepth 100000
/-! Pd, part Za: a comprehension over a name's own list, which stays its own. -/
noncomputable section
namespace Pd
open PySem PySem.Spec PyProof.Rows L2
open Classical in
def lcGoP (iw : Nat) (d0 : PyData) (vs : List Nat) (g : PyData → S → Option S) (t : S → R Bool) (e : S → R PyData) : List PyData → List PyData → S → R (List PyData)
  | [], acc, st => if st.ss[iw]? = some (.o d0) then .ok acc st else .bad
  | d :: ds, acc, st => if st.ss[iw]? = some (.o d0) then (match g d st with
    | none => .bad
    | some st1 => match t st1 with
      | .bad => .bad
      | .ok false st2 => lcGoP iw d0 vs g t e ds acc (st2.wipe vs)
      | .ok true st2 => match e st2 with
        | .bad => .bad
        | .ok x st3 => lcGoP iw d0 vs g t e ds (acc ++ [x]) (st3.wipe vs)) else .bad
def mLcP (iw : Nat) (vs : List Nat) (g : PyData → S → Option S) (t : S → R Bool) (e : S → R PyData) : S → R Slot := fun st => match st.ss[iw]? with
  | some (.o (.list ds)) => if okLen ds.length then match lcGoP iw (.list ds) vs g t e ds [] (st.wipe vs) with
      | .ok acc st2 => .ok (.o (.list acc)) (st2.rest st vs)
      | .bad => .bad
    else .bad
  | _ => .bad
section
variable {K : PySem.W.Frag} {X : Cx} {vs : List Nat} {g : PyData → S → Option S} {t : S → R Bool} {me : S → R PyData}
theorem lcGoP_keep {iw : Nat} {d0 : PyData} {ds acc : List PyData} {st st' : S} {r : List PyData} (h : lcGoP iw d0 vs g t me ds acc st = .ok r st') : st.ss[iw]? = some (.o d0) := by
  cases ds with
  | nil =>
    unfold lcGoP at h
    split at h
    · assumption
    · cases h
  | cons d ds =>
    unfold lcGoP at h
    split at h
    · assumption
    · cases h
theorem r_lcP {iw : Nat} {wi : TI} {gg : TG} {tt : TT} {te : TE} (hiw : iw ∉ vs) (hi : wi = tI K (mSeq (mPk iw))) (hg : gg = tG K vs g) (ht : tt = tMT K t) (he : te = tF K me) : ∀ σ H Q, tM K (mLcP iw vs g t me) σ H Q → tLc wi gg tt te vs σ H Q := fun σ H Q ⟨sa, B, F, st, r, st', h0, h1, k⟩ => by
  subst hi hg ht he
  unfold mLcP at h1
  split at h1
  · rename_i ds qq
    have st1e : mSeq (mPk iw) st = .ok (.s iw (.list ds), ds) st := by
      unfold mSeq mPk
      rw [qq]
      rfl
    split at h1
    · rename_i hz
      cases q2 : lcGoP iw (.list ds) vs g t me ds [] (st.wipe vs) with
      | bad =>
        simp only [q2] at h1
        cases h1
      | ok res st2 =>
        simp only [q2] at h1
        cases h1
        refine ⟨sa, B, F, st, _, ds, st, h0, st1e, fun sa1 F1 H1 J R1 _ dr D hD => ?_⟩
        have hb : B D = none := R1.r.bh.none_of hD
        refine ⟨fun i n H' => ∃ sa2 F2 st2' vacc acc, LcI K B (wipe σ vs) sa1 F1 st D H' sa2 F2 st2' vacc acc ∧ (n = ds.length - i ∧ i ≤ ds.length) ∧ acc.length ≤ i ∧ lcGoP iw (.list ds) vs g t me (ds.drop i) acc st2' = .ok res st2,
          ⟨_, sa1, F1, _, [], [], LcI.start vs R1.r hD, ⟨rfl, Nat.zero_le _⟩, Nat.le_refl _, q2⟩, fun i n H' ⟨sa2, F2, st2', vacc, acc, L, ⟨hn, hi⟩, hl, q3⟩ => ?_⟩
        have keep := lcGoP_keep q3
        have at' : SrcAt σ (wipe σ vs) st2' (.s iw (.list ds)) := ⟨keep, wipe_out hiw⟩
        by_cases hi' : i < ds.length
        · rw [List.drop_eq_getElem_cons hi'] at q3
          unfold lcGoP at q3
          rw [if_pos keep] at q3
          cases q4 : g ds[i] st2' with
          | none =>
            simp only [q4] at q3
            cases q3
          | some st3 =>
            simp only [q4] at q3
            refine .inr ⟨dr.go i sa2 _ F2 H' _ st2' L.r L.x.le at' hi', fun H'' => ∃ sa3 F3 st3' vacc' acc', LcI K B (wipe σ vs) sa1 F1 st D H'' sa3 F3 st3' vacc' acc' ∧ acc'.length ≤ i + 1 ∧ lcGoP iw (.list ds) vs g t me (ds.drop (i + 1)) acc' st3' = .ok res st2,
              fun H'' ⟨sa3, F3, st3', vacc', acc', L', hl', q'⟩ => ⟨ds.length - (i + 1), by omega, sa3, F3, st3', vacc', acc', L', ⟨rfl, hi'⟩, hl', q'⟩, fun x H3 y => ?_⟩
            obtain ⟨F3, S3, x3, r3⟩ := dr.yld i sa2 _ F2 H' _ st2' x H3 ds[i] L.r L.x.le at' (List.getElem?_eq_getElem hi') y
            have L3 := L.go hb ⟨S3, x3, fun _ => rfl, fun z => z⟩
            refine ⟨sa2, _, F3, st2', ds[i], st3, S3, r3, q4, fun σ4 S4 e4 w4 => ?_⟩
            have L4 := L3.go hb (σ' := σ4) ⟨S4, FX.refl, fun _ => rfl, fun z => by rw [e4]; exact z⟩
            have w4' : wipe σ4 vs = wipe σ vs := w4.trans (wipe_wipe fun i h => h)
            refine ⟨w4', ?_⟩
            cases q5 : t st3 with
            | bad =>
              simp only [q5] at q3
              cases q3
            | ok b st5 =>
              refine ⟨sa2, _, F3, st3, b, st5, S4, q5, fun sa5 F5 H5 R5 => ?_⟩
              have L5 := L4.go hb R5
              cases b with
              | false =>
                simp only [q5] at q3
                try dsimp only
                rw [if_neg Bool.false_ne_true]
                have L6 := L5.wip vs
                rw [w4'] at L6
                exact ⟨sa5, F5, _, vacc, acc, L6, by omega, q3⟩
              | true =>
                simp only [q5] at q3
                try dsimp only
                rw [if_pos rfl]
                cases q6 : me st5 with
                | bad =>
                  simp only [q6] at q3
                  cases q3
                | ok d st7 =>
                  simp only [q6] at q3
                  refine ⟨sa5, _, F5, st5, d, st7, L5.r, q6, fun sa7 F7 H7 y7 R7 r7 => ?_⟩
                  have L7 := L5.go hb R7
                  have L8 := (L7.more r7).wip vs
                  rw [w4'] at L8
                  have hlen : vacc.length = acc.length := L.a.length
                  exact ⟨vacc, L7.at, by have := okLen_le hz; omega, sa7, F7, _, _, _, L8, by simp; omega, q3⟩
        · have hl' : i = ds.length := by omega
          subst hl'
          rw [List.drop_length] at q3
          unfold lcGoP at q3
          rw [if_pos keep] at q3
          cases q3
          exact .inl ⟨dr.stop sa2 _ F2 H' _ _ L.r L.x.le at', L.done R1 hb k⟩
    · cases h1
  · cases h1
variable {elt tg iter : Expr} {ifs : List Expr} {scope : Scope} {own : List (Str × Nat)} {pos : Pos} {iw : Nat}
theorem d_lcP (hc : X.calm = true) (hN : X.N.Nodup) (hi : PE X iter (tVar iw)) (hiw : iw ∉ vs) (ok : BlkOk X.N X.env.scope scope own) (hvs : own.map (·.2) = vs)
    (hg : ∀ (s : Shared) (H : Hp) (C : Addr) (cl : List (Str × Addr)) (fp : List Addr), PG (X.blk s H scope (compEnvC scope cl C X.env) fp) tg (tG X.K vs g)) (ht : ∀ (s : Shared) (H : Hp) (C : Addr) (cl : List (Str × Addr)) (fp : List Addr), PTs (X.blk s H scope (compEnvC scope cl C X.env) fp) ifs (tMT X.K t))
    (he : ∀ (s : Shared) (H : Hp) (C : Addr) (cl : List (Str × Addr)) (fp : List Addr), PE (X.blk s H scope (compEnvC scope cl C X.env) fp) elt (tF X.K me)) (hs : ∀ x, foldedSetIterable iter X.env x = pure x := by intro _; rfl) :
    PE X (.ListComp elt [⟨tg, iter, ifs, 0⟩] scope pos) (tM X.K (mLcP iw vs g t me)) := by
  subst hvs
  exact imE (pe_lc hc hN (i_seq (p_var hi)) ok hg ht he hs) (r_lcP hiw rfl rfl rfl rfl)
theorem s_lcP {i : Nat} {y : Str} {py spos : Pos} (hc : X.calm = true) (hN : X.N.Nodup) (hy : X.N[i]? = some y) (hyl : X.env.scope.names.lookup y = some .local)
    (hsw : swapsWith (.ListComp elt [⟨tg, iter, ifs, 0⟩] scope pos) (some (.Name y py)) spos.line X.env = pure true) (hi : PE X iter (tVar iw)) (hiw : iw ∉ vs) (ok : BlkOk X.N X.env.scope scope own) (hvs : own.map (·.2) = vs)
    (hg : ∀ (s : Shared) (H : Hp) (C : Addr) (cl : List (Str × Addr)) (fp : List Addr), PG (X.blk s H scope (compEnvC scope cl C X.env) fp) tg (tG X.K vs g)) (ht : ∀ (s : Shared) (H : Hp) (C : Addr) (cl : List (Str × Addr)) (fp : List Addr), PTs (X.blk s H scope (compEnvC scope cl C X.env) fp) ifs (tMT X.K t))
    (he : ∀ (s : Shared) (H : Hp) (C : Addr) (cl : List (Str × Addr)) (fp : List Addr), PE (X.blk s H scope (compEnvC scope cl C X.env) fp) elt (tF X.K me)) (hs : ∀ x, foldedSetIterable iter X.env x = pure x := by intro _; rfl) :
    PS X (.Assign [.Name y py] (.ListComp elt [⟨tg, iter, ifs, 0⟩] scope pos) spos) (tMS X.K (sSet i (mLcP iw vs g t me))) := by
  subst hvs
  exact s_set (imS (ps_setLc hc hN hy hyl hsw (i_seq (p_var hi)) ok hg ht he hs) fun D σ H h => r_lcP hiw rfl rfl rfl rfl σ H _ h)
theorem lcGoP_map {α : Type} {e : S → R PyData} (w : S) (d0 : PyData) (hk : w.ss[iw]? = some (.o d0)) (φ : α → PyData) (p : α → Bool) (f : α → PyData) : ∀ (xs : List α) (acc : List PyData)
    (h : ∀ x ∈ xs, ∃ s1 s2, g (φ x) w = some s1 ∧ t s1 = .ok (p x) s2 ∧ (p x = false → s2.wipe vs = w) ∧ (p x = true → ∃ s3, e s2 = .ok (f x) s3 ∧ s3.wipe vs = w)),
    lcGoP iw d0 vs g t e (xs.map φ) acc w = .ok (acc ++ (xs.filter p).map f) w
  | [], acc, _ => by
    unfold lcGoP
    rw [List.map_nil]
    simp [hk]
  | x :: xs, acc, h => by
    obtain ⟨s1, s2, h1, h2, h3, h4⟩ := h x List.mem_cons_self
    have ih := fun acc => lcGoP_map w d0 hk φ p f xs acc fun y hy => h y (List.mem_cons_of_mem _ hy)
    rw [List.map_cons]
    unfold lcGoP
    rw [if_pos hk, h1]
    simp only [h2]
    cases q : p x with
    | false =>
      simp only
      rw [h3 q, ih, List.filter_cons_of_neg (by rw [q]; exact Bool.false_ne_true)]
    | true =>
      obtain ⟨s3, h5, h6⟩ := h4 q
      simp only [h5]
      rw [h6, ih, List.filter_cons_of_pos q, List.map_cons, List.append_assoc]
      rfl
theorem mLcP_map {α : Type} {e : S → R PyData} {st : S} (xs : List α) (φ : α → PyData) (p : α → Bool) (f : α → PyData) (hk : st.ss[iw]? = some (.o (.list (xs.map φ)))) (hk' : (st.wipe vs).ss[iw]? = some (.o (.list (xs.map φ)))) (hl : xs.length ≤ 16777216)
    (h : ∀ x ∈ xs, ∃ s1 s2, g (φ x) (st.wipe vs) = some s1 ∧ t s1 = .ok (p x) s2 ∧ (p x = false → s2.wipe vs = st.wipe vs) ∧ (p x = true → ∃ s3, e s2 = .ok (f x) s3 ∧ s3.wipe vs = st.wipe vs)) :
    mLcP iw vs g t e st = .ok (.o (.list ((xs.filter p).map f))) ((st.wipe vs).rest st vs) := by
  unfold mLcP
  rw [hk]
  simp only [List.length_map, okLen_of hl, if_true]
  rw [lcGoP_map (st.wipe vs) _ hk' φ p f xs [] h]
  rfl
end
end Pd
end
set_option linter.all false
set_option maxRecDepth 100000
set_option maxHeartbeats 4000000
/-! Pd, part Zb: the other way to draw. -/
noncomputable section
namespace Pd
open PySem PySem.Spec PyProof.Rows L2
def w1C : S → R Bool := (mAnd (mB (m2 gGt (mPk 1) (mO (mC (.int 1))))) (mAnd (mB (m2 gLt (mO (mGetS Src.left (mVar 0))) (mO (mC (.int 2))))) (mB (m2 gGt (mO (mCelLen (mCel (mVar 0)))) (mO (mC (.int 0)))))))
def w1B : S → RS := (sPutS uLeft (mVar 0) (mF (mCelPop (mCel (mVar 0)))))
def p1R : S → RS := (sSeq (sSet 2 (mGetS Src.left (mVar 0)))
  (sSeq (sIf (mOr (mB (m2 gLt (mPk 1) (mO (mC (.int 2))))) (mB (m2 gGt (mPk 2) (mO (mC (.int 1)))))) (sSeq (sPutS uLeft (mVar 0) (mF (m2 gDiv (mPk 2) (mO (m2 gMax2 (mO (mC (.int 1))) (mPk 1))))))
  (sRet (m2 gMod (mO (m1 gInt (mPk 2))) (mO (m2 gMax2 (mO (mC (.int 1))) (mPk 1)))))) sNil)
  (sSeq (sPutS uTurn (mVar 0) (mF (m2 gAdd (mO (mGetS Src.turn (mVar 0))) (mO (mC (.int 1))))))
  (sSeq (sSet 3 (m2 gMod (mO (m1 gInt (mO (m2 gAdd (mO (mGetS Src.mixed (mVar 0))) (mO (m2 gMul (mO (mGetS Src.turn (mVar 0))) (mO (mC (.int 104729))))))))) (mO (mC (.int 998244353)))))
  (sSeq (sSet 3 (m2 gMod (mO (m1 gInt (mO (m2 gAdd (mO (m2 gMul (mPk 3) (mPk 3))) (mO (m2 gMul (mO (mGetS Src.turn (mVar 0))) (mO (mC (.int 17))))))))) (mO (mC (.int 2147483647)))))
  (sSeq (sPutS uMixed (mVar 0) (mF (mVar 3)))
  (sRet (m2 gMod (mO (m1 gInt (mO (m2 gDiv (mPk 3) (mO (mC (.int 16))))))) (mPk 1)))))))))
def pick1 : S → RS := sSeq (sWhile w1C w1B) p1R
theorem gMax2_int (a b : Int) : gMax2 (.int a) (.int b) = some (.v (.int (if b > a then b else a))) := rfl
theorem pick1_while (m : Int) : ∀ (k : Nat) (s : Src), s.cells.length = k → ∃ s', sWhile w1C w1B ⟨[.src, .v (.int m), .no, .no], some s⟩ = .nx ⟨[.src, .v (.int m), .no, .no], some s'⟩
  | 0, s, h => by
    refine ⟨s, ?_⟩
    have p0 : (0 : Int) < ((0 : Nat) : Int) ↔ False := by decide
    have c1 : w1C ⟨[.src, .v (.int m), .no, .no], some s⟩ = .ok false ⟨[.src, .v (.int m), .no, .no], some s⟩ := by
      unfold w1C
      by_cases y : 1 < m
      · by_cases z : s.left < 2
        · simp only [v_GetS, v_Cel, v_CelLen, v_CelPop, v_PutS, v_C, v_Var, v_Mv, v_Pk, v_O, v_F, v_B, v_m1, v_m2, still_v, still_t, still_s, d_v, d_t, d_s, v_Seq, v_Nil, v_If, v_Set, v_Ret, v_Drop, v_Asg, v_Par2, v_Par3, v_And, v_Or, v_Not, v_IfE, v_Yes, v_nil, v_cons, v_tup, v_lst, v_N, v_Nl, v_Cn, v_Tp, v_TpL, v_jSeq, v_jEnum, v_jRg, v_jRg2, v_For, v_Call, v_xNil, v_xCons, v_xSrc, v_Mut, S.wipe, wipeS, S.rest, restS, backS, List.set_cons_zero, List.set_cons_succ, List.getElem?_cons_zero, List.getElem?_cons_succ, List.any_cons, List.any_nil, Slot.isSrc, if_true, Bool.or_false, Bool.false_or, Bool.or_true, Bool.true_or, true_or, or_true, List.length_cons, List.length_nil, Bool.false_eq_true, if_false, reduceIte, reduceCtorEq, gLt_int, gGt_int, h, y, z, decide_true, decide_false, p0]
        · simp only [v_GetS, v_Cel, v_CelLen, v_CelPop, v_PutS, v_C, v_Var, v_Mv, v_Pk, v_O, v_F, v_B, v_m1, v_m2, still_v, still_t, still_s, d_v, d_t, d_s, v_Seq, v_Nil, v_If, v_Set, v_Ret, v_Drop, v_Asg, v_Par2, v_Par3, v_And, v_Or, v_Not, v_IfE, v_Yes, v_nil, v_cons, v_tup, v_lst, v_N, v_Nl, v_Cn, v_Tp, v_TpL, v_jSeq, v_jEnum, v_jRg, v_jRg2, v_For, v_Call, v_xNil, v_xCons, v_xSrc, v_Mut, S.wipe, wipeS, S.rest, restS, backS, List.set_cons_zero, List.set_cons_succ, List.getElem?_cons_zero, List.getElem?_cons_succ, List.any_cons, List.any_nil, Slot.isSrc, if_true, Bool.or_false, Bool.false_or, Bool.or_true, Bool.true_or, true_or, or_true, List.length_cons, List.length_nil, Bool.false_eq_true, if_false, reduceIte, reduceCtorEq, gLt_int, gGt_int, h, y, z, decide_true, decide_false, p0]
      · simp only [v_GetS, v_Cel, v_CelLen, v_CelPop, v_PutS, v_C, v_Var, v_Mv, v_Pk, v_O, v_F, v_B, v_m1, v_m2, still_v, still_t, still_s, d_v, d_t, d_s, v_Seq, v_Nil, v_If, v_Set, v_Ret, v_Drop, v_Asg, v_Par2, v_Par3, v_And, v_Or, v_Not, v_IfE, v_Yes, v_nil, v_cons, v_tup, v_lst, v_N, v_Nl, v_Cn, v_Tp, v_TpL, v_jSeq, v_jEnum, v_jRg, v_jRg2, v_For, v_Call, v_xNil, v_xCons, v_xSrc, v_Mut, S.wipe, wipeS, S.rest, restS, backS, List.set_cons_zero, List.set_cons_succ, List.getElem?_cons_zero, List.getElem?_cons_succ, List.any_cons, List.any_nil, Slot.isSrc, if_true, Bool.or_false, Bool.false_or, Bool.or_true, Bool.true_or, true_or, or_true, List.length_cons, List.length_nil, Bool.false_eq_true, if_false, reduceIte, reduceCtorEq, gLt_int, gGt_int, h, y, decide_true, decide_false, p0]
    rw [sWhile_turn, c1]
  | k + 1, s, h => by
    rw [sWhile_turn]
    by_cases y : 1 < m
    · by_cases z : s.left < 2
      · have hk : s.cells.length - 1 < s.cells.length := by omega
        have e : s.cells[s.cells.length - 1]? = some s.cells[s.cells.length - 1] := List.getElem?_eq_getElem hk
        obtain ⟨s', h'⟩ := pick1_while m k (uLeft s.cells[s.cells.length - 1] { s with cells := s.cells.dropLast }) (by
          show s.cells.dropLast.length = k
          rw [List.length_dropLast, h]
          rfl)
        refine ⟨s', ?_⟩
        have pos : (0 : Int) < (s.cells.length : Int) := by omega
        have c1 : w1C ⟨[.src, .v (.int m), .no, .no], some s⟩ = .ok true ⟨[.src, .v (.int m), .no, .no], some s⟩ := by
          unfold w1C
          simp only [v_GetS, v_Cel, v_CelLen, v_CelPop, v_PutS, v_C, v_Var, v_Mv, v_Pk, v_O, v_F, v_B, v_m1, v_m2, still_v, still_t, still_s, d_v, d_t, d_s, v_Seq, v_Nil, v_If, v_Set, v_Ret, v_Drop, v_Asg, v_Par2, v_Par3, v_And, v_Or, v_Not, v_IfE, v_Yes, v_nil, v_cons, v_tup, v_lst, v_N, v_Nl, v_Cn, v_Tp, v_TpL, v_jSeq, v_jEnum, v_jRg, v_jRg2, v_For, v_Call, v_xNil, v_xCons, v_xSrc, v_Mut, S.wipe, wipeS, S.rest, restS, backS, List.set_cons_zero, List.set_cons_succ, List.getElem?_cons_zero, List.getElem?_cons_succ, List.any_cons, List.any_nil, Slot.isSrc, if_true, Bool.or_false, Bool.false_or, Bool.or_true, Bool.true_or, true_or, or_true, List.length_cons, List.length_nil, Bool.false_eq_true, if_false, reduceIte, reduceCtorEq, gLt_int, gGt_int, y, z, decide_true, pos]
        have c2 : w1B ⟨[.src, .v (.int m), .no, .no], some s⟩ = .nx ⟨[.src, .v (.int m), .no, .no], some (uLeft s.cells[s.cells.length - 1] { s with cells := s.cells.dropLast })⟩ := by
          unfold w1B
          simp only [v_GetS, v_Cel, v_CelLen, v_CelPop, v_PutS, v_C, v_Var, v_Mv, v_Pk, v_O, v_F, v_B, v_m1, v_m2, still_v, still_t, still_s, d_v, d_t, d_s, v_Seq, v_Nil, v_If, v_Set, v_Ret, v_Drop, v_Asg, v_Par2, v_Par3, v_And, v_Or, v_Not, v_IfE, v_Yes, v_nil, v_cons, v_tup, v_lst, v_N, v_Nl, v_Cn, v_Tp, v_TpL, v_jSeq, v_jEnum, v_jRg, v_jRg2, v_For, v_Call, v_xNil, v_xCons, v_xSrc, v_Mut, S.wipe, wipeS, S.rest, restS, backS, List.set_cons_zero, List.set_cons_succ, List.getElem?_cons_zero, List.getElem?_cons_succ, List.any_cons, List.any_nil, Slot.isSrc, if_true, Bool.or_false, Bool.false_or, Bool.or_true, Bool.true_or, true_or, or_true, List.length_cons, List.length_nil, Bool.false_eq_true, if_false, reduceIte, reduceCtorEq, e]
        rw [c1]
        simp only [c2]
        exact h'
      · refine ⟨s, ?_⟩
        have c1 : w1C ⟨[.src, .v (.int m), .no, .no], some s⟩ = .ok false ⟨[.src, .v (.int m), .no, .no], some s⟩ := by
          unfold w1C
          simp only [v_GetS, v_Cel, v_CelLen, v_CelPop, v_PutS, v_C, v_Var, v_Mv, v_Pk, v_O, v_F, v_B, v_m1, v_m2, still_v, still_t, still_s, d_v, d_t, d_s, v_Seq, v_Nil, v_If, v_Set, v_Ret, v_Drop, v_Asg, v_Par2, v_Par3, v_And, v_Or, v_Not, v_IfE, v_Yes, v_nil, v_cons, v_tup, v_lst, v_N, v_Nl, v_Cn, v_Tp, v_TpL, v_jSeq, v_jEnum, v_jRg, v_jRg2, v_For, v_Call, v_xNil, v_xCons, v_xSrc, v_Mut, S.wipe, wipeS, S.rest, restS, backS, List.set_cons_zero, List.set_cons_succ, List.getElem?_cons_zero, List.getElem?_cons_succ, List.any_cons, List.any_nil, Slot.isSrc, if_true, Bool.or_false, Bool.false_or, Bool.or_true, Bool.true_or, true_or, or_true, List.length_cons, List.length_nil, Bool.false_eq_true, if_false, reduceIte, reduceCtorEq, gLt_int, gGt_int, y, z, decide_true, decide_false]
        rw [c1]
    · refine ⟨s, ?_⟩
      have c1 : w1C ⟨[.src, .v (.int m), .no, .no], some s⟩ = .ok false ⟨[.src, .v (.int m), .no, .no], some s⟩ := by
        unfold w1C
        simp only [v_GetS, v_Cel, v_CelLen, v_CelPop, v_PutS, v_C, v_Var, v_Mv, v_Pk, v_O, v_F, v_B, v_m1, v_m2, still_v, still_t, still_s, d_v, d_t, d_s, v_Seq, v_Nil, v_If, v_Set, v_Ret, v_Drop, v_Asg, v_Par2, v_Par3, v_And, v_Or, v_Not, v_IfE, v_Yes, v_nil, v_cons, v_tup, v_lst, v_N, v_Nl, v_Cn, v_Tp, v_TpL, v_jSeq, v_jEnum, v_jRg, v_jRg2, v_For, v_Call, v_xNil, v_xCons, v_xSrc, v_Mut, S.wipe, wipeS, S.rest, restS, backS, List.set_cons_zero, List.set_cons_succ, List.getElem?_cons_zero, List.getElem?_cons_succ, List.any_cons, List.any_nil, Slot.isSrc, if_true, Bool.or_false, Bool.false_or, Bool.or_true, Bool.true_or, true_or, or_true, List.length_cons, List.length_nil, Bool.false_eq_true, if_false, reduceIte, reduceCtorEq, gLt_int, gGt_int, y, decide_true, decide_false]
      rw [c1]
theorem pick1_is (m : Int) (hm : m < 1073741824) (s : Src) : ∃ r s', gOf 4 pick1 [.src, .v (.int m)] (some s) = some (.v (.int r), some s') ∧ 0 ≤ r ∧ (2 ≤ m → r < m) ∧ (m < 2 → r = 0) := by
  obtain ⟨s1, hw⟩ := pick1_while m _ s rfl
  by_cases z : m < 2
  · refine ⟨s1.left % 1, uLeft (s1.left / 1) s1, g_of (ss := [.src, .v (.int m), .no, .no]) (ss' := [.src, .v (.int m), .v (.int s1.left), .no]) rfl ?_, Int.emod_nonneg _ (by decide), fun h => absurd z (by omega), fun _ => Int.emod_one _⟩
    have e1 : (if m > 1 then m else 1) = 1 := if_neg (by omega)
    have q1 : (0 : Int) < 1 := by decide
    have q2 : (1 : Int) < 1073741824 := by decide
    unfold pick1 p1R
    simp only [v_GetS, v_Cel, v_CelLen, v_CelPop, v_PutS, v_C, v_Var, v_Mv, v_Pk, v_O, v_F, v_B, v_m1, v_m2, still_v, still_t, still_s, d_v, d_t, d_s, v_Seq, v_Nil, v_If, v_Set, v_Ret, v_Drop, v_Asg, v_Par2, v_Par3, v_And, v_Or, v_Not, v_IfE, v_Yes, v_nil, v_cons, v_tup, v_lst, v_N, v_Nl, v_Cn, v_Tp, v_TpL, v_jSeq, v_jEnum, v_jRg, v_jRg2, v_For, v_Call, v_xNil, v_xCons, v_xSrc, v_Mut, S.wipe, wipeS, S.rest, restS, backS, List.set_cons_zero, List.set_cons_succ, List.getElem?_cons_zero, List.getElem?_cons_succ, List.any_cons, List.any_nil, Slot.isSrc, if_true, Bool.or_false, Bool.false_or, Bool.or_true, Bool.true_or, true_or, or_true, List.length_cons, List.length_nil, Bool.false_eq_true, if_false, reduceIte, reduceCtorEq, hw, gLt_int, gGt_int, gMax2_int, e1, z, decide_true, gDiv_int q1 q2, gMod_int q1, gInt_int]
  · have m0 : 0 < m := by omega
    have e1 : (if m > 1 then m else 1) = m := if_pos (by omega)
    by_cases o : 1 < s1.left
    · refine ⟨s1.left % m, uLeft (s1.left / m) s1, g_of (ss := [.src, .v (.int m), .no, .no]) (ss' := [.src, .v (.int m), .v (.int s1.left), .no]) rfl ?_, Int.emod_nonneg _ (by omega), fun _ => Int.emod_lt_of_pos _ m0, fun h => absurd h z⟩
      unfold pick1 p1R
      simp only [v_GetS, v_Cel, v_CelLen, v_CelPop, v_PutS, v_C, v_Var, v_Mv, v_Pk, v_O, v_F, v_B, v_m1, v_m2, still_v, still_t, still_s, d_v, d_t, d_s, v_Seq, v_Nil, v_If, v_Set, v_Ret, v_Drop, v_Asg, v_Par2, v_Par3, v_And, v_Or, v_Not, v_IfE, v_Yes, v_nil, v_cons, v_tup, v_lst, v_N, v_Nl, v_Cn, v_Tp, v_TpL, v_jSeq, v_jEnum, v_jRg, v_jRg2, v_For, v_Call, v_xNil, v_xCons, v_xSrc, v_Mut, S.wipe, wipeS, S.rest, restS, backS, List.set_cons_zero, List.set_cons_succ, List.getElem?_cons_zero, List.getElem?_cons_succ, List.any_cons, List.any_nil, Slot.isSrc, if_true, Bool.or_false, Bool.false_or, Bool.or_true, Bool.true_or, true_or, or_true, List.length_cons, List.length_nil, Bool.false_eq_true, if_false, reduceIte, reduceCtorEq, hw, gLt_int, gGt_int, gMax2_int, e1, z, o, decide_true, decide_false, gDiv_int m0 hm, gMod_int m0, gInt_int]
    · have q1 : (0 : Int) < 998244353 := by decide
      have q2 : (0 : Int) < 2147483647 := by decide
      have q3 : (0 : Int) < 16 := by decide
      have q4 : (16 : Int) < 1073741824 := by decide
      have a1 := Int.emod_nonneg (s1.mixed + (s1.turn + 1) * 104729) (show (998244353 : Int) ≠ 0 by decide)
      have a2 := Int.emod_lt_of_pos (s1.mixed + (s1.turn + 1) * 104729) q1
      have mm := mulOk_l (a := (s1.mixed + (s1.turn + 1) * 104729) % 998244353) (b := (s1.mixed + (s1.turn + 1) * 104729) % 998244353) (by omega) (by omega)
      refine ⟨((((s1.mixed + (s1.turn + 1) * 104729) % 998244353) * ((s1.mixed + (s1.turn + 1) * 104729) % 998244353) + (s1.turn + 1) * 17) % 2147483647 / 16) % m, uMixed ((((s1.mixed + (s1.turn + 1) * 104729) % 998244353) * ((s1.mixed + (s1.turn + 1) * 104729) % 998244353) + (s1.turn + 1) * 17) % 2147483647) (uTurn (s1.turn + 1) s1), g_of (ss := [.src, .v (.int m), .no, .no]) (ss' := [.src, .v (.int m), .v (.int s1.left), .v (.int ((((s1.mixed + (s1.turn + 1) * 104729) % 998244353) * ((s1.mixed + (s1.turn + 1) * 104729) % 998244353) + (s1.turn + 1) * 17) % 2147483647))]) rfl ?_, Int.emod_nonneg _ (by omega), fun _ => Int.emod_lt_of_pos _ m0, fun h => absurd h z⟩
      unfold pick1 p1R
      simp only [v_GetS, v_Cel, v_CelLen, v_CelPop, v_PutS, v_C, v_Var, v_Mv, v_Pk, v_O, v_F, v_B, v_m1, v_m2, still_v, still_t, still_s, d_v, d_t, d_s, v_Seq, v_Nil, v_If, v_Set, v_Ret, v_Drop, v_Asg, v_Par2, v_Par3, v_And, v_Or, v_Not, v_IfE, v_Yes, v_nil, v_cons, v_tup, v_lst, v_N, v_Nl, v_Cn, v_Tp, v_TpL, v_jSeq, v_jEnum, v_jRg, v_jRg2, v_For, v_Call, v_xNil, v_xCons, v_xSrc, v_Mut, S.wipe, wipeS, S.rest, restS, backS, List.set_cons_zero, List.set_cons_succ, List.getElem?_cons_zero, List.getElem?_cons_succ, List.any_cons, List.any_nil, Slot.isSrc, if_true, Bool.or_false, Bool.false_or, Bool.or_true, Bool.true_or, true_or, or_true, List.length_cons, List.length_nil, Bool.false_eq_true, if_false, reduceIte, reduceCtorEq, hw, gLt_int, gGt_int, z, o, decide_true, decide_false, gDiv_int q3 q4, gMod_int m0, gMod_int q1, gMod_int q2, gInt_int, gAdd_int, gMul_int mm, gMul_int (mulOk_r (a := s1.turn + 1) (b := 104729) (by decide) (by decide)), gMul_int (mulOk_r (a := s1.turn + 1) (b := 17) (by decide) (by decide)), uTurn, uMixed]
/-! the source -/
def open1 : S → RS := sSeq (sSet 1 (mC (.int 11))) (sSeq (sFor (jScr 0) (gN 2) OB) (sRet (mNewS (m1 gRev (mO (mLc (jScr 0) [2] (gN 2) tYesM (mF (m1 gAbs (mPk 2)))))) (mF (mC (.int 1))) (mF (mVar 1)) (mF (mC (.int 0))))))
theorem open1_is (ns : List Int) (hn : ns.length ≤ 63) : ∃ s', gOf 3 open1 [.scr ns] none = some (.src, some s') := by
  have q1 : (0 : Int) < 2147483629 := by decide
  obtain ⟨st', e1, k, d2, q2, hd⟩ := forGo_foldN (g := gN 2) (m := OB) PyData.int (fun (_ : Unit) _ => ()) (fun k _ st => ∃ v d2, st = ⟨[.scr ns, .v (.int v), d2], none⟩ ∧ backS (some d2) = d2) ns 0 () ⟨[.scr ns, .v (.int 11), .no], none⟩
    (fun k x hk _ st ⟨v, d2, q, _⟩ => by
      subst q
      refine ⟨_, ⟨[.scr ns, .v (.int ((v * 69069 + x * 31 + 5) % 2147483629)), .v (.int x)], none⟩, rfl, .inl ?_, _, _, rfl, rfl⟩
      unfold OB
      simp only [v_GetS, v_Cel, v_CelLen, v_CelPop, v_PutS, v_C, v_Var, v_Mv, v_Pk, v_O, v_F, v_B, v_m1, v_m2, still_v, still_t, still_s, d_v, d_t, d_s, v_Seq, v_Nil, v_If, v_Set, v_Ret, v_Drop, v_Asg, v_Par2, v_Par3, v_And, v_Or, v_Not, v_IfE, v_Yes, v_nil, v_cons, v_tup, v_lst, v_N, v_Nl, v_Cn, v_Tp, v_TpL, v_jSeq, v_jEnum, v_jRg, v_jRg2, v_For, v_Call, v_xNil, v_xCons, v_xSrc, v_Mut, S.wipe, wipeS, S.rest, restS, backS, List.set_cons_zero, List.set_cons_succ, List.getElem?_cons_zero, List.getElem?_cons_succ, List.any_cons, List.any_nil, Slot.isSrc, if_true, Bool.or_false, Bool.false_or, Bool.or_true, Bool.true_or, true_or, or_true, List.length_cons, List.length_nil, Bool.false_eq_true, if_false, reduceIte, reduceCtorEq, gAdd_int, gMul_int (mulOk_r (a := v) (b := 69069) (by decide) (by decide)), gMul_int (mulOk_r (a := x) (b := 31) (by decide) (by decide)), gInt_int, gMod_int q1]) ⟨11, .no, rfl, rfl⟩
  have e : mLc (jScr 0) [2] (gN 2) tYesM (mF (m1 gAbs (mPk 2))) ⟨[.scr ns, .v (.int k), d2], none⟩ = .ok (.o (.list ((ns.map fun i => if i < 0 then -i else i).map PyData.int))) ⟨[.scr ns, .v (.int k), d2], none⟩ := by
    rw [mLc_map (st1 := ⟨[.scr ns, .v (.int k), d2], none⟩) ns PyData.int (fun _ => true) (fun i => .int (if i < 0 then -i else i))]
    · rw [List.filter_eq_self.mpr (fun _ _ => rfl), List.map_map]
      show R.ok _ (⟨[.scr ns, .v (.int k), backS (some d2)], none⟩ : S) = _
      rw [hd]
      rfl
    · simp only [v_GetS, v_Cel, v_CelLen, v_CelPop, v_PutS, v_C, v_Var, v_Mv, v_Pk, v_O, v_F, v_B, v_m1, v_m2, still_v, still_t, still_s, d_v, d_t, d_s, v_Seq, v_Nil, v_If, v_Set, v_Ret, v_Drop, v_Asg, v_Par2, v_Par3, v_And, v_Or, v_Not, v_IfE, v_Yes, v_nil, v_cons, v_tup, v_lst, v_N, v_Nl, v_Cn, v_Tp, v_TpL, v_jSeq, v_jEnum, v_jRg, v_jRg2, v_For, v_Call, v_xNil, v_xCons, v_xSrc, v_Mut, S.wipe, wipeS, S.rest, restS, backS, List.set_cons_zero, List.set_cons_succ, List.getElem?_cons_zero, List.getElem?_cons_succ, List.any_cons, List.any_nil, Slot.isSrc, if_true, Bool.or_false, Bool.false_or, Bool.or_true, Bool.true_or, true_or, or_true, List.length_cons, List.length_nil, Bool.false_eq_true, if_false, reduceIte, reduceCtorEq, v_jScr]
    · omega
    · intro x hx
      exact ⟨_, ⟨[.scr ns, .v (.int k), .v (.int x)], none⟩, rfl, rfl, fun h => (nomatch h), fun _ => ⟨⟨[.scr ns, .v (.int k), .v (.int x)], none⟩, rfl, rfl⟩⟩
  have r : gRev (.list ((ns.map fun i => if i < 0 then -i else i).map PyData.int)) = some (.o (.list ((ns.map fun i => if i < 0 then -i else i).reverse.map PyData.int))) := by
    show some (Slot.o (.list (List.reverse _))) = _
    rw [List.map_reverse]
  refine ⟨⟨(ns.map fun i => if i < 0 then -i else i).reverse, 1, k, 0⟩, g_ofS (ss := [.scr ns, .no, .no]) rfl (ss' := [.scr ns, .v (.int k), d2]) ?_⟩
  unfold open1
  simp only [v_GetS, v_Cel, v_CelLen, v_CelPop, v_PutS, v_C, v_Var, v_Mv, v_Pk, v_O, v_F, v_B, v_m1, v_m2, still_v, still_t, still_s, d_v, d_t, d_s, v_Seq, v_Nil, v_If, v_Set, v_Ret, v_Drop, v_Asg, v_Par2, v_Par3, v_And, v_Or, v_Not, v_IfE, v_Yes, v_nil, v_cons, v_tup, v_lst, v_N, v_Nl, v_Cn, v_Tp, v_TpL, v_jSeq, v_jEnum, v_jRg, v_jRg2, v_For, v_Call, v_xNil, v_xCons, v_xSrc, v_Mut, S.wipe, wipeS, S.rest, restS, backS, List.set_cons_zero, List.set_cons_succ, List.getElem?_cons_zero, List.getElem?_cons_succ, List.any_cons, List.any_nil, Slot.isSrc, if_true, Bool.or_false, Bool.false_or, Bool.or_true, Bool.true_or, true_or, or_true, List.length_cons, List.length_nil, Bool.false_eq_true, if_false, reduceIte, reduceCtorEq, v_jScr, e1, q2, e, v_NewS, r, intsOf_map]
/-! any order, by any way to draw -/
def anyW (pk : GFn) : S → RS := (sSeq (sSet 2 (m1 gList (mPk 1)))
  (sRet (mLc (jRg (mCons (mF (m1 gLen (mPk 2))) mNil)) [3] (gN 3) tYesM (mF (mMut gPopAt 2 (mCons (mF (mCall pk (xSrc 0 (xCons (mF (m1 gLen (mPk 2))) xNil)))) mNil))))))
def PickOk (pk : GFn) : Prop := ∀ (m : Int) (s : Src), m < 1073741824 → ∃ r s', pk [.src, .v (.int m)] (some s) = some (.v (.int r), some s') ∧ 0 ≤ r ∧ (2 ≤ m → r < m) ∧ (m < 2 → r = 0)
def anyWE (pk : GFn) : S → R PyData := (mF (mMut gPopAt 2 (mCons (mF (mCall pk (xSrc 0 (xCons (mF (m1 gLen (mPk 2))) xNil)))) mNil)))
theorem anyW_go {pk : GFn} (hpk : PickOk pk) (th : Slot) : ∀ (xs : List PyData) (l acc : List PyData) (s : Src), l.length = xs.length → xs.length ≤ 1000 → ∃ l' s', lcGo [3] (gN 3) tYesM (anyWE pk) xs acc ⟨[.src, th, .o (.list l), .no], some s⟩ = .ok (acc ++ l') ⟨[.src, th, .o (.list []), .no], some s'⟩ ∧ l'.Perm l
  | [], l, acc, s, h, _ => by
    have : l = [] := List.length_eq_zero_iff.mp h
    subst this
    exact ⟨[], s, by simp [lcGo], List.Perm.refl _⟩
  | x :: xs, l, acc, s, h, hx => by
    rw [List.length_cons] at h hx
    obtain ⟨r, s1, e, r0, r1, r2⟩ := hpk (l.length : Nat) s (by omega)
    have hr : r < (l.length : Nat) := by
      by_cases z : 2 ≤ l.length
      · exact r1 (by omega)
      · have := r2 (by omega)
        omega
    obtain ⟨d, g, gd⟩ := gPopAt_at l r r0 hr (by omega)
    have hi : r.toNat < l.length := by omega
    obtain ⟨l', s', e2, p⟩ := anyW_go hpk th xs (l.eraseIdx r.toNat) (acc ++ [d]) s1 (by
      rw [List.length_eraseIdx, if_pos hi]
      omega) (by omega)
    refine ⟨d :: l', s', ?_, (List.Perm.cons d p).trans (perm_erase l _ d gd)⟩
    have step : anyWE pk ⟨[.src, th, .o (.list l), .v x], some s⟩ = .ok d ⟨[.src, th, .o (.list (l.eraseIdx r.toNat)), .v x], some s1⟩ := by
      unfold anyWE
      simp only [v_GetS, v_Cel, v_CelLen, v_CelPop, v_PutS, v_C, v_Var, v_Mv, v_Pk, v_O, v_F, v_B, v_m1, v_m2, still_v, still_t, still_s, d_v, d_t, d_s, v_Seq, v_Nil, v_If, v_Set, v_Ret, v_Drop, v_Asg, v_Par2, v_Par3, v_And, v_Or, v_Not, v_IfE, v_Yes, v_nil, v_cons, v_tup, v_lst, v_N, v_Nl, v_Cn, v_Tp, v_TpL, v_jSeq, v_jEnum, v_jRg, v_jRg2, v_For, v_Call, v_xNil, v_xCons, v_xSrc, v_Mut, S.wipe, wipeS, S.rest, restS, backS, List.set_cons_zero, List.set_cons_succ, List.getElem?_cons_zero, List.getElem?_cons_succ, List.any_cons, List.any_nil, Slot.isSrc, if_true, Bool.or_false, Bool.false_or, Bool.or_true, Bool.true_or, true_or, or_true, List.length_cons, List.length_nil, Bool.false_eq_true, if_false, reduceIte, reduceCtorEq, gLen_list, e, g]
    unfold lcGo
    simp only [v_N, v_Yes, List.set_cons_zero, List.set_cons_succ, step]
    rw [show (⟨[.src, th, .o (.list (l.eraseIdx r.toNat)), .v x], some s1⟩ : S).wipe [3] = ⟨[.src, th, .o (.list (l.eraseIdx r.toNat)), .no], some s1⟩ from rfl, e2, List.append_assoc]
    rfl
theorem anyW_is {pk : GFn} (hpk : PickOk pk) (d : PyData) (l : List PyData) (gl : gList d = some (.o (.list l))) (hl : l.length ≤ 1000) (s : Src) : ∃ l' s', gOf 4 (anyW pk) [.src, .v d] (some s) = some (.o (.list l'), some s') ∧ l'.Perm l := by
  obtain ⟨l', s', e, p⟩ := anyW_go hpk (.v d) (rgD 0 (l.length : Nat)) l [] s (by simp [rgD]) (by simp [rgD]; omega)
  refine ⟨l', s', g_ofO (ss := [.src, .v d, .no, .no]) rfl (ss' := [.src, .v d, .o (.list []), .no]) ?_, p⟩
  have hr : rgOk 0 (l.length : Nat) = true := rgOk_of (by omega) (by omega) (by omega) (by omega) (by omega)
  have lc : mLc (jRg (mCons (mF (m1 gLen (mPk 2))) mNil)) [3] (gN 3) tYesM (anyWE pk) ⟨[.src, .v d, .o (.list l), .no], some s⟩ = .ok (.o (.list l')) ⟨[.src, .v d, .o (.list []), .no], some s'⟩ := by
    have ji : jRg (mCons (mF (m1 gLen (mPk 2))) mNil) ⟨[.src, .v d, .o (.list l), .no], some s⟩ = .ok (rgD 0 (l.length : Nat)) ⟨[.src, .v d, .o (.list l), .no], some s⟩ := by
      simp only [v_GetS, v_Cel, v_CelLen, v_CelPop, v_PutS, v_C, v_Var, v_Mv, v_Pk, v_O, v_F, v_B, v_m1, v_m2, still_v, still_t, still_s, d_v, d_t, d_s, v_Seq, v_Nil, v_If, v_Set, v_Ret, v_Drop, v_Asg, v_Par2, v_Par3, v_And, v_Or, v_Not, v_IfE, v_Yes, v_nil, v_cons, v_tup, v_lst, v_N, v_Nl, v_Cn, v_Tp, v_TpL, v_jSeq, v_jEnum, v_jRg, v_jRg2, v_For, v_Call, v_xNil, v_xCons, v_xSrc, v_Mut, S.wipe, wipeS, S.rest, restS, backS, List.set_cons_zero, List.set_cons_succ, List.getElem?_cons_zero, List.getElem?_cons_succ, List.any_cons, List.any_nil, Slot.isSrc, if_true, Bool.or_false, Bool.false_or, Bool.or_true, Bool.true_or, true_or, or_true, List.length_cons, List.length_nil, Bool.false_eq_true, if_false, reduceIte, reduceCtorEq, gLen_list, hr]
    unfold mLc
    rw [ji]
    simp only [okLen_of (n := (rgD 0 (l.length : Nat)).length) (by simp [rgD]; omega), if_true]
    rw [show (⟨[.src, .v d, .o (.list l), .no], some s⟩ : S).wipe [3] = ⟨[.src, .v d, .o (.list l), .no], some s⟩ from rfl, e]
    rfl
  have lc' := lc
  unfold anyWE at lc'
  unfold anyW
  simp only [v_GetS, v_Cel, v_CelLen, v_CelPop, v_PutS, v_C, v_Var, v_Mv, v_Pk, v_O, v_F, v_B, v_m1, v_m2, still_v, still_t, still_s, d_v, d_t, d_s, v_Seq, v_Nil, v_If, v_Set, v_Ret, v_Drop, v_Asg, v_Par2, v_Par3, v_And, v_Or, v_Not, v_IfE, v_Yes, v_nil, v_cons, v_tup, v_lst, v_N, v_Nl, v_Cn, v_Tp, v_TpL, v_jSeq, v_jEnum, v_jRg, v_jRg2, v_For, v_Call, v_xNil, v_xCons, v_xSrc, v_Mut, S.wipe, wipeS, S.rest, restS, backS, List.set_cons_zero, List.set_cons_succ, List.getElem?_cons_zero, List.getElem?_cons_succ, List.any_cons, List.any_nil, Slot.isSrc, if_true, Bool.or_false, Bool.false_or, Bool.or_true, Bool.true_or, true_or, or_true, List.length_cons, List.length_nil, Bool.false_eq_true, if_false, reduceIte, reduceCtorEq, gl, lc']
theorem pick1_ok : PickOk (gOf 4 pick1) := fun m s hm => pick1_is m hm s
theorem pick2_ok : PickOk (gOf 6 pick2) := fun m s hm => pick2_is m hm s
end Pd
end
set_option linter.all false
set_option maxRecDepth 100000
/-! Pd, part Zc: what never is gone through, chains of comparisons, items stored. -/
noncomputable section
namespace Pd
open PySem PySem.Spec PyProof.Rows L2
section
variable {K : PySem.W.Frag} {X : Cx} {st : Stmt} {a b c : Expr} {pos : Pos}
theorem s_bad (h : PS X st tNever) : PS X st (tMS K fun _ => .bad) := imS h fun D σ H ⟨sa, B, F, s, h0, h1⟩ => h1.elim
/-- a chain: its first two operands values -/
def mChain (g g' : PyData → PyData → Option Slot) (ma mb mc : S → R Opd) : S → R Slot := fun st => match ma st with
  | .ok (.v dx) st1 => match mb st1 with
    | .ok (.v dy) st2 => match g dx dy with
      | some (.v (.bool false)) => .ok (.v (.bool false)) st2
      | some (.v (.bool true)) => match mc st2 with
        | .ok z st3 => match g' dy z.d with
          | some r => .ok r st3
          | none => .bad
        | .bad => .bad
      | _ => .bad
    | _ => .bad
  | _ => .bad
theorem r_chain {g g' : PyData → PyData → Option Slot} {r r' : R2} {ma mb mc : S → R Opd} (ad : Ad2 g r) (ad' : Ad2 g' r') : ∀ σ H Q, tM K (mChain g g' ma mb mc) σ H Q → tChain r r' (tP K ma) (tP K mb) (tP K mc) σ H Q := fun σ H Q ⟨sa, B, F, st, s, st', h0, h1, k⟩ => by
  unfold mChain at h1
  cases q1 : ma st with
  | bad =>
    rw [q1] at h1
    cases h1
  | ok x st1 =>
    rw [q1] at h1
    cases x with
    | t d => cases h1
    | s i d => cases h1
    | v dx =>
      simp only at h1
      refine ⟨sa, B, F, st, _, st1, h0, q1, fun sa1 F1 H1 v R1 p1 => ?_⟩
      have p1 : Rp F1 v dx := p1
      cases q2 : mb st1 with
      | bad =>
        simp only [q2] at h1
        cases h1
      | ok y st2 =>
        simp only [q2] at h1
        cases y with
        | t d => cases h1
        | s i d => cases h1
        | v dy =>
          simp only at h1
          refine ⟨sa1, B, F1, st1, _, st2, R1.r, q2, fun sa2 F2 H2 u R2 p2 => ?_⟩
          have p2 : Rp F2 u dy := p2
          cases q3 : g dx dy with
          | none =>
            simp only [q3] at h1
            cases h1
          | some z =>
            simp only [q3] at h1
            refine ad F2 H2 v u dx dy z _ R2.r.fh (.inl (Rp.mono R2.x.le p1)) (.inl p2) q3 fun w F3 H3 o => ?_
            cases z with
            | v dz =>
              cases dz with
              | bool bz =>
                cases o with
                | v q =>
                  cases q
                  refine ⟨bz, rfl, ?_⟩
                  cases bz with
                  | false =>
                    cases h1
                    exact k sa2 F2 H2 (.bl false) (R1.trans R2) (.bl false)
                  | true =>
                    simp only at h1
                    cases q4 : mc st2 with
                    | bad =>
                      simp only [q4] at h1
                      cases h1
                    | ok zo st3 =>
                      simp only [q4] at h1
                      cases q5 : g' dy zo.d with
                      | none =>
                        simp only [q5] at h1
                        cases h1
                      | some s' =>
                        simp only [q5] at h1
                        cases h1
                        refine ⟨sa2, B, F2, st2, zo, st', R2.r, q4, fun sa4 F4 H4 w' R4 p4 => ?_⟩
                        refine ad' F4 H4 u w' dy zo.d _ Q R4.r.fh (.inl (Rp.mono R4.x.le p2)) (p4.rd R4.r) q5 fun w2 F5 H5 o2 => ?_
                        obtain ⟨a5, b5⟩ := R4.out o2
                        exact k sa4 F5 H5 w2 ((R1.trans R2).trans a5) b5
              | _ => cases h1
            | _ => cases h1
theorem d_chain {op op' : CmpOp} {g g' : PyData → PyData → Option Slot} {ma mb mc : S → R Opd} (o : OpD X (compareOp op) g) (o' : OpD X (compareOp op') g') (ha : PE X a (tP X.K ma)) (hb : PE X b (tP X.K mb)) (hc : PE X c (tP X.K mc))
    (hm : lastMarks [op, op'] [b, c] = false := by with_unfolding_all rfl) : PE X (.Compare a [op, op'] [b, c] pos) (tM X.K (mChain g g' ma mb mc)) := by
  obtain ⟨r, h1, h2⟩ := o
  obtain ⟨r', h1', h2'⟩ := o'
  exact imE (pe_chain h1 h1' ha hb hc hm) (r_chain h2 h2')
/-- an item of a list of one's own is stored -/
def sSetIx (i : Nat) (mi mv : S → R PyData) : S → RS := fun st => match mv st with
  | .ok d st1 => match st1.ss[i]? with
    | some (.o (.list _)) => match mi st1 with
      | .ok (.int k) st2 => match st2.ss[i]? with
        | some (.o (.list ds)) => match ixN ds.length k with
          | some j => .nx { st2 with ss := st2.ss.set i (.o (.list (ds.set j d))) }
          | none => .bad
        | _ => .bad
      | _ => .bad
    | _ => .bad
  | .bad => .bad
theorem s_setIx {o i e : Expr} {n : Nat} {mi mv : S → R PyData} {p pos : Pos} (ho : PE X o (tVar n)) (hi : PE X i (tF X.K mi)) (he : PE X e (tF X.K mv))
    (hs : swapsWithSole [.Subscript o i p] e pos.line X.env = pure false := by rfl) (hw : swappedStores [.Subscript o i p] e X.env = pure none := by rfl)
    (hv : ∀ v, assign (.Subscript o i p) X.env v = (do
      let ov ← holding [v] (eval o X.env)
      let iv ← holding [v, ov] (eval i X.env)
      standAt p
      holding [v, ov, iv] (setItem ov iv v)
      release [v, ov, iv] []) := by intro _; rfl) :
    PS X (.Assign [.Subscript o i p] e pos) (tMS X.K (sSetIx n mi mv)) := imS (ps_asg he (pg_sub ho hi set_list hv) hs hw) fun D σ H ⟨sa, B, F, st, h0, h1⟩ => by
  unfold sSetIx at h1
  cases q1 : mv st with
  | bad =>
    rw [q1] at h1
    exact h1.elim
  | ok d st1 =>
    simp only [q1] at h1
    refine ⟨sa, B, F, st, d, st1, h0, q1, fun sa1 F1 H1 v R1 rv => ?_⟩
    split at h1
    · rename_i ds0 q2
      obtain ⟨a, o, e1, e2, e3, _⟩ := R1.r.so n _ q2
      refine ⟨.ref a, e1, ?_⟩
      cases q3 : mi st1 with
      | bad =>
        simp only [q3] at h1
        exact h1.elim
      | ok di st2 =>
        simp only [q3] at h1
        refine ⟨sa1, B, F1, st1, di, st2, R1.r, q3, fun sa2 F2 H2 w R2 rw' => ?_⟩
        cases di with
        | int k =>
          cases rw'
          simp only at h1
          split at h1
          · rename_i ds q4
            split at h1
            · rename_i j q5
              obtain ⟨b, u, f1, f2, f3, f4, f5, f6⟩ := R2.r.so n _ q4
              rw [e1] at f1
              cases f1
              cases f3 with
              | lst r3 =>
                refine ⟨a, _, k, j, rfl, rfl, f2, by rw [r3.length]; exact q5, ?_⟩
                exact h1 sa2 F2 _ σ ⟨((R1.trans R2).r).mut q4 e1 (.lst (RpL.set (Rp.mono R2.x.le rv) j r3)), (R1.trans R2).x, (R1.trans R2).k, (R1.trans R2).s⟩
            · exact h1.elim
          · exact h1.elim
        | _ => exact h1.elim
    · exact h1.elim
end
end Pd
end
set_option linter.all false
set_option maxRecDepth 100000
/-! Pd, part Zd: two names at once, through a tuple. -/
noncomputable section
namespace Pd
open PySem PySem.Spec PyProof.Rows L2
section
variable {X : Cx} {st : Stmt} {m m' m'' : S → R Slot} {pos : Pos}
theorem s_par2T {i j : Nat} (hij : i ≠ j) (h : PS X st (tAsg (tTup (tCons (tM X.K m) (tCons (tM X.K m') tNil))) (gTup X.K 2 (gCons (gName i) (gCons (gName j) gNil))))) : PS X st (tMS X.K (sPar2 i j m m')) := imS h fun D σ H ⟨sa, B, F, st, h0, h1⟩ => by
  unfold sPar2 at h1
  cases q : m st with
  | bad =>
    simp only [q] at h1
    exact h1.elim
  | ok r st1 =>
    cases q2 : m' st1 with
    | bad =>
      simp only [q, q2] at h1
      exact h1.elim
    | ok r' st2 =>
      simp only [q, q2] at h1
      refine ⟨sa, B, F, st, r, st1, h0, q, fun sa1 F1 H1 v R1 rr1 => ?_⟩
      obtain ⟨B', sb, S1, kp⟩ := rr1.wait R1.r
      refine ⟨sa1, B', F1, st1, r', st2, S1, q2, fun sa2 F2 H2 w R2 rr2 => ⟨by show 2 ≤ sizeLine; decide, fun p hp => ⟨p, [v, w], rfl, .inl (.inl upd_same), rfl, v, [w], rfl, w, [], rfl, rfl, ?_⟩⟩⟩
      obtain ⟨k1, k2⟩ := kp sa2 F2 H2 st2 R2
      have R : Rch X.K B σ sa F st sa2 F2 H2 st2 := R1.trans ⟨R2.r.less sb, R2.x.weak sb, R2.k, R2.s⟩
      have rr2' : RRep sa2 B F2 H2 σ st2 w r' := by
        cases r' with
        | v d => exact rr2
        | src => exact rr2
        | cel => exact rr2
        | no => exact rr2.elim
        | scr _ => exact rr2.elim
        | o d =>
          obtain ⟨a, o, e, t1, t2, t3, t4⟩ := rr2
          exact ⟨a, o, e, t1, t2, sb.none_of t3, t4⟩
      have ne : ∀ d d', r' = .o d → r = .o d' → w ≠ v := fun d d' e1 e2 z => by
        subst e1
        obtain ⟨a, ea, ha⟩ := k2 d' e2
        obtain ⟨a2, o, e, t1, t2, t3, t4⟩ := rr2
        rw [e, ea] at z
        cases z
        exact ha t3
      have S2 := (R.r.put k1).put (i := j) (rr2'.beside (i := i) ne)
      exact h1 sa2 F2 _ _ ⟨S2.alloc hp, R.x, R.k, R.s⟩
theorem s_par3T {i j l : Nat} (h : PS X st (tAsg (tTup (tCons (tM X.K m) (tCons (tM X.K m') (tCons (tM X.K m'') tNil)))) (gTup X.K 3 (gCons (gName i) (gCons (gName j) (gCons (gName l) gNil)))))) : PS X st (tMS X.K (sPar3 i j l m m' m'')) := imS h fun D σ H ⟨sa, B, F, st, h0, h1⟩ => by
  unfold sPar3 at h1
  cases q : m st with
  | bad =>
    simp only [q] at h1
    exact h1.elim
  | ok r st1 =>
    cases q2 : m' st1 with
    | bad =>
      simp only [q, q2] at h1
      exact h1.elim
    | ok r' st2 =>
      cases q3 : m'' st2 with
      | bad =>
        simp only [q, q2, q3] at h1
        exact h1.elim
      | ok r'' st3 =>
        simp only [q, q2, q3] at h1
        refine ⟨sa, B, F, st, r, st1, h0, q, fun sa1 F1 H1 v R1 rr1 => ?_⟩
        obtain ⟨B1, sb1, S1, kp1⟩ := rr1.wait R1.r
        refine ⟨sa1, B1, F1, st1, r', st2, S1, q2, fun sa2 F2 H2 w R2 rr2 => ?_⟩
        obtain ⟨B2, sb2, S2, kp2⟩ := rr2.wait R2.r
        refine ⟨sa2, B2, F2, st2, r'', st3, S2, q3, fun sa3 F3 H3 x R3 rr3 => ⟨by show 3 ≤ sizeLine; decide, fun p hp => ⟨p, [v, w, x], rfl, .inl (.inl upd_same), rfl, v, [w, x], rfl, w, [x], rfl, x, [], rfl, rfl, ?_⟩⟩⟩
        have R3' : Rch X.K B1 σ sa2 F2 st2 sa3 F3 H3 st3 := ⟨R3.r.less sb2, R3.x.weak sb2, R3.k, R3.s⟩
        obtain ⟨a1, a2⟩ := kp1 sa3 F3 H3 st3 (R2.trans R3')
        obtain ⟨b1, b2⟩ := kp2 sa3 F3 H3 st3 R3
        have R : Rch X.K B σ sa F st sa3 F3 H3 st3 := by
          have R23 := R2.trans R3'
          exact R1.trans ⟨R23.r.less sb1, R23.x.weak sb1, R23.k, R23.s⟩
        have n1 : ∀ d d', r' = .o d → r = .o d' → w ≠ v := fun d d' e1 e2 z => by
          subst e1
          obtain ⟨a, ea, ha⟩ := a2 d' e2
          obtain ⟨c, o, e, t1, t2, t3, t4⟩ := rr2
          rw [e, ea] at z
          cases z
          exact ha t3
        have n2 : ∀ d d', r'' = .o d → r = .o d' → x ≠ v := fun d d' e1 e2 z => by
          subst e1
          obtain ⟨a, ea, ha⟩ := a2 d' e2
          obtain ⟨c, o, e, t1, t2, t3, t4⟩ := rr3
          rw [e, ea] at z
          cases z
          exact ha (sb2.none_of t3)
        have n3 : ∀ d d', r'' = .o d → r' = .o d' → x ≠ w := fun d d' e1 e2 z => by
          subst e1
          obtain ⟨a, ea, ha⟩ := b2 d' e2
          obtain ⟨c, o, e, t1, t2, t3, t4⟩ := rr3
          rw [e, ea] at z
          cases z
          exact ha t3
        have b1' := b1.less sb1
        have rr3' := (rr3.less sb2).less sb1
        have Sa := R.r.put (i := i) a1
        have Sb := Sa.put (i := j) (b1'.beside (i := i) n1)
        have Sc := Sb.put (i := l) ((rr3'.beside (i := i) n2).beside (i := j) n3)
        exact h1 sa3 F3 _ _ ⟨Sc.alloc hp, R.x, R.k, R.s⟩
end
end Pd
end
set_option linter.all false
set_option maxRecDepth 100000
/-! Pd, part Ze: a chain as a test, places of items, items taken out, ranges downwards. -/
noncomputable section
namespace Pd
open PySem PySem.Spec PyProof.Rows L2
section
variable {X : Cx} {a b c : Expr} {pos : Pos}
theorem t_chain {op op' : CmpOp} {g g' : PyData → PyData → Option Slot} {ma mb mc : S → R Opd} (o : OpD X (compareOp op) g) (o' : OpD X (compareOp op') g') (ha : PE X a (tP X.K ma)) (hb : PE X b (tP X.K mb)) (hc : PE X c (tP X.K mc))
    (hm : lastMarks [op, op'] [b, c] = false := by with_unfolding_all rfl) : PT X (.Compare a [op, op'] [b, c] pos) (tMT X.K (mB (mChain g g' ma mb mc))) := by
  obtain ⟨r, h1, h2⟩ := o
  obtain ⟨r', h1', h2'⟩ := o'
  exact imT (pt_chain h1 h1' ha hb hc hm) (r_B (r_chain h2 h2'))
end
/-! ### methods of lists that tell something -/
/-- what a method of a list tells, of its items and one value -/
def MtL (X : Cx) (name : Str) (g : List PyData → PyData → Option Slot) : Prop := ∃ id, PySem.Slot "list" name id ∧ typeOf (.builtin id) = pure (.type "method_descriptor") ∧
  ∀ (pins : List (Addr × Obj)) (s : Shared) (σ : L2.St) (F H : Hp) (l : Addr) (xs : List V) (w : V) (u : Value) (ds : List PyData) (d : PyData) (sl : Slot) (Q : VK), Inv X pins σ H s → Sub F H → H l = some (.lst xs) → RpL F xs ds → RelV w u → RdD F H w d → g ds d = some sl →
    (∀ v F' H', Out F H sl v F' H' → Q v H') → wpAny (model X.prog X.w) X.A (call (.builtin id) [.ref l, u]) (EP X pins σ Q) X.xe s
def gMt (g : List PyData → PyData → Option Slot) : PyData → PyData → Option Slot
  | .list ds, d => g ds d
  | _, _ => none
section
variable {K : PySem.W.Frag} {B : Hp} {σ : L2.St} {sa : Sa} {F H : Hp} {st : S}
theorem tP_twoT (h0 : SR K sa B F H σ st) {m m' : S → R Opd} {x y : Opd} {st1 st2 : S} (e1 : m st = .ok x st1) (e2 : m' st1 = .ok y st2) (hs : still x st2) {T0 : V → Hp → Prop} {RR : V → V → Hp → Prop}
    (k0 : ∀ F1 H1 v, Sub F1 H1 → RdD F1 H1 v x.d → T0 v H1)
    (k : ∀ sa2 F2 H2 v w, Rch K B σ sa F st sa2 F2 H2 st2 → RdD F2 H2 v x.d → RdD F2 H2 w y.d → RR v w H2) : tP K m σ H fun v H1 => T0 v H1 ∧ tP K m' σ H1 fun w H2 => RR v w H2 := by
  refine ⟨sa, B, F, st, x, st1, h0, e1, fun sa1 F1 H1 v R1 p1 => ⟨k0 F1 H1 v R1.r.fh (p1.rd R1.r), ?_⟩⟩
  cases x with
  | v d => exact ⟨sa1, B, F1, st1, y, st2, R1.r, e2, fun sa2 F2 H2 w R2 p2 => k sa2 F2 H2 v w (R1.trans R2) (.inl (Rp.mono R2.x.le p1)) (p2.rd R2.r)⟩
  | t d =>
    obtain ⟨a, o, rfl, h1, h2, h3, h4, h5, h6⟩ := p1
    have sb : Sub B (upd B a o) := Sub.new h3
    refine ⟨sa1, upd B a o, F1, st1, y, st2, R1.r.prot h1 h3 h5 h6, e2, fun sa2 F2 H2 w R2 p2 => ?_⟩
    exact k sa2 F2 H2 (.ref a) w (R1.trans ⟨R2.r.less sb, R2.x.weak sb, R2.k, R2.s⟩) (.inr ⟨a, o, rfl, R2.r.bh _ _ upd_same, h2.mono R2.x.le⟩) (p2.rd R2.r)
  | s i d =>
    refine ⟨sa1, B, F1, st1, y, st2, R1.r, e2, fun sa2 F2 H2 w R2 p2 => ?_⟩
    have q := p1.2
    rcases hs with hs | hs
    · obtain ⟨a, o, q1, q2, q3, _⟩ := R2.r.so i d hs
      rw [q1] at q
      have q' : V.ref a = v := Option.some.inj (Option.some.inj q)
      exact k sa2 F2 H2 v w (R1.trans R2) (.inr ⟨a, o, q'.symm, q2, q3⟩) (p2.rd R2.r)
    · obtain ⟨u, q1, q2⟩ := R2.r.sl i d hs
      rw [q1] at q
      have q' : u = v := Option.some.inj (Option.some.inj q)
      rw [q'] at q2
      exact k sa2 F2 H2 v w (R1.trans R2) (.inl q2) (p2.rd R2.r)
end
section
variable {X : Cx} {o e : Expr} {name : Str} {apos cpos : Pos} {m m' : S → R Opd} {g : List PyData → PyData → Option Slot}
theorem d_mt (mt : MtL X name g) (ho : PE X o (tP X.K m)) (he : PE X e (tP X.K m'))
    (hbase : attributeBase o name X.env (eval o X.env) = eval o X.env := by rfl)
    (hfew : ((backTo cpos (starEach (e :: []) X.env)).all (fun x => !x.1) && (backToKw cpos (keywordEach [] X.env)).all (fun x => x.1.isSome)
      && decide ((e :: []).length + ([] : List Keyword).length + (if ([] : List Keyword).isEmpty then 0 else 1) < 30)) = true := by rfl)
    (hline : (apos.endLine == cpos.line) = true := by rfl) (hs : starEach (e :: []) X.env = (false, eval e X.env) :: starEach [] X.env := by rfl) (hplain : (backTo cpos (starEach [] X.env)).any (·.1) = false := by rfl) :
    PE X (.Call (.Attribute o name apos) [e] [] cpos) (tM X.K (m2 (gMt g) m m')) := by
  obtain ⟨id, slot, hty, mt⟩ := mt
  refine ⟨fun pins s σ H Q I h => ?_⟩
  obtain ⟨sa, B, F, st, r', st', h0, h1, k⟩ := h
  unfold m2 at h1
  cases q1 : m st with
  | bad =>
    rw [q1] at h1
    cases h1
  | ok x st1 =>
    simp only [q1] at h1
    cases q2 : m' st1 with
    | bad =>
      simp only [q2] at h1
      cases h1
    | ok y st2 =>
      simp only [q2] at h1
      split at h1
      · rename_i hst
        split at h1
        · rename_i r q3
          cases h1
          cases dx : x.d with
          | list ds =>
            rw [dx] at q3
            have T := tP_twoT (T0 := fun v H1 => ∃ a xs, v = .ref a ∧ H1 a = some (.lst xs)) (RR := fun v w H2 => ∃ (sa2 : Sa) (F2 : Hp), Rch X.K B σ sa F st sa2 F2 H2 st' ∧ RdD F2 H2 v (.list ds) ∧ RdD F2 H2 w y.d) h0 q1 q2 hst
              (fun F1 H1 v sb rd => by
                rw [dx] at rd
                obtain ⟨a, xs, e1, e2, _⟩ := rd.lst sb
                exact ⟨a, xs, e1, e2⟩)
              (fun sa2 F2 H2 v w R p p' => ⟨sa2, F2, R, dx ▸ p, p'⟩)
            refine wpAny_Call_method_late hbase hfew hline rfl (thn (ho.run pins s σ H _ I T) fun v s1 ⟨x', H1, I1, r1, ⟨a, xs, e1, e2⟩, T2⟩ => ?_)
            subst e1
            cases r1
            obtain ⟨its, rv, ⟨ob, n, hob, hc, hdn, hdt⟩, _⟩ := I1.list (.inl (.inl e2))
            refine ⟨"list", id, PySem.F.plainAttrs_list, slot, hty, ⟨ob, hob, hc⟩, fun a' e' => by cases e'; exact ⟨ob, hob, hdn⟩, ?_⟩
            have hA := (pa_cons he pa_nil hs).run cpos pins s1 σ H1 (fun vs H2 => ∃ w, vs = [w] ∧ ∃ (sa2 : Sa) (F2 : Hp), Rch X.K B σ sa F st sa2 F2 H2 st' ∧ RdD F2 H2 (.ref a) (.list ds) ∧ RdD F2 H2 w y.d) I1 (by
              show tP X.K m' σ H1 fun x H1 => _
              obtain ⟨a1, a2, a3, a4, a5, a6, a7, a8, a9⟩ := T2
              exact ⟨a1, a2, a3, a4, a5, a6, a7, a8, fun b1 b2 b3 w b5 b6 => ⟨w, rfl, a9 b1 b2 b3 w b5 b6⟩⟩)
            rw [hs] at hA ⊢
            refine Calls.callWith_builtin (by show (false || (backTo cpos (starEach [] X.env)).any (·.1)) = false; rw [hplain] <;> rfl) (Calls.evalArgs_plain ?_)
            refine thn hA fun us s2 ⟨vs, H2, I2, r2, w, e3, sa2, F2, R, p, p'⟩ => ?_
            subst e3
            obtain ⟨u, rfl, ru⟩ := r2.one
            obtain ⟨a', xs', e4, e5, e6⟩ := p.lst R.r.fh
            cases e4
            exact mt pins s2 σ F2 H2 a xs' w u ds y.d _ Q I2 R.r.fh e5 e6 ru p' q3 fun v F' H' o => by
              obtain ⟨b1, b2⟩ := R.out o
              exact k _ F' H' v b1 b2
          | _ =>
            rw [dx] at q3
            cases q3
        · cases h1
      · cases h1
/-- where an item stands -/
def gIdx : List PyData → PyData → Option Slot := fun ds d => if shp d && PyData.plainAll ds && okLen ds.length then (match PySem.SeqAt.dataPlace ds d with
  | some j => some (.v (.int (j : Nat)))
  | none => none) else none
def gCount : List PyData → PyData → Option Slot := fun ds d => if shp d && PyData.plainAll ds then some (.v (.int ((ds.countP fun y => PyData.eqv y d : Nat)))) else none
theorem mt_idx (hu : X.A.units + 66 < cLine) : MtL X "index" gIdx := ⟨"list.index", PySem.F.slot_list_index, PySem.F.type_list_index, fun pins s σ F H l xs w u ds d sl Q I sb hl rr ru rd e k => by
  unfold gIdx at e
  split at e
  · rename_i hz
    obtain ⟨hz, hlen⟩ := Bool.and_eq_true_iff.mp hz
    obtain ⟨h1, h2⟩ := Bool.and_eq_true_iff.mp hz
    have hlen := okLen_le hlen
    split at e
    · rename_i j hp
      cases e
      obtain ⟨bs, r1⟩ := rd.reads I sb ru
      obtain ⟨its, rv, ⟨⟨cls, dd, data, sls⟩, n, ho, hc, hdn, hdt⟩, hz2⟩ := I.list (.inl (.inl hl))
      simp only at hc hdt
      subst hc hdt
      obtain ⟨as, h4, _⟩ := RpL.reads I sb ds xs its rr rv
      have rs : ReadsAll s.heap its.toArray.toList ds as := h4
      obtain ⟨hj, hit, hno⟩ := PySem.SeqAt.hit_at rs h2 hp
      have hn := PySem.SeqAt.len_at rs
      refine call_meets PySem.F.slot_list_index ⟨_, ho, rfl⟩ PySem.F.entry_list_index (PySem.F.args_list_index_2 _ _)
        (PySem.SeqAt.list_indexAt l its.toArray n dd sls u (fun u => PyData.eqv (PySem.SeqAt.readOf s.heap u) d) j hj (by have := sizeLine_eq; rw [List.size_toArray] at hj hn; have := rv.length; omega) hit hno) ⟨ho, PySem.SeqAt.items_plain rs r1 h2 (shp.plain h1) (room_in h1 hu), ?_⟩
      exact ⟨.int (j : Nat), H, I.tok _, ⟨_, rfl⟩, k _ _ _ (.v (.int _))⟩
    · cases e
  · cases e⟩
theorem mt_count' (hu : X.A.units + 66 < cLine) : MtL X "count" gCount := ⟨"list.count", PySem.F.slot_list_count, PySem.F.type_list_count, fun pins s σ F H l xs w u ds d sl Q I sb hl rr ru rd e k => by
  unfold gCount at e
  split at e
  · rename_i hz
    obtain ⟨h1, h2⟩ := Bool.and_eq_true_iff.mp hz
    cases e
    obtain ⟨bs, r1⟩ := rd.reads I sb ru
    obtain ⟨its, rv, ⟨⟨cls, dd, data, sls⟩, n, ho, hc, hdn, hdt⟩, hz2⟩ := I.list (.inl (.inl hl))
    simp only at hc hdt
    subst hc hdt
    obtain ⟨as, h4, _⟩ := RpL.reads I sb ds xs its rr rv
    have rs : ReadsAll s.heap its.toArray.toList ds as := h4
    exact PySem.SeqAt.count_list_data ⟨_, ho, rfl, n, rfl⟩ rs r1 h2 (shp.plain h1) (room_in h1 hu) ⟨.int _, H, I.tok _, ⟨_, rfl⟩, k _ _ _ (.v (.int _))⟩
  · cases e⟩
end
/-! ### an item is taken out -/
def gRem : List PyData → List PyData → Option (PyData × List PyData) := fun ds as => match as with
  | [d] => if shp d && PyData.plainAll ds then (match PySem.SeqAt.dataPlace ds d with
    | some j => some (.none, ds.eraseIdx j)
    | none => none) else none
  | _ => none
def rRem : V → List V → Hp → VK → Prop := fun x vs H Q => ∃ F l xs y ds d j, x = .ref l ∧ vs = [y] ∧ H l = some (.lst xs) ∧ Sub F H ∧ RpL F xs ds ∧ Rp F y d ∧ shp d = true ∧ PyData.plainAll ds = true ∧ PySem.SeqAt.dataPlace ds d = some j ∧ Q .non (upd H l (.lst (xs.eraseIdx j)))
theorem mt_rem {X : Cx} (hu : X.A.units + 66 < cLine) : MtM X "list.remove" rRem := by
  intro pins s σ H x xs v us Q I rx rxs h
  obtain ⟨F, l, xs, y, ds, d, j, rfl, rfl, hH, sb, rr, ry, h1, h2, hp, q⟩ := h
  cases rx
  obtain ⟨u, rfl, ru⟩ := rxs.one
  obtain ⟨z, its, n, r, hl, e⟩ := I.lstM hH
  obtain ⟨bs, r1⟩ := (show RdD F H y d from .inl ry).reads I sb ru
  obtain ⟨as, h4, _⟩ := RpL.reads I sb ds xs its rr r
  have rs : ReadsAll s.heap its.toArray.toList ds as := h4
  refine PySem.SeqAt.remove_list_data ⟨_, e, rfl, n, rfl⟩ rs r1 h2 (shp.plain h1) (room_in h1 hu) hp (by rw [List.size_toArray]; omega) ?_
  refine ⟨.non, _, I.lset (its' := its.eraseIdx j) (t' := s.toks) hH e ?_ (r.eraseIdx j) ?_, rfl, q⟩
  · show its.toArray.eraseIdxIfInBounds j = (its.eraseIdx j).toArray
    rw [List.eraseIdxIfInBounds_toArray]
  · exact Nat.le_trans (List.length_eraseIdx_le _ _) z
theorem mo_rem : MutOk rRem gRem := fun F H a xs vs ds as d ds' Q s hH hF r ra e k => by
  unfold gRem at e
  split at e
  · rename_i d0
    split at e
    · rename_i hz
      obtain ⟨h1, h2⟩ := Bool.and_eq_true_iff.mp hz
      split at e
      · rename_i j hp
        cases e
        obtain ⟨y, rfl, ry⟩ := ra.one
        exact ⟨F, a, xs, y, ds, d0, j, rfl, rfl, hH, s, r, ry, h1, h2, hp, k _ _ .non (r.erase j)⟩
      · cases e
    · cases e
  · cases e
section
variable {X : Cx} {o e : Expr} {ma : S → R (List PyData)} {i : Nat} {apos cpos : Pos}
theorem m_rem (hu : X.A.units + 66 < cLine) (ho : PE X o (tVar i)) (ha : PA X [e] (tAL X.K ma)) (hbase : attributeBase o "remove" X.env (eval o X.env) = eval o X.env := by rfl)
    (hfew : ((backTo cpos (starEach (e :: []) X.env)).all (fun x => !x.1) && (backToKw cpos (keywordEach [] X.env)).all (fun x => x.1.isSome)
      && decide ((e :: []).length + ([] : List Keyword).length + (if ([] : List Keyword).isEmpty then 0 else 1) < 30)) = true := by rfl)
    (hline : (apos.endLine == cpos.line) = true := by rfl) (hs : starEach (e :: []) X.env = (false, eval e X.env) :: starEach [] X.env := by rfl) (hplain : (backTo cpos (starEach [] X.env)).any (·.1) = false := by rfl) :
    PE X (.Call (.Attribute o "remove" apos) [e] [] cpos) (tM X.K (mMut gRem i ma)) := m_mut PySem.F.slot_list_remove PySem.F.type_list_remove (mt_rem hu) mo_rem ho ha hbase hfew hline hs hplain
end
/-! ### ranges downwards -/
def rgDn (a b : Int) : List PyData := (List.range (a - b).toNat).map fun i => .int (a - (i : Nat))
theorem drv_rngDn {K : PySem.W.Frag} {σ0 : L2.St} {o : Opd} {F0 : Hp} {a b : Int} : Drv K (Itc a (-1) (a - b).toNat) σ0 o F0 (rgDn a b) where
  go := fun i sa B F H σ st S1 s1 _ hi => by
    have e : (rgDn a b).length = (a - b).toNat := by simp [rgDn]
    rw [e] at hi
    exact hi
  stop := fun sa B F H σ st S1 s1 _ => by
    have e : (rgDn a b).length = (a - b).toNat := by simp [rgDn]
    rw [e]
    exact Nat.le_refl _
  yld := fun i sa B F H σ st x H' d S1 s1 _ hd y => by
    obtain ⟨rfl, rfl⟩ := y
    unfold rgDn at hd
    rw [List.getElem?_map] at hd
    obtain ⟨j, h1, rfl⟩ := Option.map_eq_some_iff.mp hd
    have hj : j = i := by
      rw [List.getElem?_eq_some_iff] at h1
      obtain ⟨h2, h3⟩ := h1
      rw [List.getElem_range] at h3
      exact h3.symm
    subst hj
    have e : a + (j : Int) * -1 = a - (j : Nat) := by omega
    rw [e]
    exact ⟨F, S1, FX.refl, .int _⟩
def jRg3 (m : S → R (List PyData)) : S → R (List PyData) := fun st => match m st with
  | .ok [.int a, .int b, .int (-1)] st1 => if rgOk b a then .ok (rgDn a b) st1 else .bad
  | _ => .bad
section
variable {X : Cx} {tg : Expr} {ma : S → R (List PyData)} {p pos : Pos}
theorem j_rng3 {a b c : Expr} (hg : Gl X "range") (hm : X.mg "range" = none) (h : PA X [a, b, c] (tAL X.K ma)) (hs : starEach [a, b, c] X.env = (false, eval a X.env) :: starEach [b, c] X.env := by rfl) (hpl : (backTo pos (starEach [b, c] X.env)).any (·.1) = false := by rfl) :
    PI X tg (.Call (.Name "range" p) [a, b, c] [] pos) (tL X.K (jRg3 ma)) :=
  imI (pi_range3 hg hm h hs hpl) fun σ H R ⟨sa, B, F, st, ds, st', h0, h1, k⟩ => by
    unfold jRg3 at h1
    split at h1
    · rename_i a' b' st1 q
      split at h1
      · rename_i hz
        cases h1
        refine ⟨sa, B, F, st, _, _, h0, q, fun sa1 F1 H1 vs R1 r1 => ?_⟩
        cases r1 with
        | cons r1 r2 =>
          cases r2 with
          | cons r2 r3 =>
            cases r3 with
            | cons r3 r4 =>
              cases r4
              cases r1
              cases r2
              cases r3
              obtain ⟨h1, h2, h3, h4⟩ := rgOk_ok hz
              exact ⟨a', b', -1, (a' - b').toNat, rfl, RgC.neg (by omega) (by omega) (by omega) (by omega), k sa1 F1 H1 _ R1 drv_rngDn⟩
      · cases h1
    · cases h1
end
end Pd
end
set_option linter.all false
set_option maxRecDepth 100000
/-! Pd, part Zf: dicts of one's own. -/
noncomputable section
namespace Pd
open PySem PySem.Spec PyProof.Rows L2
/-! ### keys -/
def isK : PyData → Bool
  | .int _ => true
  | .str _ => true
  | _ => false
def isT : PyData → Bool
  | .tuple ds => ds.all isK
  | _ => false
theorem isK_kD {d : PyData} (h : isK d = true) : ∃ k, d = kD k := by
  cases d with
  | int i => exact ⟨.inl i, rfl⟩
  | str x => exact ⟨.inr x, rfl⟩
  | _ => cases h
theorem isK_tD (k : List Key) : isK (tD k) = false := rfl
theorem isT_kD (k : Key) : isT (kD k) = false := by cases k <;> rfl
theorem isT_tD {d : PyData} (h : isT d = true) : ∃ k, d = tD k := by
  cases d with
  | tuple ds =>
    have h : ds.all isK = true := h
    have : ∀ ds : List PyData, ds.all isK = true → ∃ k : List Key, ds = k.map kD := by
      intro ds
      induction ds with
      | nil => intro _; exact ⟨[], rfl⟩
      | cons d ds ih =>
        intro h
        rw [List.all_cons, Bool.and_eq_true] at h
        obtain ⟨k, rfl⟩ := isK_kD h.1
        obtain ⟨ks, rfl⟩ := ih h.2
        exact ⟨k :: ks, rfl⟩
    obtain ⟨k, rfl⟩ := this ds h
    exact ⟨k, rfl⟩
  | _ => cases h
theorem kD_inj {a b : Key} (h : kD a = kD b) : a = b := by
  cases a <;> cases b <;> simp [kD] at h <;> rw [h]
theorem tD_inj {a b : List Key} (h : tD a = tD b) : a = b := by
  unfold tD at h
  have h : a.map kD = b.map kD := by injection h
  exact List.map_inj_right (fun _ _ => kD_inj) |>.mp h
/-! ### dicts as rows of pairs -/
open Classical in
def putP (kvs : List (PyData × PyData)) (k v : PyData) : List (PyData × PyData) :=
  if (kvs.any fun p => decide (p.1 = k)) = true then kvs.map (fun p => if p.1 = k then (p.1, v) else p) else kvs ++ [(k, v)]
open Classical in
def getP (kvs : List (PyData × PyData)) (k : PyData) : Option PyData := (kvs.find? fun p => decide (p.1 = k)).map (·.2)
def okKey (kvs : List (PyData × PyData)) (k : PyData) : Bool := (isK k && kvs.all fun p => isK p.1) || (isT k && kvs.all fun p => isT p.1)
section
variable {F : Hp}
theorem RpK.anyK {k : Key} : ∀ {ps : List (Key × V)} {kvs : List (PyData × PyData)}, RpK F ps kvs → (ps.any fun p => decide (p.1 = k)) = @List.any _ kvs fun p => @decide (p.1 = kD k) (Classical.propDecidable _)
  | _, _, .nil => rfl
  | _, _, .cons (k := k') r t => by
    rw [List.any_cons, List.any_cons, RpK.anyK t]
    congr 1
    exact decide_eq_decide.mpr ⟨fun h => congrArg kD h, kD_inj⟩
theorem RpT.anyT {k : List Key} : ∀ {ps : List (List Key × V)} {kvs : List (PyData × PyData)}, RpT F ps kvs → (ps.any fun p => decide (p.1 = k)) = @List.any _ kvs fun p => @decide (p.1 = tD k) (Classical.propDecidable _)
  | _, _, .nil => rfl
  | _, _, .cons (k := k') r t => by
    rw [List.any_cons, List.any_cons, RpT.anyT t]
    congr 1
    exact decide_eq_decide.mpr ⟨fun h => congrArg tD h, tD_inj⟩
theorem RpK.setK {k : Key} {v : V} {d : PyData} (r : Rp F v d) : ∀ {ps : List (Key × V)} {kvs : List (PyData × PyData)}, RpK F ps kvs → RpK F (ps.map fun p => if p.1 = k then (p.1, v) else p) (kvs.map fun p => @ite _ (p.1 = kD k) (Classical.propDecidable _) (p.1, d) p)
  | _, _, .nil => .nil
  | _, _, .cons (k := k') r' t => by
    rw [List.map_cons, List.map_cons]
    by_cases h : k' = k
    · rw [if_pos h, if_pos (show kD k' = kD k from congrArg kD h)]
      exact .cons r (RpK.setK r t)
    · rw [if_neg h, if_neg (show ¬ (kD k', _).1 = kD k from fun z => h (kD_inj z))]
      exact .cons r' (RpK.setK r t)
theorem RpT.setT {k : List Key} {v : V} {d : PyData} (r : Rp F v d) : ∀ {ps : List (List Key × V)} {kvs : List (PyData × PyData)}, RpT F ps kvs → RpT F (ps.map fun p => if p.1 = k then (p.1, v) else p) (kvs.map fun p => @ite _ (p.1 = tD k) (Classical.propDecidable _) (p.1, d) p)
  | _, _, .nil => .nil
  | _, _, .cons (k := k') r' t => by
    rw [List.map_cons, List.map_cons]
    by_cases h : k' = k
    · rw [if_pos h, if_pos (show tD k' = tD k from congrArg tD h)]
      exact .cons r (RpT.setT r t)
    · rw [if_neg h, if_neg (show ¬ (tD k', _).1 = tD k from fun z => h (tD_inj z))]
      exact .cons r' (RpT.setT r t)
theorem RpK.snoc {k : Key} {v : V} {d : PyData} (r : Rp F v d) : ∀ {ps : List (Key × V)} {kvs : List (PyData × PyData)}, RpK F ps kvs → RpK F (ps ++ [(k, v)]) (kvs ++ [(kD k, d)])
  | _, _, .nil => .cons r .nil
  | _, _, .cons r' t => .cons r' (RpK.snoc r t)
theorem RpT.snoc {k : List Key} {v : V} {d : PyData} (r : Rp F v d) : ∀ {ps : List (List Key × V)} {kvs : List (PyData × PyData)}, RpT F ps kvs → RpT F (ps ++ [(k, v)]) (kvs ++ [(tD k, d)])
  | _, _, .nil => .cons r .nil
  | _, _, .cons r' t => .cons r' (RpT.snoc r t)
theorem RpK.put {k : Key} {v : V} {d : PyData} (r : Rp F v d) {ps : List (Key × V)} {kvs : List (PyData × PyData)} (h : RpK F ps kvs) : RpK F (putK ps k v) (putP kvs (kD k) d) := by
  unfold putK putP
  rw [h.anyK]
  split
  · exact h.setK r
  · exact h.snoc r
theorem RpT.put {k : List Key} {v : V} {d : PyData} (r : Rp F v d) {ps : List (List Key × V)} {kvs : List (PyData × PyData)} (h : RpT F ps kvs) : RpT F (putK ps k v) (putP kvs (tD k) d) := by
  unfold putK putP
  rw [h.anyT]
  split
  · exact h.setT r
  · exact h.snoc r
theorem RpK.getK {k : Key} : ∀ {ps : List (Key × V)} {kvs : List (PyData × PyData)}, RpK F ps kvs → (∃ v d, valV ps k = some v ∧ getP kvs (kD k) = some d ∧ Rp F v d) ∨ (valV ps k = none ∧ getP kvs (kD k) = none)
  | _, _, .nil => .inr ⟨rfl, rfl⟩
  | _, _, .cons (k := k') (v := v) (d := d) r t => by
    unfold valV getP
    rw [List.find?_cons, List.find?_cons]
    by_cases h : k' = k
    · subst h
      simp only [decide_true]
      exact .inl ⟨v, d, rfl, rfl, r⟩
    · have h' : ¬ kD k' = kD k := fun z => h (kD_inj z)
      simp only [h, h', decide_false]
      exact RpK.getK t
theorem RpT.getT {k : List Key} : ∀ {ps : List (List Key × V)} {kvs : List (PyData × PyData)}, RpT F ps kvs → (∃ v d, valV ps k = some v ∧ getP kvs (tD k) = some d ∧ Rp F v d) ∨ (valV ps k = none ∧ getP kvs (tD k) = none)
  | _, _, .nil => .inr ⟨rfl, rfl⟩
  | _, _, .cons (k := k') (v := v) (d := d) r t => by
    unfold valV getP
    rw [List.find?_cons, List.find?_cons]
    by_cases h : k' = k
    · subst h
      simp only [decide_true]
      exact .inl ⟨v, d, rfl, rfl, r⟩
    · have h' : ¬ tD k' = tD k := fun z => h (tD_inj z)
      simp only [h, h', decide_false]
      exact RpT.getT t
theorem RpK.notT {ps : List (Key × V)} {kvs : List (PyData × PyData)} (h : RpK F ps kvs) (a : (kvs.all fun p => isT p.1) = true) : ps = [] ∧ kvs = [] := by
  cases h with
  | nil => exact ⟨rfl, rfl⟩
  | cons r t =>
    rw [List.all_cons, Bool.and_eq_true, isT_kD] at a
    cases a.1
theorem RpT.notK {ps : List (List Key × V)} {kvs : List (PyData × PyData)} (h : RpT F ps kvs) (a : (kvs.all fun p => isK p.1) = true) : ps = [] ∧ kvs = [] := by
  cases h with
  | nil => exact ⟨rfl, rfl⟩
  | cons r t =>
    rw [List.all_cons, Bool.and_eq_true, isK_tD] at a
    cases a.1
end
/-! ### an empty dict is of either kind -/
def ReD (H H' : Hp) (a : Addr) : Prop := H' = H ∨ (H a = some (.dK []) ∧ H' = upd H a (.dT [])) ∨ (H a = some (.dT []) ∧ H' = upd H a (.dK []))
theorem Inv.reD {X : Cx} {pins : List (Addr × Obj)} {s : Shared} {σ : L2.St} {H H' : Hp} {a : Addr} (I : Inv X pins σ H s) (r : ReD H H' a) : Inv X pins σ H' s := by
  rcases r with rfl | ⟨e, rfl⟩ | ⟨e, rfl⟩
  · exact I
  · obtain ⟨_, hb, vs, hv, o, es, ep, h1, h2, h3, h4, h5, h6⟩ := I.hok a _ e
    cases hv
    refine Inv.write (t' := s.toks) (h' := s.heap) (x := a) (e := a) I (by rw [e]; trivial) (.inl rfl) (fun b u _ h => h) ⟨o, h1⟩ ?_
    refine ⟨Nat.zero_le _, hb, [], .nil, o, es, ep, h1, h2, h3, ?_, List.nodup_nil⟩
    cases hs : es.toList with
    | nil => rfl
    | cons x y =>
      rw [hs] at h5
      cases h5
  · obtain ⟨_, hb, xs, hv, o, es, ep, h1, h2, h3, h4, h5⟩ := I.hok a _ e
    cases hv
    refine Inv.write (t' := s.toks) (h' := s.heap) (x := a) (e := a) I (by rw [e]; trivial) (.inl rfl) (fun b u _ h => h) ⟨o, h1⟩ ?_
    refine ⟨Nat.zero_le _, hb, [], .nil, o, es, ep, h1, h2, h3, ?_, ?_, List.nodup_nil⟩
    · intro x hx
      have : x ∈ es.toList := Array.mem_toList_iff.mpr hx
      rw [h4] at this
      cases this
    · rw [h4]
      exact .nil
theorem updS {H : Hp} {a : Addr} {o : HO} (h : H a = some o) : upd H a o = H := by
  funext b
  by_cases q : b = a
  · rw [q, upd_same, h]
  · rw [upd_ne q]
/-! ### what a dict holds, is put -/
theorem tup_keys {F : Hp} : ∀ {k : List Key} {xs : List V}, RpL F xs (k.map kD) → xs = k.map kV
  | [], _, h => by cases h; rfl
  | k :: ks, _, h => by
    cases h with
    | cons r t =>
      rw [tup_keys t]
      cases k <;> cases r <;> rfl
theorem key_v {F : Hp} {v : V} {k : Key} (r : Rp F v (kD k)) : v = kV k := by
  cases k <;> cases r <;> rfl
theorem rdK {F H : Hp} {v : V} {k : Key} (h : RdD F H v (kD k)) : v = kV k := by
  rcases h with h | ⟨a, o, e, h1, h2⟩
  · exact key_v h
  · cases k <;> cases h2
theorem rdT {F H : Hp} {v : V} {k : List Key} (sb : Sub F H) (h : RdD F H v (tD k)) : ∃ b, v = .ref b ∧ H b = some (.tup (k.map kV)) := by
  obtain ⟨b, xs, e, e1, r⟩ := RdD.tup sb h
  rw [tup_keys r] at e1
  exact ⟨b, e, sb _ _ e1⟩
/-- what is got, of a dict that is read -/
theorem got {F H : Hp} {x y : V} {kvs : List (PyData × PyData)} {k : PyData} (sb : Sub F H) (hx : RdD F H x (.dict kvs)) (hy : RdD F H y k) (ok : okKey kvs k = true) :
    ∃ a H', x = .ref a ∧ ReD H H' a ∧ ReD H' H a ∧ ((∃ v d, DGet H' a y (some v) ∧ getP kvs k = some d ∧ Rp F v d ∧ H' = H) ∨ (DGet H' a y none ∧ getP kvs k = none)) := by
  obtain ⟨a, rfl, hd⟩ := hx.dct sb
  unfold okKey at ok
  rw [Bool.or_eq_true, Bool.and_eq_true, Bool.and_eq_true] at ok
  rcases ok with ⟨o1, o2⟩ | ⟨o1, o2⟩
  · obtain ⟨k', rfl⟩ := isK_kD o1
    cases rdK hy
    rcases hd with ⟨ps, e, r⟩ | ⟨ps, e, r⟩
    · rcases r.getK (k := k') with ⟨v, d, h1, h2, h3⟩ | ⟨h1, h2⟩
      · exact ⟨a, H, rfl, .inl rfl, .inl rfl, .inl ⟨v, d, by rw [← h1]; exact DGet.k e, h2, h3, rfl⟩⟩
      · exact ⟨a, H, rfl, .inl rfl, .inl rfl, .inr ⟨by rw [← h1]; exact DGet.k e, h2⟩⟩
    · obtain ⟨rfl, rfl⟩ := r.notK o2
      refine ⟨a, upd H a (.dK []), rfl, .inr (.inr ⟨e, rfl⟩), .inr (.inl ⟨upd_same, ?_⟩), .inr ⟨DGet.k (kvs := []) upd_same, rfl⟩⟩
      rw [upd_upd]
      exact (updS e).symm
  · obtain ⟨k', rfl⟩ := isT_tD o1
    obtain ⟨b, rfl, eb⟩ := rdT sb hy
    rcases hd with ⟨ps, e, r⟩ | ⟨ps, e, r⟩
    · obtain ⟨rfl, rfl⟩ := r.notT o2
      have hb : b ≠ a := fun z => by
        rw [z, e] at eb
        cases eb
      refine ⟨a, upd H a (.dT []), rfl, .inr (.inl ⟨e, rfl⟩), .inr (.inr ⟨upd_same, ?_⟩), .inr ⟨DGet.t (kvs := []) upd_same (by rw [upd_ne hb]; exact eb), rfl⟩⟩
      rw [upd_upd]
      exact (updS e).symm
    · rcases r.getT (k := k') with ⟨v, d, h1, h2, h3⟩ | ⟨h1, h2⟩
      · exact ⟨a, H, rfl, .inl rfl, .inl rfl, .inl ⟨v, d, by rw [← h1]; exact DGet.t e eb, h2, h3, rfl⟩⟩
      · exact ⟨a, H, rfl, .inl rfl, .inl rfl, .inr ⟨by rw [← h1]; exact DGet.t e eb, h2⟩⟩
/-! ### {} -/
def mDNew : S → R Slot := fun st => .ok (.o (.dict [])) st
theorem d_dnew {X : Cx} {pos : Pos} : PE X (.Dict [] [] pos) (tM X.K mDNew) := imE pe_dnewK fun σ H Q ⟨sa, B, F, st, r', st', h0, h1, k⟩ p hp => by
  cases h1
  obtain ⟨a, b⟩ := (Rch.refl h0).out (.o (.dK .nil) hp)
  exact k _ _ _ _ a b
/-! ### d[k] -/
def gIxA : PyData → PyData → Option Slot
  | .dict kvs, k => if okKey kvs k then (getP kvs k).map .v else none
  | d, k => gIx d k
def rDGet : R2 := fun x y H Q => ∃ a v, x = .ref a ∧ DGet H a y (some v) ∧ Q v H
theorem ix_dict {X : Cx} (hu : X.A.units + 1 < cLine) : IxR X rDGet := fun value slice pins s σ H x y v u Q I rx ry ⟨a, w, ex, g, q⟩ hs => by
  subst ex
  cases rx
  have hT := dict_typeIs I g
  unfold subscriptTail
  refine wpAny_bind ?_
  rw [getitemInPython_of_ne hT.not_modules]
  refine wpAny_bind (wpAny_specialOf hT PySem.F.slot_dict_getitem.lookup ?_)
  have fin : wpAny (model X.prog X.w) X.A (subscripted slice false (.ref a) u) (fun r s₃ => wpAny (model X.prog X.w) X.A (letTemporaryGo value (.ref a) r >>= fun _ => pure r) (EP X pins σ Q) X.xe s₃) X.xe s := by
    rw [hs]
    exact wpAny_operating (wpAny_mono (d_getItem hu I g ry fun w' s3 I3 rw' => (⟨w, H, I3, rw', q⟩ : EP X pins σ Q w' s3)) (fun r s₃ h₃ => wpAny_bind (wpAny_letTemporaryGo (wpAny_pure h₃))) fun _ _ x => x)
  first
    | exact wpAny_pure (wpAny_bind fin)
    | exact wpAny_bind (wpAny_pure (wpAny_bind fin))
    | exact wpAny_bind fin
theorem ad_ixA {K : PySem.W.Frag} : Ad2 gIxA (fun x y H Q => rIx K x y H Q ∨ rDGet x y H Q) := fun F H x y dx dy s Q sb hx hy e k => by
  cases dx with
  | dict kvs =>
    refine .inr ?_
    have e : (if okKey kvs dy then (getP kvs dy).map Slot.v else none) = some s := e
    split at e
    · rename_i ok
      obtain ⟨a, H', rfl, _, _, ⟨v, d, g1, g2, g3, rfl⟩ | ⟨g1, g2⟩⟩ := got sb hx hy ok
      · rw [g2] at e
        cases e
        exact ⟨a, v, rfl, g1, k _ _ _ (.v g3)⟩
      · rw [g2] at e
        cases e
    · cases e
  | _ => exact .inl (ad_ix F H x y _ dy s Q sb hx hy e k)
section
variable {K : PySem.W.Frag} {X : Cx} {a b : Expr} {m m' : S → R Opd} {pos : Pos}
theorem d_ixA (hu : X.A.units + 1 < cLine) (ha : PE X a (tP X.K m)) (hb : PE X b (tP X.K m')) (hs : PlainIx b) : PE X (.Subscript a b pos) (tM X.K (m2 gIxA m m')) := imE (pe_ix (ix_seq.or (ix_dict hu)) ha hb hs) (r_2 ad_ixA)
/-! ### k in d -/
def gInA (neg : Bool) : PyData → PyData → Option Slot
  | d, .dict kvs => if okKey kvs d then some (.v (.bool (neg.xor (getP kvs d).isSome))) else none
  | d, e => gIn neg d e
end
theorem o_inA {X : Cx} (hu : X.A.units + 66 < cLine) : OpD X (compareOp .In) (gInA false) := .of fun pins s σ H x y v u Q I rx ry ⟨F, dx, dy, sl, sb, hx, hy, e, k⟩ => by
  obtain ⟨r0, h1, h2⟩ := o_in hu
  cases dy with
  | dict kvs =>
    have e : (if okKey kvs dx then some (Slot.v (.bool (false.xor (getP kvs dx).isSome))) else none) = some sl := e
    split at e
    · rename_i ok
      cases e
      obtain ⟨a, H', rfl, re, re', g⟩ := got sb hy hx ok
      cases ry
      have I' := Inv.reD I re
      have fin : ∀ o : Option V, DGet H' a x o → (getP kvs dx).isSome = o.isSome → wpAny (model X.prog X.w) X.A (compareOp .In v (.ref a)) (EP X pins σ Q) X.xe s := fun o g1 g2 => d_in (by omega) I' g1 rx fun s3 I3 => ⟨.bl o.isSome, H, Inv.reD I3 re', rfl, by
        rw [← g2, ← Bool.false_xor (getP kvs dx).isSome]
        exact k _ _ _ (.v (.bl _))⟩
      rcases g with ⟨v', d, g1, g2, g3, rfl⟩ | ⟨g1, g2⟩
      · exact fin _ g1 (by rw [g2]; rfl)
      · exact fin _ g1 (by rw [g2]; rfl)
    · cases e
  | _ => exact h1 pins s σ H x y v u Q I rx ry (h2 F H x y dx _ sl Q sb hx hy e k)
theorem o_notInA {X : Cx} (hu : X.A.units + 66 < cLine) : OpD X (compareOp .NotIn) (gInA true) := .of fun pins s σ H x y v u Q I rx ry ⟨F, dx, dy, sl, sb, hx, hy, e, k⟩ => by
  obtain ⟨r0, h1, h2⟩ := o_notIn hu
  cases dy with
  | dict kvs =>
    have e : (if okKey kvs dx then some (Slot.v (.bool (true.xor (getP kvs dx).isSome))) else none) = some sl := e
    split at e
    · rename_i ok
      cases e
      obtain ⟨a, H', rfl, re, re', g⟩ := got sb hy hx ok
      cases ry
      have I' := Inv.reD I re
      have fin : ∀ o : Option V, DGet H' a x o → (getP kvs dx).isSome = o.isSome → wpAny (model X.prog X.w) X.A (compareOp .NotIn v (.ref a)) (EP X pins σ Q) X.xe s := fun o g1 g2 => d_notIn (by omega) I' g1 rx fun s3 I3 => ⟨.bl (!o.isSome), H, Inv.reD I3 re', rfl, by
        rw [← g2, ← Bool.true_xor (getP kvs dx).isSome]
        exact k _ _ _ (.v (.bl _))⟩
      rcases g with ⟨v', d, g1, g2, g3, rfl⟩ | ⟨g1, g2⟩
      · exact fin _ g1 (by rw [g2]; rfl)
      · exact fin _ g1 (by rw [g2]; rfl)
    · cases e
  | _ => exact h1 pins s σ H x y v u Q I rx ry (h2 F H x y dx _ sl Q sb hx hy e k)
/-! ### d[k] = v -/
def sPutD (i : Nat) (mi mv : S → R PyData) : S → RS := fun st => match mv st with
  | .ok d st1 => match st1.ss[i]? with
    | some (.o (.dict _)) => match mi st1 with
      | .ok k st2 => match st2.ss[i]? with
        | some (.o (.dict kvs)) => if okKey kvs k && okLen (kvs.length + 1) then .nx { st2 with ss := st2.ss.set i (.o (.dict (putP kvs k d))) } else .bad
        | _ => .bad
      | _ => .bad
    | _ => .bad
  | .bad => .bad
theorem ps_dputR {X : Cx} {o i value : Expr} {td ty tv : TE} {pos pos' : Pos} (hu : X.A.units + 1 < cLine) (ho : PE X o td) (hi : PE X i ty) (hv : PE X value tv) (hs : swapsWith value (some (.Subscript o i pos')) pos.line X.env = pure false) :
    PS X (.Assign [.Subscript o i pos'] value pos) (fun D σ H => tv σ H fun v H1 => td σ H1 fun x H2 => ty σ H2 fun y H3 => ∃ a H3' H4, x = .ref a ∧ ReD H3 H3' a ∧ DPut H3' a y v H4 ∧ D.nx σ H4) := by
  refine ⟨fun pins s σ H D I h => ?_⟩
  refine wpAny_Assign_Subscript (thn (hv.run pins s σ H _ I h) fun r s1 ⟨v, H1, I1, rv, q1⟩ => thn (ho.run pins s1 σ H1 _ I1 q1) fun u s2 ⟨x, H2, I2, rx, q2⟩ => thn (hi.run pins s2 σ H2 _ I2 q2) fun iv s3 ⟨y, H3, I3, ry, a, H3', H4, ex, re, g, q3⟩ => ?_) hs
  subst ex
  obtain rfl : u = Value.ref a := rx
  exact d_setItem hu (Inv.reD I3 re) g ry rv fun s4 I4 => ⟨σ, H4, I4, q3⟩
theorem s_dput {X : Cx} {o i e : Expr} {n : Nat} {mi mv : S → R PyData} {p pos : Pos} (hu : X.A.units + 1 < cLine) (ho : PE X o (tVar n)) (hi : PE X i (tF X.K mi)) (he : PE X e (tF X.K mv)) (hs : swapsWith e (some (.Subscript o i p)) pos.line X.env = pure false := by rfl) :
    PS X (.Assign [.Subscript o i p] e pos) (tMS X.K (sPutD n mi mv)) := imS (ps_dputR hu ho hi he hs) fun D σ H ⟨sa, B, F, st, h0, h1⟩ => by
  unfold sPutD at h1
  cases q1 : mv st with
  | bad =>
    rw [q1] at h1
    exact h1.elim
  | ok d st1 =>
    simp only [q1] at h1
    refine ⟨sa, B, F, st, d, st1, h0, q1, fun sa1 F1 H1 v R1 rv => ?_⟩
    split at h1
    · rename_i ds0 q2
      obtain ⟨a, o, e1, e2, e3, _⟩ := R1.r.so n _ q2
      refine ⟨.ref a, e1, ?_⟩
      cases q3 : mi st1 with
      | bad =>
        simp only [q3] at h1
        exact h1.elim
      | ok k st2 =>
        simp only [q3] at h1
        refine ⟨sa1, B, F1, st1, k, st2, R1.r, q3, fun sa2 F2 H2 w R2 rw' => ?_⟩
        split at h1
        · rename_i kvs q4
          split at h1
          · rename_i hz
            obtain ⟨ok, hl⟩ := Bool.and_eq_true_iff.mp hz
            have hl := okLen_le hl
            obtain ⟨b, u, f1, f2, f3, f4, f5, f6⟩ := R2.r.so n _ q4
            rw [e1] at f1
            cases f1
            have fin : ∀ o', OR F2 o' (.dict (putP kvs k d)) → D.nx σ (upd H2 a o') := fun o' r => h1 sa2 F2 _ σ ⟨((R1.trans R2).r).mut q4 e1 r, (R1.trans R2).x, (R1.trans R2).k, (R1.trans R2).s⟩
            have rv2 := Rp.mono R2.x.le rv
            have ry : RdD F2 H2 w k := .inl rw'
            unfold okKey at ok
            rw [Bool.or_eq_true, Bool.and_eq_true, Bool.and_eq_true] at ok
            rcases ok with ⟨o1, o2⟩ | ⟨o1, o2⟩
            · obtain ⟨k', rfl⟩ := isK_kD o1
              cases rdK ry
              cases f3 with
              | dK r =>
                exact ⟨a, H2, _, rfl, .inl rfl, DPut.k f2 (by rw [r.len]; have := sizeLine_eq; omega), fin _ (.dK (r.put rv2))⟩
              | dT r =>
                obtain ⟨rfl, rfl⟩ := r.notK o2
                refine ⟨a, upd H2 a (.dK []), _, rfl, .inr (.inr ⟨f2, rfl⟩), DPut.k (kvs := []) upd_same (by rw [sizeLine_eq]; decide), ?_⟩
                rw [upd_upd]
                exact fin _ (.dK (RpK.nil.put rv2))
            · obtain ⟨k', rfl⟩ := isT_tD o1
              obtain ⟨b, rfl, eb⟩ := rdT R2.r.fh ry
              cases f3 with
              | dK r =>
                obtain ⟨rfl, rfl⟩ := r.notT o2
                have hb : b ≠ a := fun z => by
                  rw [z, f2] at eb
                  cases eb
                refine ⟨a, upd H2 a (.dT []), _, rfl, .inr (.inl ⟨f2, rfl⟩), DPut.t (kvs := []) upd_same (by rw [upd_ne hb]; exact eb) (by rw [sizeLine_eq]; decide), ?_⟩
                rw [upd_upd]
                exact fin _ (.dT (RpT.nil.put rv2))
              | dT r =>
                exact ⟨a, H2, _, rfl, .inl rfl, DPut.t f2 eb (by rw [r.len]; have := sizeLine_eq; omega), fin _ (.dT (r.put rv2))⟩
          · exact h1.elim
        · exact h1.elim
    · exact h1.elim
end Pd
end
set_option linter.all false
set_option maxRecDepth 100000
/-! Pd, part Zg: is True, is False. -/
noncomputable section
namespace Pd
open PySem PySem.Spec PyProof.Rows L2
def gIsB (neg : Bool) : PyData → PyData → Option Slot
  | .bool a, .bool b => some (.v (.bool (neg.xor (decide (a = b)))))
  | _, _ => none
theorem o_isB {X : Cx} : OpD X (compareOp .Is) (gIsB false) := .of fun pins s σ H x y v u Q I rx ry ⟨F, dx, dy, sl, sb, hx, hy, e, k⟩ => by
  unfold gIsB at e
  split at e
  · rename_i a b
    cases e
    cases hx.bl
    cases hy.bl
    exact op_is_bl pins s σ H _ _ v u Q I rx ry ⟨a, b, rfl, rfl, by simpa using k _ _ _ (.v (.bl _))⟩
  · cases e
theorem o_isNotB {X : Cx} : OpD X (compareOp .IsNot) (gIsB true) := .of fun pins s σ H x y v u Q I rx ry ⟨F, dx, dy, sl, sb, hx, hy, e, k⟩ => by
  unfold gIsB at e
  split at e
  · rename_i a b
    cases e
    cases hx.bl
    cases hy.bl
    exact op_isnot_bl pins s σ H _ _ v u Q I rx ry ⟨a, b, rfl, rfl, by simpa using k _ _ _ (.v (.bl _))⟩
  · cases e
end Pd
end
set_option linter.all false
set_option maxRecDepth 100000
/-! Td, part A: typed functions told by state functions: what is known of slots, judgements, expressions. -/
noncomputable section
namespace Td
open PySem PySem.Spec PyProof.Rows L2 Pd

/-! ### computations -/
class PM (M : Type → Type) where
  ret : {α : Type} → α → M α
  bnd : {α β : Type} → M α → (α → M β) → M β
  run : {α : Type} → M α → Option Src → Option (α × Option Src)
  out : {α : Type} → Option α → M α
  lim : {α : Type} → (Nat → M α) → M α
  run_ret : ∀ {α : Type} {a b : α} {s s2 : Option Src}, run (ret a) s = some (b, s2) → b = a ∧ s2 = s
  run_bnd : ∀ {α β : Type} {c : M α} {f : α → M β} {s s2 : Option Src} {b : β}, run (bnd c f) s = some (b, s2) → ∃ a s1, run c s = some (a, s1) ∧ run (f a) s1 = some (b, s2)
  run_out : ∀ {α : Type} {o : Option α} {b : α} {s s2 : Option Src}, run (out o) s = some (b, s2) → o = some b ∧ s2 = s
  run_lim : ∀ {α : Type} (f : Nat → M α) (s : Option Src) (r : α × Option Src), run (lim f) s = some r → ∃ k, run (f k) s = some r
open PM
def limO {α β : Type} (f : Nat → α → Option β) (a : α) : Option β := by
  classical
  exact if h : ∃ k, (f k a).isSome = true then f h.choose a else none
theorem limO_some {α β : Type} {f : Nat → α → Option β} {a : α} {r : β} (h : limO f a = some r) : ∃ k, f k a = some r := by
  unfold limO at h
  split at h
  · exact ⟨_, h⟩
  · cases h
instance : PM Option where
  ret a := some a
  bnd c f := c.bind f
  run o s := o.map fun a => (a, s)
  out o := o
  lim f := limO (fun k (_ : Unit) => f k) ()
  run_ret h := by
    cases h
    exact ⟨rfl, rfl⟩
  run_bnd {α β c f s s2 b} h := by
    cases c with
    | none => cases h
    | some a => exact ⟨a, s, rfl, h⟩
  run_out {α o b s s2} h := by
    obtain ⟨a, h1, h2⟩ := Option.map_eq_some_iff.mp h
    cases h2
    exact ⟨h1, rfl⟩
  run_lim f s r h := by
    obtain ⟨a, h1, rfl⟩ := Option.map_eq_some_iff.mp h
    obtain ⟨k, hk⟩ := limO_some h1
    exact ⟨k, by rw [hk]; rfl⟩
/-- computations that draw -/
def DM (α : Type) : Type := Src → Option (α × Src)
def DM.run {α : Type} (c : DM α) : Option Src → Option (α × Option Src)
  | none => none
  | some s => (c s).map fun p => (p.1, some p.2)
theorem DM.run_some {α : Type} {c : DM α} {s : Option Src} {a : α} {s2 : Option Src} (h : DM.run c s = some (a, s2)) : ∃ t t', s = some t ∧ s2 = some t' ∧ c t = some (a, t') := by
  cases s with
  | none => cases h
  | some t =>
    obtain ⟨p, h1, h2⟩ := Option.map_eq_some_iff.mp h
    cases h2
    exact ⟨t, p.2, rfl, rfl, h1⟩
theorem DM.run_of {α : Type} {c : DM α} {t t' : Src} {a : α} (h : c t = some (a, t')) : DM.run c (some t) = some (a, some t') := by
  show Option.map (fun p => (p.1, some p.2)) (c t) = _
  exact (congrArg (Option.map fun p : α × Src => (p.1, some p.2)) h).trans rfl
instance : PM DM where
  ret a := fun s => some (a, s)
  bnd c f := fun s => (c s).bind fun p => f p.1 p.2
  run := DM.run
  out o := fun s => o.map fun a => (a, s)
  lim f := fun s => limO (fun k s => f k s) s
  run_ret h := by
    obtain ⟨t, t', rfl, rfl, h1⟩ := DM.run_some h
    cases h1
    exact ⟨rfl, rfl⟩
  run_bnd {α β c f s s2 b} h := by
    obtain ⟨t, t', rfl, rfl, h1⟩ := DM.run_some h
    obtain ⟨p, h2, h3⟩ := Option.bind_eq_some_iff.mp h1
    exact ⟨p.1, some p.2, DM.run_of h2, DM.run_of h3⟩
  run_out {α o b s s2} h := by
    obtain ⟨t, t', rfl, rfl, h1⟩ := DM.run_some h
    obtain ⟨a, h2, h3⟩ := Option.map_eq_some_iff.mp h1
    cases h3
    exact ⟨h2, rfl⟩
  run_lim f s r h := by
    obtain ⟨t, t', rfl, h2, h1⟩ := DM.run_some (s2 := r.2) (a := r.1) h
    obtain ⟨k, hk⟩ := limO_some h1
    exact ⟨k, by rw [DM.run_of hk, ← h2]⟩
variable {M : Type → Type} [PM M] {α β γ δ τ : Type}
theorem run_bnd_some {c : M α} {f : α → M β} {s s2 : Option Src} {b : β} (h : run (bnd c f) s = some (b, s2)) : ∃ a s1, run c s = some (a, s1) ∧ run (f a) s1 = some (b, s2) := PM.run_bnd h
theorem run_ret_some {a b : α} {s s2 : Option Src} (h : run (ret a : M α) s = some (b, s2)) : b = a ∧ s2 = s := PM.run_ret h
theorem run_out_some {o : Option α} {b : α} {s s2 : Option Src} (h : run (out o : M α) s = some (b, s2)) : o = some b ∧ s2 = s := PM.run_out h

/-! ### what is known of slots -/
inductive Kn where
  | dead | val (d : PyData) | any (d : PyData) | own (d : PyData) | src | cel | scr (ns : List Int)
def Kn.ok : Kn → Slot → Prop
  | .dead, _ => True
  | .val d, s => s = .v d
  | .any d, s => s = .v d ∨ s = .o d
  | .own d, s => s = .o d
  | .src, s => s = .src
  | .cel, s => s = .cel
  | .scr ns, s => s = .scr ns
structure Hs (ρ : List Kn) (ss : List Slot) : Prop where
  len : ρ.length = ss.length
  at_ : ∀ (i : Nat) (k : Kn) (s : Slot), ρ[i]? = some k → ss[i]? = some s → k.ok s
theorem Hs.get {ρ : List Kn} {ss : List Slot} (h : Hs ρ ss) {i : Nat} {k : Kn} (e : ρ[i]? = some k) : ∃ s, ss[i]? = some s ∧ k.ok s := by
  have hi : i < ss.length := by
    rw [← h.len]
    exact (List.getElem?_eq_some_iff.mp e).1
  exact ⟨ss[i], List.getElem?_eq_getElem hi, h.at_ i k _ e (List.getElem?_eq_getElem hi)⟩
theorem Hs.put {ρ : List Kn} {ss : List Slot} (h : Hs ρ ss) {i : Nat} {k : Kn} {s : Slot} (e : k.ok s) : Hs (ρ.set i k) (ss.set i s) := by
  refine ⟨by rw [List.length_set, List.length_set, h.len], fun j k' s' h1 h2 => ?_⟩
  rw [List.getElem?_set] at h1 h2
  by_cases q : i = j
  · rw [if_pos q] at h1 h2
    by_cases z : i < ρ.length
    · rw [if_pos z] at h1
      rw [if_pos (h.len ▸ z)] at h2
      cases h1
      cases h2
      exact e
    · rw [if_neg z] at h1
      cases h1
  · rw [if_neg q] at h1 h2
    exact h.at_ j k' s' h1 h2
theorem Hs.same {ρ : List Kn} {ss : List Slot} (h : Hs ρ ss) {i : Nat} {k : Kn} {s : Slot} (e : ρ[i]? = some k) (o : k.ok s) : Hs ρ (ss.set i s) := by
  refine ⟨by rw [List.length_set, h.len], fun j k' s' h1 h2 => ?_⟩
  rw [List.getElem?_set] at h2
  by_cases q : i = j
  · subst q
    rw [if_pos rfl] at h2
    rw [e] at h1
    cases h1
    split at h2
    · cases h2
      exact o
    · cases h2
  · rw [if_neg q] at h2
    exact h.at_ j k' s' h1 h2
/-- less is known -/
inductive Kw : Kn → Kn → Prop
  | same {k : Kn} : Kw k k
  | ow {d : PyData} : Kw (.own d) (.any d)
  | va {d : PyData} : Kw (.val d) (.any d)
  | dead {k : Kn} : Kw k .dead
theorem Kw.ok {k k' : Kn} {s : Slot} (w : Kw k k') (h : k.ok s) : k'.ok s := by
  cases w with
  | same => exact h
  | ow => exact .inr h
  | va => exact .inl h
  | dead => exact True.intro
inductive KwL : List Kn → List Kn → Prop
  | nil : KwL [] []
  | cons {k k' : Kn} {ks ks' : List Kn} : Kw k k' → KwL ks ks' → KwL (k :: ks) (k' :: ks')
theorem KwL.len {ks ks' : List Kn} (w : KwL ks ks') : ks'.length = ks.length := by
  induction w with
  | nil => rfl
  | cons _ _ ih => rw [List.length_cons, List.length_cons, ih]
theorem KwL.get {ks ks' : List Kn} (w : KwL ks ks') : ∀ (i : Nat) (k' : Kn), ks'[i]? = some k' → ∃ k, ks[i]? = some k ∧ Kw k k' := by
  induction w with
  | nil => intro i k' h; simp at h
  | cons a b ih =>
    intro i k' h
    cases i with
    | zero =>
      simp only [List.getElem?_cons_zero, Option.some.injEq] at h
      subst h
      exact ⟨_, rfl, a⟩
    | succ i =>
      simp only [List.getElem?_cons_succ] at h
      exact ih i k' h
theorem KwL.ok {ρ ρ' : List Kn} {ss : List Slot} (w : KwL ρ ρ') (h : Hs ρ ss) : Hs ρ' ss := by
  refine ⟨by rw [w.len, h.len], fun i k' s h1 h2 => ?_⟩
  obtain ⟨k, h3, h4⟩ := w.get i k' h1
  exact h4.ok (h.at_ i k s h3 h2)
theorem KwL.refl : ∀ ρ : List Kn, KwL ρ ρ
  | [] => .nil
  | _ :: ρ => .cons .same (KwL.refl ρ)
def wipeK (ρ : List Kn) : List Nat → List Kn
  | [] => ρ
  | v :: vs => (wipeK ρ vs).set v .dead
theorem Hs.wipe {ρ : List Kn} {ss : List Slot} (h : Hs ρ ss) : ∀ vs : List Nat, Hs (wipeK ρ vs) (wipeS ss vs)
  | [] => h
  | v :: vs => (h.wipe vs).put (k := .dead) (s := .no) True.intro
theorem wipeK_out {ρ : List Kn} {i : Nat} : ∀ {vs : List Nat}, i ∉ vs → (wipeK ρ vs)[i]? = ρ[i]?
  | [], _ => rfl
  | v :: vs, h => by
    have h1 : v ≠ i := fun e => h (e ▸ List.mem_cons_self)
    unfold wipeK
    rw [List.getElem?_set_ne h1]
    exact wipeK_out fun z => h (List.mem_cons_of_mem _ z)
def quietK : Option Kn → Bool
  | none => true
  | some .dead => true
  | some (.val _) => true
  | some .src => true
  | _ => false
def quiet (ρ : List Kn) (vs : List Nat) : Bool := vs.all fun v => quietK ρ[v]?
theorem Hs.rest {ρ : List Kn} {ss0 ss1 : List Slot} {vs : List Nat} (h0 : Hs ρ ss0) (h1 : Hs (wipeK ρ vs) ss1) (q : quiet ρ vs = true) : Hs ρ (restS ss0 ss1 vs) := by
  have l1 : ∀ vs, (wipeK ρ vs).length = ρ.length := by
    intro vs
    induction vs with
    | nil => rfl
    | cons v vs ih =>
      unfold wipeK
      rw [List.length_set, ih]
  refine ⟨by rw [restS_length, ← h1.len, l1], fun i k s e1 e2 => ?_⟩
  rcases restS_at e2 with ⟨hi, e3⟩ | ⟨hi, e3⟩
  · subst e3
    have z := List.all_eq_true.mp q i hi
    obtain ⟨s, e4, e5⟩ := h0.get e1
    rw [e1] at z
    rw [e4]
    cases k with
    | dead => exact True.intro
    | val d =>
      cases e5
      rfl
    | src =>
      cases e5
      rfl
    | any d => cases z
    | own d => cases z
    | cel => cases z
    | scr n => cases z
  · exact h1.at_ i k s (by rw [wipeK_out hi]; exact e1) e3

/-! ### judgements -/
inductive Wf where
  | val | any | own
def Wf.kn : Wf → PyData → Kn
  | .val, d => .val d
  | .any, d => .any d
  | .own, d => .own d
def EvG (m : S → R τ) (ρ : List Kn) (c : M α) (P : α → τ → Prop) : Prop := ∀ (ss : List Slot) (src : Option Src) (a : α) (src' : Option Src), Hs ρ ss → run c src = some (a, src') → ∃ r ss', m ⟨ss, src⟩ = .ok r ⟨ss', src'⟩ ∧ Hs ρ ss' ∧ P a r
def StK (ρ : List Kn) : Opd → Prop
  | .s i d => ρ[i]? = some (.own d) ∨ ρ[i]? = some (.any d)
  | _ => True
theorem StK.still {ρ : List Kn} {x : Opd} {ss : List Slot} {src : Option Src} (h : StK ρ x) (hs : Hs ρ ss) : still x ⟨ss, src⟩ := by
  cases x with
  | v d => exact True.intro
  | t d => exact True.intro
  | s i d =>
    rcases h with h | h
    · obtain ⟨s, h1, h2⟩ := hs.get h
      cases h2
      exact .inl h1
    · obtain ⟨s, h1, h2⟩ := hs.get h
      rcases h2 with rfl | rfl
      · exact .inr h1
      · exact .inl h1
def Ev (m : S → R Slot) (ρ : List Kn) (c : M α) (e : α → PyData) (w : Wf) : Prop := EvG m ρ c fun a r => (w.kn (e a)).ok r
def EvP (m : S → R Opd) (ρ : List Kn) (c : M α) (e : α → PyData) : Prop := EvG m ρ c fun a x => x.d = e a ∧ StK ρ x
def EvF (m : S → R PyData) (ρ : List Kn) (c : M α) (e : α → PyData) : Prop := EvG m ρ c fun a d => d = e a
def EvT (m : S → R Bool) (ρ : List Kn) (c : M Bool) : Prop := EvG m ρ c fun a b => b = a
def EvA (m : S → R (List PyData)) (ρ : List Kn) (c : M α) (e : α → List PyData) : Prop := EvG m ρ c fun a ds => ds = e a
def EvO (m : S → R (Option Int)) (ρ : List Kn) (c : M α) (e : α → Option Int) : Prop := EvG m ρ c fun a o => o = e a
variable {ρ : List Kn} {e : α → PyData} {e1 : α → PyData} {e2 : β → PyData} {e3 : γ → PyData} {w w' : Wf}
theorem Ev.slot {w : Wf} {d : PyData} {r : Slot} (h : (w.kn d).ok r) : r = .v d ∨ r = .o d := by
  cases w with
  | val => exact .inl h
  | any => exact h
  | own => exact .inr h
/-- forget how it stands -/
theorem Ev.weak {m : S → R Slot} {c : M α} (h : Ev m ρ c e w) : Ev m ρ c e .any := fun ss src a src' hs hr => by
  obtain ⟨r, ss', h1, h2, h3⟩ := h ss src a src' hs hr
  exact ⟨r, ss', h1, h2, Ev.slot h3⟩

/-! ### encoders -/
abbrev eInt : Int → PyData := .int
abbrev eBool : Bool → PyData := .bool
abbrev eStr : Str → PyData := .str
abbrev eNon : Unit → PyData := fun _ => .none
abbrev eAny : PyData → PyData := fun d => d
abbrev eTup (e : α → PyData) : List α → PyData := fun xs => .tuple (xs.map e)
abbrev eLst (e : α → PyData) : List α → PyData := fun xs => .list (xs.map e)
abbrev eP2 (e1 : α → PyData) (e2 : β → PyData) : α × β → PyData := fun p => .tuple [e1 p.1, e2 p.2]
abbrev eP3 (e1 : α → PyData) (e2 : β → PyData) (e3 : γ → PyData) : α × β × γ → PyData := fun p => .tuple [e1 p.1, e2 p.2.1, e3 p.2.2]
abbrev eP4 (e1 : α → PyData) (e2 : β → PyData) (e3 : γ → PyData) (e4 : δ → PyData) : α × β × γ × δ → PyData := fun p => .tuple [e1 p.1, e2 p.2.1, e3 p.2.2.1, e4 p.2.2.2]

/-! ### names, constants -/
theorem ev_c {d : PyData} {a : α} (h : d = e a) : Ev (mC d) ρ (ret a : M α) e .val := fun ss src b src' hs hr => by
  obtain ⟨rfl, rfl⟩ := run_ret_some hr
  subst h
  exact ⟨_, ss, rfl, hs, rfl⟩
theorem ev_var {i : Nat} {a : α} (h : ρ[i]? = some (.val (e a))) : Ev (mVar i) ρ (ret a : M α) e .val := fun ss src b src' hs hr => by
  obtain ⟨rfl, rfl⟩ := run_ret_some hr
  obtain ⟨s, h1, h2⟩ := hs.get h
  cases h2
  exact ⟨_, ss, by unfold mVar; simp only [h1], hs, rfl⟩
theorem ev_varA {i : Nat} {a : α} (h : ρ[i]? = some (.any (e a))) : Ev (mVar i) ρ (ret a : M α) e .val := fun ss src b src' hs hr => by
  obtain ⟨rfl, rfl⟩ := run_ret_some hr
  obtain ⟨s, h1, h2⟩ := hs.get h
  rcases h2 with rfl | rfl
  · exact ⟨_, ss, by unfold mVar; simp only [h1], hs, rfl⟩
  · exact ⟨_, ss.set i (.v (e b)), by unfold mVar; simp only [h1], hs.same h (.inl rfl), rfl⟩
theorem ev_mv {i : Nat} {a : α} (h : ρ[i]? = some (.val (e a))) : Ev (mMv i) ρ (ret a : M α) e .val := fun ss src b src' hs hr => by
  obtain ⟨rfl, rfl⟩ := run_ret_some hr
  obtain ⟨s, h1, h2⟩ := hs.get h
  cases h2
  exact ⟨_, ss, by unfold mMv; simp only [h1], hs, rfl⟩
theorem evp_val {i : Nat} {a : α} (h : ρ[i]? = some (.val (e a))) : EvP (mPk i) ρ (ret a : M α) e := fun ss src b src' hs hr => by
  obtain ⟨rfl, rfl⟩ := run_ret_some hr
  obtain ⟨s, h1, h2⟩ := hs.get h
  cases h2
  exact ⟨.v (e b), ss, by unfold mPk; simp only [h1], hs, rfl, True.intro⟩
theorem evp_own {i : Nat} {a : α} (h : ρ[i]? = some (.own (e a))) : EvP (mPk i) ρ (ret a : M α) e := fun ss src b src' hs hr => by
  obtain ⟨rfl, rfl⟩ := run_ret_some hr
  obtain ⟨s, h1, h2⟩ := hs.get h
  cases h2
  exact ⟨.s i (e b), ss, by unfold mPk; simp only [h1], hs, rfl, Or.inl h⟩
theorem evp_any {i : Nat} {a : α} (h : ρ[i]? = some (.any (e a))) : EvP (mPk i) ρ (ret a : M α) e := fun ss src b src' hs hr => by
  obtain ⟨rfl, rfl⟩ := run_ret_some hr
  obtain ⟨s, h1, h2⟩ := hs.get h
  rcases h2 with rfl | rfl
  · exact ⟨.v (e b), ss, by unfold mPk; simp only [h1], hs, rfl, True.intro⟩
  · exact ⟨.s i (e b), ss, by unfold mPk; simp only [h1], hs, rfl, Or.inr h⟩
theorem evp_of {m : S → R Slot} {c : M α} (h : Ev m ρ c e w) : EvP (mO m) ρ c e := fun ss src a src' hs hr => by
  obtain ⟨r, ss', h1, h2, h3⟩ := h ss src a src' hs hr
  rcases Ev.slot h3 with rfl | rfl
  · exact ⟨.v (e a), ss', by unfold mO; simp only [h1], h2, rfl, True.intro⟩
  · exact ⟨.t (e a), ss', by unfold mO; simp only [h1], h2, rfl, True.intro⟩
theorem evf_of {m : S → R Slot} {c : M α} (h : Ev m ρ c e w) : EvF (mF m) ρ c e := fun ss src a src' hs hr => by
  obtain ⟨r, ss', h1, h2, h3⟩ := h ss src a src' hs hr
  rcases Ev.slot h3 with rfl | rfl
  · exact ⟨_, ss', by unfold mF; simp only [h1], h2, rfl⟩
  · exact ⟨_, ss', by unfold mF; simp only [h1], h2, rfl⟩
theorem evt_of {m : S → R Slot} {c : M Bool} (h : Ev m ρ c eBool .val) : EvT (mB m) ρ c := fun ss src a src' hs hr => by
  obtain ⟨r, ss', h1, h2, h3⟩ := h ss src a src' hs hr
  cases h3
  exact ⟨_, ss', by unfold mB; simp only [h1], h2, rfl⟩
theorem ev_cast {m : S → R Slot} {c c' : M α} (h : Ev m ρ c e w) (q : c' = c) : Ev m ρ c' e w := q ▸ h

/-! ### one operand, two operands -/
def Op1 (g : PyData → Option Slot) (e1 : α → PyData) (e3 : γ → PyData) (w : Wf) (F : α → Option γ) : Prop := ∀ a r, F a = some r → ∃ s, g (e1 a) = some s ∧ (w.kn (e3 r)).ok s
def Op2 (g : PyData → PyData → Option Slot) (e1 : α → PyData) (e2 : β → PyData) (e3 : γ → PyData) (w : Wf) (F : α → β → Option γ) : Prop := ∀ a b r, F a b = some r → ∃ s, g (e1 a) (e2 b) = some s ∧ (w.kn (e3 r)).ok s
theorem ev_1 {g : PyData → Option Slot} {m : S → R Opd} {c : M α} {F : α → Option γ} (o : Op1 g e1 e3 w F) (h : EvP m ρ c e1) : Ev (m1 g m) ρ (bnd c fun a => out (F a)) e3 w := fun ss src r src' hs hr => by
  obtain ⟨a, s1, r1, r2⟩ := run_bnd_some hr
  obtain ⟨r2_1, rfl⟩ := run_out_some r2
  obtain ⟨x, ss', h1, h2, h3, h4⟩ := h ss src a _ hs r1
  obtain ⟨s, q1, q2⟩ := o a r r2_1
  exact ⟨s, ss', by unfold m1; simp only [h1, h3, q1], h2, q2⟩
theorem ev_2 {g : PyData → PyData → Option Slot} {m m' : S → R Opd} {c : M α} {c' : M β} {F : α → β → Option γ} (o : Op2 g e1 e2 e3 w F) (h : EvP m ρ c e1) (h' : EvP m' ρ c' e2) : Ev (m2 g m m') ρ (bnd c fun a => bnd c' fun b => out (F a b)) e3 w := fun ss src r src' hs hr => by
  obtain ⟨a, s1, r1, r2⟩ := run_bnd_some hr
  obtain ⟨b, s2, r2_1, r3_1⟩ := run_bnd_some r2
  obtain ⟨r3_2, rfl⟩ := run_out_some r3_1
  obtain ⟨x, ss1, h1, h2, h3, h4⟩ := h ss src a _ hs r1
  obtain ⟨y, ss2, k1, k2, k3, k4⟩ := h' ss1 _ b _ h2 r2_1
  obtain ⟨s, q1, q2⟩ := o a b r r3_2
  exact ⟨s, ss2, by unfold m2; simp only [h1, k1, if_pos (h4.still k2), h3, k3, q1], k2, q2⟩

/-! ### and, or, not, if -/
def cnd (z : Bool) (a b : M α) : M α := if z = true then a else b
def andB (c c' : M Bool) : M Bool := bnd c fun z => cnd z c' (ret false)
def orB (c c' : M Bool) : M Bool := bnd c fun z => cnd z (ret true) c'
theorem run_cnd {z : Bool} {a b : M α} {s : Option Src} : run (cnd z a b) s = if z = true then run a s else run b s := by
  unfold cnd
  split <;> rfl
section
variable {m m' : S → R Bool} {c c' : M Bool}
theorem evt_and (h : EvT m ρ c) (h' : EvT m' ρ c') : EvT (mAnd m m') ρ (andB c c') := fun ss src r src' hs hr => by
  obtain ⟨a, s1, r1, r2⟩ := run_bnd_some hr
  obtain ⟨x, ss1, h1, h2, rfl⟩ := h ss src a _ hs r1
  rw [run_cnd] at r2
  cases x with
  | true =>
    obtain ⟨y, ss2, k1, k2, rfl⟩ := h' ss1 _ r _ h2 r2
    exact ⟨y, ss2, by unfold mAnd; simp only [h1, k1], k2, rfl⟩
  | false =>
    obtain ⟨rfl, rfl⟩ := run_ret_some r2
    exact ⟨false, ss1, by unfold mAnd; simp only [h1], h2, rfl⟩
theorem evt_or (h : EvT m ρ c) (h' : EvT m' ρ c') : EvT (mOr m m') ρ (orB c c') := fun ss src r src' hs hr => by
  obtain ⟨a, s1, r1, r2⟩ := run_bnd_some hr
  obtain ⟨x, ss1, h1, h2, rfl⟩ := h ss src a _ hs r1
  rw [run_cnd] at r2
  cases x with
  | false =>
    obtain ⟨y, ss2, k1, k2, rfl⟩ := h' ss1 _ r _ h2 r2
    exact ⟨y, ss2, by unfold mOr; simp only [h1, k1], k2, rfl⟩
  | true =>
    obtain ⟨rfl, rfl⟩ := run_ret_some r2
    exact ⟨true, ss1, by unfold mOr; simp only [h1], h2, rfl⟩
theorem evt_not (h : EvT m ρ c) : EvT (mNot m) ρ (bnd c fun z => ret (!z)) := fun ss src r src' hs hr => by
  obtain ⟨a, s1, r1, r2⟩ := run_bnd_some hr
  obtain ⟨rfl, rfl⟩ := run_ret_some r2
  obtain ⟨x, ss1, h1, h2, rfl⟩ := h ss src a _ hs r1
  exact ⟨_, ss1, by unfold mNot; simp only [h1], h2, rfl⟩
theorem evt_yes : EvT tYesM ρ (ret true : M Bool) := fun ss src r src' hs hr => by
  obtain ⟨rfl, rfl⟩ := run_ret_some hr
  exact ⟨true, ss, rfl, hs, rfl⟩
end
section
variable {m m' : S → R Slot} {c c' : M Bool}
theorem ev_and (h : Ev m ρ c eBool .val) (h' : Ev m' ρ c' eBool .val) : Ev (mAndV m m') ρ (andB c c') eBool .val := fun ss src r src' hs hr => by
  obtain ⟨a, s1, r1, r2⟩ := run_bnd_some hr
  obtain ⟨x, ss1, h1, h2, h3⟩ := h ss src a _ hs r1
  cases h3
  rw [run_cnd] at r2
  cases a with
  | true =>
    obtain ⟨y, ss2, k1, k2, k3⟩ := h' ss1 _ r _ h2 r2
    exact ⟨y, ss2, by unfold mAndV; simp only [h1, k1], k2, k3⟩
  | false =>
    obtain ⟨rfl, rfl⟩ := run_ret_some r2
    exact ⟨_, ss1, by unfold mAndV; simp only [h1], h2, rfl⟩
theorem ev_or (h : Ev m ρ c eBool .val) (h' : Ev m' ρ c' eBool .val) : Ev (mOrV m m') ρ (orB c c') eBool .val := fun ss src r src' hs hr => by
  obtain ⟨a, s1, r1, r2⟩ := run_bnd_some hr
  obtain ⟨x, ss1, h1, h2, h3⟩ := h ss src a _ hs r1
  cases h3
  rw [run_cnd] at r2
  cases a with
  | false =>
    obtain ⟨y, ss2, k1, k2, k3⟩ := h' ss1 _ r _ h2 r2
    exact ⟨y, ss2, by unfold mOrV; simp only [h1, k1], k2, k3⟩
  | true =>
    obtain ⟨rfl, rfl⟩ := run_ret_some r2
    exact ⟨_, ss1, by unfold mOrV; simp only [h1], h2, rfl⟩
theorem ev_not (h : Ev m ρ c eBool .val) : Ev (mNotV m) ρ (bnd c fun z => ret (!z)) eBool .val := fun ss src r src' hs hr => by
  obtain ⟨a, s1, r1, r2⟩ := run_bnd_some hr
  obtain ⟨rfl, rfl⟩ := run_ret_some r2
  obtain ⟨x, ss1, h1, h2, h3⟩ := h ss src a _ hs r1
  cases h3
  exact ⟨_, ss1, by unfold mNotV; simp only [h1], h2, rfl⟩
theorem ev_if {t : S → R Bool} {cx cy : M α} (h : EvT t ρ c) (hx : Ev m ρ cx e w) (hy : Ev m' ρ cy e w) : Ev (mIf t m m') ρ (bnd c fun z => cnd z cx cy) e w := fun ss src r src' hs hr => by
  obtain ⟨a, s1, r1, r2⟩ := run_bnd_some hr
  obtain ⟨x, ss1, h1, h2, rfl⟩ := h ss src a _ hs r1
  rw [run_cnd] at r2
  cases x with
  | true =>
    obtain ⟨y, ss2, k1, k2, k3⟩ := hx ss1 _ r _ h2 r2
    exact ⟨y, ss2, by unfold mIf; simp only [h1, k1], k2, k3⟩
  | false =>
    obtain ⟨y, ss2, k1, k2, k3⟩ := hy ss1 _ r _ h2 r2
    exact ⟨y, ss2, by unfold mIf; simp only [h1, k1], k2, k3⟩
end

/-! ### displays -/
section
variable {mf mf' mf'' mf3 : S → R PyData} {ms : S → R (List PyData)} {c : M α} {c' : M β} {c'' : M γ} {c3 : M δ} {e4 : δ → PyData}
theorem eva_nil : EvA mNil ρ (ret [] : M (List α)) (List.map e) := fun ss src r src' hs hr => by
  obtain ⟨rfl, rfl⟩ := run_ret_some hr
  exact ⟨_, ss, rfl, hs, rfl⟩
theorem eva_cons {cs : M (List α)} (h : EvF mf ρ c e) (hs : EvA ms ρ cs (List.map e)) : EvA (mCons mf ms) ρ (bnd c fun a => bnd cs fun as => ret (a :: as)) (List.map e) := fun ss src r src' h0 hr => by
  obtain ⟨a, s1, r1, r2⟩ := run_bnd_some hr
  obtain ⟨as, s2, r2_1, r3_1⟩ := run_bnd_some r2
  obtain ⟨rfl, rfl⟩ := run_ret_some r3_1
  obtain ⟨x, ss1, h1, h2, rfl⟩ := h ss src a _ h0 r1
  obtain ⟨y, ss2, k1, k2, rfl⟩ := hs ss1 _ as _ h2 r2_1
  exact ⟨_, ss2, by unfold mCons; simp only [h1, k1]; rfl, k2, rfl⟩
def SqE (e1 : α → PyData) (L : α → List γ) (e : γ → PyData) : Prop := ∀ a, seqD (e1 a) = some ((L a).map e)
theorem eva_star {mp : S → R Opd} {c : M α} {L : α → List γ} {cs : M (List γ)} (q : SqE e1 L e3) (h : EvP mp ρ c e1) (hs : EvA ms ρ cs (List.map e3)) : EvA (mStar mp ms) ρ (bnd c fun a => bnd cs fun as => ret (L a ++ as)) (List.map e3) := fun ss src r src' h0 hr => by
  obtain ⟨a, s1, r1, r2⟩ := run_bnd_some hr
  obtain ⟨as, s2, r2_1, r3_1⟩ := run_bnd_some r2
  obtain ⟨rfl, rfl⟩ := run_ret_some r3_1
  obtain ⟨x, ss1, h1, h2, h3, h4⟩ := h ss src a _ h0 r1
  obtain ⟨y, ss2, k1, k2, rfl⟩ := hs ss1 _ as _ h2 r2_1
  exact ⟨_, ss2, by unfold mStar; simp only [h1, h3, q a, k1], k2, List.map_append.symm⟩
def lenOk (xs : List α) : Option (List α) := if okLen xs.length = true then some xs else none
theorem ev_tup {cs : M (List α)} (h : EvA ms ρ cs (List.map e)) : Ev (mTup ms) ρ (bnd cs fun xs => out (lenOk xs)) (eTup e) .val := fun ss src r src' h0 hr => by
  obtain ⟨a, s1, r1, r2⟩ := run_bnd_some hr
  obtain ⟨r2_1, rfl⟩ := run_out_some r2
  obtain ⟨x, ss1, h1, h2, rfl⟩ := h ss src a _ h0 r1
  unfold lenOk at r2_1
  split at r2_1
  · rename_i z
    cases r2_1
    exact ⟨_, ss1, by unfold mTup; simp only [h1, List.length_map, z, if_true], h2, rfl⟩
  · cases r2_1
theorem ev_lst {cs : M (List α)} (h : EvA ms ρ cs (List.map e)) : Ev (mLst ms) ρ (bnd cs fun xs => out (lenOk xs)) (eLst e) .own := fun ss src r src' h0 hr => by
  obtain ⟨a, s1, r1, r2⟩ := run_bnd_some hr
  obtain ⟨r2_1, rfl⟩ := run_out_some r2
  obtain ⟨x, ss1, h1, h2, rfl⟩ := h ss src a _ h0 r1
  unfold lenOk at r2_1
  split at r2_1
  · rename_i z
    cases r2_1
    exact ⟨_, ss1, by unfold mLst; simp only [h1, List.length_map, z, if_true], h2, rfl⟩
  · cases r2_1
theorem ev_p2 (h : EvF mf ρ c e1) (h' : EvF mf' ρ c' e2) : Ev (mTup (mCons mf (mCons mf' mNil))) ρ (bnd c fun a => bnd c' fun b => ret (a, b)) (eP2 e1 e2) .val := fun ss src r src' h0 hr => by
  obtain ⟨a, s1, r1, r2⟩ := run_bnd_some hr
  obtain ⟨b, s2, r2_1, r3_1⟩ := run_bnd_some r2
  obtain ⟨rfl, rfl⟩ := run_ret_some r3_1
  obtain ⟨x, ss1, h1, h2, rfl⟩ := h ss src a _ h0 r1
  obtain ⟨y, ss2, k1, k2, rfl⟩ := h' ss1 _ b _ h2 r2_1
  exact ⟨_, ss2, by unfold mTup; simp only [mCons, mNil]; simp only [h1, k1]; rfl, k2, rfl⟩
theorem ev_p3 (h : EvF mf ρ c e1) (h' : EvF mf' ρ c' e2) (h'' : EvF mf'' ρ c'' e3) : Ev (mTup (mCons mf (mCons mf' (mCons mf'' mNil)))) ρ (bnd c fun a => bnd c' fun b => bnd c'' fun d => ret (a, b, d)) (eP3 e1 e2 e3) .val := fun ss src r src' h0 hr => by
  obtain ⟨a, s1, r1, r2⟩ := run_bnd_some hr
  obtain ⟨b, s2, r2_1, r3_1⟩ := run_bnd_some r2
  obtain ⟨d, s3, r3_2, r4_2⟩ := run_bnd_some r3_1
  obtain ⟨rfl, rfl⟩ := run_ret_some r4_2
  obtain ⟨x, ss1, h1, h2, rfl⟩ := h ss src a _ h0 r1
  obtain ⟨y, ss2, k1, k2, rfl⟩ := h' ss1 _ b _ h2 r2_1
  obtain ⟨z, ss3, l1, l2, rfl⟩ := h'' ss2 _ d _ k2 r3_2
  exact ⟨_, ss3, by unfold mTup; simp only [mCons, mNil]; simp only [h1, k1, l1]; rfl, l2, rfl⟩
theorem ev_p4 (h : EvF mf ρ c e1) (h' : EvF mf' ρ c' e2) (h'' : EvF mf'' ρ c'' e3) (h3 : EvF mf3 ρ c3 e4) : Ev (mTup (mCons mf (mCons mf' (mCons mf'' (mCons mf3 mNil))))) ρ (bnd c fun a => bnd c' fun b => bnd c'' fun d => bnd c3 fun f => ret (a, b, d, f)) (eP4 e1 e2 e3 e4) .val := fun ss src r src' h0 hr => by
  obtain ⟨a, s1, r1, r2⟩ := run_bnd_some hr
  obtain ⟨b, s2, r2_1, r3_1⟩ := run_bnd_some r2
  obtain ⟨d, s3, r3_2, r4_2⟩ := run_bnd_some r3_1
  obtain ⟨f, s4, r4_3, r5_3⟩ := run_bnd_some r4_2
  obtain ⟨rfl, rfl⟩ := run_ret_some r5_3
  obtain ⟨x, ss1, h1, h2, rfl⟩ := h ss src a _ h0 r1
  obtain ⟨y, ss2, k1, k2, rfl⟩ := h' ss1 _ b _ h2 r2_1
  obtain ⟨z, ss3, l1, l2, rfl⟩ := h'' ss2 _ d _ k2 r3_2
  obtain ⟨v, ss4, n1, n2, rfl⟩ := h3 ss3 _ f _ l2 r4_3
  exact ⟨_, ss4, by unfold mTup; simp only [mCons, mNil]; simp only [h1, k1, l1, n1]; rfl, n2, rfl⟩
end
end Td
end
set_option linter.all false
set_option maxRecDepth 100000
/-! Td, part B: iterators, targets, comprehensions, calls. -/
noncomputable section
namespace Td
open PySem PySem.Spec PyProof.Rows L2 Pd PM
variable {M : Type → Type} [PM M] {α β γ δ τ ζ : Type}
variable {ρ ρ1 : List Kn} {e : α → PyData} {e1 : α → PyData} {e2 : β → PyData} {e3 : γ → PyData} {e4 : δ → PyData} {e5 : ζ → PyData} {w w' : Wf}

/-! ### iterators -/
/-- the items of a sequence -/
def SeqE (e1 : α → PyData) (L : α → List γ) (e : γ → PyData) : Prop := ∀ a, e1 a = .list ((L a).map e) ∨ e1 a = .tuple ((L a).map e)
theorem SeqE.sq {L : α → List γ} (h : SeqE e1 L e3) : SqE e1 L e3 := fun a => by
  rcases h a with h | h <;> rw [h] <;> rfl
theorem sq_lst : SeqE (eLst e) (fun xs => xs) e := fun _ => .inl rfl
theorem sq_tup : SeqE (eTup e) (fun xs => xs) e := fun _ => .inr rfl
theorem sq_p2 : SeqE (eP2 e e) (fun p => [p.1, p.2]) e := fun _ => .inr rfl
theorem sq_p3 : SeqE (eP3 e e e) (fun p => [p.1, p.2.1, p.2.2]) e := fun _ => .inr rfl
theorem evi_seq {mf : S → R PyData} {c : M α} {L : α → List γ} (q : SeqE e1 L e3) (h : EvF mf ρ c e1) : EvA (jSeq mf) ρ (bnd c fun a => ret (L a)) (List.map e3) := fun ss src r src' h0 hr => by
  obtain ⟨a, s1, r1, r2⟩ := run_bnd_some hr
  obtain ⟨rfl, rfl⟩ := run_ret_some r2
  obtain ⟨x, ss1, h1, h2, rfl⟩ := h ss src a _ h0 r1
  rcases q a with z | z
  · exact ⟨_, ss1, by unfold jSeq; simp only [h1, z], h2, rfl⟩
  · exact ⟨_, ss1, by unfold jSeq; simp only [h1, z], h2, rfl⟩
def enumL (xs : List α) : List (Int × α) := xs.zipIdx.map fun q => ((q.2 : Int), q.1)
theorem enumD_L (xs : List α) : enumD (xs.map e) = (enumL xs).map (eP2 eInt e) := by
  rw [enumD_map]
  unfold enumL
  rw [List.map_map]
  rfl
theorem evi_enum {mf : S → R PyData} {c : M α} {L : α → List γ} (q : SeqE e1 L e3) (h : EvF mf ρ c e1) : EvA (jEnum mf) ρ (bnd c fun a => ret (enumL (L a))) (List.map (eP2 eInt e3)) := fun ss src r src' h0 hr => by
  obtain ⟨a, s1, r1, r2⟩ := run_bnd_some hr
  obtain ⟨rfl, rfl⟩ := run_ret_some r2
  obtain ⟨x, ss1, h1, h2, rfl⟩ := h ss src a _ h0 r1
  rcases q a with z | z
  · exact ⟨_, ss1, by unfold jEnum; simp only [h1, z], h2, enumD_L _⟩
  · exact ⟨_, ss1, by unfold jEnum; simp only [h1, z], h2, enumD_L _⟩
/-- both lists, or both tuples -/
def SameE (e1 : α → PyData) (L : α → List γ) (e : γ → PyData) (e2 : β → PyData) (L' : β → List δ) (e' : δ → PyData) : Prop :=
  ∀ a b, (e1 a = .list ((L a).map e) ∧ e2 b = .list ((L' b).map e')) ∨ (e1 a = .tuple ((L a).map e) ∧ e2 b = .tuple ((L' b).map e'))
theorem same_lst : SameE (eLst e) (fun xs => xs) e (eLst e2) (fun xs => xs) e2 := fun _ _ => .inl ⟨rfl, rfl⟩
theorem same_tup : SameE (eTup e) (fun xs => xs) e (eTup e2) (fun xs => xs) e2 := fun _ _ => .inr ⟨rfl, rfl⟩
theorem zipD_L (xs : List α) (ys : List β) : zipD (xs.map e1) (ys.map e2) = (xs.zip ys).map (eP2 e1 e2) := by
  unfold zipD
  rw [List.zip_map, List.map_map]
  rfl
theorem evi_zip {mf mf' : S → R PyData} {c : M α} {c' : M β} {L : α → List γ} {L' : β → List δ} (q : SameE e1 L e3 e2 L' e4) (h : EvF mf ρ c e1) (h' : EvF mf' ρ c' e2) : EvA (jZip mf mf') ρ (bnd c fun a => bnd c' fun b => ret ((L a).zip (L' b))) (List.map (eP2 e3 e4)) := fun ss src r src' h0 hr => by
  obtain ⟨a, s1, r1, r2⟩ := run_bnd_some hr
  obtain ⟨b, s2, r3, r4⟩ := run_bnd_some r2
  obtain ⟨rfl, rfl⟩ := run_ret_some r4
  obtain ⟨x, ss1, h1, h2, rfl⟩ := h ss src a _ h0 r1
  obtain ⟨y, ss2, k1, k2, rfl⟩ := h' ss1 _ b _ h2 r3
  rcases q a b with ⟨z1, z2⟩ | ⟨z1, z2⟩
  · exact ⟨_, ss2, by unfold jZip; simp only [h1, k1, z1, z2], k2, zipD_L _ _⟩
  · exact ⟨_, ss2, by unfold jZip; simp only [h1, k1, z1, z2], k2, zipD_L _ _⟩
def rng (a b : Int) : List Int := (List.range (b - a).toNat).map fun i => a + ((i : Nat) : Int)
def rngO (a b : Int) : Option (List Int) := if rgOk a b = true then some (rng a b) else none
theorem rgD_L (a b : Int) : rgD a b = (rng a b).map eInt := by
  unfold rgD rng
  rw [List.map_map]
  rfl
theorem rngO_some {a b : Int} {r : List Int} (h : rngO a b = some r) : rgOk a b = true ∧ r = rng a b := by
  unfold rngO at h
  split at h
  · rename_i z
    cases h
    exact ⟨z, rfl⟩
  · cases h
theorem evi_rg1 {mf : S → R PyData} {c : M Int} (h : EvF mf ρ c eInt) : EvA (jRg (mCons mf mNil)) ρ (bnd c fun a => out (rngO 0 a)) (List.map eInt) := fun ss src r src' h0 hr => by
  obtain ⟨a, s1, r1, r2⟩ := run_bnd_some hr
  obtain ⟨r3, rfl⟩ := run_out_some r2
  obtain ⟨z, rfl⟩ := rngO_some r3
  obtain ⟨x, ss1, h1, h2, rfl⟩ := h ss src a _ h0 r1
  exact ⟨_, ss1, by unfold jRg; simp only [mCons, mNil]; simp only [h1, z, if_true], h2, rgD_L _ _⟩
theorem evi_rg2 {mf mf' : S → R PyData} {c c' : M Int} (h : EvF mf ρ c eInt) (h' : EvF mf' ρ c' eInt) : EvA (jRg2 (mCons mf (mCons mf' mNil))) ρ (bnd c fun a => bnd c' fun b => out (rngO a b)) (List.map eInt) := fun ss src r src' h0 hr => by
  obtain ⟨a, s1, r1, r2⟩ := run_bnd_some hr
  obtain ⟨b, s2, r2', r2b⟩ := run_bnd_some r2
  obtain ⟨r3, rfl⟩ := run_out_some r2b
  obtain ⟨z, rfl⟩ := rngO_some r3
  obtain ⟨x, ss1, h1, h2, rfl⟩ := h ss src a _ h0 r1
  obtain ⟨y, ss2, k1, k2, rfl⟩ := h' ss1 _ b _ h2 r2'
  exact ⟨_, ss2, by unfold jRg2; simp only [mCons, mNil]; simp only [h1, k1, z, if_true], k2, rgD_L _ _⟩
/-- list(range(..)), tuple(range(..)) -/
def EvR (m : S → R (Int × Int)) (ρ : List Kn) (c : M (Int × Int)) : Prop := EvG m ρ c fun a r => r = a
theorem evr_1 {m : S → R Slot} {c : M Int} (h : Ev m ρ c eInt .val) : EvR (mRg1 m) ρ (bnd c fun a => ret (0, a)) := fun ss src r src' h0 hr => by
  obtain ⟨a, s1, r1, r2⟩ := run_bnd_some hr
  obtain ⟨rfl, rfl⟩ := run_ret_some r2
  obtain ⟨x, ss1, h1, h2, h3⟩ := h ss src a _ h0 r1
  cases h3
  exact ⟨_, ss1, by unfold mRg1; simp only [h1], h2, rfl⟩
theorem evr_2 {m m' : S → R Slot} {c c' : M Int} (h : Ev m ρ c eInt .val) (h' : Ev m' ρ c' eInt .val) : EvR (mRg2 m m') ρ (bnd c fun a => bnd c' fun b => ret (a, b)) := fun ss src r src' h0 hr => by
  obtain ⟨a, s1, r1, r2⟩ := run_bnd_some hr
  obtain ⟨b, s2, r3, r4⟩ := run_bnd_some r2
  obtain ⟨rfl, rfl⟩ := run_ret_some r4
  obtain ⟨x, ss1, h1, h2, h3⟩ := h ss src a _ h0 r1
  cases h3
  obtain ⟨y, ss2, k1, k2, k3⟩ := h' ss1 _ b _ h2 r3
  cases k3
  exact ⟨_, ss2, by unfold mRg2; simp only [h1, k1], k2, rfl⟩
theorem ev_lrg {m : S → R (Int × Int)} {c : M (Int × Int)} (h : EvR m ρ c) : Ev (mLRg m) ρ (bnd c fun p => out (rngO p.1 p.2)) (eLst eInt) .own := fun ss src r src' h0 hr => by
  obtain ⟨a, s1, r1, r2⟩ := run_bnd_some hr
  obtain ⟨r3, rfl⟩ := run_out_some r2
  obtain ⟨z, rfl⟩ := rngO_some r3
  obtain ⟨x, ss1, h1, h2, rfl⟩ := h ss src a _ h0 r1
  exact ⟨_, ss1, by unfold mLRg; simp only [h1, z, if_true]; rfl, h2, by rw [rgD_L]; rfl⟩
theorem ev_trg {m : S → R (Int × Int)} {c : M (Int × Int)} (h : EvR m ρ c) : Ev (mTRg m) ρ (bnd c fun p => out (rngO p.1 p.2)) (eTup eInt) .val := fun ss src r src' h0 hr => by
  obtain ⟨a, s1, r1, r2⟩ := run_bnd_some hr
  obtain ⟨r3, rfl⟩ := run_out_some r2
  obtain ⟨z, rfl⟩ := rngO_some r3
  obtain ⟨x, ss1, h1, h2, rfl⟩ := h ss src a _ h0 r1
  exact ⟨_, ss1, by unfold mTRg; simp only [h1, z, if_true]; rfl, h2, by rw [rgD_L]; rfl⟩

/-! ### targets -/
def Tg (g : PyData → S → Option S) (ρ : List Kn) (d : PyData) (ρ1 : List Kn) : Prop := ∀ (ss : List Slot) (src : Option Src), Hs ρ ss → ∃ ss', g d ⟨ss, src⟩ = some ⟨ss', src⟩ ∧ Hs ρ1 ss'
def TgL (g : List PyData → S → Option S) (ρ : List Kn) (ds : List PyData) (ρ1 : List Kn) : Prop := ∀ (ss : List Slot) (src : Option Src), Hs ρ ss → ∃ ss', g ds ⟨ss, src⟩ = some ⟨ss', src⟩ ∧ Hs ρ1 ss'
theorem tg_n {i : Nat} {d : PyData} (h : ρ.set i (.val d) = ρ1) : Tg (gN i) ρ d ρ1 := fun ss src hs => ⟨_, rfl, h ▸ hs.put (k := .val d) rfl⟩
theorem tg_nl : TgL gNl ρ [] ρ := fun ss src hs => ⟨ss, rfl, hs⟩
theorem tg_cn {g : PyData → S → Option S} {gs : List PyData → S → Option S} {d : PyData} {ds : List PyData} {ρ2 : List Kn} (h : Tg g ρ d ρ1) (h' : TgL gs ρ1 ds ρ2) : TgL (gCn g gs) ρ (d :: ds) ρ2 := fun ss src hs => by
  obtain ⟨ss1, h1, h2⟩ := h ss src hs
  obtain ⟨ss2, k1, k2⟩ := h' ss1 src h2
  exact ⟨ss2, by unfold gCn; simp only [h1, k1], k2⟩
theorem tg_tp {gs : List PyData → S → Option S} {ds : List PyData} (h : TgL gs ρ ds ρ1) : Tg (gTp gs) ρ (.tuple ds) ρ1 := fun ss src hs => h ss src hs
theorem tg_tpl {gs : List PyData → S → Option S} {ds : List PyData} (h : TgL gs ρ ds ρ1) : Tg (gTp gs) ρ (.list ds) ρ1 := fun ss src hs => h ss src hs

/-! ### comprehensions -/
def lcG (ct : α → M Bool) (ce : α → M β) : List α → M (List β)
  | [] => ret []
  | x :: xs => bnd (ct x) fun z => cnd z (bnd (ce x) fun y => bnd (lcG ct ce xs) fun ys => ret (y :: ys)) (lcG ct ce xs)
def lcM (xs : List α) (ct : α → M Bool) (ce : α → M β) : M (List β) := bnd (out (lenOk xs)) fun xs => lcG ct ce xs
theorem lenOk_some {xs r : List α} (h : lenOk xs = some r) : r = xs ∧ okLen xs.length = true := by
  unfold lenOk at h
  split at h
  · rename_i z
    cases h
    exact ⟨rfl, z⟩
  · cases h
theorem lcGo_ev {vs : List Nat} {g : PyData → S → Option S} {t : S → R Bool} {me : S → R PyData} {ρ0 : List Kn} {ρa : α → List Kn} {ct : α → M Bool} {ce : α → M β}
    (hg : ∀ a, Tg g ρ0 (e1 a) (ρa a)) (ht : ∀ a, EvT t (ρa a) (ct a)) (he : ∀ a, EvF me (ρa a) (ce a) e2) (hb : ∀ a, wipeK (ρa a) vs = ρ0) :
    ∀ (xs : List α) (acc : List PyData) (ss : List Slot) (src : Option Src) (ys : List β) (src' : Option Src), Hs ρ0 ss → run (lcG ct ce xs) src = some (ys, src') → ∃ ss', lcGo vs g t me (xs.map e1) acc ⟨ss, src⟩ = .ok (acc ++ ys.map e2) ⟨ss', src'⟩ ∧ Hs ρ0 ss'
  | [], acc, ss, src, ys, src', h0, hr => by
    obtain ⟨rfl, rfl⟩ := run_ret_some hr
    exact ⟨ss, by simp [lcGo], h0⟩
  | x :: xs, acc, ss, src, ys, src', h0, hr => by
    obtain ⟨z, s1, r1, r2⟩ := run_bnd_some hr
    obtain ⟨ss1, g1, g2⟩ := hg x ss src h0
    obtain ⟨z', ss2, t1, t2, rfl⟩ := ht x ss1 src z s1 g2 r1
    rw [run_cnd] at r2
    rw [List.map_cons]
    unfold lcGo
    simp only [g1, t1]
    cases z' with
    | true =>
      rw [if_pos rfl] at r2
      obtain ⟨y, s2, r3, r4⟩ := run_bnd_some r2
      obtain ⟨yl, s3, r5, r6⟩ := run_bnd_some r4
      obtain ⟨rfl, rfl⟩ := run_ret_some r6
      obtain ⟨d, ss3, e1', e2', rfl⟩ := he x ss2 s1 y s2 t2 r3
      simp only [e1']
      have h3 : Hs ρ0 (wipeS ss3 vs) := hb x ▸ e2'.wipe vs
      obtain ⟨ss', k1, k2⟩ := lcGo_ev hg ht he hb xs (acc ++ [e2 y]) (wipeS ss3 vs) s2 yl src' h3 r5
      refine ⟨ss', ?_, k2⟩
      rw [show (S.wipe ⟨ss3, s2⟩ vs) = ⟨wipeS ss3 vs, s2⟩ from rfl, k1]
      simp
    | false =>
      rw [if_neg Bool.false_ne_true] at r2
      have h3 : Hs ρ0 (wipeS ss2 vs) := hb x ▸ t2.wipe vs
      obtain ⟨ss', k1, k2⟩ := lcGo_ev hg ht he hb xs acc (wipeS ss2 vs) s1 ys src' h3 r2
      exact ⟨ss', k1, k2⟩
theorem ev_lc {mi : S → R (List PyData)} {vs : List Nat} {g : PyData → S → Option S} {t : S → R Bool} {me : S → R PyData} {ci : M (List α)} {ρa : α → List Kn} {ct : α → M Bool} {ce : α → M β}
    (q : quiet ρ vs = true) (hi : EvA mi ρ ci (List.map e1)) (hg : ∀ a, Tg g (wipeK ρ vs) (e1 a) (ρa a)) (ht : ∀ a, EvT t (ρa a) (ct a)) (he : ∀ a, EvF me (ρa a) (ce a) e2) (hb : ∀ a, wipeK (ρa a) vs = wipeK ρ vs) :
    Ev (mLc mi vs g t me) ρ (bnd ci fun xs => lcM xs ct ce) (eLst e2) .own := fun ss src r src' h0 hr => by
  obtain ⟨xs, s1, r1, r2⟩ := run_bnd_some hr
  obtain ⟨xs', s2, r3, r4⟩ := run_bnd_some r2
  obtain ⟨r5, rfl⟩ := run_out_some r3
  obtain ⟨rfl, lz⟩ := lenOk_some r5
  obtain ⟨ds, ss1, i1, i2, rfl⟩ := hi ss src _ _ h0 r1
  obtain ⟨ss2, k1, k2⟩ := lcGo_ev hg ht he hb xs' [] (wipeS ss1 vs) s2 r src' (i2.wipe vs) r4
  refine ⟨.o (eLst e2 r), restS ss1 ss2 vs, ?_, i2.rest k2 q, rfl⟩
  unfold mLc
  simp only [i1, List.length_map, lz, if_true]
  rw [show (S.wipe ⟨ss1, s2⟩ vs) = ⟨wipeS ss1 vs, s2⟩ from rfl, k1]
  rfl
/-! two clauses -/
def lcG2 (ct : α → M Bool) (ci : α → M (List β)) (ct1 : α → β → M Bool) (ce : α → β → M γ) : List α → M (List γ)
  | [] => ret []
  | x :: xs => bnd (ct x) fun z => cnd z (bnd (ci x) fun ws => bnd (lcG (ct1 x) (ce x) ws) fun ys => bnd (lcG2 ct ci ct1 ce xs) fun zs => ret (ys ++ zs)) (lcG2 ct ci ct1 ce xs)
def lcM2 (xs : List α) (ct : α → M Bool) (ci : α → M (List β)) (ct1 : α → β → M Bool) (ce : α → β → M γ) : M (List γ) := bnd (lcG2 ct ci ct1 ce xs) fun ys => out (lenOk ys)
theorem lcGo2_ev {vs vs1 : List Nat} {g g1 : PyData → S → Option S} {t t1 : S → R Bool} {mi1 : S → R (List PyData)} {me : S → R PyData} {ρ0 : List Kn} {ρa : α → List Kn} {ρb : α → β → List Kn} {ct : α → M Bool} {ci : α → M (List β)} {ct1 : α → β → M Bool} {ce : α → β → M γ}
    (hg : ∀ a, Tg g ρ0 (e1 a) (ρa a)) (ht : ∀ a, EvT t (ρa a) (ct a)) (hi1 : ∀ a, EvA mi1 (ρa a) (ci a) (List.map e2)) (hg1 : ∀ a b, Tg g1 (wipeK (ρa a) vs1) (e2 b) (ρb a b)) (ht1 : ∀ a b, EvT t1 (ρb a b) (ct1 a b)) (he : ∀ a b, EvF me (ρb a b) (ce a b) e3) (hb1 : ∀ a b, wipeK (ρb a b) vs1 = wipeK (ρa a) vs1) (hb : ∀ a, wipeK (wipeK (ρa a) vs1) vs = ρ0) (hbf : ∀ a, wipeK (ρa a) vs = ρ0) :
    ∀ (xs : List α) (acc : List PyData) (ss : List Slot) (src : Option Src) (ys : List γ) (src' : Option Src), Hs ρ0 ss → run (lcG2 ct ci ct1 ce xs) src = some (ys, src') → ∃ ss', lcGo2 vs g t mi1 vs1 g1 t1 me (xs.map e1) acc ⟨ss, src⟩ = .ok (acc ++ ys.map e3) ⟨ss', src'⟩ ∧ Hs ρ0 ss'
  | [], acc, ss, src, ys, src', h0, hr => by
    obtain ⟨rfl, rfl⟩ := run_ret_some hr
    exact ⟨ss, by simp [lcGo2], h0⟩
  | x :: xs, acc, ss, src, ys, src', h0, hr => by
    obtain ⟨z, s1, r1, r2⟩ := run_bnd_some hr
    obtain ⟨ss1, g1', g2⟩ := hg x ss src h0
    obtain ⟨z', ss2, t1', t2, rfl⟩ := ht x ss1 src z s1 g2 r1
    rw [run_cnd] at r2
    rw [List.map_cons]
    unfold lcGo2
    simp only [g1', t1']
    cases z' with
    | true =>
      rw [if_pos rfl] at r2
      obtain ⟨ws, s2, r3, r4⟩ := run_bnd_some r2
      obtain ⟨yl, s3, r5, r6⟩ := run_bnd_some r4
      obtain ⟨zl, s4, r7, r8⟩ := run_bnd_some r6
      obtain ⟨rfl, rfl⟩ := run_ret_some r8
      obtain ⟨ds, ss3, i1, i2, rfl⟩ := hi1 x ss2 s1 ws s2 t2 r3
      simp only [i1]
      obtain ⟨ss4, k1, k2⟩ := lcGo_ev (hg1 x) (ht1 x) (he x) (hb1 x) ws acc (wipeS ss3 vs1) s2 yl s3 (i2.wipe vs1) r5
      rw [show (S.wipe ⟨ss3, s2⟩ vs1) = ⟨wipeS ss3 vs1, s2⟩ from rfl]
      simp only [k1]
      have h3 : Hs ρ0 (wipeS ss4 vs) := hb x ▸ k2.wipe vs
      obtain ⟨ss', n1, n2⟩ := lcGo2_ev hg ht hi1 hg1 ht1 he hb1 hb hbf xs (acc ++ yl.map e3) (wipeS ss4 vs) s3 zl src' h3 r7
      refine ⟨ss', ?_, n2⟩
      rw [show (S.wipe ⟨ss4, s3⟩ vs) = ⟨wipeS ss4 vs, s3⟩ from rfl, n1]
      simp
    | false =>
      rw [if_neg Bool.false_ne_true] at r2
      have h3 : Hs ρ0 (wipeS ss2 vs) := hbf x ▸ t2.wipe vs
      obtain ⟨ss', k1, k2⟩ := lcGo2_ev hg ht hi1 hg1 ht1 he hb1 hb hbf xs acc (wipeS ss2 vs) s1 ys src' h3 r2
      exact ⟨ss', k1, k2⟩
theorem ev_lc2 {mi : S → R (List PyData)} {vs vs1 : List Nat} {g g1 : PyData → S → Option S} {t t1 : S → R Bool} {mi1 : S → R (List PyData)} {me : S → R PyData} {c : M (List α)} {ρa : α → List Kn} {ρb : α → β → List Kn} {ct : α → M Bool} {ci : α → M (List β)} {ct1 : α → β → M Bool} {ce : α → β → M γ}
    (q : quiet ρ vs = true) (hi : EvA mi ρ c (List.map e1)) (hg : ∀ a, Tg g (wipeK ρ vs) (e1 a) (ρa a)) (ht : ∀ a, EvT t (ρa a) (ct a)) (hi1 : ∀ a, EvA mi1 (ρa a) (ci a) (List.map e2)) (hg1 : ∀ a b, Tg g1 (wipeK (ρa a) vs1) (e2 b) (ρb a b)) (ht1 : ∀ a b, EvT t1 (ρb a b) (ct1 a b)) (he : ∀ a b, EvF me (ρb a b) (ce a b) e3) (hb1 : ∀ a b, wipeK (ρb a b) vs1 = wipeK (ρa a) vs1) (hb : ∀ a, wipeK (wipeK (ρa a) vs1) vs = wipeK ρ vs) (hbf : ∀ a, wipeK (ρa a) vs = wipeK ρ vs) :
    Ev (mLc2 mi vs g t mi1 vs1 g1 t1 me) ρ (bnd c fun xs => lcM2 xs ct ci ct1 ce) (eLst e3) .own := fun ss src r src' h0 hr => by
  obtain ⟨xs, s1, r1, r2⟩ := run_bnd_some hr
  obtain ⟨ys, s2, r3, r4⟩ := run_bnd_some r2
  obtain ⟨r5, rfl⟩ := run_out_some r4
  obtain ⟨rfl, lz⟩ := lenOk_some r5
  obtain ⟨ds, ss1, i1, i2, rfl⟩ := hi ss src _ _ h0 r1
  obtain ⟨ss2, k1, k2⟩ := lcGo2_ev hg ht hi1 hg1 ht1 he hb1 hb hbf xs [] (wipeS ss1 vs) s1 _ _ (i2.wipe vs) r3
  refine ⟨.o (eLst e3 r), restS ss1 ss2 vs, ?_, i2.rest k2 q, rfl⟩
  unfold mLc2
  simp only [i1]
  rw [show (S.wipe ⟨ss1, s1⟩ vs) = ⟨wipeS ss1 vs, s1⟩ from rfl, k1]
  simp only [List.nil_append, List.length_map, lz, if_true]
  rfl

/-! ### slices -/
theorem evo_none : EvO mNoP ρ (ret () : M Unit) (fun _ => none) := fun ss src a src' hs hr => by
  obtain ⟨rfl, rfl⟩ := run_ret_some hr
  exact ⟨_, ss, rfl, hs, rfl⟩
theorem evo_some {m : S → R Slot} {c : M Int} (h : Ev m ρ c eInt .val) : EvO (mP m) ρ c some := fun ss src a src' hs hr => by
  obtain ⟨r, ss1, h1, h2, h3⟩ := h ss src a _ hs hr
  cases h3
  exact ⟨_, ss1, by unfold mP; simp only [h1], h2, rfl⟩
def cut (xs : List α) (lo hi : Option Int) : List α := (xs.drop (HT.sIx xs.length 0 lo)).take (HT.sIx xs.length xs.length hi - HT.sIx xs.length 0 lo)
theorem cutD_L (xs : List α) (lo hi : Option Int) : Pd.cutD (xs.map e) lo hi = (cut xs lo hi).map e := by
  unfold Pd.cutD cut
  rw [List.length_map, List.map_take, List.map_drop]
theorem ev_sl {m : S → R Opd} {l h : S → R (Option Int)} {c : M (List α)} {cl : M β} {ch : M γ} {fl : β → Option Int} {fh : γ → Option Int} (hm : EvP m ρ c (eLst e)) (hl : EvO l ρ cl fl) (hh : EvO h ρ ch fh) :
    Ev (mSl m l h) ρ (bnd c fun xs => bnd cl fun a => bnd ch fun b => ret (cut xs (fl a) (fh b))) (eLst e) .own := fun ss src r src' h0 hr => by
  obtain ⟨xs, s1, r1, r2⟩ := run_bnd_some hr
  obtain ⟨a, s2, r3, r4⟩ := run_bnd_some r2
  obtain ⟨b, s3, r5, r6⟩ := run_bnd_some r4
  obtain ⟨rfl, rfl⟩ := run_ret_some r6
  obtain ⟨x, ss1, h1, h2, h3, h4⟩ := hm ss src _ _ h0 r1
  obtain ⟨o1, ss2, k1, k2, rfl⟩ := hl ss1 _ _ _ h2 r3
  obtain ⟨o2, ss3, l1, l2, rfl⟩ := hh ss2 _ _ _ k2 r5
  exact ⟨.o (eLst e (cut xs (fl a) (fh b))), ss3, by unfold mSl; simp only [h1, k1, l1]; rw [if_pos ⟨h4.still l2, h4.still k2⟩, h3]; show _ = R.ok (Slot.o (.list _)) _; rw [← cutD_L]; rfl, l2, rfl⟩
theorem ev_slT {m : S → R Opd} {l h : S → R (Option Int)} {c : M (List α)} {cl : M β} {ch : M γ} {fl : β → Option Int} {fh : γ → Option Int} (hm : EvP m ρ c (eTup e)) (hl : EvO l ρ cl fl) (hh : EvO h ρ ch fh) :
    Ev (mSl m l h) ρ (bnd c fun xs => bnd cl fun a => bnd ch fun b => ret (cut xs (fl a) (fh b))) (eTup e) .val := fun ss src r src' h0 hr => by
  obtain ⟨xs, s1, r1, r2⟩ := run_bnd_some hr
  obtain ⟨a, s2, r3, r4⟩ := run_bnd_some r2
  obtain ⟨b, s3, r5, r6⟩ := run_bnd_some r4
  obtain ⟨rfl, rfl⟩ := run_ret_some r6
  obtain ⟨x, ss1, h1, h2, h3, h4⟩ := hm ss src _ _ h0 r1
  obtain ⟨o1, ss2, k1, k2, rfl⟩ := hl ss1 _ _ _ h2 r3
  obtain ⟨o2, ss3, l1, l2, rfl⟩ := hh ss2 _ _ _ k2 r5
  exact ⟨.v (eTup e (cut xs (fl a) (fh b))), ss3, by unfold mSl; simp only [h1, k1, l1]; rw [if_pos ⟨h4.still l2, h4.still k2⟩, h3]; show _ = R.ok (Slot.v (.tuple _)) _; rw [← cutD_L]; rfl, l2, rfl⟩

/-! ### calls -/
/-- a def without the source -/
def FnP (g : GFn) (as : List Slot) (o : Option γ) (e : γ → PyData) (w : Wf) : Prop := ∀ r, o = some r → ∃ s, g as none = some (s, none) ∧ (w.kn (e r)).ok s
/-- a def with the source -/
def FnD (g : GFn) (as : List Slot) (c : DM γ) (e : γ → PyData) (w : Wf) : Prop := ∀ s r s', c s = some (r, s') → ∃ sl, g as (some s) = some (sl, some s') ∧ (w.kn (e r)).ok sl
def EvX (m : S → R (List Slot)) (ρ : List Kn) (c : M α) (e : α → List Slot) : Prop := EvG m ρ c fun a as => as = e a
theorem evx_nil : EvX xNil ρ (ret () : M Unit) (fun _ => []) := fun ss src a src' hs hr => by
  obtain ⟨rfl, rfl⟩ := run_ret_some hr
  exact ⟨_, ss, rfl, hs, rfl⟩
theorem evx_cons {mf : S → R PyData} {ms : S → R (List Slot)} {c : M α} {cs : M β} {as : β → List Slot} (h : EvF mf ρ c e1) (hs : EvX ms ρ cs as) : EvX (xCons mf ms) ρ (bnd c fun a => bnd cs fun b => ret (a, b)) (fun p => .v (e1 p.1) :: as p.2) := fun ss src r src' h0 hr => by
  obtain ⟨a, s1, r1, r2⟩ := run_bnd_some hr
  obtain ⟨b, s2, r3, r4⟩ := run_bnd_some r2
  obtain ⟨rfl, rfl⟩ := run_ret_some r4
  obtain ⟨x, ss1, h1, h2, rfl⟩ := h ss src a _ h0 r1
  obtain ⟨y, ss2, k1, k2, rfl⟩ := hs ss1 _ b _ h2 r3
  exact ⟨_, ss2, by unfold xCons; simp only [h1, k1], k2, rfl⟩
theorem evx_src {i : Nat} {ms : S → R (List Slot)} {cs : M β} {as : β → List Slot} (h : ρ[i]? = some .src) (hs : EvX ms ρ cs as) : EvX (xSrc i ms) ρ cs (fun p => .src :: as p) := fun ss src r src' h0 hr => by
  obtain ⟨y, ss2, k1, k2, rfl⟩ := hs ss _ r _ h0 hr
  obtain ⟨s, q1, q2⟩ := h0.get h
  cases q2
  exact ⟨_, ss2, by unfold xSrc; simp only [q1, k1], k2, rfl⟩
theorem evx_scr {i : Nat} {ns : List Int} {ms : S → R (List Slot)} {cs : M β} {as : β → List Slot} (h : ρ[i]? = some (.scr ns)) (hs : EvX ms ρ cs as) : EvX (xSrc i ms) ρ cs (fun p => .scr ns :: as p) := fun ss src r src' h0 hr => by
  obtain ⟨y, ss2, k1, k2, rfl⟩ := hs ss _ r _ h0 hr
  obtain ⟨s, q1, q2⟩ := h0.get h
  cases q2
  exact ⟨_, ss2, by unfold xSrc; simp only [q1, k1], k2, rfl⟩
theorem ev_call {g : GFn} {ms : S → R (List Slot)} {c : M α} {as : α → List Slot} {F : α → Option γ} (hs : EvX ms ρ c as) (hn : ∀ a, (as a).any Slot.isSrc = false) (h : ∀ a, FnP g (as a) (F a) e3 w) : Ev (mCall g ms) ρ (bnd c fun a => out (F a)) e3 w := fun ss src r src' h0 hr => by
  obtain ⟨a, s1, r1, r2⟩ := run_bnd_some hr
  obtain ⟨r3, rfl⟩ := run_out_some r2
  obtain ⟨x, ss1, h1, h2, rfl⟩ := hs ss src a _ h0 r1
  obtain ⟨s, q1, q2⟩ := h a r r3
  exact ⟨s, ss1, by unfold mCall; simp only [h1, hn, q1]; rfl, h2, q2⟩
theorem ev_callD {g : GFn} {ms : S → R (List Slot)} {c : DM α} {as : α → List Slot} {F : α → DM γ} (hs : EvX ms ρ c as) (hn : ∀ a, (as a).any Slot.isSrc = true) (h : ∀ a, FnD g (as a) (F a) e3 w) : Ev (mCall g ms) ρ (bnd c fun a => F a) e3 w := fun ss src r src' h0 hr => by
  obtain ⟨a, s1, r1, r2⟩ := run_bnd_some hr
  obtain ⟨t, t', rfl, rfl, r3⟩ := DM.run_some r2
  obtain ⟨x, ss1, h1, h2, rfl⟩ := hs ss src a _ h0 r1
  obtain ⟨s, q1, q2⟩ := h a t r t' r3
  exact ⟨s, ss1, by unfold mCall; simp only [h1, hn, q1]; rfl, h2, q2⟩
end Td
end
set_option linter.all false
set_option maxRecDepth 100000
/-! Td, part C: statements, loops, defs. -/
noncomputable section
namespace Td
open PySem PySem.Spec PyProof.Rows L2 Pd PM
variable {M : Type → Type} [PM M] {α β γ δ τ ζ : Type}
variable {ρ ρ1 ρ2 : List Kn} {e : α → PyData} {e1 : α → PyData} {e2 : β → PyData} {e3 : γ → PyData} {e4 : δ → PyData} {w w' : Wf}
abbrev Kt (τ : Type) := τ → Option Src → RS → Prop
def EvK (m : S → RS) (ρ : List Kn) (c : M τ) (κ : Kt τ) : Prop := ∀ (ss : List Slot) (src : Option Src) (t : τ) (src' : Option Src), Hs ρ ss → run c src = some (t, src') → κ t src' (m ⟨ss, src⟩)
inductive Out (β γ : Type) where
  | nx (b : β) | bk (b : β) | rt (r : γ)
def kN (ρ' : β → List Kn) : Kt β := fun b src' rs => ∃ ss', rs = .nx ⟨ss', src'⟩ ∧ Hs (ρ' b) ss'
def kL (ρ' : β → List Kn) : Kt β := fun b src' rs => ∃ ss', (rs = .nx ⟨ss', src'⟩ ∨ rs = .ct ⟨ss', src'⟩) ∧ Hs (ρ' b) ss'
def kRet (e : γ → PyData) (w : Wf) : Kt γ := fun r src' rs => ∃ s ss', rs = .ret s ⟨ss', src'⟩ ∧ (w.kn (e r)).ok s
def kF (e : γ → PyData) (w : Wf) : Kt γ := fun r src' rs => kRet e w r src' rs ∨ ∃ ss', rs = .nx ⟨ss', src'⟩ ∧ (w.kn (e r)).ok (.v .none)
def kO (ρ' : β → List Kn) (e : γ → PyData) (w : Wf) : Kt (Out β γ) := fun o src' rs => match o with
  | .nx b => kL ρ' b src' rs
  | .bk b => ∃ ss', rs = .bk ⟨ss', src'⟩ ∧ Hs (ρ' b) ss'
  | .rt r => kRet e w r src' rs
def kE (ρ' : β → List Kn) (e : γ → PyData) (w : Wf) : Kt (Out β γ) := fun o src' rs => match o with
  | .nx b => kN ρ' b src' rs
  | .bk b => kN ρ' b src' rs
  | .rt r => kRet e w r src' rs
def exit (κ : Kt τ) : Kt τ := fun t src rs => κ t src rs ∧ ∀ s, rs ≠ .nx s
/-- a return, as κ tells it -/
def RtOk (κ : Kt τ) (e : γ → PyData) (w : Wf) (inj : γ → τ) : Prop := ∀ r src rs, kRet e w r src rs → κ (inj r) src rs
theorem rt_f : RtOk (kF e w) e w (fun r => r) := fun r src rs h => .inl h
theorem rt_o {ρ' : β → List Kn} : RtOk (kO ρ' e w) e w .rt := fun r src rs h => h
theorem rt_ex {κ : Kt τ} {inj : γ → τ} (h : RtOk κ e3 w inj) : RtOk (exit κ) e3 w inj := fun r src rs k => ⟨h r src rs k, fun s z => by
  obtain ⟨_, _, q, _⟩ := k
  rw [q] at z
  cases z⟩
/-- the end of a block, as κ tells it -/
def NxOk (κ : Kt τ) (ρ : List Kn) (t : τ) : Prop := ∀ src ss, Hs ρ ss → κ t src (.nx ⟨ss, src⟩)
theorem nx_n {ρ' : β → List Kn} {b : β} (h : KwL ρ (ρ' b)) : NxOk (kN ρ') ρ b := fun src ss hs => ⟨ss, rfl, h.ok hs⟩
theorem nx_l {ρ' : β → List Kn} {b : β} (h : KwL ρ (ρ' b)) : NxOk (kL ρ') ρ b := fun src ss hs => ⟨ss, .inl rfl, h.ok hs⟩
theorem nx_o {ρ' : β → List Kn} {b : β} (h : KwL ρ (ρ' b)) : NxOk (kO ρ' e w) ρ (.nx b) := fun src ss hs => ⟨ss, .inl rfl, h.ok hs⟩
theorem nx_f {r : γ} (h : (w.kn (e3 r)).ok (.v .none)) : NxOk (kF e3 w) ρ r := fun src ss hs => .inr ⟨ss, rfl, h⟩
/-- continue -/
def CtOk (κ : Kt τ) (ρ : List Kn) (t : τ) : Prop := ∀ src ss, Hs ρ ss → κ t src (.ct ⟨ss, src⟩)
theorem ct_l {ρ' : β → List Kn} {b : β} (h : KwL ρ (ρ' b)) : CtOk (kL ρ') ρ b := fun src ss hs => ⟨ss, .inr rfl, h.ok hs⟩
theorem ct_o {ρ' : β → List Kn} {b : β} (h : KwL ρ (ρ' b)) : CtOk (kO ρ' e w) ρ (.nx b) := fun src ss hs => ⟨ss, .inr rfl, h.ok hs⟩
theorem ct_ex {κ : Kt τ} {t : τ} (h : CtOk κ ρ t) : CtOk (exit κ) ρ t := fun src ss hs => ⟨h src ss hs, fun s z => by cases z⟩
def BkOk (κ : Kt τ) (ρ : List Kn) (t : τ) : Prop := ∀ src ss, Hs ρ ss → κ t src (.bk ⟨ss, src⟩)
theorem bk_o {ρ' : β → List Kn} {b : β} (h : KwL ρ (ρ' b)) : BkOk (kO ρ' e w) ρ (.bk b) := fun src ss hs => ⟨ss, rfl, h.ok hs⟩
theorem bk_ex {κ : Kt τ} {t : τ} (h : BkOk κ ρ t) : BkOk (exit κ) ρ t := fun src ss hs => ⟨h src ss hs, fun s z => by cases z⟩
section
variable {κ : Kt τ} {s1 s2 s3 : S → RS} {c1 : M β} {c2 : β → M τ} {ρ' : β → List Kn}
theorem k_weak {c : M τ} (h : KwL ρ ρ1) (k : EvK s1 ρ1 c κ) : EvK s1 ρ c κ := fun ss src t src' hs hr => k ss src t src' (h.ok hs) hr
theorem k_seq (h1 : EvK s1 ρ c1 (kN ρ')) (h2 : ∀ b, EvK s2 (ρ' b) (c2 b) κ) : EvK (sSeq s1 s2) ρ (bnd c1 c2) κ := fun ss src t src' hs hr => by
  obtain ⟨a, s, r1, r2⟩ := run_bnd_some hr
  obtain ⟨ss1, q1, q2⟩ := h1 ss src a s hs r1
  unfold sSeq
  rw [q1]
  exact h2 a ss1 s t src' q2 r2
theorem k_nil {t : τ} (h : NxOk κ ρ t) : EvK sNil ρ (ret t : M τ) κ := fun ss src t' src' hs hr => by
  obtain ⟨rfl, rfl⟩ := run_ret_some hr
  exact h _ _ hs
theorem k_last (h1 : EvK s1 ρ c1 (kN ρ')) (h2 : ∀ b, EvK sNil (ρ' b) (c2 b) κ) : EvK s1 ρ (bnd c1 c2) κ := fun ss src t src' hs hr => by
  have := k_seq h1 h2 ss src t src' hs hr
  unfold sSeq at this
  split at this
  · rename_i st1 q
    rw [q]
    exact this
  · exact this
theorem k_ct {t : τ} (h : CtOk κ ρ t) : EvK (fun st => .ct st) ρ (ret t : M τ) κ := fun ss src t' src' hs hr => by
  obtain ⟨rfl, rfl⟩ := run_ret_some hr
  exact h _ _ hs
theorem k_bk {t : τ} (h : BkOk κ ρ t) : EvK (fun st => .bk st) ρ (ret t : M τ) κ := fun ss src t' src' hs hr => by
  obtain ⟨rfl, rfl⟩ := run_ret_some hr
  exact h _ _ hs
theorem k_bad {c : M τ} (h : ∀ s, run c s = none) : EvK s1 ρ c κ := fun ss src t' src' hs hr => by
  rw [h] at hr
  cases hr
theorem k_fail : EvK s1 ρ (out none : M τ) κ := fun ss src t' src' hs hr => by
  obtain ⟨h, _⟩ := run_out_some hr
  cases h
theorem k_ret {m : S → R Slot} {c : M γ} {inj : γ → τ} (h : Ev m ρ c e3 w) (r : RtOk κ e3 w inj) : EvK (sRet m) ρ (bnd c fun a => ret (inj a)) κ := fun ss src t src' hs hr => by
  obtain ⟨a, s, r1, r2⟩ := run_bnd_some hr
  obtain ⟨rfl, rfl⟩ := run_ret_some r2
  obtain ⟨x, ss1, h1, h2, h3⟩ := h ss src a _ hs r1
  exact r a _ _ ⟨x, ss1, by unfold sRet; simp only [h1], h3⟩
theorem k_retN {inj : Unit → τ} {w : Wf} (h : (w.kn .none).ok (.v .none)) (r : RtOk κ eNon w inj) : EvK sRetN ρ (ret (inj ()) : M τ) κ := fun ss src t src' hs hr => by
  obtain ⟨rfl, rfl⟩ := run_ret_some hr
  exact r () _ _ ⟨_, ss, rfl, h⟩
/-- return of a name -/
theorem k_mv {i : Nat} {k : Kn} {a : γ} {inj : γ → τ} (h : ρ[i]? = some k) (hk : k = .val (e3 a) ∧ w = .val ∨ k = .own (e3 a) ∧ w = .own ∨ (k = .any (e3 a) ∨ k = .own (e3 a) ∨ k = .val (e3 a)) ∧ w = .any) (r : RtOk κ e3 w inj) : EvK (sRet (mMv i)) ρ (ret (inj a) : M τ) κ := fun ss src t src' hs hr => by
  obtain ⟨rfl, rfl⟩ := run_ret_some hr
  obtain ⟨s, q1, q2⟩ := hs.get h
  have : s = .v (e3 a) ∧ (w.kn (e3 a)).ok (.v (e3 a)) ∨ s = .o (e3 a) ∧ (w.kn (e3 a)).ok (.o (e3 a)) := by
    rcases hk with ⟨rfl, rfl⟩ | ⟨rfl, rfl⟩ | ⟨rfl | rfl | rfl, rfl⟩
    · exact .inl ⟨q2, rfl⟩
    · exact .inr ⟨q2, rfl⟩
    · rcases q2 with q2 | q2
      · exact .inl ⟨q2, .inl rfl⟩
      · exact .inr ⟨q2, .inr rfl⟩
    · exact .inr ⟨q2, .inr rfl⟩
    · exact .inl ⟨q2, .inl rfl⟩
  rcases this with ⟨rfl, z⟩ | ⟨rfl, z⟩
  · exact r a _ _ ⟨_, ss, by unfold sRet mMv; simp only [q1], z⟩
  · exact r a _ _ ⟨_, ss.set i .no, by unfold sRet mMv; simp only [q1], z⟩
theorem k_if {t : S → R Bool} {c : M Bool} {ca cb : M τ} (h : EvT t ρ c) (h1 : EvK s1 ρ ca κ) (h2 : EvK s2 ρ cb κ) : EvK (sIf t s1 s2) ρ (bnd c fun z => cnd z ca cb) κ := fun ss src r src' hs hr => by
  obtain ⟨a, s, r1, r2⟩ := run_bnd_some hr
  obtain ⟨x, ss1, q1, q2, rfl⟩ := h ss src a _ hs r1
  rw [run_cnd] at r2
  unfold sIf
  rw [q1]
  cases x with
  | true => exact h1 ss1 s r src' q2 r2
  | false => exact h2 ss1 s r src' q2 r2
/-- an if, the first branch of which goes away -/
theorem k_ifx {t : S → R Bool} {c : M Bool} {ca cb : M τ} (h : EvT t ρ c) (h1 : EvK s1 ρ ca (exit κ)) (h2 : EvK (sSeq s2 s3) ρ cb κ) : EvK (sSeq (sIf t s1 s2) s3) ρ (bnd c fun z => cnd z ca cb) κ := fun ss src r src' hs hr => by
  obtain ⟨a, s, r1, r2⟩ := run_bnd_some hr
  obtain ⟨x, ss1, q1, q2, rfl⟩ := h ss src a _ hs r1
  rw [run_cnd] at r2
  unfold sSeq sIf
  rw [q1]
  cases x with
  | true =>
    obtain ⟨k1, k2⟩ := h1 ss1 s r src' q2 r2
    show κ r src' (match s1 ⟨ss1, s⟩ with | .nx st1 => s3 st1 | r => r)
    split
    · rename_i st1 q
      exact absurd q (k2 st1)
    · exact k1
  | false => exact h2 ss1 s r src' q2 r2
/-- an if, the second branch of which goes away -/
theorem k_ify {t : S → R Bool} {c : M Bool} {ca cb : M τ} (h : EvT t ρ c) (h1 : EvK (sSeq s1 s3) ρ ca κ) (h2 : EvK s2 ρ cb (exit κ)) : EvK (sSeq (sIf t s1 s2) s3) ρ (bnd c fun z => cnd z ca cb) κ := fun ss src r src' hs hr => by
  obtain ⟨a, s, r1, r2⟩ := run_bnd_some hr
  obtain ⟨x, ss1, q1, q2, rfl⟩ := h ss src a _ hs r1
  rw [run_cnd] at r2
  unfold sSeq sIf
  rw [q1]
  cases x with
  | false =>
    obtain ⟨k1, k2⟩ := h2 ss1 s r src' q2 r2
    show κ r src' (match s2 ⟨ss1, s⟩ with | .nx st1 => s3 st1 | r => r)
    split
    · rename_i st1 q
      exact absurd q (k2 st1)
    · exact k1
  | true => exact h1 ss1 s r src' q2 r2
/-- an if, what follows told twice -/
theorem k_if2 {t : S → R Bool} {c : M Bool} {ca cb : M τ} (h : EvT t ρ c) (h1 : EvK (sSeq s1 s3) ρ ca κ) (h2 : EvK (sSeq s2 s3) ρ cb κ) : EvK (sSeq (sIf t s1 s2) s3) ρ (bnd c fun z => cnd z ca cb) κ := fun ss src r src' hs hr => by
  obtain ⟨a, s, r1, r2⟩ := run_bnd_some hr
  obtain ⟨x, ss1, q1, q2, rfl⟩ := h ss src a _ hs r1
  rw [run_cnd] at r2
  unfold sSeq sIf
  rw [q1]
  cases x with
  | false => exact h2 ss1 s r src' q2 r2
  | true => exact h1 ss1 s r src' q2 r2
theorem k_nilseq {c : M τ} (h : EvK s1 ρ c κ) : EvK (sSeq sNil s1) ρ c κ := h
theorem k_assoc {c : M τ} (h : EvK (sSeq s1 (sSeq s2 s3)) ρ c κ) : EvK (sSeq (sSeq s1 s2) s3) ρ c κ := fun ss src r src' hs hr => by
  have := h ss src r src' hs hr
  unfold sSeq at this ⊢
  cases q : s1 ⟨ss, src⟩ <;> simp only [q] at this ⊢ <;> exact this
/-- what exits needs nothing behind it -/
theorem k_exseq {c : M τ} (h : EvK s1 ρ c (exit κ)) : EvK (sSeq s1 s2) ρ c (exit κ) := fun ss src r src' hs hr => by
  obtain ⟨k1, k2⟩ := h ss src r src' hs hr
  unfold sSeq
  cases q : s1 ⟨ss, src⟩ with
  | nx s => exact absurd q (k2 s)
  | _ =>
    rw [q] at k1
    exact ⟨k1, fun s z => by cases z⟩
theorem k_unexit {c : M τ} (h : EvK s1 ρ c (exit κ)) : EvK s1 ρ c κ := fun ss src r src' hs hr => (h ss src r src' hs hr).1
end
section
variable {c : M α} {i j l : Nat}
theorem k_set {m : S → R Slot} {ρ' : α → List Kn} (h : Ev m ρ c e w) (hρ : ∀ a, ρ.set i (w.kn (e a)) = ρ' a) : EvK (sSet i m) ρ c (kN ρ') := fun ss src a src' hs hr => by
  obtain ⟨x, ss1, h1, h2, h3⟩ := h ss src a _ hs hr
  exact ⟨ss1.set i x, by unfold sSet; simp only [h1], hρ a ▸ h2.put h3⟩
theorem k_asg {m : S → R PyData} {g : PyData → S → Option S} {ρ' : α → List Kn} (h : EvF m ρ c e) (hg : ∀ a, Tg g ρ (e a) (ρ' a)) : EvK (sAsg m g) ρ c (kN ρ') := fun ss src a src' hs hr => by
  obtain ⟨x, ss1, h1, h2, rfl⟩ := h ss src a _ hs hr
  obtain ⟨ss2, k1, k2⟩ := hg a ss1 src' h2
  exact ⟨ss2, by unfold sAsg; simp only [h1, k1], k2⟩
theorem k_par2 {m m' : S → R Slot} {c' : M β} {ρ' : α × β → List Kn} (h : Ev m ρ c e w) (h' : Ev m' ρ c' e2 w') (hρ : ∀ p, (ρ.set i (w.kn (e p.1))).set j (w'.kn (e2 p.2)) = ρ' p) : EvK (sPar2 i j m m') ρ (bnd c fun a => bnd c' fun b => ret (a, b)) (kN ρ') := fun ss src p src' hs hr => by
  obtain ⟨a, s1, r1, r2⟩ := run_bnd_some hr
  obtain ⟨b, s2, r3, r4⟩ := run_bnd_some r2
  obtain ⟨rfl, rfl⟩ := run_ret_some r4
  obtain ⟨x, ss1, h1, h2, h3⟩ := h ss src a _ hs r1
  obtain ⟨y, ss2, k1, k2, k3⟩ := h' ss1 _ b _ h2 r3
  exact ⟨(ss2.set i x).set j y, by unfold sPar2; simp only [h1, k1], hρ (a, b) ▸ (k2.put h3).put k3⟩
theorem k_par3 {m m' m'' : S → R Slot} {c' : M β} {c'' : M γ} {w'' : Wf} {ρ' : α × β × γ → List Kn} (h : Ev m ρ c e w) (h' : Ev m' ρ c' e2 w') (h'' : Ev m'' ρ c'' e3 w'') (hρ : ∀ p, ((ρ.set i (w.kn (e p.1))).set j (w'.kn (e2 p.2.1))).set l (w''.kn (e3 p.2.2)) = ρ' p) : EvK (sPar3 i j l m m' m'') ρ (bnd c fun a => bnd c' fun b => bnd c'' fun d => ret (a, b, d)) (kN ρ') := fun ss src p src' hs hr => by
  obtain ⟨a, s1, r1, r2⟩ := run_bnd_some hr
  obtain ⟨b, s2, r3, r4⟩ := run_bnd_some r2
  obtain ⟨d, s3, r5, r6⟩ := run_bnd_some r4
  obtain ⟨rfl, rfl⟩ := run_ret_some r6
  obtain ⟨x, ss1, h1, h2, h3⟩ := h ss src a _ hs r1
  obtain ⟨y, ss2, k1, k2, k3⟩ := h' ss1 _ b _ h2 r3
  obtain ⟨z, ss3, l1, l2, l3⟩ := h'' ss2 _ d _ k2 r5
  exact ⟨((ss3.set i x).set j y).set l z, by unfold sPar3; simp only [h1, k1, l1], hρ (a, b, d) ▸ ((l2.put h3).put k3).put l3⟩
theorem k_drop {m : S → R Slot} (h : Ev m ρ c e w) : EvK (sDrop m) ρ c (kN fun _ => ρ) := fun ss src a src' hs hr => by
  obtain ⟨x, ss1, h1, h2, h3⟩ := h ss src a _ hs hr
  exact ⟨ss1, by unfold sDrop; simp only [h1], h2⟩
/-! own lists changed -/
/-- a method at data: what is handed back, the list behind it -/
def MutE (g : List PyData → List PyData → Option (PyData × List PyData)) (e : α → PyData) (as : β → List PyData) (e3 : γ → PyData) (F : List α → β → Option (γ × List α)) : Prop := ∀ xs b r, F xs b = some r → g (xs.map e) (as b) = some (e3 r.1, r.2.map e)
theorem mut_ev {g : List PyData → List PyData → Option (PyData × List PyData)} {ma : S → R (List PyData)} {cb : M β} {as : β → List PyData} {F : List α → β → Option (γ × List α)} {xs : List α} (o : MutE g e as e3 F) (hi : ρ[i]? = some (.own (eLst e xs))) (h : EvA ma ρ cb as) :
    ∀ ss src r src', Hs ρ ss → run (bnd cb fun b => out (F xs b)) src = some (r, src') → ∃ ss', mMut g i ma ⟨ss, src⟩ = .ok (.v (e3 r.1)) ⟨ss', src'⟩ ∧ Hs (ρ.set i (.own (eLst e r.2))) ss' := fun ss src r src' hs hr => by
  obtain ⟨b, s1, r1, r2⟩ := run_bnd_some hr
  obtain ⟨r3, rfl⟩ := run_out_some r2
  obtain ⟨s, q1, q2⟩ := hs.get hi
  cases q2
  obtain ⟨x, ss1, h1, h2, rfl⟩ := h ss src b _ hs r1
  obtain ⟨s', q3, q4⟩ := h2.get hi
  cases q4
  exact ⟨ss1.set i (.o (eLst e r.2)), by unfold mMut; simp only [q1, h1, q3, o xs b r r3], h2.put (k := .own (eLst e r.2)) rfl⟩
theorem k_mut {g : List PyData → List PyData → Option (PyData × List PyData)} {ma : S → R (List PyData)} {cb : M β} {as : β → List PyData} {F : List α → β → Option (γ × List α)} {xs : List α} {ρ' : γ × List α → List Kn} (o : MutE g e as e3 F) (hi : ρ[i]? = some (.own (eLst e xs))) (h : EvA ma ρ cb as) (hρ : ∀ r, ρ.set i (.own (eLst e r.2)) = ρ' r) : EvK (sDrop (mMut g i ma)) ρ (bnd cb fun b => out (F xs b)) (kN ρ') := fun ss src r src' hs hr => by
  obtain ⟨ss', h1, h2⟩ := mut_ev o hi h ss src r src' hs hr
  exact ⟨ss', by unfold sDrop; simp only [h1], hρ r ▸ h2⟩
theorem k_setmut {g : List PyData → List PyData → Option (PyData × List PyData)} {ma : S → R (List PyData)} {cb : M β} {as : β → List PyData} {F : List α → β → Option (γ × List α)} {xs : List α} {ρ' : γ × List α → List Kn} (o : MutE g e as e3 F) (hi : ρ[i]? = some (.own (eLst e xs))) (h : EvA ma ρ cb as) (hρ : ∀ r, (ρ.set i (.own (eLst e r.2))).set j (.val (e3 r.1)) = ρ' r) : EvK (sSet j (mMut g i ma)) ρ (bnd cb fun b => out (F xs b)) (kN ρ') := fun ss src r src' hs hr => by
  obtain ⟨ss', h1, h2⟩ := mut_ev o hi h ss src r src' hs hr
  exact ⟨ss'.set j (.v (e3 r.1)), by unfold sSet; simp only [h1], hρ r ▸ h2.put (k := .val (e3 r.1)) rfl⟩
end

/-! ### loops -/
def foldM (cb : β → α → M β) : List α → β → M β
  | [], b => ret b
  | x :: xs, b => bnd (cb b x) fun b' => foldM cb xs b'
def foldO (cb : β → α → M (Out β γ)) : List α → β → M (Out β γ)
  | [], b => ret (.nx b)
  | x :: xs, b => bnd (cb b x) fun o => match o with
    | .nx b' => foldO cb xs b'
    | .bk b' => ret (.nx b')
    | .rt r => ret (.rt r)
section
variable {mi : S → R (List PyData)} {g : PyData → S → Option S} {m : S → RS} {ci : M (List α)} {ρL : β → List Kn} {ρa : β → α → List Kn}
theorem forGo_ev {cb : β → α → M β} (hg : ∀ b a, Tg g (ρL b) (e1 a) (ρa b a)) (hb : ∀ b a, EvK m (ρa b a) (cb b a) (kL ρL)) : ∀ (xs : List α) (b : β) (ss : List Slot) (src : Option Src) (b' : β) (src' : Option Src), Hs (ρL b) ss → run (foldM cb xs b) src = some (b', src') → ∃ ss', forGo g m (xs.map e1) ⟨ss, src⟩ = .nx ⟨ss', src'⟩ ∧ Hs (ρL b') ss'
  | [], b, ss, src, b', src', hs, hr => by
    obtain ⟨rfl, rfl⟩ := run_ret_some hr
    exact ⟨ss, rfl, hs⟩
  | x :: xs, b, ss, src, b', src', hs, hr => by
    obtain ⟨b1, s1, r1, r2⟩ := run_bnd_some hr
    obtain ⟨ss1, g1, g2⟩ := hg b x ss src hs
    obtain ⟨ss2, k1, k2⟩ := hb b x ss1 src b1 s1 g2 r1
    obtain ⟨ss', l1, l2⟩ := forGo_ev hg hb xs b1 ss2 s1 b' src' k2 r2
    refine ⟨ss', ?_, l2⟩
    rw [List.map_cons]
    unfold forGo
    rw [g1]
    rcases k1 with k1 | k1
    · simp only [k1, l1]
    · simp only [k1, l1]
theorem k_for {cb : β → α → M β} {b0 : β} (hi : EvA mi ρ ci (List.map e1)) (h0 : KwL ρ (ρL b0)) (hg : ∀ b a, Tg g (ρL b) (e1 a) (ρa b a)) (hb : ∀ b a, EvK m (ρa b a) (cb b a) (kL ρL)) : EvK (sFor mi g m) ρ (bnd ci fun xs => foldM cb xs b0) (kN ρL) := fun ss src b src' hs hr => by
  obtain ⟨xs, s1, r1, r2⟩ := run_bnd_some hr
  obtain ⟨ds, ss1, i1, i2, rfl⟩ := hi ss src xs _ hs r1
  obtain ⟨ss', l1, l2⟩ := forGo_ev hg hb xs b0 ss1 s1 b src' (h0.ok i2) r2
  exact ⟨ss', by unfold sFor; simp only [i1, l1], l2⟩
theorem forGo_evO {e3 : γ → PyData} {cb : β → α → M (Out β γ)} (hg : ∀ b a, Tg g (ρL b) (e1 a) (ρa b a)) (hb : ∀ b a, EvK m (ρa b a) (cb b a) (kO ρL e3 w)) : ∀ (xs : List α) (b : β) (ss : List Slot) (src : Option Src) (o : Out β γ) (src' : Option Src), Hs (ρL b) ss → run (foldO cb xs b) src = some (o, src') → kE ρL e3 w o src' (forGo g m (xs.map e1) ⟨ss, src⟩)
  | [], b, ss, src, o, src', hs, hr => by
    obtain ⟨rfl, rfl⟩ := run_ret_some hr
    exact ⟨ss, rfl, hs⟩
  | x :: xs, b, ss, src, o, src', hs, hr => by
    obtain ⟨b1, s1, r1, r2⟩ := run_bnd_some hr
    obtain ⟨ss1, g1, g2⟩ := hg b x ss src hs
    have k := hb b x ss1 src b1 s1 g2 r1
    rw [List.map_cons]
    unfold forGo
    rw [g1]
    cases b1 with
    | nx b' =>
      obtain ⟨ss2, k1, k2⟩ := k
      have l := forGo_evO hg hb xs b' ss2 s1 o src' k2 r2
      rcases k1 with k1 | k1
      · simp only [k1]
        exact l
      · simp only [k1]
        exact l
    | bk b' =>
      obtain ⟨rfl, rfl⟩ := run_ret_some r2
      obtain ⟨ss2, k1, k2⟩ := k
      simp only [k1]
      exact ⟨ss2, rfl, k2⟩
    | rt r =>
      obtain ⟨rfl, rfl⟩ := run_ret_some r2
      obtain ⟨s, ss2, k1, k2⟩ := k
      simp only [k1]
      exact ⟨s, ss2, rfl, k2⟩
theorem k_forO {e3 : γ → PyData} {cb : β → α → M (Out β γ)} {b0 : β} (hi : EvA mi ρ ci (List.map e1)) (h0 : KwL ρ (ρL b0)) (hg : ∀ b a, Tg g (ρL b) (e1 a) (ρa b a)) (hb : ∀ b a, EvK m (ρa b a) (cb b a) (kO ρL e3 w)) : EvK (sFor mi g m) ρ (bnd ci fun xs => foldO cb xs b0) (kE ρL e3 w) := fun ss src b src' hs hr => by
  obtain ⟨xs, s1, r1, r2⟩ := run_bnd_some hr
  obtain ⟨ds, ss1, i1, i2, rfl⟩ := hi ss src xs _ hs r1
  have l := forGo_evO hg hb xs b0 ss1 s1 b src' (h0.ok i2) r2
  unfold sFor
  simp only [i1]
  exact l
def outK (o : Out β γ) (f : β → M τ) (g : γ → M τ) : M τ := match o with
  | .nx b => f b
  | .bk b => f b
  | .rt r => g r
theorem k_seqE {e3 : γ → PyData} {κ : Kt τ} {s1 s2 : S → RS} {c1 : M (Out β γ)} {c2 : β → M τ} {inj : γ → τ} (h1 : EvK s1 ρ c1 (kE ρL e3 w)) (h2 : ∀ b, EvK s2 (ρL b) (c2 b) κ) (r : RtOk κ e3 w inj) : EvK (sSeq s1 s2) ρ (bnd c1 fun o => outK o c2 fun r => ret (inj r)) κ := fun ss src t src' hs hr => by
  obtain ⟨o, s, r1, r2⟩ := run_bnd_some hr
  have k := h1 ss src o s hs r1
  unfold sSeq
  cases o with
  | nx b =>
    obtain ⟨ss1, q1, q2⟩ := k
    rw [q1]
    exact h2 b ss1 s t src' q2 r2
  | bk b =>
    obtain ⟨ss1, q1, q2⟩ := k
    rw [q1]
    exact h2 b ss1 s t src' q2 r2
  | rt b =>
    obtain ⟨rfl, rfl⟩ := run_ret_some r2
    have k' := k
    obtain ⟨x, ss1, q1, q2⟩ := k
    rw [q1] at k' ⊢
    exact r b _ _ k'
theorem k_lastE {e3 : γ → PyData} {κ : Kt τ} {s1 : S → RS} {c1 : M (Out β γ)} {c2 : β → M τ} {inj : γ → τ} (h1 : EvK s1 ρ c1 (kE ρL e3 w)) (h2 : ∀ b, EvK sNil (ρL b) (c2 b) κ) (r : RtOk κ e3 w inj) : EvK s1 ρ (bnd c1 fun o => outK o c2 fun r => ret (inj r)) κ := fun ss src t src' hs hr => by
  have := k_seqE h1 h2 r ss src t src' hs hr
  unfold sSeq at this
  split at this
  · rename_i st1 q
    rw [q]
    exact this
  · exact this
/-! while -/
def whK (c : β → M Bool) (cb : β → M β) : Nat → β → M β
  | 0, _ => out none
  | k + 1, b => bnd (c b) fun z => cnd z (bnd (cb b) fun b' => whK c cb k b') (ret b)
def whO (c : β → M Bool) (cb : β → M (Out β γ)) : Nat → β → M (Out β γ)
  | 0, _ => out none
  | k + 1, b => bnd (c b) fun z => cnd z (bnd (cb b) fun o => match o with
    | .nx b' => whO c cb k b'
    | .bk b' => ret (.nx b')
    | .rt r => ret (.rt r)) (ret (.nx b))
theorem whGo_ev {t : S → R Bool} {c : β → M Bool} {cb : β → M β} (hc : ∀ b, EvT t (ρL b) (c b)) (hb : ∀ b, EvK m (ρL b) (cb b) (kL ρL)) : ∀ (k : Nat) (b : β) (ss : List Slot) (src : Option Src) (b' : β) (src' : Option Src), Hs (ρL b) ss → run (whK c cb k b) src = some (b', src') → ∃ ss', whGo t m k ⟨ss, src⟩ = .nx ⟨ss', src'⟩ ∧ Hs (ρL b') ss'
  | 0, b, ss, src, b', src', hs, hr => by
    obtain ⟨h, _⟩ := run_out_some hr
    cases h
  | k + 1, b, ss, src, b', src', hs, hr => by
    obtain ⟨z, s1, r1, r2⟩ := run_bnd_some hr
    obtain ⟨z', ss1, t1, t2, rfl⟩ := hc b ss src z s1 hs r1
    rw [run_cnd] at r2
    unfold whGo
    rw [t1]
    cases z' with
    | false =>
      rw [if_neg Bool.false_ne_true] at r2
      obtain ⟨rfl, rfl⟩ := run_ret_some r2
      exact ⟨ss1, rfl, t2⟩
    | true =>
      rw [if_pos rfl] at r2
      obtain ⟨b1, s2, r3, r4⟩ := run_bnd_some r2
      obtain ⟨ss2, k1, k2⟩ := hb b ss1 s1 b1 s2 t2 r3
      obtain ⟨ss', l1, l2⟩ := whGo_ev hc hb k b1 ss2 s2 b' src' k2 r4
      refine ⟨ss', ?_, l2⟩
      rcases k1 with k1 | k1
      · simp only [k1, l1]
      · simp only [k1, l1]
theorem k_while {t : S → R Bool} {c : β → M Bool} {cb : β → M β} {b0 : β} (h0 : KwL ρ (ρL b0)) (hc : ∀ b, EvT t (ρL b) (c b)) (hb : ∀ b, EvK m (ρL b) (cb b) (kL ρL)) : EvK (sWhile t m) ρ (lim fun k => whK c cb k b0) (kN ρL) := fun ss src b src' hs hr => by
  obtain ⟨k, hk⟩ := run_lim _ _ _ hr
  obtain ⟨ss', l1, l2⟩ := whGo_ev hc hb k b0 ss src b src' (h0.ok hs) hk
  exact ⟨ss', by rw [sWhile_of (k := k) (by rw [l1]; exact fun z => nomatch z), l1], l2⟩
theorem whGo_evO {e3 : γ → PyData} {t : S → R Bool} {c : β → M Bool} {cb : β → M (Out β γ)} (hc : ∀ b, EvT t (ρL b) (c b)) (hb : ∀ b, EvK m (ρL b) (cb b) (kO ρL e3 w)) : ∀ (k : Nat) (b : β) (ss : List Slot) (src : Option Src) (o : Out β γ) (src' : Option Src), Hs (ρL b) ss → run (whO c cb k b) src = some (o, src') → kE ρL e3 w o src' (whGo t m k ⟨ss, src⟩)
  | 0, b, ss, src, b', src', hs, hr => by
    obtain ⟨h, _⟩ := run_out_some hr
    cases h
  | k + 1, b, ss, src, o, src', hs, hr => by
    obtain ⟨z, s1, r1, r2⟩ := run_bnd_some hr
    obtain ⟨z', ss1, t1, t2, rfl⟩ := hc b ss src z s1 hs r1
    rw [run_cnd] at r2
    unfold whGo
    rw [t1]
    cases z' with
    | false =>
      rw [if_neg Bool.false_ne_true] at r2
      obtain ⟨rfl, rfl⟩ := run_ret_some r2
      exact ⟨ss1, rfl, t2⟩
    | true =>
      rw [if_pos rfl] at r2
      obtain ⟨b1, s2, r3, r4⟩ := run_bnd_some r2
      have kk := hb b ss1 s1 b1 s2 t2 r3
      cases b1 with
      | nx b' =>
        obtain ⟨ss2, k1, k2⟩ := kk
        have l := whGo_evO hc hb k b' ss2 s2 o src' k2 r4
        rcases k1 with k1 | k1
        · simp only [k1]
          exact l
        · simp only [k1]
          exact l
      | bk b' =>
        obtain ⟨rfl, rfl⟩ := run_ret_some r4
        obtain ⟨ss2, k1, k2⟩ := kk
        simp only [k1]
        exact ⟨ss2, rfl, k2⟩
      | rt r =>
        obtain ⟨rfl, rfl⟩ := run_ret_some r4
        obtain ⟨s, ss2, k1, k2⟩ := kk
        simp only [k1]
        exact ⟨s, ss2, rfl, k2⟩
theorem kE.good {e3 : γ → PyData} {o : Out β γ} {src : Option Src} {rs : RS} (h : kE ρL e3 w o src rs) : rs ≠ .bad := by
  cases o with
  | nx b => obtain ⟨_, h, _⟩ := h; rw [h]; exact fun z => nomatch z
  | bk b => obtain ⟨_, h, _⟩ := h; rw [h]; exact fun z => nomatch z
  | rt r => obtain ⟨_, _, h, _⟩ := h; rw [h]; exact fun z => nomatch z
theorem k_whileO {e3 : γ → PyData} {t : S → R Bool} {c : β → M Bool} {cb : β → M (Out β γ)} {b0 : β} (h0 : KwL ρ (ρL b0)) (hc : ∀ b, EvT t (ρL b) (c b)) (hb : ∀ b, EvK m (ρL b) (cb b) (kO ρL e3 w)) : EvK (sWhile t m) ρ (lim fun k => whO c cb k b0) (kE ρL e3 w) := fun ss src b src' hs hr => by
  obtain ⟨k, hk⟩ := run_lim _ _ _ hr
  have l := whGo_evO hc hb k b0 ss src b src' (h0.ok hs) hk
  rw [sWhile_of (k := k) l.good]
  exact l
end

/-! ### defs -/
theorem fn_p {g : GFn} {n : Nat} {m : S → RS} {as : List Slot} {o : Option γ} {ss0 : List Slot} (hg : g = gOf n m) (hs : startS n as = ss0) (hρ : Hs ρ ss0) (h : EvK (M := Option) m ρ o (kF e3 w)) : FnP g as o e3 w := fun r hr => by
  subst hg hs
  have k := h _ none r none hρ (by show o.map (fun a => (a, none)) = _; rw [hr]; rfl)
  rcases k with ⟨s, ss', k1, k2⟩ | ⟨ss', k1, k2⟩
  · refine ⟨s, ?_, k2⟩
    unfold gOf
    rw [k1]
    cases s with
    | cel => cases w <;> cases k2 <;> rename_i z <;> cases z
    | _ => rfl
  · refine ⟨.v .none, ?_, k2⟩
    unfold gOf
    rw [k1]
theorem fn_d {g : GFn} {n : Nat} {m : S → RS} {as : List Slot} {c : DM γ} {ss0 : List Slot} (hg : g = gOf n m) (hs : startS n as = ss0) (hρ : Hs ρ ss0) (h : EvK (M := DM) m ρ c (kF e3 w)) : FnD g as c e3 w := fun src r src' hr => by
  subst hg hs
  have k := h _ (some src) r (some src') hρ (DM.run_of hr)
  rcases k with ⟨s, ss', k1, k2⟩ | ⟨ss', k1, k2⟩
  · refine ⟨s, ?_, k2⟩
    unfold gOf
    rw [k1]
    cases s with
    | cel => cases w <;> cases k2 <;> rename_i z <;> cases z
    | _ => rfl
  · refine ⟨.v .none, ?_, k2⟩
    unfold gOf
    rw [k1]
/-- the knowledge at the entry -/
theorem hs_nil : Hs [] [] := ⟨rfl, fun i k s h => by simp at h⟩
theorem hs_cons {k : Kn} {s : Slot} {ρ : List Kn} {ss : List Slot} (h : k.ok s) (hs : Hs ρ ss) : Hs (k :: ρ) (s :: ss) := ⟨by rw [List.length_cons, List.length_cons, hs.len], fun i k' s' h1 h2 => by
  cases i with
  | zero =>
    simp only [List.getElem?_cons_zero, Option.some.injEq] at h1 h2
    subst h1 h2
    exact h
  | succ i =>
    simp only [List.getElem?_cons_succ] at h1 h2
    exact hs.at_ i k' s' h1 h2⟩
theorem hs_v {d : PyData} {ρ : List Kn} {ss : List Slot} (hs : Hs ρ ss) : Hs (.val d :: ρ) (.v d :: ss) := hs_cons rfl hs
theorem hs_no {ρ : List Kn} {ss : List Slot} (hs : Hs ρ ss) : Hs (.dead :: ρ) (.no :: ss) := hs_cons True.intro hs
theorem hs_src {ρ : List Kn} {ss : List Slot} (hs : Hs ρ ss) : Hs (.src :: ρ) (.src :: ss) := hs_cons rfl hs
theorem hs_scr {ns : List Int} {ρ : List Kn} {ss : List Slot} (hs : Hs ρ ss) : Hs (.scr ns :: ρ) (.scr ns :: ss) := hs_cons rfl hs
end Td
end
set_option linter.all false
set_option maxRecDepth 100000
/-! Td, part D: operations at typed data. -/
noncomputable section
namespace Td
open PySem PySem.Spec PyProof.Rows L2 Pd PM
variable {M : Type → Type} [PM M] {α β γ δ τ ζ : Type}
variable {ρ ρ1 ρ2 : List Kn} {e : α → PyData} {e1 : α → PyData} {e2 : β → PyData} {e3 : γ → PyData} {e4 : δ → PyData} {w w' : Wf}

/-! ### numbers -/
def addI (a b : Int) : Option Int := some (a + b)
def subI (a b : Int) : Option Int := some (a - b)
def mulI (a b : Int) : Option Int := if mulOk a b = true then some (a * b) else none
def divI (a b : Int) : Option Int := if 0 < b ∧ b < 1073741824 then some (a / b) else none
def modI (a b : Int) : Option Int := if 0 < b then some (a % b) else none
def powI (a b : Int) : Option Int := if 0 ≤ b ∧ b ≤ 1000000 ∧ a.natAbs < 2 ^ 64 then some (a ^ b.toNat) else none
def ltI (a b : Int) : Option Bool := some (decide (a < b))
def gtI (a b : Int) : Option Bool := some (decide (b < a))
def leI' (a b : Int) : Option Bool := some (decide (a ≤ b))
def geI (a b : Int) : Option Bool := some (decide (b ≤ a))
theorem op_addI : Op2 gAdd eInt eInt eInt .val addI := fun a b r h => by cases h; exact ⟨_, rfl, rfl⟩
theorem op_subI : Op2 gSub eInt eInt eInt .val subI := fun a b r h => by cases h; exact ⟨_, rfl, rfl⟩
theorem op_mulI : Op2 gMul eInt eInt eInt .val mulI := fun a b r h => by
  unfold mulI at h
  split at h
  · rename_i z
    cases h
    exact ⟨_, gMul_int z, rfl⟩
  · cases h
theorem op_divI : Op2 gDiv eInt eInt eInt .val divI := fun a b r h => by
  unfold divI at h
  split at h
  · rename_i z
    cases h
    exact ⟨_, gDiv_int z.1 z.2, rfl⟩
  · cases h
theorem op_modI : Op2 gMod eInt eInt eInt .val modI := fun a b r h => by
  unfold modI at h
  split at h
  · rename_i z
    cases h
    exact ⟨_, gMod_int z, rfl⟩
  · cases h
theorem op_powI : Op2 gPow eInt eInt eInt .val powI := fun a b r h => by
  unfold powI at h
  split at h
  · rename_i z
    cases h
    refine ⟨_, ?_, rfl⟩
    unfold gPow
    simp only [decide_eq_true z.1, decide_eq_true z.2.1, decide_eq_true z.2.2, Bool.and_self, if_true]
  · cases h
theorem op_ltI : Op2 gLt eInt eInt eBool .val ltI := fun a b r h => by cases h; exact ⟨_, rfl, rfl⟩
theorem op_gtI : Op2 gGt eInt eInt eBool .val gtI := fun a b r h => by cases h; exact ⟨_, rfl, rfl⟩
theorem op_leI : Op2 gLe eInt eInt eBool .val leI' := fun a b r h => by cases h; exact ⟨_, rfl, rfl⟩
theorem op_geI : Op2 gGe eInt eInt eBool .val geI := fun a b r h => by cases h; exact ⟨_, rfl, rfl⟩
def negI (a : Int) : Option Int := some (-a)
def absI (a : Int) : Option Int := some (if a < 0 then -a else a)
def intB (b : Bool) : Option Int := some (if b then 1 else 0)
theorem op_neg : Op1 gNeg eInt eInt .val negI := fun a r h => by cases h; exact ⟨_, rfl, rfl⟩
theorem op_abs : Op1 gAbs eInt eInt .val absI := fun a r h => by cases h; exact ⟨_, rfl, rfl⟩
theorem op_int : Op1 gInt eInt eInt .val (fun a => some a) := fun a r h => by cases h; exact ⟨_, rfl, rfl⟩
theorem op_intB : Op1 gInt eBool eInt .val intB := fun a r h => by cases h; exact ⟨_, rfl, rfl⟩
def min2 (a b : Int) : Option Int := some (min a b)
def max2 (a b : Int) : Option Int := some (max a b)
theorem op_min2 : Op2 gMin2 eInt eInt eInt .val min2 := fun a b r h => by
  cases h
  refine ⟨_, rfl, ?_⟩
  show Slot.v (.int (if b < a then b else a)) = Slot.v (.int (min a b))
  congr 2
  omega
theorem op_max2 : Op2 gMax2 eInt eInt eInt .val max2 := fun a b r h => by
  cases h
  refine ⟨_, rfl, ?_⟩
  show Slot.v (.int (if b > a then b else a)) = Slot.v (.int (max a b))
  congr 2
  omega

/-! ### sequences -/
def cat (xs ys : List α) : Option (List α) := if okLen (xs.length + ys.length) = true then some (xs ++ ys) else none
theorem op_catL : Op2 gAdd (eLst e) (eLst e) (eLst e) .own cat := fun a b r h => by
  unfold cat at h
  split at h
  · rename_i z
    cases h
    refine ⟨.o (.list ((a ++ b).map e)), ?_, rfl⟩
    show gAdd (.list (a.map e)) (.list (b.map e)) = _
    simp only [gAdd, List.length_map, z, if_true, List.map_append]
  · cases h
theorem op_catT : Op2 gAdd (eTup e) (eTup e) (eTup e) .val cat := fun a b r h => by
  unfold cat at h
  split at h
  · rename_i z
    cases h
    refine ⟨.v (.tuple ((a ++ b).map e)), ?_, rfl⟩
    show gAdd (.tuple (a.map e)) (.tuple (b.map e)) = _
    simp only [gAdd, List.length_map, z, if_true, List.map_append]
  · cases h
def at_ (xs : List α) (i : Int) : Option α := L2.atI xs i
theorem atI_map (xs : List α) (i : Int) : L2.atI (xs.map e) i = (at_ xs i).map e := by
  unfold at_ L2.atI
  rw [List.length_map]
  cases ixN xs.length i with
  | none => rfl
  | some j => exact List.getElem?_map
theorem op_ix {L : α → List γ} (q : SeqE e1 L e3) : Op2 gIx e1 eInt e3 .val (fun x i => at_ (L x) i) := fun a b r h => by
  have h : at_ (L a) b = some r := h
  rcases q a with z | z
  · refine ⟨.v (e3 r), ?_, rfl⟩
    rw [z]
    show (L2.atI _ b).map Slot.v = _
    rw [atI_map, h]
    rfl
  · refine ⟨.v (e3 r), ?_, rfl⟩
    rw [z]
    show (L2.atI _ b).map Slot.v = _
    rw [atI_map, h]
    rfl
theorem op_len {L : α → List γ} (q : SeqE e1 L e3) : Op1 gLen e1 eInt .val (fun x => some ((L x).length : Int)) := fun a r h => by
  cases h
  refine ⟨.v (.int ((L a).length : Int)), ?_, rfl⟩
  rcases q a with z | z
  · rw [z]
    show some (Slot.v (.int ((List.map e3 (L a)).length : Int))) = _
    rw [List.length_map]
  · rw [z]
    show some (Slot.v (.int ((List.map e3 (L a)).length : Int))) = _
    rw [List.length_map]
theorem op_tuple {L : α → List γ} (q : SeqE e1 L e3) : Op1 gTuple e1 (eTup e3) .val (fun x => some (L x)) := fun a r h => by
  cases h
  rcases q a with z | z
  · exact ⟨_, by rw [z]; rfl, rfl⟩
  · exact ⟨_, by rw [z]; rfl, rfl⟩
theorem op_list {L : α → List γ} (q : SeqE e1 L e3) : Op1 gList e1 (eLst e3) .own (fun x => some (L x)) := fun a r h => by
  cases h
  rcases q a with z | z
  · exact ⟨_, by rw [z]; rfl, rfl⟩
  · exact ⟨_, by rw [z]; rfl, rfl⟩
theorem op_revL : Op1 gRev (eLst e) (eLst e) .own (fun xs => some xs.reverse) := fun a r h => by
  cases h
  exact ⟨_, rfl, by rw [← List.map_reverse]; rfl⟩
theorem intsD_map : ∀ l : List Int, intsD (l.map PyData.int) = some l
  | [] => rfl
  | x :: l => by
    rw [List.map_cons, intsD, intsD_map l]
    rfl
theorem op_sum {L : α → List Int} (q : SeqE e1 L eInt) : Op1 gSum e1 eInt .val (fun x => some (L x).sum) := fun a r h => by
  cases h
  refine ⟨_, ?_, rfl⟩
  rcases q a with z | z
  · rw [z]
    show (intsD _).map _ = _
    rw [intsD_map]
    rfl
  · rw [z]
    show (intsD _).map _ = _
    rw [intsD_map]
    rfl
theorem bools_plain : ∀ l : List Bool, PyData.plainAll (l.map PyData.bool) = true
  | [] => rfl
  | x :: l => by
    rw [List.map_cons, PyData.plainAll, bools_plain l]
    rfl
theorem op_all {L : α → List Bool} (q : SeqE e1 L eBool) : Op1 gAll e1 eBool .val (fun x => some ((L x).all id)) := fun a r h => by
  cases h
  refine ⟨.v (.bool ((L a).all id)), ?_, rfl⟩
  have s1 : ((L a).map PyData.bool).all smallD = true := List.all_eq_true.mpr fun x hx => by
    obtain ⟨b, _, rfl⟩ := List.mem_map.mp hx
    rfl
  have s2 : ((L a).map PyData.bool).all PyData.truthy = (L a).all id := by
    rw [List.all_map]
    rfl
  rcases q a with z | z
  · rw [z]
    show (if (PyData.plainAll ((L a).map PyData.bool) && ((L a).map PyData.bool).all smallD) = true then some (Slot.v (.bool (((L a).map PyData.bool).all PyData.truthy))) else none) = _
    rw [s1, s2, bools_plain]
    rfl
  · rw [z]
    show (if (PyData.plainAll ((L a).map PyData.bool) && ((L a).map PyData.bool).all smallD) = true then some (Slot.v (.bool (((L a).map PyData.bool).all PyData.truthy))) else none) = _
    rw [s1, s2, bools_plain]
    rfl
theorem op_any {L : α → List Bool} (q : SeqE e1 L eBool) : Op1 gAny e1 eBool .val (fun x => some ((L x).any id)) := fun a r h => by
  cases h
  refine ⟨.v (.bool ((L a).any id)), ?_, rfl⟩
  have s1 : ((L a).map PyData.bool).all smallD = true := List.all_eq_true.mpr fun x hx => by
    obtain ⟨b, _, rfl⟩ := List.mem_map.mp hx
    rfl
  have s2 : ((L a).map PyData.bool).any PyData.truthy = (L a).any id := by
    rw [List.any_map]
    rfl
  rcases q a with z | z
  · rw [z]
    show (if (PyData.plainAll ((L a).map PyData.bool) && ((L a).map PyData.bool).all smallD) = true then some (Slot.v (.bool (((L a).map PyData.bool).any PyData.truthy))) else none) = _
    rw [s1, s2, bools_plain]
    rfl
  · rw [z]
    show (if (PyData.plainAll ((L a).map PyData.bool) && ((L a).map PyData.bool).all smallD) = true then some (Slot.v (.bool (((L a).map PyData.bool).any PyData.truthy))) else none) = _
    rw [s1, s2, bools_plain]
    rfl
def reprO (e : α → PyData) (a : α) : Option Str := if reprOk (e a) = true then some (e a).shown else none
theorem op_repr : Op1 gRepr e eStr .val (reprO e) := fun a r h => by
  unfold reprO at h
  split at h
  · rename_i z
    cases h
    exact ⟨_, by unfold gRepr; rw [if_pos z], rfl⟩
  · cases h

/-! ### equality -/
structure EqE [DecidableEq α] (e : α → PyData) (k : Nat) : Prop where
  plain : ∀ a, (e a).plain = true
  deep : ∀ a, (e a).depth ≤ k
  eqv : ∀ a b, PyData.eqv (e a) (e b) = decide (a = b)
theorem eq_int : EqE eInt 0 := ⟨fun _ => rfl, fun _ => Nat.le_refl _, fun a b => PySem.W.Datum.eqv a b⟩
theorem eq_bool : EqE eBool 0 := ⟨fun _ => rfl, fun _ => Nat.le_refl _, fun a b => PySem.W.Datum.eqv a b⟩
theorem eq_str : EqE eStr 0 := ⟨fun _ => rfl, fun _ => Nat.le_refl _, fun a b => PySem.W.Datum.eqv a b⟩
theorem eq_non : EqE eNon 0 := ⟨fun _ => rfl, fun _ => Nat.le_refl _, fun a b => PySem.W.Datum.eqv a b⟩
section
variable [DecidableEq α] [DecidableEq β] [DecidableEq γ] [DecidableEq δ] {k l m n : Nat}
theorem plainAll_e (h : EqE e k) : ∀ xs : List α, PyData.plainAll (xs.map e) = true
  | [] => rfl
  | x :: xs => by
    rw [List.map_cons, PyData.plainAll, h.plain x, plainAll_e h xs]
    rfl
theorem depthAll_e (h : EqE e k) : ∀ xs : List α, PyData.depthAll (xs.map e) ≤ k
  | [] => Nat.zero_le _
  | x :: xs => by
    rw [List.map_cons, PyData.depthAll]
    exact Nat.max_le.mpr ⟨h.deep x, depthAll_e h xs⟩
theorem eqvAll_e (h : EqE e k) : ∀ xs ys : List α, PyData.eqvAll (xs.map e) (ys.map e) = decide (xs = ys)
  | [], [] => by simp only [List.map_nil, PyData.eqvAll, decide_true]
  | [], _ :: _ => by simp [PyData.eqvAll]
  | _ :: _, [] => by simp [PyData.eqvAll]
  | x :: xs, y :: ys => by
    rw [List.map_cons, List.map_cons, PyData.eqvAll, h.eqv x y, eqvAll_e h xs ys, ← Bool.decide_and]
    exact decide_eq_decide.mpr (by rw [List.cons.injEq])
theorem eq_lst (h : EqE e k) : EqE (eLst e) (k + 1) where
  plain xs := by simp only [PyData.plain]; exact plainAll_e h xs
  eqv xs ys := by simp only [PyData.eqv]; exact eqvAll_e h xs ys
  deep xs := by simp only [PyData.depth]; exact Nat.succ_le_succ (depthAll_e h xs)
theorem eq_tup (h : EqE e k) : EqE (eTup e) (k + 1) where
  plain xs := by simp only [PyData.plain]; exact plainAll_e h xs
  eqv xs ys := by simp only [PyData.eqv]; exact eqvAll_e h xs ys
  deep xs := by simp only [PyData.depth]; exact Nat.succ_le_succ (depthAll_e h xs)
theorem eq_p2 (h1 : EqE e1 k) (h2 : EqE e2 l) : EqE (eP2 e1 e2) (k + l + 1) where
  plain p := by simp only [PyData.plain, PyData.plainAll, h1.plain, h2.plain, Bool.and_self]
  eqv p q := by
    simp only [PyData.eqv, PyData.eqvAll]
    rw [h1.eqv, h2.eqv, Bool.and_true, ← Bool.decide_and]
    exact decide_eq_decide.mpr ⟨fun e => Prod.ext e.1 e.2, fun e => by rw [e]; exact ⟨rfl, rfl⟩⟩
  deep p := by
    simp only [PyData.depth, PyData.depthAll]
    have := h1.deep p.1
    have := h2.deep p.2
    omega
theorem eq_p3 (h1 : EqE e1 k) (h2 : EqE e2 l) (h3 : EqE e3 m) : EqE (eP3 e1 e2 e3) (k + l + m + 1) where
  plain p := by simp only [PyData.plain, PyData.plainAll, h1.plain, h2.plain, h3.plain, Bool.and_self]
  eqv p q := by
    simp only [PyData.eqv, PyData.eqvAll]
    rw [h1.eqv, h2.eqv, h3.eqv, Bool.and_true, ← Bool.decide_and, ← Bool.decide_and]
    exact decide_eq_decide.mpr ⟨fun e => Prod.ext e.1 (Prod.ext e.2.1 e.2.2), fun e => by rw [e]; exact ⟨rfl, rfl, rfl⟩⟩
  deep p := by
    simp only [PyData.depth, PyData.depthAll]
    have := h1.deep p.1
    have := h2.deep p.2.1
    have := h3.deep p.2.2
    omega
theorem eq_p4 (h1 : EqE e1 k) (h2 : EqE e2 l) (h3 : EqE e3 m) (h4 : EqE e4 n) : EqE (eP4 e1 e2 e3 e4) (k + l + m + n + 1) where
  plain p := by simp only [PyData.plain, PyData.plainAll, h1.plain, h2.plain, h3.plain, h4.plain, Bool.and_self]
  eqv p q := by
    simp only [PyData.eqv, PyData.eqvAll]
    rw [h1.eqv, h2.eqv, h3.eqv, h4.eqv, Bool.and_true, ← Bool.decide_and, ← Bool.decide_and, ← Bool.decide_and]
    exact decide_eq_decide.mpr ⟨fun e => Prod.ext e.1 (Prod.ext e.2.1 (Prod.ext e.2.2.1 e.2.2.2)), fun e => by rw [e]; exact ⟨rfl, rfl, rfl, rfl⟩⟩
  deep p := by
    simp only [PyData.depth, PyData.depthAll]
    have := h1.deep p.1
    have := h2.deep p.2.1
    have := h3.deep p.2.2.1
    have := h4.deep p.2.2.2
    omega
theorem EqE.shp (h : EqE e k) (hk : k ≤ 60) (a : α) : shp (e a) = true := by
  unfold Pd.shp
  rw [h.plain, Bool.true_and]
  exact decide_eq_true (Nat.le_trans (h.deep a) hk)
def eqV (a b : α) : Option Bool := some (decide (a = b))
def neV (a b : α) : Option Bool := some (!decide (a = b))
def inV (a : α) (xs : List α) : Option Bool := some (decide (a ∈ xs))
def niV (a : α) (xs : List α) : Option Bool := some (!decide (a ∈ xs))
theorem op_eq (h : EqE e k) (hk : k ≤ 60) : Op2 gEq e e eBool .val eqV := fun a b r q => by
  cases q
  exact ⟨_, by unfold gEq; rw [h.shp hk, h.shp hk, h.eqv]; rfl, rfl⟩
theorem op_ne (h : EqE e k) (hk : k ≤ 60) : Op2 gNe e e eBool .val neV := fun a b r q => by
  cases q
  exact ⟨_, by unfold gNe; rw [h.shp hk, h.shp hk, h.eqv]; rfl, rfl⟩
theorem any_e (h : EqE e k) (a : α) : ∀ xs : List α, ((xs.map e).any fun z => PyData.eqv z (e a)) = decide (a ∈ xs)
  | [] => by simp
  | x :: xs => by
    rw [List.map_cons, List.any_cons, any_e h a xs, h.eqv, ← Bool.decide_or]
    exact decide_eq_decide.mpr (by rw [List.mem_cons, eq_comm])
theorem op_in {L : β → List α} (q : SeqE e2 L e) (h : EqE e k) (hk : k ≤ 60) : Op2 (gIn false) e e2 eBool .val (fun a x => inV a (L x)) := fun a b r z => by
  cases z
  refine ⟨_, ?_, rfl⟩
  rcases q b with z | z
  · rw [z]
    show (if (Pd.shp (e a) && PyData.plainAll ((L b).map e)) = true then some (Slot.v (.bool (false ^^ ((L b).map e).any fun z => PyData.eqv z (e a)))) else none) = _
    rw [h.shp hk, plainAll_e h, any_e h, Bool.false_xor]
    rfl
  · rw [z]
    show (if (Pd.shp (e a) && PyData.plainAll ((L b).map e)) = true then some (Slot.v (.bool (false ^^ ((L b).map e).any fun z => PyData.eqv z (e a)))) else none) = _
    rw [h.shp hk, plainAll_e h, any_e h, Bool.false_xor]
    rfl
theorem op_ni {L : β → List α} (q : SeqE e2 L e) (h : EqE e k) (hk : k ≤ 60) : Op2 (gIn true) e e2 eBool .val (fun a x => niV a (L x)) := fun a b r z => by
  cases z
  refine ⟨_, ?_, rfl⟩
  rcases q b with z | z
  · rw [z]
    show (if (Pd.shp (e a) && PyData.plainAll ((L b).map e)) = true then some (Slot.v (.bool (true ^^ ((L b).map e).any fun z => PyData.eqv z (e a)))) else none) = _
    rw [h.shp hk, plainAll_e h, any_e h, Bool.true_xor]
    rfl
  · rw [z]
    show (if (Pd.shp (e a) && PyData.plainAll ((L b).map e)) = true then some (Slot.v (.bool (true ^^ ((L b).map e).any fun z => PyData.eqv z (e a)))) else none) = _
    rw [h.shp hk, plainAll_e h, any_e h, Bool.true_xor]
    rfl

/-! ### order -/
structure OrE (e : α → PyData) (k : Nat) (lt : α → α → Bool) : Prop extends EqE e k where
  alike : ∀ a b, PySem.W.alike (e a) (e b) = true
  nn : ∀ a, isNone (e a) = false
  lt_eq : ∀ a b, PySem.W.dataLt (e a) (e b) = lt a b
def ltZ (a b : Int) : Bool := decide (a < b)
theorem or_int : OrE eInt 0 ltZ := ⟨eq_int, PySem.W.DatumOrd.alike (α := Int), fun _ => rfl, fun a b => PySem.W.dataLt_int a b⟩
def ltL (lt : α → α → Bool) : List α → List α → Bool
  | [], [] => false
  | [], _ :: _ => true
  | _ :: _, [] => false
  | x :: xs, y :: ys => if x = y then ltL lt xs ys else lt x y
def ltP (lt : α → α → Bool) (lt' : β → β → Bool) (p q : α × β) : Bool := if p.1 = q.1 then lt' p.2 q.2 else lt p.1 q.1
def ltP3 (lt : α → α → Bool) (lt' : β → β → Bool) (lt'' : γ → γ → Bool) (p q : α × β × γ) : Bool := if p.1 = q.1 then (if p.2.1 = q.2.1 then lt'' p.2.2 q.2.2 else lt' p.2.1 q.2.1) else lt p.1 q.1
variable {lt : α → α → Bool} {lt' : β → β → Bool} {lt'' : γ → γ → Bool}
theorem alikeAll_e (h : OrE e k lt) : ∀ xs ys : List α, PySem.W.alikeAll (xs.map e) (ys.map e) = true
  | [], _ => by rw [List.map_nil, PySem.W.alikeAll]
  | _ :: _, [] => by rw [List.map_nil, List.map_cons, PySem.W.alikeAll]
  | x :: xs, y :: ys => by
    rw [List.map_cons, List.map_cons, PySem.W.alikeAll, h.alike x y, alikeAll_e h xs ys]
    rfl
theorem lexAll_e (h : OrE e k lt) : ∀ xs ys : List α, PyProof.Rows.lexLt itemOrd (PySem.W.keyToksAll (xs.map e)) (PySem.W.keyToksAll (ys.map e)) = ltL lt xs ys
  | [], [] => PySem.W.lexAll_map (α := Int) [] []
  | [], y :: ys => by
    rw [List.map_nil, List.map_cons, PySem.W.toks_all_cons]
    simp only [PySem.W.keyToksAll]
    rw [lex_diff (O := itemOrd) (by simp)]
    rfl
  | x :: xs, [] => by
    rw [List.map_nil, List.map_cons, PySem.W.toks_all_cons]
    simp only [PySem.W.keyToksAll]
    rw [lex_diff (O := itemOrd) (by simp)]
    rfl
  | x :: xs, y :: ys => by
    rw [List.map_cons, List.map_cons, ltL]
    by_cases q : x = y
    · rw [if_pos q, PySem.W.dataLt_all_yes (h.alike x y) (by rw [h.eqv, decide_eq_true_eq]; exact q), lexAll_e h xs ys]
    · rw [if_neg q, PySem.W.dataLt_all_no (h.alike x y) (by rw [h.eqv, decide_eq_false_iff_not]; exact q)]
      exact h.lt_eq x y
theorem or_tup (h : OrE e k lt) : OrE (eTup e) (k + 1) (ltL lt) where
  toEqE := eq_tup h.toEqE
  alike xs ys := by show PySem.W.alike (.tuple _) (.tuple _) = true; simp only [PySem.W.alike]; exact alikeAll_e h xs ys
  nn _ := rfl
  lt_eq xs ys := (PySem.W.dataLt_tuple _ _).trans (lexAll_e h xs ys)
theorem or_lst (h : OrE e k lt) : OrE (eLst e) (k + 1) (ltL lt) where
  toEqE := eq_lst h.toEqE
  alike xs ys := by show PySem.W.alike (.list _) (.list _) = true; simp only [PySem.W.alike]; exact alikeAll_e h xs ys
  nn _ := rfl
  lt_eq xs ys := (PySem.W.dataLt_list _ _).trans (lexAll_e h xs ys)
theorem lex_one (h : OrE e k lt) (x y : α) (ds es : List PyData) : PyProof.Rows.lexLt itemOrd (PySem.W.keyToksAll (e x :: ds)) (PySem.W.keyToksAll (e y :: es)) = if x = y then PyProof.Rows.lexLt itemOrd (PySem.W.keyToksAll ds) (PySem.W.keyToksAll es) else lt x y := by
  by_cases q : x = y
  · rw [if_pos q, PySem.W.dataLt_all_yes (h.alike x y) (by rw [h.eqv, decide_eq_true_eq]; exact q)]
  · rw [if_neg q, PySem.W.dataLt_all_no (h.alike x y) (by rw [h.eqv, decide_eq_false_iff_not]; exact q)]
    exact h.lt_eq x y
theorem lex_end (h : OrE e k lt) (x y : α) : (if x = y then PyProof.Rows.lexLt itemOrd (PySem.W.keyToksAll []) (PySem.W.keyToksAll []) else lt x y) = lt x y := by
  by_cases q : x = y
  · rw [if_pos q, q]
    exact (PySem.W.lexAll_map (α := Int) [] []).trans ((PySem.W.dataLt_self _).symm.trans (h.lt_eq y y))
  · rw [if_neg q]
theorem or_p2 (h1 : OrE e1 k lt) (h2 : OrE e2 l lt') : OrE (eP2 e1 e2) (k + l + 1) (ltP lt lt') where
  toEqE := eq_p2 h1.toEqE h2.toEqE
  alike p q := by
    show PySem.W.alike (.tuple [_, _]) (.tuple [_, _]) = true
    simp only [PySem.W.alike, PySem.W.alikeAll, h1.alike, h2.alike, Bool.and_self]
  nn _ := rfl
  lt_eq p q := by
    refine (PySem.W.dataLt_tuple _ _).trans ?_
    rw [lex_one h1, lex_one h2, lex_end h2]
    rfl
theorem or_p3 (h1 : OrE e1 k lt) (h2 : OrE e2 l lt') (h3 : OrE e3 m lt'') : OrE (eP3 e1 e2 e3) (k + l + m + 1) (ltP3 lt lt' lt'') where
  toEqE := eq_p3 h1.toEqE h2.toEqE h3.toEqE
  alike p q := by
    show PySem.W.alike (.tuple [_, _, _]) (.tuple [_, _, _]) = true
    simp only [PySem.W.alike, PySem.W.alikeAll, h1.alike, h2.alike, h3.alike, Bool.and_self]
  nn _ := rfl
  lt_eq p q := by
    refine (PySem.W.dataLt_tuple _ _).trans ?_
    rw [lex_one h1, lex_one h2, lex_one h3, lex_end h3]
    rfl
/-- the first of the least -/
def minW (lt : α → α → Bool) : List α → Option α
  | [] => none
  | x :: xs => some (xs.foldl (fun a y => if lt y a = true then y else a) x)
def maxW (lt : α → α → Bool) : List α → Option α
  | [] => none
  | x :: xs => some (xs.foldl (fun a y => if lt a y = true then y else a) x)
theorem alikeB_e (h : OrE e k lt) (hk : k ≤ 60) (xs : List α) : alikeB (xs.map e) = true := by
  unfold alikeB
  rw [Bool.and_eq_true, Bool.and_eq_true]
  refine ⟨⟨List.all_eq_true.mpr fun x hx => List.all_eq_true.mpr fun y hy => ?_, List.all_eq_true.mpr fun x hx => ?_⟩, decide_eq_true (Nat.le_trans (depthAll_e h.toEqE xs) hk)⟩
  · obtain ⟨a, _, rfl⟩ := List.mem_map.mp hx
    obtain ⟨b, _, rfl⟩ := List.mem_map.mp hy
    exact h.alike a b
  · obtain ⟨a, _, rfl⟩ := List.mem_map.mp hx
    rw [h.nn]
    rfl
theorem minD_e (h : OrE e k lt) : ∀ (xs : List α) (x : α), PySem.W.minD (e x) (xs.map e) = e (xs.foldl (fun a y => if lt y a = true then y else a) x)
  | [], x => rfl
  | y :: xs, x => by
    have ih := minD_e h xs (if lt y x = true then y else x)
    unfold PySem.W.minD at ih ⊢
    rw [List.map_cons, List.foldl_cons, List.foldl_cons, h.lt_eq, ← ih]
    split <;> rfl
theorem maxD_e (h : OrE e k lt) : ∀ (xs : List α) (x : α), PySem.W.maxD (e x) (xs.map e) = e (xs.foldl (fun a y => if lt a y = true then y else a) x)
  | [], x => rfl
  | y :: xs, x => by
    have ih := maxD_e h xs (if lt x y = true then y else x)
    unfold PySem.W.maxD at ih ⊢
    rw [List.map_cons, List.foldl_cons, List.foldl_cons, h.lt_eq, ← ih]
    split <;> rfl
theorem op_min {L : β → List α} (q : SeqE e2 L e) (h : OrE e k lt) (hk : k ≤ 60) : Op1 gMin e2 e .val (fun x => minW lt (L x)) := fun a r z => by
  have z : minW lt (L a) = some r := z
  cases hL : L a with
  | nil =>
    rw [hL] at z
    cases z
  | cons x xs =>
    rw [hL] at z
    cases z
    refine ⟨_, ?_, rfl⟩
    have := alikeB_e h hk (x :: xs)
    rw [List.map_cons] at this
    rcases q a with z | z
    · rw [z, hL, List.map_cons]
      simp only [gMin, this, if_true, minD_e h]
    · rw [z, hL, List.map_cons]
      simp only [gMin, this, if_true, minD_e h]
theorem op_max {L : β → List α} (q : SeqE e2 L e) (h : OrE e k lt) (hk : k ≤ 60) : Op1 gMax e2 e .val (fun x => maxW lt (L x)) := fun a r z => by
  have z : maxW lt (L a) = some r := z
  cases hL : L a with
  | nil =>
    rw [hL] at z
    cases z
  | cons x xs =>
    rw [hL] at z
    cases z
    refine ⟨_, ?_, rfl⟩
    have := alikeB_e h hk (x :: xs)
    rw [List.map_cons] at this
    rcases q a with z | z
    · rw [z, hL, List.map_cons]
      simp only [gMax, this, if_true, maxD_e h]
    · rw [z, hL, List.map_cons]
      simp only [gMax, this, if_true, maxD_e h]
/-- sorted -/
def leW (lt : α → α → Bool) (a b : α) : Bool := !lt b a
def sortW (lt : α → α → Bool) (xs : List α) : List α := xs.mergeSort (leW lt)
theorem sortD_e (h : OrE e k lt) (xs : List α) : sortD (xs.map e) = (sortW lt xs).map e := by
  unfold sortD sortW
  refine (List.map_mergeSort (r := leW lt) (s := PySem.W.dataLe false id) (f := e) (l := xs) (fun a _ b _ => ?_)).symm
  show (!lt b a) = PySem.W.dataLe false id (e a) (e b)
  rw [PySem.W.dataLe_eq]
  show _ = (!PySem.W.dataLt (e b) (e a))
  rw [h.lt_eq]
/-- which kind of items: tuples with something in them; neither tuples nor None -/
def kindT : PyData → Bool
  | .tuple (_ :: _) => true
  | _ => false
def kindN : PyData → Bool
  | .none => false
  | .tuple _ => false
  | _ => true
theorem sortB_e (h : OrE e k lt) (hk : k ≤ 60) {xs : List α} (hh : (∀ x ∈ xs, kindT (e x) = true) ∨ (∀ x ∈ xs, kindN (e x) = true)) : sortB (xs.map e) = true := by
  unfold sortB
  rw [Bool.and_eq_true, Bool.and_eq_true, Bool.or_eq_true]
  refine ⟨⟨List.all_eq_true.mpr fun x hx => List.all_eq_true.mpr fun y hy => ?_, ?_⟩, List.all_eq_true.mpr fun x hx => ?_⟩
  · obtain ⟨a, _, rfl⟩ := List.mem_map.mp hx
    obtain ⟨b, _, rfl⟩ := List.mem_map.mp hy
    exact h.alike a b
  · rcases hh with hh | hh
    · exact .inl (List.all_eq_true.mpr fun x hx => by
        obtain ⟨a, ha, rfl⟩ := List.mem_map.mp hx
        exact hh a ha)
    · exact .inr (List.all_eq_true.mpr fun x hx => by
        obtain ⟨a, ha, rfl⟩ := List.mem_map.mp hx
        exact hh a ha)
  · obtain ⟨a, _, rfl⟩ := List.mem_map.mp hx
    exact decide_eq_true (Nat.le_trans (h.deep a) hk)
theorem gSorted_e (h : OrE e k lt) (hk : k ≤ 60) {L : β → List α} (q : SeqE e2 L e) (a : β) (hh : (∀ x ∈ L a, kindT (e x) = true) ∨ (∀ x ∈ L a, kindN (e x) = true)) : gSorted (e2 a) = some (.o (eLst e (sortW lt (L a)))) := by
  have sb := sortB_e h hk hh
  rcases q a with z | z
  · rw [z]
    show (if sortB ((L a).map e) = true then some (Slot.o (.list (sortD ((L a).map e)))) else none) = _
    rw [if_pos sb, sortD_e h]
  · rw [z]
    show (if sortB ((L a).map e) = true then some (Slot.o (.list (sortD ((L a).map e)))) else none) = _
    rw [if_pos sb, sortD_e h]
theorem op_sort {L : β → List α} (q : SeqE e2 L e) (h : OrE e k lt) (hk : k ≤ 60) (hh : (∀ x, kindT (e x) = true) ∨ (∀ x, kindN (e x) = true)) : Op1 gSorted e2 (eLst e) .own (fun x => some (sortW lt (L x))) := fun a r z => by
  cases z
  exact ⟨_, gSorted_e h hk q a (hh.imp (fun f x _ => f x) (fun f x _ => f x)), rfl⟩
/-- of tuples of any length: none empty -/
def sortT (lt : List α → List α → Bool) (xs : List (List α)) : Option (List (List α)) := if xs.all (fun x => !x.isEmpty) = true then some (sortW lt xs) else none
theorem op_sortT {lt : List α → List α → Bool} {L : β → List (List α)} (q : SeqE e2 L (eTup e)) (h : OrE (eTup e) k lt) (hk : k ≤ 60) : Op1 gSorted e2 (eLst (eTup e)) .own (fun x => sortT lt (L x)) := fun a r z => by
  have z : sortT lt (L a) = some r := z
  unfold sortT at z
  split at z
  · rename_i y
    cases z
    refine ⟨_, gSorted_e h hk q a (.inl fun x hx => ?_), rfl⟩
    have := List.all_eq_true.mp y x hx
    cases x with
    | nil => cases this
    | cons u us => rfl
  · cases z
/-- order of tuples -/
theorem op_ltT (h : OrE (eTup e) k (ltL lt)) (hk : k ≤ 60) : Op2 gLt (eTup e) (eTup e) eBool .val (fun a b => some (ltL lt a b)) := fun a b r z => by
  cases z
  refine ⟨_, ?_, rfl⟩
  have q1 := h.alike a b
  have q2 := h.toEqE.shp hk a
  show (if (PySem.W.alike (eTup e a) (eTup e b) && shp (eTup e a)) = true then some (Slot.v (.bool (PySem.W.dataLt (eTup e a) (eTup e b)))) else none) = _
  rw [q1, q2, h.lt_eq]
  rfl
theorem op_ltP (h : OrE (eP2 e1 e2) k (ltP lt lt')) (hk : k ≤ 60) : Op2 gLt (eP2 e1 e2) (eP2 e1 e2) eBool .val (fun a b => some (ltP lt lt' a b)) := fun a b r z => by
  cases z
  refine ⟨_, ?_, rfl⟩
  have q1 := h.alike a b
  have q2 := h.toEqE.shp hk a
  show (if (PySem.W.alike (eP2 e1 e2 a) (eP2 e1 e2 b) && shp (eP2 e1 e2 a)) = true then some (Slot.v (.bool (PySem.W.dataLt (eP2 e1 e2 a) (eP2 e1 e2 b)))) else none) = _
  rw [q1, q2, h.lt_eq]
  rfl
end

/-! ### parts of pairs -/
section
variable {m : S → R Opd}
theorem ev_2_0 {c : M (α × β)} (h : EvP m ρ c (eP2 e1 e2)) : Ev (m2 gIx m (mO (mC (.int 0)))) ρ (bnd c fun p => ret p.1) e1 .val := fun ss src r src' hs hr => by
  obtain ⟨a, s1, r1, r2⟩ := run_bnd_some hr
  obtain ⟨rfl, rfl⟩ := run_ret_some r2
  obtain ⟨x, ss1, h1, h2, h3, h4⟩ := h ss src a _ hs r1
  refine ⟨.v (e1 a.1), ss1, ?_, h2, rfl⟩
  unfold m2
  simp only [h1, mO, mC]
  rw [if_pos (h4.still h2), h3]
  rfl
theorem ev_2_1 {c : M (α × β)} (h : EvP m ρ c (eP2 e1 e2)) : Ev (m2 gIx m (mO (mC (.int 1)))) ρ (bnd c fun p => ret p.2) e2 .val := fun ss src r src' hs hr => by
  obtain ⟨a, s1, r1, r2⟩ := run_bnd_some hr
  obtain ⟨rfl, rfl⟩ := run_ret_some r2
  obtain ⟨x, ss1, h1, h2, h3, h4⟩ := h ss src a _ hs r1
  refine ⟨.v (e2 a.2), ss1, ?_, h2, rfl⟩
  unfold m2
  simp only [h1, mO, mC]
  rw [if_pos (h4.still h2), h3]
  rfl
theorem ev_3_0 {c : M (α × β × γ)} (h : EvP m ρ c (eP3 e1 e2 e3)) : Ev (m2 gIx m (mO (mC (.int 0)))) ρ (bnd c fun p => ret p.1) e1 .val := fun ss src r src' hs hr => by
  obtain ⟨a, s1, r1, r2⟩ := run_bnd_some hr
  obtain ⟨rfl, rfl⟩ := run_ret_some r2
  obtain ⟨x, ss1, h1, h2, h3, h4⟩ := h ss src a _ hs r1
  refine ⟨.v (e1 a.1), ss1, ?_, h2, rfl⟩
  unfold m2
  simp only [h1, mO, mC]
  rw [if_pos (h4.still h2), h3]
  rfl
theorem ev_3_1 {c : M (α × β × γ)} (h : EvP m ρ c (eP3 e1 e2 e3)) : Ev (m2 gIx m (mO (mC (.int 1)))) ρ (bnd c fun p => ret p.2.1) e2 .val := fun ss src r src' hs hr => by
  obtain ⟨a, s1, r1, r2⟩ := run_bnd_some hr
  obtain ⟨rfl, rfl⟩ := run_ret_some r2
  obtain ⟨x, ss1, h1, h2, h3, h4⟩ := h ss src a _ hs r1
  refine ⟨.v (e2 a.2.1), ss1, ?_, h2, rfl⟩
  unfold m2
  simp only [h1, mO, mC]
  rw [if_pos (h4.still h2), h3]
  rfl
theorem ev_3_2 {c : M (α × β × γ)} (h : EvP m ρ c (eP3 e1 e2 e3)) : Ev (m2 gIx m (mO (mC (.int 2)))) ρ (bnd c fun p => ret p.2.2) e3 .val := fun ss src r src' hs hr => by
  obtain ⟨a, s1, r1, r2⟩ := run_bnd_some hr
  obtain ⟨rfl, rfl⟩ := run_ret_some r2
  obtain ⟨x, ss1, h1, h2, h3, h4⟩ := h ss src a _ hs r1
  refine ⟨.v (e3 a.2.2), ss1, ?_, h2, rfl⟩
  unfold m2
  simp only [h1, mO, mC]
  rw [if_pos (h4.still h2), h3]
  rfl
end

/-! ### what changes lists -/
theorem eva_1 {mf : S → R PyData} {c : M α} (h : EvF mf ρ c e) : EvA (mCons mf mNil) ρ c (fun a => [e a]) := fun ss src a src' hs hr => by
  obtain ⟨x, ss1, h1, h2, rfl⟩ := h ss src a _ hs hr
  exact ⟨_, ss1, by unfold mCons mNil; simp only [h1], h2, rfl⟩
theorem eva_2 {mf mf' : S → R PyData} {c : M α} {c' : M β} (h : EvF mf ρ c e1) (h' : EvF mf' ρ c' e2) : EvA (mCons mf (mCons mf' mNil)) ρ (bnd c fun a => bnd c' fun b => ret (a, b)) (fun p => [e1 p.1, e2 p.2]) := fun ss src r src' hs hr => by
  obtain ⟨a, s1, r1, r2⟩ := run_bnd_some hr
  obtain ⟨b, s2, r3, r4⟩ := run_bnd_some r2
  obtain ⟨rfl, rfl⟩ := run_ret_some r4
  obtain ⟨x, ss1, h1, h2, rfl⟩ := h ss src a _ hs r1
  obtain ⟨y, ss2, k1, k2, rfl⟩ := h' ss1 _ b _ h2 r3
  exact ⟨_, ss2, by simp only [mCons, mNil, h1, k1], k2, rfl⟩
theorem eva_0 : EvA mNil ρ (ret () : M Unit) (fun _ => []) := fun ss src r src' h0 hr => by
  obtain ⟨rfl, rfl⟩ := run_ret_some hr
  exact ⟨_, ss, rfl, h0, rfl⟩
def appF (xs : List α) (a : α) : Option (Unit × List α) := if okLen (xs.length + 1) = true then some ((), xs ++ [a]) else none
def extF (xs ys : List α) : Option (Unit × List α) := if okLen (xs.length + ys.length) = true then some ((), xs ++ ys) else none
def popF (xs : List α) (_ : Unit) : Option (α × List α) := match xs[xs.length - 1]? with
  | some d => some (d, xs.dropLast)
  | none => none
def popAtF (xs : List α) (i : Int) : Option (α × List α) := if okLen xs.length = true then match ixN xs.length i with
  | some k => match xs[k]? with
    | some d => some (d, xs.eraseIdx k)
    | none => none
  | none => none else none
theorem mu_app : MutE gApp e (fun a => [e a]) eNon appF := fun xs b r h => by
  unfold appF at h
  split at h
  · rename_i z
    cases h
    unfold gApp
    simp only [List.length_map, z, if_true, List.map_append]
    rfl
  · cases h
theorem mu_ext : MutE gExt e (fun ys => [eLst e ys]) eNon extF := fun xs b r h => by
  unfold extF at h
  split at h
  · rename_i z
    cases h
    unfold gExt
    simp only [List.length_map, z, if_true, List.map_append]
  · cases h
theorem mu_pop : MutE gPop e (fun _ => []) e popF := fun xs b r h => by
  unfold popF at h
  split at h
  · rename_i d z
    cases h
    unfold gPop
    simp only [List.length_map, List.getElem?_map, z, Option.map_some, List.map_dropLast]
  · cases h
theorem eraseIdx_map' : ∀ (xs : List α) (k : Nat), (xs.map e).eraseIdx k = (xs.eraseIdx k).map e
  | [], _ => rfl
  | x :: xs, 0 => rfl
  | x :: xs, k + 1 => by
    rw [List.map_cons, List.eraseIdx_cons_succ, List.eraseIdx_cons_succ, List.map_cons, eraseIdx_map' xs k]
theorem mu_popAt : MutE gPopAt e (fun i => [.int i]) e popAtF := fun xs b r h => by
  unfold popAtF at h
  split at h
  · rename_i z
    split at h
    · rename_i k q
      split at h
      · rename_i d y
        cases h
        unfold gPopAt
        simp only [List.length_map, z, if_true, q, List.getElem?_map, y, Option.map_some, eraseIdx_map']
      · cases h
    · cases h
  · cases h
end Td
end
set_option linter.all false
set_option maxRecDepth 100000
/-! Td, part E: reckoning with typed functions; draws; the law. -/
noncomputable section
namespace Td
open PySem PySem.Spec PyProof.Rows L2 Pd PM
variable {α β γ δ τ ζ : Type}

/-! ### without draws -/
theorem o_ret (a : α) : (ret a : Option α) = some a := rfl
theorem o_bnd (a : α) (f : α → Option β) : bnd (some a) f = f a := rfl
theorem o_out (o : Option α) : (out o : Option α) = o := rfl
theorem o_cnd (z : Bool) (a b : α) : cnd z (some a) (some b) = some (if z = true then a else b) := by
  unfold cnd
  split <;> rfl
theorem cnd_t {M : Type → Type} {a b : M α} : cnd true a b = a := rfl
theorem cnd_f {M : Type → Type} {a b : M α} : cnd false a b = b := rfl
theorem o_and (z y : Bool) : andB (some z) (some y) = some (z && y) := by
  cases z <;> rfl
theorem o_or (z y : Bool) : orB (some z) (some y) = some (z || y) := by
  cases z <;> rfl
theorem o_and' (z : Bool) (c : Option Bool) : andB (some z) c = cnd z c (some false) := rfl
theorem o_or' (z : Bool) (c : Option Bool) : orB (some z) c = cnd z (some true) c := rfl
theorem lenOk_of {xs : List α} (h : xs.length ≤ 16777216) : lenOk xs = some xs := by
  unfold lenOk
  rw [okLen_of h]
  rfl
theorem cat_of {xs ys : List α} (h : xs.length + ys.length ≤ 16777216) : cat xs ys = some (xs ++ ys) := by
  unfold cat
  rw [okLen_of h]
  rfl
theorem rngO_of {a b : Int} (h1 : -16777216 ≤ a) (h2 : a ≤ 16777216) (h3 : -16777216 ≤ b) (h4 : b ≤ 16777216) (h5 : b - a ≤ 16777216) : rngO a b = some (rng a b) := by
  unfold rngO
  rw [rgOk_of h1 h2 h3 h4 h5]
  rfl
theorem lcG_some {ct : α → Option Bool} {ce : α → Option β} {p : α → Bool} {f : α → β} : ∀ {xs : List α}, (∀ x ∈ xs, ct x = some (p x)) → (∀ x ∈ xs, p x = true → ce x = some (f x)) → lcG ct ce xs = some ((xs.filter p).map f)
  | [], _, _ => rfl
  | x :: xs, h1, h2 => by
    have ih := lcG_some (fun y hy => h1 y (List.mem_cons_of_mem _ hy)) fun y hy => h2 y (List.mem_cons_of_mem _ hy)
    unfold lcG
    rw [h1 x List.mem_cons_self, o_bnd]
    cases q : p x with
    | false =>
      rw [cnd_f, ih, List.filter_cons_of_neg (by rw [q]; exact Bool.false_ne_true)]
    | true =>
      rw [cnd_t, h2 x List.mem_cons_self q, o_bnd, ih, o_bnd, List.filter_cons_of_pos q]
      rfl
theorem lcM_some {xs : List α} {ct : α → Option Bool} {ce : α → Option β} {p : α → Bool} {f : α → β} (hl : xs.length ≤ 16777216) (h1 : ∀ x ∈ xs, ct x = some (p x)) (h2 : ∀ x ∈ xs, p x = true → ce x = some (f x)) : lcM xs ct ce = some ((xs.filter p).map f) := by
  unfold lcM
  rw [lenOk_of hl]
  exact lcG_some h1 h2
/-- all items, no test -/
theorem lcM_all {xs : List α} {ce : α → Option β} {f : α → β} (hl : xs.length ≤ 16777216) (h2 : ∀ x ∈ xs, ce x = some (f x)) : lcM xs (fun _ => some true) ce = some (xs.map f) := by
  rw [lcM_some (p := fun _ => true) (f := f) hl (fun _ _ => rfl) fun x hx _ => h2 x hx, List.filter_eq_self.mpr fun _ _ => rfl]
theorem lcM_pp {xs : List α} {p : α → Bool} {f : α → β} (hl : xs.length ≤ 16777216) : lcM xs (fun x => some (p x)) (fun x => some (f x)) = some ((xs.filter p).map f) := lcM_some hl (fun _ _ => rfl) fun _ _ _ => rfl
theorem lcM_p {xs : List α} {p : α → Bool} (hl : xs.length ≤ 16777216) : lcM xs (fun x => some (p x)) (fun x => some x) = some (xs.filter p) := by
  rw [lcM_pp hl, List.map_id']
theorem lcM_f {xs : List α} {f : α → β} (hl : xs.length ≤ 16777216) : lcM xs (fun _ => some true) (fun x => some (f x)) = some (xs.map f) := lcM_all hl fun _ _ => rfl
theorem lcG2_some {ct : α → Option Bool} {ci : α → Option (List β)} {ct1 : α → β → Option Bool} {ce : α → β → Option γ} {p : α → Bool} {l : α → List β} {p1 : α → β → Bool} {f : α → β → γ} : ∀ {xs : List α}, (∀ x ∈ xs, ct x = some (p x)) → (∀ x ∈ xs, p x = true → ci x = some (l x) ∧ ∀ y ∈ l x, ct1 x y = some (p1 x y) ∧ (p1 x y = true → ce x y = some (f x y))) → lcG2 ct ci ct1 ce xs = some ((xs.filter p).flatMap fun x => ((l x).filter (p1 x)).map (f x))
  | [], _, _ => rfl
  | x :: xs, h1, h2 => by
    have ih := lcG2_some (fun y hy => h1 y (List.mem_cons_of_mem _ hy)) fun y hy => h2 y (List.mem_cons_of_mem _ hy)
    unfold lcG2
    rw [h1 x List.mem_cons_self, o_bnd]
    cases q : p x with
    | false =>
      rw [cnd_f, ih, List.filter_cons_of_neg (by rw [q]; exact Bool.false_ne_true)]
    | true =>
      obtain ⟨k1, k2⟩ := h2 x List.mem_cons_self q
      rw [cnd_t, k1, o_bnd, lcG_some (fun y hy => (k2 y hy).1) fun y hy => (k2 y hy).2, o_bnd, ih, o_bnd, List.filter_cons_of_pos q]
      rfl
theorem lcM2_some {xs : List α} {ct : α → Option Bool} {ci : α → Option (List β)} {ct1 : α → β → Option Bool} {ce : α → β → Option γ} {p : α → Bool} {l : α → List β} {p1 : α → β → Bool} {f : α → β → γ} (h1 : ∀ x ∈ xs, ct x = some (p x)) (h2 : ∀ x ∈ xs, p x = true → ci x = some (l x) ∧ ∀ y ∈ l x, ct1 x y = some (p1 x y) ∧ (p1 x y = true → ce x y = some (f x y)))
    (hl : ((xs.filter p).flatMap fun x => ((l x).filter (p1 x)).map (f x)).length ≤ 16777216) : lcM2 xs ct ci ct1 ce = some ((xs.filter p).flatMap fun x => ((l x).filter (p1 x)).map (f x)) := by
  unfold lcM2
  rw [lcG2_some h1 h2]
  exact lenOk_of hl
theorem foldM_some {cb : β → α → Option β} {f : β → α → β} (Inv : Nat → β → Prop) : ∀ (xs : List α) (n : Nat) (b : β), Inv n b → (∀ i x b, xs[i]? = some x → Inv (n + i) b → cb b x = some (f b x) ∧ Inv (n + i + 1) (f b x)) → foldM cb xs b = some (xs.foldl f b) ∧ Inv (n + xs.length) (xs.foldl f b)
  | [], n, b, h, _ => ⟨rfl, h⟩
  | x :: xs, n, b, h, k => by
    obtain ⟨k1, k2⟩ := k 0 x b rfl h
    obtain ⟨h1, h2⟩ := foldM_some Inv xs (n + 1) (f b x) k2 fun i y b' hy hi => by
      have e : n + 1 + i = n + (i + 1) := by omega
      rw [e] at hi ⊢
      exact k (i + 1) y b' (by simpa using hy) hi
    refine ⟨?_, by
      rw [List.length_cons, List.foldl_cons, show n + (xs.length + 1) = n + 1 + xs.length by omega]
      exact h2⟩
    unfold foldM
    rw [k1, o_bnd, h1]
    rfl
theorem foldM_f {f : β → α → β} : ∀ (xs : List α) (b : β), foldM (fun b x => some (f b x)) xs b = some (xs.foldl f b)
  | [], _ => rfl
  | x :: xs, b => by
    unfold foldM
    rw [o_bnd, foldM_f xs]
    rfl
/-- a loop that goes through -/
theorem foldM_inv {cb : β → α → Option β} (Inv : Nat → β → Prop) : ∀ (xs : List α) (n : Nat) (b : β), Inv n b → (∀ i x b, xs[i]? = some x → Inv (n + i) b → ∃ b', cb b x = some b' ∧ Inv (n + i + 1) b') → ∃ b', foldM cb xs b = some b' ∧ Inv (n + xs.length) b'
  | [], n, b, h, _ => ⟨b, rfl, h⟩
  | x :: xs, n, b, h, k => by
    obtain ⟨b1, k1, k2⟩ := k 0 x b rfl h
    obtain ⟨b2, h1, h2⟩ := foldM_inv Inv xs (n + 1) b1 k2 fun i y b' hy hi => by
      have e : n + 1 + i = n + (i + 1) := by omega
      rw [e] at hi ⊢
      exact k (i + 1) y b' (by simpa using hy) hi
    refine ⟨b2, ?_, by
      rw [List.length_cons, show n + (xs.length + 1) = n + 1 + xs.length by omega]
      exact h2⟩
    unfold foldM
    rw [k1, o_bnd, h1]
theorem foldO_inv {cb : β → α → Option (Out β γ)} (Inv : Nat → β → Prop) : ∀ (xs : List α) (n : Nat) (b : β), Inv n b → (∀ i x b, xs[i]? = some x → Inv (n + i) b → ∃ b', cb b x = some (.nx b') ∧ Inv (n + i + 1) b') → ∃ b', foldO cb xs b = some (.nx b') ∧ Inv (n + xs.length) b'
  | [], n, b, h, _ => ⟨b, rfl, h⟩
  | x :: xs, n, b, h, k => by
    obtain ⟨b1, k1, k2⟩ := k 0 x b rfl h
    obtain ⟨b2, h1, h2⟩ := foldO_inv Inv xs (n + 1) b1 k2 fun i y b' hy hi => by
      have e : n + 1 + i = n + (i + 1) := by omega
      rw [e] at hi ⊢
      exact k (i + 1) y b' (by simpa using hy) hi
    refine ⟨b2, ?_, by
      rw [List.length_cons, show n + (xs.length + 1) = n + 1 + xs.length by omega]
      exact h2⟩
    unfold foldO
    rw [k1, o_bnd]
    exact h1
theorem outK_nx {M : Type → Type} (b : β) (f : β → M τ) (g : γ → M τ) : outK (.nx b) f g = f b := rfl
theorem outK_bk {M : Type → Type} (b : β) (f : β → M τ) (g : γ → M τ) : outK (.bk b) f g = f b := rfl
theorem outK_rt {M : Type → Type} (b : γ) (f : β → M τ) (g : γ → M τ) : outK (.rt b) f g = g b := rfl
/-! while -/
theorem limO_eq {f : Nat → α → Option β} {a : α} {r : β} (h : ∃ k, f k a = some r) (u : ∀ k l x y, f k a = some x → f l a = some y → x = y) : limO f a = some r := by
  obtain ⟨k, hk⟩ := h
  have ex : ∃ k, (f k a).isSome = true := ⟨k, by rw [hk]; rfl⟩
  unfold limO
  rw [dif_pos ex]
  have hs := ex.choose_spec
  cases q : f ex.choose a with
  | none =>
    rw [q] at hs
    cases hs
  | some x => rw [u _ _ _ _ q hk]
theorem whK_more {c : β → Option Bool} {cb : β → Option β} : ∀ (k : Nat) (b x : β), whK c cb k b = some x → whK c cb (k + 1) b = some x
  | 0, b, x, h => by cases h
  | k + 1, b, x, h => by
    unfold whK at h ⊢
    cases q : c b with
    | none =>
      rw [q] at h
      cases h
    | some z =>
      rw [q] at h
      rw [o_bnd] at h ⊢
      cases z with
      | false => exact h
      | true =>
        rw [cnd_t] at h ⊢
        cases y : cb b with
        | none =>
          rw [y] at h
          cases h
        | some b' =>
          rw [y] at h
          rw [o_bnd] at h ⊢
          exact whK_more k b' x h
theorem whK_up {c : β → Option Bool} {cb : β → Option β} {b x : β} {k l : Nat} (h : whK c cb k b = some x) (hl : k ≤ l) : whK c cb l b = some x := by
  induction l with
  | zero =>
    have : k = 0 := by omega
    subst this
    exact h
  | succ l ih =>
    by_cases e : k = l + 1
    · subst e
      exact h
    · exact whK_more l b x (ih (by omega))
theorem wh_of {c : β → Option Bool} {cb : β → Option β} {b x : β} {k : Nat} (h : whK c cb k b = some x) : (lim fun k => whK c cb k b : Option β) = some x :=
  limO_eq (f := fun k (_ : Unit) => whK c cb k b) ⟨k, h⟩ fun k l x y h1 h2 => by
    have a := whK_up h1 (Nat.le_max_left k l)
    have b := whK_up h2 (Nat.le_max_right k l)
    rw [a] at b
    cases b
    rfl
/-- a while, by a measure that falls and what holds at each turn -/
theorem wh_inv {c : β → Option Bool} {cb : β → Option β} (Inv : β → Prop) (μ : β → Nat) (hc : ∀ b, Inv b → c b = some true ∧ (∃ b', cb b = some b' ∧ Inv b' ∧ μ b' < μ b) ∨ c b = some false) : ∀ (n : Nat) (b : β), μ b ≤ n → Inv b → ∃ k x, whK c cb k b = some x ∧ Inv x ∧ c x = some false
  | 0, b, hn, hi => by
    rcases hc b hi with ⟨_, b', _, _, h3⟩ | h
    · omega
    · exact ⟨1, b, by unfold whK; rw [h]; rfl, hi, h⟩
  | n + 1, b, hn, hi => by
    rcases hc b hi with ⟨h0, b', h1, h2, h3⟩ | h
    · obtain ⟨k, x, k1, k2, k3⟩ := wh_inv Inv μ hc n b' (by omega) h2
      exact ⟨k + 1, x, by unfold whK; rw [h0, o_bnd, cnd_t, h1, o_bnd]; exact k1, k2, k3⟩
    · exact ⟨1, b, by unfold whK; rw [h]; rfl, hi, h⟩
theorem while_inv {c : β → Option Bool} {cb : β → Option β} {b : β} (Inv : β → Prop) (μ : β → Nat) (h0 : Inv b) (hc : ∀ b, Inv b → c b = some true ∧ (∃ b', cb b = some b' ∧ Inv b' ∧ μ b' < μ b) ∨ c b = some false) : ∃ x, (lim fun k => whK c cb k b : Option β) = some x ∧ Inv x ∧ c x = some false := by
  obtain ⟨k, x, h1, h2, h3⟩ := wh_inv Inv μ hc (μ b) b (Nat.le_refl _) h0
  exact ⟨x, wh_of h1, h2, h3⟩

/-! ### with draws -/
/-- however is drawn, it ends, and with something of which P holds -/
def Tri (c : DM α) (P : α → Prop) : Prop := ∀ s, ∃ a s', c s = some (a, s') ∧ P a
theorem Tri.ret {a : α} {P : α → Prop} (h : P a) : Tri (ret a) P := fun s => ⟨a, s, rfl, h⟩
theorem Tri.out {o : Option α} {a : α} {P : α → Prop} (e : o = some a) (h : P a) : Tri (out o) P := fun s => ⟨a, s, by subst e; rfl, h⟩
theorem Tri.bnd {c : DM α} {f : α → DM β} {P : α → Prop} {Q : β → Prop} (h : Tri c P) (k : ∀ a, P a → Tri (f a) Q) : Tri (bnd c f) Q := fun s => by
  obtain ⟨a, s1, h1, h2⟩ := h s
  obtain ⟨b, s2, k1, k2⟩ := k a h2 s1
  exact ⟨b, s2, by
    show (c s).bind (fun p => f p.1 p.2) = _
    exact (congrArg (Option.bind · fun p : α × Src => f p.1 p.2) h1).trans k1, k2⟩
theorem Tri.imp {c : DM α} {P Q : α → Prop} (h : Tri c P) (k : ∀ a, P a → Q a) : Tri c Q := fun s => by
  obtain ⟨a, s1, h1, h2⟩ := h s
  exact ⟨a, s1, h1, k a h2⟩
theorem d_bnd (a : α) (f : α → DM β) : bnd (ret a : DM α) f = f a := rfl
theorem d_out (a : α) : (out (some a) : DM α) = ret a := rfl
theorem Tri.cnd {z : Bool} {c c' : DM α} {P : α → Prop} (h : z = true → Tri c P) (h' : z = false → Tri c' P) : Tri (cnd z c c') P := by
  cases z with
  | true => exact h rfl
  | false => exact h' rfl
theorem Tri.lcG {ct : α → DM Bool} {ce : α → DM β} {P : β → Prop} : ∀ {xs : List α}, (∀ x ∈ xs, Tri (ct x) fun z => z = true → Tri (ce x) P) → Tri (lcG ct ce xs) fun ys => ∀ y ∈ ys, P y
  | [], _ => Tri.ret fun y h => nomatch h
  | x :: xs, h => by
    have ih := Tri.lcG fun y hy => h y (List.mem_cons_of_mem _ hy)
    unfold Td.lcG
    refine Tri.bnd (h x List.mem_cons_self) fun z hz => Tri.cnd (fun e => ?_) fun _ => ih
    refine Tri.bnd (hz e) fun y hy => Tri.bnd ih fun ys hys => Tri.ret fun y' h' => ?_
    rcases List.mem_cons.mp h' with rfl | h'
    · exact hy
    · exact hys y' h'
/-- a comprehension that draws, no test: as many items -/
theorem Tri.lcAll {ce : α → DM β} {P : β → Prop} : ∀ {xs : List α}, (∀ x ∈ xs, Tri (ce x) P) → Tri (Td.lcG (fun _ => PM.ret true) ce xs) fun ys => ys.length = xs.length ∧ ∀ y ∈ ys, P y
  | [], _ => Tri.ret ⟨rfl, fun y h => nomatch h⟩
  | x :: xs, h => by
    have ih := Tri.lcAll fun y hy => h y (List.mem_cons_of_mem _ hy)
    unfold Td.lcG
    refine Tri.bnd (Tri.ret (P := fun z => z = true) rfl) fun z hz => ?_
    subst hz
    refine Tri.bnd (h x List.mem_cons_self) fun y hy => Tri.bnd ih fun ys hys => Tri.ret ⟨by rw [List.length_cons, List.length_cons, hys.1], fun y' h' => ?_⟩
    rcases List.mem_cons.mp h' with rfl | h'
    · exact hy
    · exact hys.2 y' h'
theorem Tri.lcM {xs : List α} {ct : α → DM Bool} {ce : α → DM β} {P : List β → Prop} (hl : xs.length ≤ 16777216) (h : Tri (Td.lcG ct ce xs) P) : Tri (lcM xs ct ce) P := by
  unfold Td.lcM
  rw [lenOk_of hl]
  exact h
theorem Tri.foldM {cb : β → α → DM β} (Inv : Nat → β → Prop) : ∀ (xs : List α) (n : Nat) (b : β), Inv n b → (∀ i x b, xs[i]? = some x → Inv (n + i) b → Tri (cb b x) fun b' => Inv (n + i + 1) b') → Tri (foldM cb xs b) fun b' => Inv (n + xs.length) b'
  | [], n, b, h, _ => Tri.ret h
  | x :: xs, n, b, h, k => by
    unfold Td.foldM
    refine Tri.bnd (k 0 x b rfl h) fun b1 h1 => ?_
    rw [List.length_cons, show n + (xs.length + 1) = n + 1 + xs.length by omega]
    exact Tri.foldM Inv xs (n + 1) b1 h1 fun i y b' hy hi => by
      have e : n + 1 + i = n + (i + 1) := by omega
      rw [e] at hi ⊢
      exact k (i + 1) y b' (by simpa using hy) hi
theorem Tri.foldO {cb : β → α → DM (Out β γ)} (Inv : Nat → β → Prop) : ∀ (xs : List α) (n : Nat) (b : β), Inv n b → (∀ i x b, xs[i]? = some x → Inv (n + i) b → Tri (cb b x) fun o => ∃ b', o = .nx b' ∧ Inv (n + i + 1) b') → Tri (foldO cb xs b) fun o => ∃ b', o = .nx b' ∧ Inv (n + xs.length) b'
  | [], n, b, h, _ => Tri.ret ⟨b, rfl, h⟩
  | x :: xs, n, b, h, k => by
    unfold Td.foldO
    refine Tri.bnd (k 0 x b rfl h) fun o ⟨b1, e, h1⟩ => ?_
    subst e
    rw [List.length_cons, show n + (xs.length + 1) = n + 1 + xs.length by omega]
    exact Tri.foldO Inv xs (n + 1) b1 h1 fun i y b' hy hi => by
      have e : n + 1 + i = n + (i + 1) := by omega
      rw [e] at hi ⊢
      exact k (i + 1) y b' (by simpa using hy) hi
/-- the draw of a number -/
def pickD (m : Int) : DM Int := fun s => match gOf 6 pick2 [.src, .v (.int m)] (some s) with
  | some (.v (.int r), some s') => some (r, s')
  | _ => none
theorem fn_pick (m : Int) : FnD (gOf 6 pick2) [.src, .v (.int m)] (pickD m) eInt .val := fun s r s' h => by
  unfold pickD at h
  split at h
  · rename_i q
    cases h
    exact ⟨_, q, rfl⟩
  · cases h
theorem Tri.pick {m : Int} (hm : m < 1073741824) : Tri (pickD m) fun r => 0 ≤ r ∧ (2 ≤ m → r < m) ∧ (m < 2 → r = 0) := fun s => by
  obtain ⟨r, s', h1, h2⟩ := pick2_is m hm s
  exact ⟨r, s', by unfold pickD; rw [h1], h2⟩
theorem Tri.pick' {m : Int} (h0 : 1 ≤ m) (hm : m < 1073741824) : Tri (pickD m) fun r => 0 ≤ r ∧ r < m := (Tri.pick hm).imp fun r h => ⟨h.1, by
  rcases Int.lt_or_le m 2 with z | z
  · have := h.2.2 z
    omega
  · exact h.2.1 z⟩
/-- things in a drawn order -/
def anyD (e : α → PyData) (xs : List α) : DM (List α) := by
  classical
  exact fun s => if h : ∃ p : List α × Src, gOf 4 anyM [.src, .v (eLst e xs)] (some s) = some (.o (eLst e p.1), some p.2) ∧ p.1.Perm xs then some h.choose else none
theorem fn_any (e : α → PyData) (xs : List α) : FnD (gOf 4 anyM) [.src, .v (eLst e xs)] (anyD e xs) (eLst e) .own := fun s r s' h => by
  unfold anyD at h
  split at h
  · rename_i q
    have z := q.choose_spec.1
    rw [Option.some.inj h] at z
    exact ⟨_, z, rfl⟩
  · cases h
theorem perm_of_map {e : α → PyData} {l : List PyData} {ks : List PyData} (h : l.Perm ks) : ∀ xs : List α, ks = xs.map e → ∃ ys : List α, l = ys.map e ∧ ys.Perm xs := by
  induction h with
  | nil =>
    intro xs h
    have : xs = [] := List.map_eq_nil_iff.mp h.symm
    subst this
    exact ⟨[], rfl, .nil⟩
  | cons x _ ih =>
    intro xs h
    cases xs with
    | nil => cases h
    | cons a xs =>
      rw [List.map_cons] at h
      injection h with h1 h2
      obtain ⟨ys, k1, k2⟩ := ih xs h2
      exact ⟨a :: ys, by rw [List.map_cons, h1, k1], k2.cons a⟩
  | swap x y l =>
    intro xs h
    cases xs with
    | nil => cases h
    | cons a xs =>
      cases xs with
      | nil => cases h
      | cons b xs =>
        rw [List.map_cons, List.map_cons] at h
        injection h with h1 h2
        injection h2 with h2 h3
        exact ⟨b :: a :: xs, by rw [List.map_cons, List.map_cons, h1, h2, h3], .swap a b xs⟩
  | trans _ _ ih1 ih2 =>
    intro xs h
    obtain ⟨ys, k1, k2⟩ := ih2 xs h
    obtain ⟨zs, l1, l2⟩ := ih1 ys k1
    exact ⟨zs, l1, l2.trans k2⟩
theorem Tri.any {e : α → PyData} {xs : List α} (hl : xs.length ≤ 1000) : Tri (anyD e xs) fun ys => ys.Perm xs := fun s => by
  obtain ⟨l', s', h1, h2⟩ := any_is (xs.map e) (by rw [List.length_map]; exact hl) s
  obtain ⟨ys, rfl, k2⟩ := perm_of_map h2 xs rfl
  have ex : ∃ p : List α × Src, gOf 4 anyM [.src, .v (eLst e xs)] (some s) = some (.o (eLst e p.1), some p.2) ∧ p.1.Perm xs := ⟨(ys, s'), h1, k2⟩
  refine ⟨ex.choose.1, ex.choose.2, ?_, ex.choose_spec.2⟩
  unfold anyD
  rw [dif_pos ex]
/-- the law: its source, then the rest -/
theorem law_ends' {n : Nat} {rest : S → RS} {c : DM Bool} {ρ : List Kn} {i : Nat} (ns : List Int) (hn : ns.length ≤ 63) (hρ : ∀ sl, sl = .src → Hs ρ ((startS n [.scr ns]).set i sl)) (h0 : (startS n [.scr ns])[0]? = some (.scr ns)) (h : EvK (M := DM) rest ρ c (kF eBool .val)) (good : Tri c fun r => r = true) :
    ∃ s, gOf n (sSeq (sSet i (mCall (gOf 4 openM) (xSrc 0 xNil))) rest) [.scr ns] none = some (.v (.bool true), s) := by
  obtain ⟨s1, h1⟩ := openM_is ns hn
  obtain ⟨r, s2, k1, k2⟩ := good s1
  subst k2
  have k := h _ (some s1) true (some s2) (hρ _ rfl) (DM.run_of k1)
  have e : sSet i (mCall (gOf 4 openM) (xSrc 0 xNil)) ⟨startS n [.scr ns], none⟩ = .nx ⟨(startS n [.scr ns]).set i .src, some s1⟩ := by
    unfold sSet mCall xSrc xNil
    simp only [h0]
    have : [Slot.scr ns].any Slot.isSrc = false := rfl
    simp only [this, h1]
    rfl
  have e2 : sSeq (sSet i (mCall (gOf 4 openM) (xSrc 0 xNil))) rest ⟨startS n [.scr ns], none⟩ = rest ⟨(startS n [.scr ns]).set i .src, some s1⟩ := by
    unfold sSeq
    rw [e]
  rcases k with ⟨s, ss', q1, q2⟩ | ⟨ss', q1, q2⟩
  · cases q2
    refine ⟨some s2, ?_⟩
    rw [← e2] at q1
    show (match sSeq (sSet i (mCall (gOf 4 openM) (xSrc 0 xNil))) rest ⟨startS n [.scr ns], none⟩ with
      | .ret .cel _ => none
      | .ret r st' => some (r, st'.src)
      | .nx st' => some (.v .none, st'.src)
      | _ => none) = _
    rw [q1]
  · cases q2
theorem law_ends {g go : GFn} {n : Nat} {rest : S → RS} {c : DM Bool} {ρ : List Kn} {i : Nat} (hg : g = gOf n (sSeq (sSet i (mCall go (xSrc 0 xNil))) rest)) (ho : go = gOf 4 openM) (hρ : ∀ ns sl, sl = .src → Hs ρ ((startS n [.scr ns]).set i sl)) (h0 : ∀ ns, (startS n [.scr ns])[0]? = some (.scr ns)) (h : EvK (M := DM) rest ρ c (kF eBool .val)) (good : Tri c fun r => r = true) (ns : List Int) (hn : ns.length ≤ 63) :
    ∃ s, g [.scr ns] none = some (.v (.bool true), s) := by
  subst hg ho
  exact law_ends' ns hn (hρ ns) (h0 ns) h good
end Td
end
set_option linter.all false
set_option maxRecDepth 100000
/-! Td, part F: sequences of two as pairs. -/
noncomputable section
namespace Td
open PySem PySem.Spec PyProof.Rows L2 Pd PM
variable {M : Type → Type} [PM M] {α β γ δ τ ζ : Type}
variable {ρ ρ1 : List Kn} {e : α → PyData} {e1 : α → PyData} {e2 : β → PyData} {w w' : Wf}
def two : List α → Option (α × α)
  | [a, b] => some (a, b)
  | _ => none
theorem two_some {xs : List α} {p : α × α} (h : two xs = some p) : xs = [p.1, p.2] := by
  unfold two at h
  split at h
  · cases h
    rfl
  · cases h
theorem evf_twoL {m : S → R PyData} {c : M (List α)} (h : EvF m ρ c (eLst e)) : EvF m ρ (bnd c fun xs => out (two xs)) (fun p => .list [e p.1, e p.2]) := fun ss src r src' hs hr => by
  obtain ⟨a, s1, r1, r2⟩ := run_bnd_some hr
  obtain ⟨r3, rfl⟩ := run_out_some r2
  obtain ⟨x, ss1, h1, h2, rfl⟩ := h ss src a _ hs r1
  cases two_some r3
  exact ⟨_, ss1, h1, h2, rfl⟩
theorem evf_twoT {m : S → R PyData} {c : M (List α)} (h : EvF m ρ c (eTup e)) : EvF m ρ (bnd c fun xs => out (two xs)) (eP2 e e) := fun ss src r src' hs hr => by
  obtain ⟨a, s1, r1, r2⟩ := run_bnd_some hr
  obtain ⟨r3, rfl⟩ := run_out_some r2
  obtain ⟨x, ss1, h1, h2, rfl⟩ := h ss src a _ hs r1
  cases two_some r3
  exact ⟨_, ss1, h1, h2, rfl⟩
theorem ev_two {m : S → R Slot} {c : M (List α)} (h : Ev m ρ c (eTup e) w) : Ev m ρ (bnd c fun xs => out (two xs)) (eP2 e e) w := fun ss src r src' hs hr => by
  obtain ⟨a, s1, r1, r2⟩ := run_bnd_some hr
  obtain ⟨r3, rfl⟩ := run_out_some r2
  obtain ⟨x, ss1, h1, h2, h3⟩ := h ss src a _ hs r1
  cases two_some r3
  exact ⟨x, ss1, h1, h2, h3⟩
def three : List α → Option (α × α × α)
  | [a, b, c] => some (a, b, c)
  | _ => none
def four : List α → Option (α × α × α × α)
  | [a, b, c, d] => some (a, b, c, d)
  | _ => none
theorem three_some {xs : List α} {p : α × α × α} (h : three xs = some p) : xs = [p.1, p.2.1, p.2.2] := by
  unfold three at h
  split at h
  · cases h
    rfl
  · cases h
theorem four_some {xs : List α} {p : α × α × α × α} (h : four xs = some p) : xs = [p.1, p.2.1, p.2.2.1, p.2.2.2] := by
  unfold four at h
  split at h
  · cases h
    rfl
  · cases h
theorem evf_threeL {m : S → R PyData} {c : M (List α)} (h : EvF m ρ c (eLst e)) : EvF m ρ (bnd c fun xs => out (three xs)) (fun p => .list [e p.1, e p.2.1, e p.2.2]) := fun ss src r src' hs hr => by
  obtain ⟨a, s1, r1, r2⟩ := run_bnd_some hr
  obtain ⟨r3, rfl⟩ := run_out_some r2
  obtain ⟨x, ss1, h1, h2, rfl⟩ := h ss src a _ hs r1
  cases three_some r3
  exact ⟨_, ss1, h1, h2, rfl⟩
theorem evf_threeT {m : S → R PyData} {c : M (List α)} (h : EvF m ρ c (eTup e)) : EvF m ρ (bnd c fun xs => out (three xs)) (eP3 e e e) := fun ss src r src' hs hr => by
  obtain ⟨a, s1, r1, r2⟩ := run_bnd_some hr
  obtain ⟨r3, rfl⟩ := run_out_some r2
  obtain ⟨x, ss1, h1, h2, rfl⟩ := h ss src a _ hs r1
  cases three_some r3
  exact ⟨_, ss1, h1, h2, rfl⟩
theorem evf_fourL {m : S → R PyData} {c : M (List α)} (h : EvF m ρ c (eLst e)) : EvF m ρ (bnd c fun xs => out (four xs)) (fun p => .list [e p.1, e p.2.1, e p.2.2.1, e p.2.2.2]) := fun ss src r src' hs hr => by
  obtain ⟨a, s1, r1, r2⟩ := run_bnd_some hr
  obtain ⟨r3, rfl⟩ := run_out_some r2
  obtain ⟨x, ss1, h1, h2, rfl⟩ := h ss src a _ hs r1
  cases four_some r3
  exact ⟨_, ss1, h1, h2, rfl⟩
theorem evf_fourT {m : S → R PyData} {c : M (List α)} (h : EvF m ρ c (eTup e)) : EvF m ρ (bnd c fun xs => out (four xs)) (eP4 e e e e) := fun ss src r src' hs hr => by
  obtain ⟨a, s1, r1, r2⟩ := run_bnd_some hr
  obtain ⟨r3, rfl⟩ := run_out_some r2
  obtain ⟨x, ss1, h1, h2, rfl⟩ := h ss src a _ hs r1
  cases four_some r3
  exact ⟨_, ss1, h1, h2, rfl⟩
/-! a comprehension over a name's own list -/
theorem lcGoP_ev {iw : Nat} {xs0 : List α} {vs : List Nat} {g : PyData → S → Option S} {t : S → R Bool} {me : S → R PyData} {ρ0 : List Kn} {ρa : α → List Kn} {ct : α → M Bool} {ce : α → M β}
    (hw : ρ0[iw]? = some (.own (eLst e1 xs0))) (hg : ∀ a, Tg g ρ0 (e1 a) (ρa a)) (ht : ∀ a, EvT t (ρa a) (ct a)) (he : ∀ a, EvF me (ρa a) (ce a) e2) (hb : ∀ a, wipeK (ρa a) vs = ρ0) :
    ∀ (xs : List α) (acc : List PyData) (ss : List Slot) (src : Option Src) (ys : List β) (src' : Option Src), Hs ρ0 ss → run (lcG ct ce xs) src = some (ys, src') → ∃ ss', lcGoP iw (eLst e1 xs0) vs g t me (xs.map e1) acc ⟨ss, src⟩ = .ok (acc ++ ys.map e2) ⟨ss', src'⟩ ∧ Hs ρ0 ss'
  | [], acc, ss, src, ys, src', h0, hr => by
    obtain ⟨rfl, rfl⟩ := run_ret_some hr
    obtain ⟨s, q1, q2⟩ := h0.get hw
    cases q2
    exact ⟨ss, by simp only [List.map_nil, lcGoP, q1, if_true, List.append_nil], h0⟩
  | x :: xs, acc, ss, src, ys, src', h0, hr => by
    obtain ⟨z, s1, r1, r2⟩ := run_bnd_some hr
    obtain ⟨s, q1, q2⟩ := h0.get hw
    cases q2
    obtain ⟨ss1, g1, g2⟩ := hg x ss src h0
    obtain ⟨z', ss2, t1, t2, rfl⟩ := ht x ss1 src z s1 g2 r1
    rw [run_cnd] at r2
    rw [List.map_cons]
    unfold lcGoP
    simp only [q1, if_true, g1, t1]
    cases z' with
    | true =>
      rw [if_pos rfl] at r2
      obtain ⟨y, s2, r3, r4⟩ := run_bnd_some r2
      obtain ⟨yl, s3, r5, r6⟩ := run_bnd_some r4
      obtain ⟨rfl, rfl⟩ := run_ret_some r6
      obtain ⟨d, ss3, e1', e2', rfl⟩ := he x ss2 s1 y s2 t2 r3
      simp only [e1']
      have h3 : Hs ρ0 (wipeS ss3 vs) := hb x ▸ e2'.wipe vs
      obtain ⟨ss', k1, k2⟩ := lcGoP_ev hw hg ht he hb xs (acc ++ [e2 y]) (wipeS ss3 vs) s2 yl src' h3 r5
      refine ⟨ss', ?_, k2⟩
      rw [show (S.wipe ⟨ss3, s2⟩ vs) = ⟨wipeS ss3 vs, s2⟩ from rfl, k1]
      simp
    | false =>
      rw [if_neg Bool.false_ne_true] at r2
      have h3 : Hs ρ0 (wipeS ss2 vs) := hb x ▸ t2.wipe vs
      obtain ⟨ss', k1, k2⟩ := lcGoP_ev hw hg ht he hb xs acc (wipeS ss2 vs) s1 ys src' h3 r2
      exact ⟨ss', k1, k2⟩
theorem ev_lcP {iw : Nat} {xs : List α} {vs : List Nat} {g : PyData → S → Option S} {t : S → R Bool} {me : S → R PyData} {ρa : α → List Kn} {ct : α → M Bool} {ce : α → M β}
    (hw : ρ[iw]? = some (.own (eLst e1 xs))) (hn : iw ∉ vs) (q : quiet ρ vs = true) (hg : ∀ a, Tg g (wipeK ρ vs) (e1 a) (ρa a)) (ht : ∀ a, EvT t (ρa a) (ct a)) (he : ∀ a, EvF me (ρa a) (ce a) e2) (hb : ∀ a, wipeK (ρa a) vs = wipeK ρ vs) :
    Ev (mLcP iw vs g t me) ρ (lcM xs ct ce) (eLst e2) .own := fun ss src r src' h0 hr => by
  obtain ⟨xs', s2, r3, r4⟩ := run_bnd_some hr
  obtain ⟨r5, rfl⟩ := run_out_some r3
  obtain ⟨rfl, lz⟩ := lenOk_some r5
  obtain ⟨s, q1, q2⟩ := h0.get hw
  cases q2
  obtain ⟨ss2, k1, k2⟩ := lcGoP_ev (by rw [wipeK_out hn]; exact hw) hg ht he hb xs' [] (wipeS ss vs) s2 r src' (h0.wipe vs) r4
  refine ⟨.o (eLst e2 r), restS ss ss2 vs, ?_, h0.rest k2 q, rfl⟩
  unfold mLcP
  simp only [q1, List.length_map, lz, if_true]
  rw [show (S.wipe ⟨ss, s2⟩ vs) = ⟨wipeS ss vs, s2⟩ from rfl, k1]
  rfl
/-! lists of unlike items -/
variable {e3 : γ → PyData} {e4 : δ → PyData}
abbrev eL2 (e1 : α → PyData) (e2 : β → PyData) : α × β → PyData := fun p => .list [e1 p.1, e2 p.2]
abbrev eL3 (e1 : α → PyData) (e2 : β → PyData) (e3 : γ → PyData) : α × β × γ → PyData := fun p => .list [e1 p.1, e2 p.2.1, e3 p.2.2]
abbrev eL4 (e1 : α → PyData) (e2 : β → PyData) (e3 : γ → PyData) (e4 : δ → PyData) : α × β × γ × δ → PyData := fun p => .list [e1 p.1, e2 p.2.1, e3 p.2.2.1, e4 p.2.2.2]
section
variable {mf mf' mf'' mf3 : S → R PyData} {c : M α} {c' : M β} {c'' : M γ} {c3 : M δ}
theorem lst_of_tup {ms : S → R (List PyData)} {ds : List PyData} {st st' : S} (h : mTup ms st = .ok (.v (.tuple ds)) st') : mLst ms st = .ok (.o (.list ds)) st' := by
  unfold mTup at h
  unfold mLst
  cases q : ms st with
  | bad =>
    rw [q] at h
    cases h
  | ok xs st1 =>
    rw [q] at h
    simp only at h ⊢
    split at h
    · rename_i z
      cases h
      rw [if_pos z]
    · cases h
theorem ev_l2 (h : EvF mf ρ c e1) (h' : EvF mf' ρ c' e2) : Ev (mLst (mCons mf (mCons mf' mNil))) ρ (bnd c fun a => bnd c' fun b => ret (a, b)) (eL2 e1 e2) .own := fun ss src r src' h0 hr => by
  obtain ⟨x, ss1, k1, k2, k3⟩ := ev_p2 h h' ss src r src' h0 hr
  cases k3
  exact ⟨_, ss1, lst_of_tup k1, k2, rfl⟩
theorem ev_l3 (h : EvF mf ρ c e1) (h' : EvF mf' ρ c' e2) (h'' : EvF mf'' ρ c'' e3) : Ev (mLst (mCons mf (mCons mf' (mCons mf'' mNil)))) ρ (bnd c fun a => bnd c' fun b => bnd c'' fun d => ret (a, b, d)) (eL3 e1 e2 e3) .own := fun ss src r src' h0 hr => by
  obtain ⟨x, ss1, k1, k2, k3⟩ := ev_p3 h h' h'' ss src r src' h0 hr
  cases k3
  exact ⟨_, ss1, lst_of_tup k1, k2, rfl⟩
theorem ev_l4 (h : EvF mf ρ c e1) (h' : EvF mf' ρ c' e2) (h'' : EvF mf'' ρ c'' e3) (h3 : EvF mf3 ρ c3 e4) : Ev (mLst (mCons mf (mCons mf' (mCons mf'' (mCons mf3 mNil))))) ρ (bnd c fun a => bnd c' fun b => bnd c'' fun d => bnd c3 fun f => ret (a, b, d, f)) (eL4 e1 e2 e3 e4) .own := fun ss src r src' h0 hr => by
  obtain ⟨x, ss1, k1, k2, k3⟩ := ev_p4 h h' h'' h3 ss src r src' h0 hr
  cases k3
  exact ⟨_, ss1, lst_of_tup k1, k2, rfl⟩
end
section
variable [DecidableEq α] [DecidableEq β] [DecidableEq γ] [DecidableEq δ] {k l m n : Nat}
theorem eq_l2 (h1 : EqE e1 k) (h2 : EqE e2 l) : EqE (eL2 e1 e2) (k + l + 1) where
  plain p := by simp only [PyData.plain, PyData.plainAll, h1.plain, h2.plain, Bool.and_self]
  eqv p q := by
    have := (eq_p2 h1 h2).eqv p q
    simp only [PyData.eqv] at this ⊢
    exact this
  deep p := by
    have := (eq_p2 h1 h2).deep p
    simp only [PyData.depth] at this ⊢
    exact this
theorem eq_l3 (h1 : EqE e1 k) (h2 : EqE e2 l) (h3 : EqE e3 m) : EqE (eL3 e1 e2 e3) (k + l + m + 1) where
  plain p := by simp only [PyData.plain, PyData.plainAll, h1.plain, h2.plain, h3.plain, Bool.and_self]
  eqv p q := by
    have := (eq_p3 h1 h2 h3).eqv p q
    simp only [PyData.eqv] at this ⊢
    exact this
  deep p := by
    have := (eq_p3 h1 h2 h3).deep p
    simp only [PyData.depth] at this ⊢
    exact this
theorem eq_l4 (h1 : EqE e1 k) (h2 : EqE e2 l) (h3 : EqE e3 m) (h4 : EqE e4 n) : EqE (eL4 e1 e2 e3 e4) (k + l + m + n + 1) where
  plain p := by simp only [PyData.plain, PyData.plainAll, h1.plain, h2.plain, h3.plain, h4.plain, Bool.and_self]
  eqv p q := by
    have := (eq_p4 h1 h2 h3 h4).eqv p q
    simp only [PyData.eqv] at this ⊢
    exact this
  deep p := by
    have := (eq_p4 h1 h2 h3 h4).deep p
    simp only [PyData.depth] at this ⊢
    exact this
end
/-! dicts whose keys are numbers -/
abbrev eDI (e : α → PyData) : List (Int × α) → PyData := fun kvs => .dict (kvs.map fun p => (.int p.1, e p.2))
def putA (kvs : List (Int × α)) (k : Int) (v : α) : List (Int × α) := if (kvs.any fun p => decide (p.1 = k)) = true then kvs.map (fun p => if p.1 = k then (p.1, v) else p) else kvs ++ [(k, v)]
def dictOf (xs : List (Int × α)) : List (Int × α) := xs.foldl (fun acc p => putA acc p.1 p.2) []
def kI (e : α → PyData) (kvs : List (Int × α)) : List (Key × PyData) := kvs.map fun p => (Sum.inl p.1, e p.2)
theorem dictD_kI (kvs : List (Int × α)) : dictD (kI e kvs) = eDI e kvs := by
  unfold dictD kI
  rw [List.map_map]
  rfl
theorem pairsD_kI : ∀ xs : List (Int × α), pairsD (xs.map (eP2 eInt e)) = some (kI e xs)
  | [] => rfl
  | x :: xs => by
    rw [List.map_cons]
    unfold pairsD
    rw [pairsD_kI xs]
    rfl
theorem putD_kI (kvs : List (Int × α)) (k : Int) (v : α) : putD (kI e kvs) (Sum.inl k) (e v) = kI e (putA kvs k v) := by
  have a : ((kI e kvs).any fun kv => decide (kv.1 = Sum.inl k)) = kvs.any fun p => decide (p.1 = k) := by
    unfold kI
    rw [List.any_map]
    congr 1
    funext p
    show decide ((Sum.inl p.1 : Key) = Sum.inl k) = _
    exact decide_eq_decide.mpr ⟨fun h => Sum.inl.inj h, fun h => by rw [h]⟩
  unfold putD putA
  rw [a]
  split
  · unfold kI
    rw [List.map_map, List.map_map]
    congr 1
    funext p
    show (if (Sum.inl p.1 : Key) = Sum.inl k then ((Sum.inl p.1 : Key), e v) else ((Sum.inl p.1 : Key), e p.2)) = ((Sum.inl (if p.1 = k then (p.1, v) else p).1 : Key), e (if p.1 = k then (p.1, v) else p).2)
    by_cases h : p.1 = k
    · rw [if_pos h, if_pos (by rw [h])]
    · rw [if_neg h, if_neg (fun z => h (Sum.inl.inj z))]
  · unfold kI
    rw [List.map_append]
    rfl
theorem mergeD_kI (xs : List (Int × α)) : ∀ acc : List (Int × α), mergeD (kI e acc) (kI e xs) = kI e (xs.foldl (fun acc p => putA acc p.1 p.2) acc) := by
  induction xs with
  | nil => intro acc; rfl
  | cons x xs ih =>
    intro acc
    rw [List.foldl_cons, ← ih]
    unfold mergeD
    rw [show kI e (x :: xs) = (Sum.inl x.1, e x.2) :: kI e xs from rfl, List.foldl_cons, putD_kI]
theorem op_dict : Op1 gDict (eLst (eP2 eInt e)) (eDI e) .own (fun xs => some (dictOf xs)) := fun xs r h => by
  cases h
  refine ⟨_, ?_, rfl⟩
  show (match pairsD (xs.map (eP2 eInt e)) with
    | some kvs => some (Slot.o (dictD (mergeD [] kvs)))
    | none => none) = _
  rw [pairsD_kI]
  show some (Slot.o (dictD (mergeD (kI e []) (kI e xs)))) = _
  rw [mergeD_kI, dictD_kI]
  rfl
theorem op_lenD : Op1 gLen (eDI e) eInt .val (fun kvs => some (kvs.length : Int)) := fun kvs r h => by
  cases h
  refine ⟨_, ?_, rfl⟩
  show some (Slot.v (.int ((kvs.map fun p => (PyData.int p.1, e p.2)).length : Nat))) = _
  rw [List.length_map]
end Td
end
set_option linter.all false
set_option maxRecDepth 100000
/-! Td, part G: more reckoning. -/
noncomputable section
namespace Td
open PySem PySem.Spec PyProof.Rows L2 Pd PM
variable {α β γ δ τ ζ : Type}
theorem d_and (z y : Bool) : (andB (ret z) (ret y) : DM Bool) = ret (z && y) := by
  cases z <;> rfl
theorem d_or (z y : Bool) : (orB (ret z) (ret y) : DM Bool) = ret (z || y) := by
  cases z <;> rfl
theorem d_bndB (c : DM α) (f : α → DM β) (g : β → DM γ) : bnd (bnd c f) g = bnd c fun a => bnd (f a) g := by
  funext s
  show ((c s).bind (fun p => f p.1 p.2)).bind (fun p => g p.1 p.2) = (c s).bind fun p => ((f p.1 p.2).bind fun p => g p.1 p.2)
  cases c s <;> rfl
theorem d_lcG {xs : List α} {ct : α → DM Bool} {ce : α → DM β} {p : α → Bool} {f : α → β} (h1 : ∀ x ∈ xs, ct x = ret (p x)) (h2 : ∀ x ∈ xs, p x = true → ce x = ret (f x)) : (lcG ct ce xs : DM (List β)) = ret ((xs.filter p).map f) := by
  induction xs with
  | nil => rfl
  | cons x xs ih =>
    have ih := ih (fun y hy => h1 y (List.mem_cons_of_mem _ hy)) fun y hy => h2 y (List.mem_cons_of_mem _ hy)
    unfold lcG
    rw [h1 x List.mem_cons_self, d_bnd]
    cases q : p x with
    | false =>
      rw [cnd_f, ih, List.filter_cons_of_neg (by rw [q]; exact Bool.false_ne_true)]
    | true =>
      rw [cnd_t, h2 x List.mem_cons_self q, d_bnd, ih, d_bnd, List.filter_cons_of_pos q]
      rfl
theorem d_lcM {xs : List α} {ct : α → DM Bool} {ce : α → DM β} {p : α → Bool} {f : α → β} (hl : xs.length ≤ 16777216) (h1 : ∀ x ∈ xs, ct x = ret (p x)) (h2 : ∀ x ∈ xs, p x = true → ce x = ret (f x)) : (lcM xs ct ce : DM (List β)) = ret ((xs.filter p).map f) := by
  unfold lcM
  rw [lenOk_of hl, d_out, d_bnd]
  exact d_lcG h1 h2
theorem d_lcM_all {xs : List α} {ce : α → DM β} {f : α → β} (hl : xs.length ≤ 16777216) (h2 : ∀ x ∈ xs, ce x = ret (f x)) : (lcM xs (fun _ => ret true) ce : DM (List β)) = ret (xs.map f) := by
  rw [d_lcM (p := fun _ => true) (f := f) hl (fun _ _ => rfl) fun x hx _ => h2 x hx, List.filter_eq_self.mpr fun _ _ => rfl]
theorem d_lcM_pp {xs : List α} {p : α → Bool} {f : α → β} (hl : xs.length ≤ 16777216) : (lcM xs (fun x => ret (p x)) (fun x => ret (f x)) : DM (List β)) = ret ((xs.filter p).map f) := d_lcM hl (fun _ _ => rfl) fun _ _ _ => rfl
theorem d_lcM_p {xs : List α} {p : α → Bool} (hl : xs.length ≤ 16777216) : (lcM xs (fun x => ret (p x)) (fun x => ret x) : DM (List α)) = ret (xs.filter p) := by
  rw [d_lcM_pp hl, List.map_id']
theorem d_lcM_f {xs : List α} {f : α → β} (hl : xs.length ≤ 16777216) : (lcM xs (fun _ => ret true) (fun x => ret (f x)) : DM (List β)) = ret (xs.map f) := d_lcM_all hl fun _ _ => rfl
theorem d_cnd (z : Bool) (a b : α) : (cnd z (ret a) (ret b) : DM α) = ret (if z = true then a else b) := by
  cases z <;> rfl
theorem o_bndS (c : Option α) : bnd c (fun a => some a) = c := by
  cases c <;> rfl
theorem foldM_eq {cb : β → α → Option β} {f : β → α → β} (Inv : Nat → β → Prop) {xs : List α} {b : β} (h0 : Inv 0 b) (k : ∀ i x b, xs[i]? = some x → Inv i b → cb b x = some (f b x) ∧ Inv (i + 1) (f b x)) : foldM cb xs b = some (xs.foldl f b) :=
  (foldM_some Inv xs 0 b h0 fun i x b h1 h2 => by
    rw [Nat.zero_add] at h2 ⊢
    exact k i x b h1 h2).1
/-- the lots of some stations, as many as they are -/
theorem foldl_step_len : ∀ (xs : List Int) (L : List (List Int)), (xs.foldl stepL L).length = L.length * 2 ^ xs.length
  | [], L => by simp
  | x :: xs, L => by
    rw [List.foldl_cons, foldl_step_len xs, stepL_len, List.length_cons, Nat.pow_succ, ← Nat.two_mul]
    simp only [Nat.mul_comm, Nat.mul_left_comm, Nat.mul_assoc]
/-! numbers -/
theorem modI_of (a : Int) {b : Int} (h : 0 < b) : modI a b = some (a % b) := by
  unfold modI
  rw [if_pos h]
theorem divI_of (a : Int) {b : Int} (h : 0 < b) (h2 : b < 1073741824) : divI a b = some (a / b) := by
  unfold divI
  rw [if_pos ⟨h, h2⟩]
theorem mulI_of {a b : Int} (h : mulOk a b = true) : mulI a b = some (a * b) := by
  unfold mulI
  rw [if_pos h]
theorem mulI_l {a b : Int} (h1 : -(2 ^ 64) < a) (h2 : a < 2 ^ 64) : mulI a b = some (a * b) := mulI_of (mulOk_l h1 h2)
theorem mulI_r {a b : Int} (h1 : -(2 ^ 64) < b) (h2 : b < 2 ^ 64) : mulI a b = some (a * b) := mulI_of (mulOk_r h1 h2)
theorem at_pos {xs : List α} {i : Int} (h0 : 0 ≤ i) (h1 : i < xs.length) : at_ xs i = xs[i.toNat]? := by
  show L2.atI xs i = _
  unfold L2.atI
  have : ixN xs.length i = some i.toNat := by
    unfold ixN
    rw [if_pos h0, if_pos h1]
  rw [this]
  rfl
theorem at_0 (x : α) (xs : List α) : at_ (x :: xs) 0 = some x := by
  rw [at_pos (Int.le_refl 0) (by rw [List.length_cons]; omega)]
  rfl
theorem rng0 (n : Int) : rng 0 n = rngL n := by
  unfold rng rngL
  rw [show n - 0 = n by omega]
theorem rngO_0 {n : Int} (h : -16777216 ≤ n) (h2 : n ≤ 16777216) : rngO 0 n = some (rngL n) := by
  rw [rngO_of (by omega) (by omega) h h2 (by omega), rng0]
theorem rng_mem {a b x : Int} : x ∈ rng a b ↔ a ≤ x ∧ x < b := by
  unfold rng
  rw [List.mem_map]
  constructor
  · rintro ⟨i, hi, rfl⟩
    have := List.mem_range.mp hi
    omega
  · intro h
    exact ⟨(x - a).toNat, List.mem_range.mpr (by omega), by omega⟩
theorem rng_len (a b : Int) : (rng a b).length = (b - a).toNat := by
  unfold rng
  rw [List.length_map, List.length_range]
theorem sum_ones (l : List α) : ((l.map fun _ => (1 : Int)).length : Int) = (l.length : Int) := by
  rw [List.length_map]
theorem appF_of {xs : List α} {a : α} (h : xs.length + 1 ≤ 16777216) : appF xs a = some ((), xs ++ [a]) := by
  unfold appF
  rw [okLen_of h]
  rfl
/-! least items -/
theorem minW_int {l : List Int} (h : l ≠ []) : minW ltZ l = some (leastI l) := by
  cases l with
  | nil => exact absurd rfl h
  | cons x xs =>
    have : ∀ (xs : List Int) (x : Int), xs.foldl (fun a y => if ltZ y a = true then y else a) x = xs.foldl min x := by
      intro xs
      induction xs with
      | nil => intro x; rfl
      | cons y ys ih =>
        intro x
        rw [List.foldl_cons, List.foldl_cons, ih]
        congr 1
        unfold ltZ
        by_cases q : y < x
        · rw [if_pos (decide_eq_true q)]
          omega
        · rw [if_neg (by simpa using q)]
          omega
    exact congrArg some (this xs x)
theorem sortW_int (l : List Int) : sortW ltZ l = srtI l := by
  unfold sortW srtI
  congr 1
  funext a b
  unfold leW ltZ leI
  rw [Bool.eq_iff_iff]
  simp
theorem sortW_link (l : List (Int × Int)) : sortW (ltP ltZ ltZ) l = srtK l := by
  unfold sortW srtK
  congr 1
  funext p q
  unfold leW ltP ltZ leK
  rw [Bool.eq_iff_iff]
  by_cases h : q.1 = p.1
  · simp [h]
  · simp [h]
    omega
theorem ltL_lots : ∀ a b : List Int, ltL ltZ a b = decide (a < b)
  | [], [] => by simp [ltL]
  | [], y :: ys => by simp [ltL]
  | x :: xs, [] => by simp [ltL]
  | x :: xs, y :: ys => by
    rw [ltL]
    by_cases h : x = y
    · rw [if_pos h, ltL_lots xs ys]
      exact decide_eq_decide.mpr (by rw [List.cons_lt_cons_iff]; simp [h])
    · rw [if_neg h]
      unfold ltZ
      exact decide_eq_decide.mpr (by rw [List.cons_lt_cons_iff]; simp [h])
theorem sortT_lots {l : List (List Int)} (h : ∀ x ∈ l, x ≠ []) : sortT (ltL ltZ) l = some (srtL l) := by
  unfold sortT
  rw [if_pos (List.all_eq_true.mpr fun x hx => by
    have := h x hx
    cases x with
    | nil => exact absurd rfl this
    | cons _ _ => rfl)]
  congr 1
  unfold sortW srtL
  congr 1
  funext a b
  unfold leW leL
  rw [ltL_lots, Bool.eq_iff_iff]
  simp
theorem d_bndR (c : DM α) : bnd c (fun a => (ret a : DM α)) = c := by
  funext s
  show (c s).bind (fun p => some (p.1, p.2)) = c s
  cases c s <;> rfl
theorem cut_take (xs : List α) {k : Int} (h : 0 ≤ k) : cut xs none (some k) = xs.take k.toNat := by
  unfold cut HT.sIx
  simp only [List.drop_zero, Nat.sub_zero]
  rw [if_neg (by omega), ← List.take_take, List.take_length]
theorem cut_drop (xs : List α) {k : Int} (h : 0 ≤ k) : cut xs (some k) none = xs.drop k.toNat := by
  unfold cut HT.sIx
  simp only
  rw [if_neg (by omega)]
  by_cases z : k.toNat ≤ xs.length
  · rw [Nat.min_eq_left z]
    exact List.take_of_length_le (by rw [List.length_drop]; omega)
  · rw [Nat.min_eq_right (by omega), List.drop_length, List.drop_eq_nil_of_le (by omega)]
    exact List.take_nil
theorem Tri.both {c : DM α} {P Q : α → Prop} (h : Tri c P) (k : Tri c Q) : Tri c fun a => P a ∧ Q a := fun s => by
  obtain ⟨a, s1, h1, h2⟩ := h s
  obtain ⟨b, s2, k1, k2⟩ := k s
  rw [h1] at k1
  cases k1
  exact ⟨a, s1, h1, h2, k2⟩
/-- an item at a drawn place -/
theorem Tri.at_ {l : List α} (h : l ≠ []) (hl : l.length ≤ 1000) {P : α → Prop} (hp : ∀ x ∈ l, P x) : Tri (PM.bnd (pickD (l.length : Int)) fun b => PM.out (Td.at_ l b)) P := by
  have h0 : 0 < l.length := List.length_pos_iff.mpr h
  refine Tri.bnd (Tri.pick' (by omega) (by omega)) fun r hr => ?_
  have e : Td.at_ l r = some (l[r.toNat]'(by omega)) := by
    rw [at_pos hr.1 hr.2]
    exact List.getElem?_eq_getElem (by omega)
  exact Tri.out e (hp _ (List.getElem_mem _))
/-- the first two of a drawn order, put in order -/
theorem two_sorted {n : Int} {ys : List Int} (h : ys.Perm (rngL n)) (h2 : 2 ≤ n) : ∃ a b, srtI (ys.take 2) = [a, b] ∧ 0 ≤ a ∧ a < b ∧ b < n := by
  have nd : ys.Nodup := h.nodup_iff.mpr (rngL_nodup n)
  have len : ys.length = n.toNat := by rw [h.length_eq, rngL_len]
  match ys, nd, len with
  | [], _, len => simp at len; omega
  | [_], _, len => simp at len; omega
  | x :: y :: r, nd, _ =>
    have hx := rngL_mem.mp (h.mem_iff.mp (List.mem_cons_self (a := x) (l := y :: r)))
    have hy := rngL_mem.mp (h.mem_iff.mp (List.mem_cons_of_mem x (List.mem_cons_self (a := y) (l := r))))
    have ne : x ≠ y := fun e => by
      have := (List.nodup_cons.mp nd).1
      rw [e] at this
      exact this List.mem_cons_self
    rw [show List.take 2 (x :: y :: r) = [x, y] from rfl, srt2]
    by_cases q : x ≤ y
    · rw [if_pos q, if_pos q]
      exact ⟨x, y, rfl, hx.1, by omega, hy.2⟩
    · rw [if_neg q, if_neg q]
      exact ⟨y, x, rfl, hy.1, by omega, hx.2⟩
theorem nodup_le {α : Type} [DecidableEq α] : ∀ {l m : List α}, l.Nodup → (∀ x ∈ l, x ∈ m) → l.length ≤ m.length
  | [], _, _, _ => Nat.zero_le _
  | x :: l, m, nd, h => by
    obtain ⟨n1, n2⟩ := List.nodup_cons.mp nd
    have hx := h x List.mem_cons_self
    have := nodup_le (m := m.erase x) n2 fun y hy => (List.mem_erase_of_ne (fun (e : y = x) => n1 (e ▸ hy))).mpr (h y (List.mem_cons_of_mem _ hy))
    rw [List.length_erase_of_mem hx] at this
    have := List.length_pos_of_mem hx
    rw [List.length_cons]
    omega
/-! orders -/
structure OrdL (lt : α → α → Bool) : Prop where
  asym : ∀ a b, lt a b = true → lt b a = false
  tr : ∀ a b c, lt a b = false → lt b c = false → lt a c = false
  tot : ∀ a b, lt a b = false → lt b a = false → a = b
theorem OrdL.irr {lt : α → α → Bool} (h : OrdL lt) (a : α) : lt a a = false := by
  cases z : lt a a with
  | false => rfl
  | true => exact z ▸ h.asym a a z
theorem ord_Z : OrdL ltZ := ⟨fun a b h => by
    unfold ltZ at h ⊢
    have := of_decide_eq_true h
    exact decide_eq_false (by omega), fun a b c h1 h2 => by
    unfold ltZ at h1 h2 ⊢
    have := of_decide_eq_false h1
    have := of_decide_eq_false h2
    exact decide_eq_false (by omega), fun a b h1 h2 => by
    unfold ltZ at h1 h2
    have := of_decide_eq_false h1
    have := of_decide_eq_false h2
    omega⟩
section
variable [DecidableEq α] [DecidableEq β] [DecidableEq γ] {lt : α → α → Bool} {lt' : β → β → Bool} {lt'' : γ → γ → Bool}
theorem ord_P (h : OrdL lt) (h' : OrdL lt') : OrdL (ltP lt lt') := by
  refine ⟨fun a b q => ?_, fun a b c q1 q2 => ?_, fun a b q1 q2 => ?_⟩
  · unfold ltP at q ⊢
    by_cases e : a.1 = b.1
    · rw [if_pos e] at q
      rw [if_pos e.symm]
      exact h'.asym _ _ q
    · rw [if_neg e] at q
      rw [if_neg fun z => e z.symm]
      exact h.asym _ _ q
  · unfold ltP at q1 q2 ⊢
    by_cases e : a.1 = b.1
    · rw [if_pos e] at q1
      by_cases e2 : b.1 = c.1
      · rw [if_pos e2] at q2
        rw [if_pos (e.trans e2)]
        exact h'.tr _ _ _ q1 q2
      · rw [if_neg e2] at q2
        rw [if_neg fun z => e2 (e.symm.trans z), e]
        exact q2
    · rw [if_neg e] at q1
      by_cases e2 : b.1 = c.1
      · rw [if_neg fun z => e (z.trans e2.symm), ← e2]
        exact q1
      · rw [if_neg e2] at q2
        by_cases e3 : a.1 = c.1
        · exact absurd (h.tot _ _ q1 (e3 ▸ q2)) e
        · rw [if_neg e3]
          exact h.tr _ _ _ q1 q2
  · unfold ltP at q1 q2
    by_cases e : a.1 = b.1
    · rw [if_pos e] at q1
      rw [if_pos e.symm] at q2
      exact Prod.ext e (h'.tot _ _ q1 q2)
    · rw [if_neg e] at q1
      rw [if_neg fun z => e z.symm] at q2
      exact absurd (h.tot _ _ q1 q2) e
theorem ltP3_P (a b : α × β × γ) : ltP3 lt lt' lt'' a b = ltP lt (ltP lt' lt'') a b := rfl
theorem ord_P3 (h : OrdL lt) (h' : OrdL lt') (h'' : OrdL lt'') : OrdL (ltP3 lt lt' lt'') := ord_P h (ord_P h' h'')
theorem ltL_asym (h : OrdL lt) : ∀ a b : List α, ltL lt a b = true → ltL lt b a = false
  | [], [], q => nomatch q
  | [], _ :: _, _ => rfl
  | _ :: _, [], q => nomatch q
  | x :: xs, y :: ys, q => by
    unfold ltL at q ⊢
    by_cases e : x = y
    · rw [if_pos e] at q
      rw [if_pos e.symm]
      exact ltL_asym h xs ys q
    · rw [if_neg e] at q
      rw [if_neg fun z => e z.symm]
      exact h.asym _ _ q
theorem ltL_tr (h : OrdL lt) : ∀ a b c : List α, ltL lt a b = false → ltL lt b c = false → ltL lt a c = false
  | [], [], _, _, q => q
  | [], _ :: _, _, q, _ => nomatch q
  | _ :: _, _, [], _, _ => rfl
  | x :: xs, [], z :: zs, _, q => nomatch q
  | x :: xs, y :: ys, z :: zs, q1, q2 => by
    unfold ltL at q1 q2 ⊢
    by_cases e : x = y
    · rw [if_pos e] at q1
      by_cases e2 : y = z
      · rw [if_pos e2] at q2
        rw [if_pos (e.trans e2)]
        exact ltL_tr h _ _ _ q1 q2
      · rw [if_neg e2] at q2
        rw [if_neg fun z => e2 (e.symm.trans z), e]
        exact q2
    · rw [if_neg e] at q1
      by_cases e2 : y = z
      · rw [if_neg fun z => e (z.trans e2.symm), ← e2]
        exact q1
      · rw [if_neg e2] at q2
        by_cases e3 : x = z
        · exact absurd (h.tot _ _ q1 (e3 ▸ q2)) e
        · rw [if_neg e3]
          exact h.tr _ _ _ q1 q2
theorem ltL_tot (h : OrdL lt) : ∀ a b : List α, ltL lt a b = false → ltL lt b a = false → a = b
  | [], [], _, _ => rfl
  | [], _ :: _, q, _ => nomatch q
  | _ :: _, [], _, q => nomatch q
  | x :: xs, y :: ys, q1, q2 => by
    unfold ltL at q1 q2
    by_cases e : x = y
    · rw [if_pos e] at q1
      rw [if_pos e.symm] at q2
      rw [e, ltL_tot h xs ys q1 q2]
    · rw [if_neg e] at q1
      rw [if_neg fun z => e z.symm] at q2
      exact absurd (h.tot _ _ q1 q2) e
theorem ord_L (h : OrdL lt) : OrdL (ltL lt) := ⟨ltL_asym h, ltL_tr h, ltL_tot h⟩
end
theorem minW_go {lt : α → α → Bool} (h : OrdL lt) : ∀ (xs : List α) (x : α), xs.foldl (fun a y => if lt y a = true then y else a) x ∈ x :: xs ∧ ∀ y ∈ x :: xs, lt y (xs.foldl (fun a y => if lt y a = true then y else a) x) = false
  | [], x => ⟨List.mem_singleton.mpr rfl, fun y hy => by
    rw [List.mem_singleton.mp hy]
    exact h.irr x⟩
  | z :: xs, x => by
    rw [List.foldl_cons]
    obtain ⟨h1, h2⟩ := minW_go h xs (if lt z x = true then z else x)
    refine ⟨?_, fun y hy => ?_⟩
    · rcases List.mem_cons.mp h1 with e | e
      · rw [e]
        split
        · exact List.mem_cons_of_mem _ List.mem_cons_self
        · exact List.mem_cons_self
      · exact List.mem_cons_of_mem _ (List.mem_cons_of_mem _ e)
    · have m := h2 _ List.mem_cons_self
      rcases List.mem_cons.mp hy with e | hy
      · rw [e]
        refine h.tr _ _ _ ?_ m
        split
        · rename_i q
          exact h.asym _ _ q
        · exact h.irr x
      · rcases List.mem_cons.mp hy with e | hy
        · rw [e]
          refine h.tr _ _ _ ?_ m
          split
          · exact h.irr z
          · rename_i q
            simpa using q
        · exact h2 y (List.mem_cons_of_mem _ hy)
/-- the least item -/
theorem minW_is {lt : α → α → Bool} (h : OrdL lt) {xs : List α} {x : α} (hx : x ∈ xs) (hl : ∀ y ∈ xs, lt y x = false) : minW lt xs = some x := by
  cases xs with
  | nil => cases hx
  | cons z xs =>
    obtain ⟨h1, h2⟩ := minW_go h xs z
    exact congrArg some (h.tot _ _ (hl _ h1) (h2 x hx))
/-- repr: what is shown is one thing -/
theorem reprO_of {e : α → PyData} {k w : Nat} {a : α} (h : Sh k w (e a)) (hk : k ≤ 60) (hw : w ≤ 1048576) : reprO e a = some (e a).shown := by
  unfold reprO
  rw [if_pos (h.ok hk hw)]
end Td
end
set_option linter.all false
set_option maxRecDepth 100000
/-! Td, part H: the other way to draw; chains; items stored; lists many times. -/
noncomputable section
namespace Td
open PySem PySem.Spec PyProof.Rows L2 Pd PM
variable {M : Type → Type} [PM M] {α β γ δ τ ζ : Type}
variable {ρ ρ1 : List Kn} {e : α → PyData} {e1 : α → PyData} {e2 : β → PyData} {e3 : γ → PyData} {e4 : δ → PyData} {e5 : ζ → PyData} {w w' : Wf}
theorem o_bndB (c : Option α) (f : α → Option β) (g : β → Option γ) : bnd (bnd c f) g = bnd c fun a => bnd (f a) g := by
  cases c <;> rfl
/-! ### operands that are values -/
def EvV (m : S → R Opd) (ρ : List Kn) (c : M α) (e : α → PyData) : Prop := EvG m ρ c fun a x => x = .v (e a)
theorem EvV.p {m : S → R Opd} {c : M α} (h : EvV m ρ c e) : EvP m ρ c e := fun ss src a src' hs hr => by
  obtain ⟨x, ss', h1, h2, rfl⟩ := h ss src a src' hs hr
  exact ⟨_, ss', h1, h2, rfl, True.intro⟩
theorem evv_val {i : Nat} {a : α} (h : ρ[i]? = some (.val (e a))) : EvV (mPk i) ρ (ret a : M α) e := fun ss src b src' hs hr => by
  obtain ⟨rfl, rfl⟩ := run_ret_some hr
  obtain ⟨s, h1, h2⟩ := hs.get h
  cases h2
  exact ⟨.v (e b), ss, by unfold mPk; simp only [h1], hs, rfl⟩
theorem evv_of {m : S → R Slot} {c : M α} (h : Ev m ρ c e .val) : EvV (mO m) ρ c e := fun ss src a src' hs hr => by
  obtain ⟨r, ss', h1, h2, h3⟩ := h ss src a src' hs hr
  cases h3
  exact ⟨.v (e a), ss', by unfold mO; simp only [h1], h2, rfl⟩
def chainM (c1 : M α) (c2 : M β) (c3 : M γ) (F : α → β → Option Bool) (G : β → γ → Option Bool) : M Bool := bnd c1 fun a => bnd c2 fun b => bnd (out (F a b)) fun z => cnd z (bnd c3 fun d => out (G b d)) (ret false)
theorem ev_chain {g g' : PyData → PyData → Option Slot} {ma mb mc : S → R Opd} {c1 : M α} {c2 : M β} {c3 : M γ} {F : α → β → Option Bool} {G : β → γ → Option Bool} (o : Op2 g e1 e2 eBool .val F) (o' : Op2 g' e2 e3 eBool .val G) (h1 : EvV ma ρ c1 e1) (h2 : EvV mb ρ c2 e2) (h3 : EvP mc ρ c3 e3) :
    Ev (mChain g g' ma mb mc) ρ (chainM c1 c2 c3 F G) eBool .val := fun ss src r src' hs hr => by
  obtain ⟨a, s1, r1, r2⟩ := run_bnd_some hr
  obtain ⟨b, s2, r3, r4⟩ := run_bnd_some r2
  obtain ⟨z, s3, r5, r6⟩ := run_bnd_some r4
  obtain ⟨r7, rfl⟩ := run_out_some r5
  obtain ⟨x, ss1, a1, a2, rfl⟩ := h1 ss src a _ hs r1
  obtain ⟨y, ss2, b1, b2, rfl⟩ := h2 ss1 _ b _ a2 r3
  obtain ⟨s, q1, q2⟩ := o a b z r7
  cases q2
  rw [run_cnd] at r6
  cases z with
  | false =>
    obtain ⟨rfl, rfl⟩ := run_ret_some r6
    exact ⟨_, ss2, by unfold mChain; simp only [a1, b1, q1], b2, rfl⟩
  | true =>
    obtain ⟨d, s4, r8, r9⟩ := run_bnd_some r6
    obtain ⟨r10, rfl⟩ := run_out_some r9
    obtain ⟨u, ss3, d1, d2, d3, d4⟩ := h3 ss2 _ d _ b2 r8
    obtain ⟨s', p1, p2⟩ := o' b d r r10
    exact ⟨s', ss3, by unfold mChain; simp only [a1, b1, q1, d1, d3, p1], d2, p2⟩
theorem o_chain {a : α} {b : β} {d : γ} {F : α → β → Option Bool} {G : β → γ → Option Bool} {p q : Bool} (h1 : F a b = some p) (h2 : G b d = some q) : chainM (some a) (some b) (some d) F G = some (p && q) := by
  unfold chainM
  simp only [o_bnd, h1, h2, o_out]
  cases p <;> rfl
theorem chain_le_lt (a b c : Int) : chainM (some a) (some b) (some c) leI' ltI = some (decide (a ≤ b) && decide (b < c)) := o_chain rfl rfl
theorem chain_le_le (a b c : Int) : chainM (some a) (some b) (some c) leI' leI' = some (decide (a ≤ b) && decide (b ≤ c)) := o_chain rfl rfl
theorem chain_lt_lt (a b c : Int) : chainM (some a) (some b) (some c) ltI ltI = some (decide (a < b) && decide (b < c)) := o_chain rfl rfl
theorem chain_lt_le (a b c : Int) : chainM (some a) (some b) (some c) ltI leI' = some (decide (a < b) && decide (b ≤ c)) := o_chain rfl rfl
theorem d_chain_of {a : α} {b : β} {d : γ} {F : α → β → Option Bool} {G : β → γ → Option Bool} {p q : Bool} (h1 : F a b = some p) (h2 : G b d = some q) : (chainM (ret a) (ret b) (ret d) F G : DM Bool) = ret (p && q) := by
  unfold chainM
  simp only [d_bnd, h1, h2, d_out]
  cases p <;> rfl

/-! ### items stored -/
def setO (xs : List α) (i : Int) (v : α) : Option (List α) := match ixN xs.length i with
  | some j => some (xs.set j v)
  | none => none
theorem k_setIx {i : Nat} {mi mv : S → R PyData} {ci : M Int} {cv : M α} {xs : List α} {ρ' : List α → List Kn} (hi : ρ[i]? = some (.own (eLst e xs))) (h : EvF mi ρ ci eInt) (h' : EvF mv ρ cv e) (hρ : ∀ r, ρ.set i (.own (eLst e r)) = ρ' r) :
    EvK (sSetIx i mi mv) ρ (bnd cv fun v => bnd ci fun k => out (setO xs k v)) (kN ρ') := fun ss src r src' hs hr => by
  obtain ⟨v, s1, r1, r2⟩ := run_bnd_some hr
  obtain ⟨k, s2, r3, r4⟩ := run_bnd_some r2
  obtain ⟨r5, rfl⟩ := run_out_some r4
  obtain ⟨x, ss1, a1, a2, rfl⟩ := h' ss src v _ hs r1
  obtain ⟨y, ss2, b1, b2, rfl⟩ := h ss1 _ k _ a2 r3
  obtain ⟨s, q1, q2⟩ := a2.get hi
  cases q2
  obtain ⟨s', q3, q4⟩ := b2.get hi
  cases q4
  unfold setO at r5
  split at r5
  · rename_i j z
    cases r5
    refine ⟨ss2.set i (.o (eLst e (xs.set j v))), ?_, hρ _ ▸ b2.put (k := .own (eLst e (xs.set j v))) rfl⟩
    unfold sSetIx
    simp only [a1, q1, b1, q3, List.length_map, z]
    show RS.nx ⟨ss2.set i (.o (.list ((xs.map e).set j (e v)))), _⟩ = RS.nx ⟨ss2.set i (.o (.list ((xs.set j v).map e))), _⟩
    rw [List.map_set]
  · cases r5
theorem setO_of {xs : List α} {i : Int} {v : α} (h0 : 0 ≤ i) (h1 : i < xs.length) : setO xs i v = some (xs.set i.toNat v) := by
  unfold setO ixN
  rw [if_pos h0, if_pos h1]

/-! ### a list many times -/
def repL (xs : List α) (k : Int) : Option (List α) := if -(2 ^ 63) ≤ k ∧ k < 2 ^ 63 ∧ okLen (xs.length * k.toNat) = true then some (List.replicate k.toNat xs).flatten else none
theorem op_repL : Op2 gMul (eLst e) eInt (eLst e) .own repL := fun xs k r h => by
  unfold repL at h
  split at h
  · rename_i z
    cases h
    refine ⟨.o (eLst e (List.replicate k.toNat xs).flatten), ?_, rfl⟩
    show (if (decide (-(2 ^ 63) ≤ k) && decide (k < 2 ^ 63) && okLen ((xs.map e).length * k.toNat)) = true then some (Slot.o (.list (List.replicate k.toNat (xs.map e)).flatten)) else none) = _
    rw [List.length_map, decide_eq_true z.1, decide_eq_true z.2.1, z.2.2]
    show some (Slot.o (.list _)) = some (Slot.o (.list _))
    rw [List.map_flatten, List.map_replicate]
  · cases h
theorem repL_of {xs : List α} {k : Int} (h1 : -1000000 ≤ k) (h2 : k ≤ 1000000) (h3 : xs.length * k.toNat ≤ 16777216) : repL xs k = some (List.replicate k.toNat xs).flatten := by
  unfold repL
  rw [if_pos ⟨by omega, by omega, okLen_of h3⟩]
theorem rep_one (x : α) (n : Nat) : (List.replicate n [x]).flatten = List.replicate n x := by
  induction n with
  | zero => rfl
  | succ n ih => rw [List.replicate_succ, List.flatten_cons, ih, List.replicate_succ]; rfl

/-! ### the other way to draw -/
def pickG (pk : GFn) (m : Int) : DM Int := fun s => match pk [.src, .v (.int m)] (some s) with
  | some (.v (.int r), some s') => some (r, s')
  | _ => none
theorem fn_pickG (pk : GFn) (m : Int) : FnD pk [.src, .v (.int m)] (pickG pk m) eInt .val := fun s r s' h => by
  unfold pickG at h
  split at h
  · rename_i q
    cases h
    exact ⟨_, q, rfl⟩
  · cases h
theorem Tri.pickG {pk : GFn} (ok : PickOk pk) {m : Int} (hm : m < 1073741824) : Tri (pickG pk m) fun r => 0 ≤ r ∧ (2 ≤ m → r < m) ∧ (m < 2 → r = 0) := fun s => by
  obtain ⟨r, s', h1, h2⟩ := ok m s hm
  exact ⟨r, s', by unfold Td.pickG; rw [h1], h2⟩
def pick1D : Int → DM Int := Td.pickG (gOf 4 pick1)
theorem fn_pick1 (m : Int) : FnD (gOf 4 pick1) [.src, .v (.int m)] (pick1D m) eInt .val := fn_pickG _ m
theorem Tri.pick1 {m : Int} (h0 : 1 ≤ m) (hm : m < 1073741824) : Tri (pick1D m) fun r => 0 ≤ r ∧ r < m := (Tri.pickG pick1_ok hm).imp fun r h => ⟨h.1, by
  rcases Int.lt_or_le m 2 with z | z
  · have := h.2.2 z
    omega
  · exact h.2.1 z⟩
def anyG (pk : GFn) (e : γ → PyData) (d : PyData) (xs : List γ) : DM (List γ) := by
  classical
  exact fun s => if h : ∃ p : List γ × Src, gOf 4 (anyW pk) [.src, .v d] (some s) = some (.o (eLst e p.1), some p.2) ∧ p.1.Perm xs then some h.choose else none
theorem fn_anyG (pk : GFn) (e : γ → PyData) (d : PyData) (xs : List γ) : FnD (gOf 4 (anyW pk)) [.src, .v d] (anyG pk e d xs) (eLst e) .own := fun s r s' h => by
  unfold anyG at h
  split at h
  · rename_i q
    have z := q.choose_spec.1
    rw [Option.some.inj h] at z
    exact ⟨_, z, rfl⟩
  · cases h
theorem Tri.anyG {pk : GFn} (ok : PickOk pk) {e : γ → PyData} {d : PyData} {xs : List γ} (hd : gList d = some (.o (eLst e xs))) (hl : xs.length ≤ 1000) : Tri (anyG pk e d xs) fun ys => ys.Perm xs := fun s => by
  obtain ⟨l', s', h1, h2⟩ := anyW_is ok d (xs.map e) hd (by rw [List.length_map]; exact hl) s
  obtain ⟨ys, rfl, k2⟩ := perm_of_map h2 xs rfl
  have ex : ∃ p : List γ × Src, gOf 4 (anyW pk) [.src, .v d] (some s) = some (.o (eLst e p.1), some p.2) ∧ p.1.Perm xs := ⟨(ys, s'), h1, k2⟩
  refine ⟨ex.choose.1, ex.choose.2, ?_, ex.choose_spec.2⟩
  unfold Td.anyG
  rw [dif_pos ex]
theorem gList_lst (e : γ → PyData) (xs : List γ) : gList (eLst e xs) = some (.o (eLst e xs)) := rfl
theorem gList_tup (e : γ → PyData) (xs : List γ) : gList (eTup e xs) = some (.o (eLst e xs)) := rfl
/-- an item at a drawn place -/
theorem Tri.at1 {l : List α} (h : l ≠ []) (hl : l.length ≤ 1000) {P : α → Prop} (hp : ∀ x ∈ l, P x) : Tri (PM.bnd (pick1D (l.length : Int)) fun b => PM.out (Td.at_ l b)) P := by
  have h0 : 0 < l.length := List.length_pos_iff.mpr h
  refine Tri.bnd (Tri.pick1 (by omega) (by omega)) fun r hr => ?_
  have e : Td.at_ l r = some (l[r.toNat]'(by omega)) := by
    rw [at_pos hr.1 hr.2]
    exact List.getElem?_eq_getElem (by omega)
  exact Tri.out e (hp _ (List.getElem_mem _))
/-- the law: its source, then the rest -/
theorem law_endsG' {go : GFn} {n : Nat} {rest : S → RS} {c : DM Bool} {ρ : List Kn} {i : Nat} (ns : List Int) (hgo : ∃ s', go [.scr ns] none = some (.src, some s')) (hρ : ∀ sl, sl = .src → Hs ρ ((startS n [.scr ns]).set i sl)) (h0 : (startS n [.scr ns])[0]? = some (.scr ns)) (h : EvK (M := DM) rest ρ c (kF eBool .val)) (good : Tri c fun r => r = true) :
    ∃ s, gOf n (sSeq (sSet i (mCall go (xSrc 0 xNil))) rest) [.scr ns] none = some (.v (.bool true), s) := by
  obtain ⟨s1, h1⟩ := hgo
  obtain ⟨r, s2, k1, k2⟩ := good s1
  subst k2
  have k := h _ (some s1) true (some s2) (hρ _ rfl) (DM.run_of k1)
  have e : sSet i (mCall go (xSrc 0 xNil)) ⟨startS n [.scr ns], none⟩ = .nx ⟨(startS n [.scr ns]).set i .src, some s1⟩ := by
    unfold sSet mCall xSrc xNil
    simp only [h0]
    have : [Slot.scr ns].any Slot.isSrc = false := rfl
    simp only [this, h1]
    rfl
  have e2 : sSeq (sSet i (mCall go (xSrc 0 xNil))) rest ⟨startS n [.scr ns], none⟩ = rest ⟨(startS n [.scr ns]).set i .src, some s1⟩ := by
    unfold sSeq
    rw [e]
  rcases k with ⟨s, ss', q1, q2⟩ | ⟨ss', q1, q2⟩
  · cases q2
    refine ⟨some s2, ?_⟩
    rw [← e2] at q1
    show (match sSeq (sSet i (mCall go (xSrc 0 xNil))) rest ⟨startS n [.scr ns], none⟩ with
      | .ret .cel _ => none
      | .ret r st' => some (r, st'.src)
      | .nx st' => some (.v .none, st'.src)
      | _ => none) = _
    rw [q1]
  · cases q2
theorem law_ends1 {g go : GFn} {n : Nat} {rest : S → RS} {c : DM Bool} {ρ : List Kn} {i : Nat} (hg : g = gOf n (sSeq (sSet i (mCall go (xSrc 0 xNil))) rest)) (ho : go = gOf 3 open1) (hρ : ∀ ns sl, sl = .src → Hs ρ ((startS n [.scr ns]).set i sl)) (h0 : ∀ ns, (startS n [.scr ns])[0]? = some (.scr ns)) (h : EvK (M := DM) rest ρ c (kF eBool .val)) (good : Tri c fun r => r = true) (ns : List Int) (hn : ns.length ≤ 63) :
    ∃ s, g [.scr ns] none = some (.v (.bool true), s) := by
  subst hg ho
  exact law_endsG' ns (open1_is ns hn) (hρ ns) (h0 ns) h good
end Td
end
set_option linter.all false
set_option maxRecDepth 100000
set_option maxHeartbeats 4000000
noncomputable section
namespace K70
open PySem PySem.Spec PyProof.Rows L2 Pd
def lotsG (n : Int) : List (List Int) := (rngL n).foldl stepL [[]]
theorem lots_form {n : Int} {l : List Int} (h : l ∈ lotsG n) : l = (rngL n).filter fun x => decide (x ∈ l) := by
  obtain ⟨m, hm, p, e⟩ := fold_out _ _ _ (rngL_nodup n) h
  rw [List.mem_singleton] at hm
  subst hm
  rw [List.nil_append] at e
  subst e
  refine List.filter_congr fun x hx => ?_
  simp [List.mem_filter, hx]
theorem lots_all (n : Int) (p : Int → Bool) : (rngL n).filter p ∈ lotsG n := by
  have := fold_in (rngL n) [[]] [] p List.mem_cons_self
  rwa [List.nil_append] at this
theorem lots_in {n : Int} {l : List Int} (h : l ∈ lotsG n) {x : Int} (hx : x ∈ l) : 0 ≤ x ∧ x < n := by
  rw [lots_form h] at hx
  exact rngL_mem.mp (List.mem_filter.mp hx).1
theorem lots_ext {n : Int} {A B : List Int} (hA : A ∈ lotsG n) (hB : B ∈ lotsG n) (h : ∀ x, x ∈ A ↔ x ∈ B) : A = B := by
  rw [lots_form hA, lots_form hB]
  exact List.filter_congr fun x _ => decide_eq_decide.mpr (h x)
theorem lots_nodup {n : Int} {l : List Int} (h : l ∈ lotsG n) : l.Nodup := by
  rw [lots_form h]
  exact (rngL_nodup n).filter _
/-- all lots stand there once -/
theorem fold_nodup : ∀ (xs : List Int) (L : List (List Int)), L.Nodup → xs.Nodup → (∀ x ∈ xs, ∀ l ∈ L, x ∉ l) → (xs.foldl stepL L).Nodup
  | [], L, h, _, _ => h
  | x :: xs, L, h, nd, hx => by
    obtain ⟨nx, nd'⟩ := List.nodup_cons.mp nd
    rw [List.foldl_cons]
    refine fold_nodup xs _ ?_ nd' fun y hy l hl => ?_
    · unfold stepL
      refine List.nodup_append.mpr ⟨h, ?_, ?_⟩
      · refine List.Pairwise.map _ (fun a b hab e => hab ?_) h
        exact (List.append_inj' e rfl).1
      · intro a ha b hb e
        obtain ⟨m, _, rfl⟩ := List.mem_map.mp hb
        exact hx x List.mem_cons_self a ha (by rw [e]; simp)
    · rcases stepL_mem hl with z | ⟨m, z1, z2⟩
      · exact hx y (List.mem_cons_of_mem _ hy) l z
      · rw [z2]
        intro w
        rcases List.mem_append.mp w with w | w
        · exact hx y (List.mem_cons_of_mem _ hy) m z1 w
        · rw [List.mem_singleton] at w
          rw [w] at hy
          exact nx hy
theorem lotsG_nodup (n : Int) : (lotsG n).Nodup := fold_nodup _ _ (by simp) (rngL_nodup n) (fun x _ l hl => by
  rw [List.mem_singleton] at hl
  rw [hl]
  exact List.not_mem_nil)
/-! ### lots about a told station -/
def isAbout (T : List Int) (t : Int) (l : List Int) : Bool := decide ((T.filter fun u => decide (u ∈ l)) = [t])
def abL (n : Int) (T : List Int) (t : Int) : List (List Int) := (lotsG n).filter (isAbout T t)
def cutZ (E : List (Int × Int)) (l : List Int) : Int := (cutC E l : Nat)
def leastN (n : Int) (E : List (Int × Int)) (T : List Int) (t : Int) : Int := leastI ((abL n T t).map (cutZ E))
def leastS (n : Int) (E : List (Int × Int)) (T : List Int) (t : Int) : List (List Int) := (abL n T t).filter fun l => decide (cutZ E l = leastN n E T t)
theorem about_iff {T : List Int} {t : Int} {l : List Int} (nd : T.Nodup) (ht : t ∈ T) : isAbout T t l = true ↔ ∀ u ∈ T, (u ∈ l ↔ u = t) := by
  unfold isAbout
  rw [decide_eq_true_eq]
  constructor
  · intro e u hu
    have : u ∈ (T.filter fun u => decide (u ∈ l)) ↔ u ∈ [t] := by rw [e]
    rw [List.mem_filter, List.mem_singleton, decide_eq_true_eq] at this
    exact ⟨fun h => this.mp ⟨hu, h⟩, fun h => (this.mpr h).2⟩
  · intro h
    have e : (T.filter fun u => decide (u ∈ l)) = T.filter fun u => decide (u = t) := List.filter_congr fun u hu => decide_eq_decide.mpr (h u hu)
    rw [e]
    clear e h
    induction T with
    | nil => cases ht
    | cons a T ih =>
      obtain ⟨na, nd'⟩ := List.nodup_cons.mp nd
      by_cases z : a = t
      · subst z
        rw [List.filter_cons_of_pos (by simp)]
        have : (T.filter fun u => decide (u = a)) = [] := List.filter_eq_nil_iff.mpr fun u hu => by
          simp only [decide_eq_true_eq]
          intro w
          rw [w] at hu
          exact na hu
        rw [this]
      · rw [List.filter_cons_of_neg (by simpa using z)]
        exact ih nd' ((List.mem_cons.mp ht).resolve_left fun w => z w.symm)
theorem abL_mem {n : Int} {T : List Int} {t : Int} {l : List Int} : l ∈ abL n T t ↔ l ∈ lotsG n ∧ isAbout T t l = true := by
  unfold abL
  rw [List.mem_filter]
theorem leastS_mem {n : Int} {E : List (Int × Int)} {T : List Int} {t : Int} {l : List Int} : l ∈ leastS n E T t ↔ l ∈ abL n T t ∧ cutZ E l = leastN n E T t := by
  unfold leastS
  rw [List.mem_filter, decide_eq_true_eq]
theorem least_le {n : Int} {E : List (Int × Int)} {T : List Int} {t : Int} {l : List Int} (h : l ∈ abL n T t) : leastN n E T t ≤ cutZ E l := leastI_le (List.mem_map.mpr ⟨l, h, rfl⟩)
structure Td (n : Int) (T : List Int) : Prop where
  nd : T.Nodup
  at_ : ∀ t ∈ T, 0 ≤ t ∧ t < n
section
variable {n : Int} {E : List (Int × Int)} {T : List Int} (td : Td n T) (ok : Ok n E)
include td
theorem abL_ne {t : Int} (ht : t ∈ T) : abL n T t ≠ [] := by
  have : ((rngL n).filter fun x => decide (x = t)) ∈ abL n T t := abL_mem.mpr ⟨lots_all n _, (about_iff td.nd ht).mpr fun u hu => by
    simp only [List.mem_filter, rngL_mem, decide_eq_true_eq]
    exact ⟨fun h => h.2, fun h => ⟨td.at_ u hu, h⟩⟩⟩
  intro z
  rw [z] at this
  cases this
theorem leastS_ne {t : Int} (ht : t ∈ T) : leastS n E T t ≠ [] := by
  have h : leastN n E T t ∈ (abL n T t).map (cutZ E) := leastI_mem fun e => abL_ne td ht (List.map_eq_nil_iff.mp e)
  obtain ⟨l, h1, h2⟩ := List.mem_map.mp h
  have : l ∈ leastS n E T t := leastS_mem.mpr ⟨h1, h2⟩
  intro z
  rw [z] at this
  cases this
include ok
/-- what two least lots have in common is least, too -/
theorem least_inter {t : Int} (ht : t ∈ T) {A B : List Int} (hA : A ∈ leastS n E T t) (hB : B ∈ leastS n E T t) : ((rngL n).filter fun x => decide (x ∈ A) && decide (x ∈ B)) ∈ leastS n E T t := by
  obtain ⟨a1, a2⟩ := leastS_mem.mp hA
  obtain ⟨b1, b2⟩ := leastS_mem.mp hB
  obtain ⟨a3, a4⟩ := abL_mem.mp a1
  obtain ⟨b3, b4⟩ := abL_mem.mp b1
  have a5 := (about_iff td.nd ht).mp a4
  have b5 := (about_iff td.nd ht).mp b4
  have i1 : ((rngL n).filter fun x => decide (x ∈ A) && decide (x ∈ B)) ∈ abL n T t := abL_mem.mpr ⟨lots_all n _, (about_iff td.nd ht).mpr fun u hu => by
    simp only [List.mem_filter, rngL_mem, Bool.and_eq_true, decide_eq_true_eq]
    rw [a5 u hu, b5 u hu]
    exact ⟨fun h => h.2.1, fun h => ⟨td.at_ u hu, h, h⟩⟩⟩
  have u1 : ((rngL n).filter fun x => decide (x ∈ A) || decide (x ∈ B)) ∈ abL n T t := abL_mem.mpr ⟨lots_all n _, (about_iff td.nd ht).mpr fun u hu => by
    simp only [List.mem_filter, rngL_mem, Bool.or_eq_true, decide_eq_true_eq]
    rw [a5 u hu, b5 u hu]
    exact ⟨fun h => h.2.elim id id, fun h => ⟨td.at_ u hu, .inl h⟩⟩⟩
  have m1 := least_le (E := E) i1
  have m2 := least_le (E := E) u1
  refine leastS_mem.mpr ⟨i1, ?_⟩
  unfold cutZ at *
  rw [cnt_cut ok A B A (fun a _ => a) (fun x _ _ => rfl)] at a2
  rw [cnt_cut ok A B B (fun _ b => b) (fun x _ _ => rfl)] at b2
  have ci := cnt_cut ok A B ((rngL n).filter fun x => decide (x ∈ A) && decide (x ∈ B)) (fun a b => a && b) (fun x h1 h2 => by
    rw [Bool.eq_iff_iff, decide_eq_true_eq, List.mem_filter, rngL_mem]
    exact ⟨fun h => h.2, fun h => ⟨⟨h1, h2⟩, h⟩⟩)
  have cu := cnt_cut ok A B ((rngL n).filter fun x => decide (x ∈ A) || decide (x ∈ B)) (fun a b => a || b) (fun x h1 h2 => by
    rw [Bool.eq_iff_iff, decide_eq_true_eq, List.mem_filter, rngL_mem]
    exact ⟨fun h => h.2, fun h => ⟨⟨h1, h2⟩, h⟩⟩)
  rw [ci] at m1 ⊢
  rw [cu] at m2
  have I1 := cnt4_id A B (f1 := fun a b c d => a != c) (f2 := fun a b c d => b != d) (f3 := fun a b c d => (a && b) != (c && d)) (f4 := fun a b c d => (a || b) != (c || d)) (f5 := fun a b c d => ((a == true && b == false) && (c == false && d == true)) || ((a == false && b == true) && (c == true && d == false))) (by decide) E
  omega
end
end K70
end
set_option linter.all false
set_option maxRecDepth 100000
set_option maxHeartbeats 1000000
/-! Td, part I: lots, tables by stations, things beside each other. -/
noncomputable section
namespace Td
open PySem PySem.Spec PyProof.Rows L2 Pd PM
variable {α β γ δ : Type}
theorem o_loop {cb : β → α → Option β} {f : β → α → β} {xs : List α} {b r : β} (h : foldM cb xs b = some r) : foldM cb xs b = some r := h
/-! lots -/
theorem lots_len (n : Int) : (K70.lotsG n).length = 2 ^ n.toNat := by
  unfold K70.lotsG
  rw [foldl_step_len, rngL_len, List.length_singleton, Nat.one_mul]
theorem lots_few (n : Int) (h2 : n ≤ 8) : (K70.lotsG n).length ≤ 256 := by
  rw [lots_len]
  exact Nat.pow_le_pow_right (n := 2) (i := n.toNat) (j := 8) (by omega) (by omega)
theorem lot_len {n : Int} {l : List Int} (h : l ∈ K70.lotsG n) : l.length ≤ n.toNat := by
  rw [K70.lots_form h]
  have := List.length_filter_le (fun x => decide (x ∈ l)) (rngL n)
  rw [rngL_len] at this
  exact this
theorem lots_loop {n : Int} (h2 : n ≤ 8) {cb : List (List Int) → Int → Option (List (List Int))} (hc : ∀ (L : List (List Int)) (x : Int), L.length ≤ 256 → (∀ l ∈ L, l.length ≤ 8) → cb L x = some (stepL L x)) : foldM cb (rngL n) [[]] = some (K70.lotsG n) := by
  rw [foldM_eq (f := stepL) (fun i L => L.length = 2 ^ i ∧ ∀ l ∈ L, l.length ≤ i) ⟨rfl, fun l hl => by
    rw [List.mem_singleton.mp hl]
    exact Nat.le_refl 0⟩ ?_]
  · rfl
  · intro i x L hx ⟨q1, q2⟩
    have hi := (List.getElem?_eq_some_iff.mp hx).1
    rw [rngL_len] at hi
    have hi7 : i < 8 := by omega
    have small : 2 ^ i ≤ 2 ^ 8 := Nat.pow_le_pow_right (by omega) (by omega)
    refine ⟨hc L x (by omega) fun l hl => by have := q2 l hl; omega, by rw [stepL_len, q1, Nat.pow_succ]; omega, fun l hl => ?_⟩
    rcases stepL_mem hl with z | ⟨m, z1, z2⟩
    · have := q2 l z
      omega
    · rw [z2, List.length_append, List.length_singleton]
      have := q2 m z1
      omega
/-- a turn: lot + (x,) -/
theorem lots_turn (L : List (List Int)) (x : Int) (h1 : L.length ≤ 256) (h2 : ∀ l ∈ L, l.length ≤ 8) : (bnd (lcM L (fun _ => some true) fun a => bnd (lenOk [x]) fun b => cat a b) fun b => cat L b : Option (List (List Int))) = some (stepL L x) := by
  rw [lcM_all (f := fun l => l ++ [x]) (by omega) fun l hl => ?_]
  · simp only [o_ret, o_bnd, o_out, o_and, o_or, o_bndS, o_bndB, Td.addI, Td.subI, Td.ltI, Td.gtI, Td.leI', Td.geI, Td.negI, Td.absI, Td.intB, Td.min2, Td.max2, Td.eqV, Td.neV, Td.inV, Td.niV]
    rw [cat_of (by rw [List.length_map]; omega)]
    rfl
  · have := h2 l hl
    rw [lenOk_of (xs := [x]) (Nat.le_of_ble_eq_true rfl)]
    simp only [o_ret, o_bnd, o_out, o_and, o_or, o_bndS, o_bndB, Td.addI, Td.subI, Td.ltI, Td.gtI, Td.leI', Td.geI, Td.negI, Td.absI, Td.intB, Td.min2, Td.max2, Td.eqV, Td.neV, Td.inV, Td.niV]
    exact cat_of (by rw [List.length_singleton]; omega)
/-- a turn: (*lot, x) -/
theorem lots_turnS (L : List (List Int)) (x : Int) (h1 : L.length ≤ 256) (h2 : ∀ l ∈ L, l.length ≤ 8) : (bnd (lcM L (fun _ => some true) fun a => lenOk (a ++ [x])) fun b => cat L b : Option (List (List Int))) = some (stepL L x) := by
  rw [lcM_all (f := fun l => l ++ [x]) (by omega) fun l hl => ?_]
  · simp only [o_ret, o_bnd, o_out, o_and, o_or, o_bndS, o_bndB, Td.addI, Td.subI, Td.ltI, Td.gtI, Td.leI', Td.geI, Td.negI, Td.absI, Td.intB, Td.min2, Td.max2, Td.eqV, Td.neV, Td.inV, Td.niV]
    rw [cat_of (by rw [List.length_map]; omega)]
    rfl
  · have := h2 l hl
    exact lenOk_of (by rw [List.length_append, List.length_singleton]; omega)
/-! tables by stations -/
theorem rngL_at {n i : Int} (h0 : 0 ≤ i) (h1 : i < n) : (rngL n)[i.toNat]? = some i := by
  unfold rngL
  rw [List.getElem?_map, List.getElem?_range (by omega)]
  simp only [Option.map_some]
  congr 1
  omega
theorem at_tab {n i : Int} (f : Int → α) (h0 : 0 ≤ i) (h1 : i < n) : at_ ((rngL n).map f) i = some (f i) := by
  rw [at_pos h0 (by rw [List.length_map, rngL_len]; omega), List.getElem?_map, rngL_at h0 h1]
  rfl
theorem setO_tab {n i : Int} (f : Int → α) (v : α) (h0 : 0 ≤ i) (h1 : i < n) : setO ((rngL n).map f) i v = some ((rngL n).map fun x => if x = i then v else f x) := by
  rw [setO_of h0 (by rw [List.length_map, rngL_len]; omega)]
  congr 1
  apply List.ext_getElem?
  intro j
  rw [List.getElem?_set, List.getElem?_map, List.getElem?_map, List.length_map, rngL_len]
  by_cases hj : j < n.toNat
  · have e : (rngL n)[j]? = some (j : Int) := by
      have := rngL_at (n := n) (i := (j : Int)) (by omega) (by omega)
      rwa [Int.toNat_natCast] at this
    rw [e]
    simp only [Option.map_some]
    by_cases q : i.toNat = j
    · rw [if_pos q, if_pos (by omega), if_pos (by omega)]
    · rw [if_neg q, if_neg (by omega)]
  · have e : (rngL n)[j]? = none := List.getElem?_eq_none (by rw [rngL_len]; omega)
    rw [e]
    have : ¬ i.toNat = j := by omega
    rw [if_neg this]
    rfl
theorem rep_tab (n : Int) (a : α) : List.replicate n.toNat a = (rngL n).map fun _ => a := by
  rw [List.map_const', rngL_len]
/-! sums -/
theorem sum_add (f g : α → Int) : ∀ l : List α, (l.map fun x => f x + g x).sum = (l.map f).sum + (l.map g).sum
  | [] => rfl
  | x :: l => by
    rw [List.map_cons, List.sum_cons, sum_add f g l, List.map_cons, List.map_cons, List.sum_cons, List.sum_cons]
    omega
theorem sum_sub (f g : α → Int) : ∀ l : List α, (l.map fun x => f x - g x).sum = (l.map f).sum - (l.map g).sum
  | [] => rfl
  | x :: l => by
    rw [List.map_cons, List.sum_cons, sum_sub f g l, List.map_cons, List.map_cons, List.sum_cons, List.sum_cons]
    omega
theorem sum_le {f g : α → Int} : ∀ {l : List α}, (∀ x ∈ l, f x ≤ g x) → (l.map f).sum ≤ (l.map g).sum
  | [], _ => Int.le_refl _
  | x :: l, h => by
    have := sum_le fun y hy => h y (List.mem_cons_of_mem x hy)
    have := h x List.mem_cons_self
    rw [List.map_cons, List.map_cons, List.sum_cons, List.sum_cons]
    omega
theorem sum_if (p : α → Bool) (f : α → Int) : ∀ l : List α, ((l.filter p).map f).sum = (l.map fun x => if p x = true then f x else 0).sum
  | [] => rfl
  | x :: l => by
    rw [List.map_cons, List.sum_cons, ← sum_if p f l]
    cases q : p x with
    | true =>
      rw [List.filter_cons_of_pos q, List.map_cons, List.sum_cons, if_pos rfl]
    | false =>
      rw [List.filter_cons_of_neg (by rw [q]; exact Bool.false_ne_true), if_neg Bool.false_ne_true]
      omega
theorem sum_bound {f : α → Int} {b : Int} : ∀ {l : List α}, (∀ x ∈ l, -b ≤ f x ∧ f x ≤ b) → -(b * l.length) ≤ (l.map f).sum ∧ (l.map f).sum ≤ b * l.length
  | [], _ => by simp
  | x :: l, h => by
    have ih := sum_bound fun y hy => h y (List.mem_cons_of_mem x hy)
    have hx := h x List.mem_cons_self
    rw [List.map_cons, List.sum_cons, List.length_cons]
    have : b * ((l.length + 1 : Nat) : Int) = b * l.length + b := by
      rw [show (((l.length + 1 : Nat) : Int)) = (l.length : Int) + 1 by omega, Int.mul_add, Int.mul_one]
    omega
/-- numbers of things, and what stands beside them -/
theorem enum_beside (p : α → Bool) (dflt : β) : ∀ (E : List α) (R pre : List β), R.length = E.length → ((E.zipIdx pre.length).filter fun q => p q.1).map (fun q => (pre ++ R).getD q.2 dflt) = ((E.zip R).filter fun q => p q.1).map (·.2)
  | [], R, pre, h => rfl
  | x :: E, [], pre, h => by simp at h
  | x :: E, r :: R, pre, h => by
    have ih := enum_beside p dflt E R (pre ++ [r]) (by simpa using h)
    rw [List.length_append, List.length_singleton, List.append_assoc, List.singleton_append] at ih
    rw [List.zipIdx_cons, List.zip_cons_cons]
    have g : (pre ++ r :: R).getD pre.length dflt = r := by simp
    cases q : p x with
    | true =>
      rw [List.filter_cons_of_pos (p := fun q => p q.1) (a := (x, pre.length)) q, List.filter_cons_of_pos (p := fun q => p q.1) (a := (x, r)) q, List.map_cons, List.map_cons, ih, g]
    | false =>
      rw [List.filter_cons_of_neg (p := fun q => p q.1) (a := (x, pre.length)) (by simp only [q]; exact Bool.false_ne_true), List.filter_cons_of_neg (p := fun q => p q.1) (a := (x, r)) (by simp only [q]; exact Bool.false_ne_true), ih]
theorem at_getD {xs : List α} {i : Nat} (d : α) (h : i < xs.length) : at_ xs (i : Int) = some (xs.getD i d) := by
  rw [at_pos (by omega) (by omega), Int.toNat_natCast, List.getElem?_eq_getElem h, List.getD_eq_getElem?_getD, List.getElem?_eq_getElem h]
  rfl
theorem enumL_mem {xs : List α} {q : Int × α} (h : q ∈ enumL xs) : ∃ i : Nat, q.1 = (i : Int) ∧ i < xs.length ∧ xs[i]? = some q.2 := by
  unfold enumL at h
  obtain ⟨p, hp, rfl⟩ := List.mem_map.mp h
  have := List.mem_zipIdx_iff_getElem?.mp hp
  exact ⟨p.2, rfl, (List.getElem?_eq_some_iff.mp this).1, this⟩
theorem enumL_len (xs : List α) : (enumL xs).length = xs.length := by
  unfold enumL
  rw [List.length_map, List.length_zipIdx]
/-- a row grown item by item -/
theorem foldM_app {cb : List β → α → Option (List β)} {f : α → β} {xs : List α} (hl : xs.length ≤ 100000) (hc : ∀ (b : List β) x, x ∈ xs → b.length ≤ 200000 → cb b x = some (b ++ [f x])) : foldM cb xs [] = some (xs.map f) := by
  rw [foldM_eq (f := fun b x => b ++ [f x]) (fun i b => b.length = i) rfl ?_]
  · congr 1
    have : ∀ (l : List α) (acc : List β), l.foldl (fun b x => b ++ [f x]) acc = acc ++ l.map f := by
      intro l
      induction l with
      | nil => intro acc; simp
      | cons x l ih => intro acc; rw [List.foldl_cons, ih]; simp
    rw [this]
    rfl
  · intro i x b hx hb
    have hi := (List.getElem?_eq_some_iff.mp hx).1
    exact ⟨hc b x (List.mem_of_getElem? hx) (by omega), by rw [List.length_append, List.length_singleton, hb]⟩
end Td
end
set_option linter.all false
set_option maxRecDepth 100000
/-! Td, part J: what is shown; the first two of a drawn order. -/
noncomputable section
namespace Td
open PySem PySem.Spec PyProof.Rows L2 Pd PM
variable {α β γ δ : Type} {e : α → PyData} {e1 : α → PyData} {e2 : β → PyData} {e3 : γ → PyData} {e4 : δ → PyData} {k k' k'' w w' w'' : Nat}
theorem sh_int {x : Int} (h : -999999999999 ≤ x) (h' : x ≤ 999999999999) : Sh 0 40 (eInt x) := Sh.int h h'
theorem sh_small {x : Int} (h : 0 ≤ x) (h' : x ≤ 1000) : Sh 0 10 (eInt x) := Sh.small h h'
theorem sh_tup {xs : List α} (m : Nat) (h : ∀ x ∈ xs, Sh k w (e x)) (hl : xs.length ≤ m) : Sh (k + 1) (m * (w + 1)) (eTup e xs) := Sh.tup (fun d hd => by
  obtain ⟨x, hx, rfl⟩ := List.mem_map.mp hd
  exact h x hx) (by
  rw [List.length_map]
  exact Nat.mul_le_mul_right _ hl)
theorem sh_lst {xs : List α} (m : Nat) (h : ∀ x ∈ xs, Sh k w (e x)) (hl : xs.length ≤ m) : Sh (k + 1) (m * (w + 1)) (eLst e xs) := Sh.lst (fun d hd => by
  obtain ⟨x, hx, rfl⟩ := List.mem_map.mp hd
  exact h x hx) (by
  rw [List.length_map]
  exact Nat.mul_le_mul_right _ hl)
theorem mem2 {d a b : PyData} (h : d ∈ [a, b]) : d = a ∨ d = b := by simpa using h
theorem mem3 {d a b c : PyData} (h : d ∈ [a, b, c]) : d = a ∨ d = b ∨ d = c := by simpa using h
theorem mem4 {d a b c f : PyData} (h : d ∈ [a, b, c, f]) : d = a ∨ d = b ∨ d = c ∨ d = f := by simpa using h
theorem sh_p2 {a : α} {b : β} (K W : Nat) (h1 : Sh k w (e1 a)) (h2 : Sh k' w' (e2 b)) (hk : max k k' ≤ K) (hw : max w w' ≤ W) : Sh (K + 1) (2 * (W + 1)) (eP2 e1 e2 (a, b)) := Sh.tup (k := K) (w := W) (fun d hd => by
  rcases mem2 hd with rfl | rfl
  · exact h1.more (by omega) (by omega)
  · exact h2.more (by omega) (by omega)) (by simp)
theorem sh_p3 {a : α} {b : β} {c : γ} (K W : Nat) (h1 : Sh k w (e1 a)) (h2 : Sh k' w' (e2 b)) (h3 : Sh k'' w'' (e3 c)) (hk : max k (max k' k'') ≤ K) (hw : max w (max w' w'') ≤ W) : Sh (K + 1) (3 * (W + 1)) (eP3 e1 e2 e3 (a, b, c)) := Sh.tup (k := K) (w := W) (fun d hd => by
  rcases mem3 hd with rfl | rfl | rfl
  · exact h1.more (by omega) (by omega)
  · exact h2.more (by omega) (by omega)
  · exact h3.more (by omega) (by omega)) (by simp)
theorem sh_l2 {a : α} {b : β} (K W : Nat) (h1 : Sh k w (e1 a)) (h2 : Sh k' w' (e2 b)) (hk : max k k' ≤ K) (hw : max w w' ≤ W) : Sh (K + 1) (2 * (W + 1)) (eL2 e1 e2 (a, b)) := Sh.lst (k := K) (w := W) (fun d hd => by
  rcases mem2 hd with rfl | rfl
  · exact h1.more (by omega) (by omega)
  · exact h2.more (by omega) (by omega)) (by simp)
theorem sh_l3 {a : α} {b : β} {c : γ} (K W : Nat) (h1 : Sh k w (e1 a)) (h2 : Sh k' w' (e2 b)) (h3 : Sh k'' w'' (e3 c)) (hk : max k (max k' k'') ≤ K) (hw : max w (max w' w'') ≤ W) : Sh (K + 1) (3 * (W + 1)) (eL3 e1 e2 e3 (a, b, c)) := Sh.lst (k := K) (w := W) (fun d hd => by
  rcases mem3 hd with rfl | rfl | rfl
  · exact h1.more (by omega) (by omega)
  · exact h2.more (by omega) (by omega)
  · exact h3.more (by omega) (by omega)) (by simp)
theorem shown {a : α} (h : Sh k w (e a)) (hk : k ≤ 60) (hw : w ≤ 1048576) : ∃ s, reprO e a = some s := ⟨_, reprO_of h hk hw⟩
theorem shown_bool (b : Bool) : ∃ s, reprO eBool b = some s := by
  cases b
  · exact ⟨_, if_pos rfl⟩
  · exact ⟨_, if_pos rfl⟩
/-- the first two of a drawn order -/
theorem two_first {n : Int} {ys : List Int} (h : ys.Perm (rngL n)) (h2 : 2 ≤ n) : ∃ a b, ys.take 2 = [a, b] ∧ (0 ≤ a ∧ a < n) ∧ (0 ≤ b ∧ b < n) ∧ a ≠ b := by
  have nd : ys.Nodup := h.nodup_iff.mpr (rngL_nodup n)
  have len : ys.length = n.toNat := by rw [h.length_eq, rngL_len]
  match ys, nd, len with
  | [], _, len => simp at len; omega
  | [_], _, len => simp at len; omega
  | x :: y :: r, nd, _ =>
    have hx := rngL_mem.mp (h.mem_iff.mp (List.mem_cons_self (a := x) (l := y :: r)))
    have hy := rngL_mem.mp (h.mem_iff.mp (List.mem_cons_of_mem x (List.mem_cons_self (a := y) (l := r))))
    have ne : x ≠ y := fun e => by
      have := (List.nodup_cons.mp nd).1
      rw [e] at this
      exact this List.mem_cons_self
    exact ⟨x, y, rfl, hx, hy, ne⟩
theorem two_of_len {xs : List α} (h : xs.length = 2) : ∃ a b, xs = [a, b] := by
  match xs, h with
  | [a, b], _ => exact ⟨a, b, rfl⟩
theorem d_ne_self (a b : DM α) : cnd (!decide True) a b = b := by
  rw [show (!decide True) = false by decide]
  rfl
theorem Tri.foldO0 {cb : Unit → α → DM (Out Unit γ)} {xs : List α} (h : ∀ x ∈ xs, Tri (cb () x) fun o => o = .nx ()) : Tri (Td.foldO cb xs ()) fun o => o = .nx () :=
  (Tri.foldO (fun _ (_ : Unit) => True) xs 0 () True.intro fun i x b hx _ => (h x (List.mem_of_getElem? hx)).imp fun o e => ⟨(), e, True.intro⟩).imp fun o ⟨b, e, _⟩ => e
end Td
end
set_option linter.all false
set_option maxRecDepth 100000
/-! Td, part K: None, or something. -/
noncomputable section
namespace Td
open PySem PySem.Spec PyProof.Rows L2 Pd PM
variable {M : Type → Type} [PM M] {α β γ δ τ ζ : Type}
variable {ρ ρ1 : List Kn} {e : α → PyData} {e1 : α → PyData} {e2 : β → PyData} {e3 : γ → PyData} {e4 : δ → PyData} {w w' : Wf}
def eOpt (e : α → PyData) : Option α → PyData
  | none => .none
  | some a => e a
/-- never None -/
structure NN (e : α → PyData) : Prop where
  l : ∀ a, PyData.eqv (e a) .none = false
  r : ∀ a, PyData.eqv .none (e a) = false
  i : ∀ a, isNone (e a) = false
theorem nn_int : NN eInt := ⟨fun _ => by simp [PyData.eqv], fun _ => by simp [PyData.eqv], fun _ => rfl⟩
theorem nn_bool : NN eBool := ⟨fun _ => by simp [PyData.eqv], fun _ => by simp [PyData.eqv], fun _ => rfl⟩
theorem nn_str : NN eStr := ⟨fun _ => by simp [PyData.eqv], fun _ => by simp [PyData.eqv], fun _ => rfl⟩
theorem nn_tup : NN (eTup e) := ⟨fun _ => by simp [PyData.eqv], fun _ => by simp [PyData.eqv], fun _ => rfl⟩
theorem nn_lst : NN (eLst e) := ⟨fun _ => by simp [PyData.eqv], fun _ => by simp [PyData.eqv], fun _ => rfl⟩
theorem nn_p2 : NN (eP2 e1 e2) := ⟨fun _ => by simp [PyData.eqv], fun _ => by simp [PyData.eqv], fun _ => rfl⟩
theorem nn_p3 : NN (eP3 e1 e2 e3) := ⟨fun _ => by simp [PyData.eqv], fun _ => by simp [PyData.eqv], fun _ => rfl⟩
theorem nn_p4 : NN (eP4 e1 e2 e3 e4) := ⟨fun _ => by simp [PyData.eqv], fun _ => by simp [PyData.eqv], fun _ => rfl⟩
theorem eq_opt [DecidableEq α] {k : Nat} (h : EqE e k) (n : NN e) : EqE (eOpt e) k where
  plain o := by
    cases o with
    | none => rfl
    | some a => exact h.plain a
  deep o := by
    cases o with
    | none => exact Nat.zero_le _
    | some a => exact h.deep a
  eqv o p := by
    cases o with
    | none =>
      cases p with
      | none => rfl
      | some b => exact (n.r b).trans (by simp)
    | some a =>
      cases p with
      | none => exact (n.l a).trans (by simp)
      | some b =>
        refine (h.eqv a b).trans ?_
        simp
def unO (o : Option α) : Option α := o
theorem ev_un {m : S → R Slot} {c : M (Option α)} (h : Ev m ρ c (eOpt e) w) : Ev m ρ (bnd c fun o => out o) e w := fun ss src r src' hs hr => by
  obtain ⟨a, s1, r1, r2⟩ := run_bnd_some hr
  obtain ⟨rfl, rfl⟩ := run_out_some r2
  exact h ss src (some r) _ hs r1
theorem evp_un {m : S → R Opd} {c : M (Option α)} (h : EvP m ρ c (eOpt e)) : EvP m ρ (bnd c fun o => out o) e := fun ss src r src' hs hr => by
  obtain ⟨a, s1, r1, r2⟩ := run_bnd_some hr
  obtain ⟨rfl, rfl⟩ := run_out_some r2
  exact h ss src (some r) _ hs r1
theorem evf_un {m : S → R PyData} {c : M (Option α)} (h : EvF m ρ c (eOpt e)) : EvF m ρ (bnd c fun o => out o) e := fun ss src r src' hs hr => by
  obtain ⟨a, s1, r1, r2⟩ := run_bnd_some hr
  obtain ⟨rfl, rfl⟩ := run_out_some r2
  exact h ss src (some r) _ hs r1
theorem ev_some {m : S → R Slot} {c : M α} (h : Ev m ρ c e w) : Ev m ρ (bnd c fun a => ret (some a)) (eOpt e) w := fun ss src r src' hs hr => by
  obtain ⟨a, s1, r1, r2⟩ := run_bnd_some hr
  obtain ⟨rfl, rfl⟩ := run_ret_some r2
  exact h ss src a _ hs r1
theorem ev_none {m : S → R Slot} {c : M Unit} (h : Ev m ρ c eNon w) : Ev m ρ (bnd c fun _ => ret (none : Option α)) (eOpt e) w := fun ss src r src' hs hr => by
  obtain ⟨a, s1, r1, r2⟩ := run_bnd_some hr
  obtain ⟨rfl, rfl⟩ := run_ret_some r2
  exact h ss src a _ hs r1
theorem evp_some {m : S → R Opd} {c : M α} (h : EvP m ρ c e) : EvP m ρ (bnd c fun a => ret (some a)) (eOpt e) := fun ss src r src' hs hr => by
  obtain ⟨a, s1, r1, r2⟩ := run_bnd_some hr
  obtain ⟨rfl, rfl⟩ := run_ret_some r2
  exact h ss src a _ hs r1
theorem evp_none {m : S → R Opd} {c : M Unit} (h : EvP m ρ c eNon) : EvP m ρ (bnd c fun _ => ret (none : Option α)) (eOpt e) := fun ss src r src' hs hr => by
  obtain ⟨a, s1, r1, r2⟩ := run_bnd_some hr
  obtain ⟨rfl, rfl⟩ := run_ret_some r2
  exact h ss src a _ hs r1
theorem rt_none {κ : Kt τ} {inj : Option γ → τ} (h : RtOk κ (eOpt e3) w inj) : RtOk κ eNon w (fun _ => inj none) := fun r src rs k => h none src rs k
def isN (o : Option α) (_ : Unit) : Option Bool := some o.isNone
def niN (o : Option α) (_ : Unit) : Option Bool := some o.isSome
theorem op_is (n : NN e) : Op2 (gIs false) (eOpt e) eNon eBool .val isN := fun o u r h => by
  cases h
  cases o with
  | none => exact ⟨_, rfl, rfl⟩
  | some a =>
    refine ⟨.v (.bool false), ?_, rfl⟩
    show some (Slot.v (.bool (false ^^ isNone (e a)))) = _
    rw [n.i]
    rfl
theorem op_isNot (n : NN e) : Op2 (gIs true) (eOpt e) eNon eBool .val niN := fun o u r h => by
  cases h
  cases o with
  | none => exact ⟨_, rfl, rfl⟩
  | some a =>
    refine ⟨.v (.bool true), ?_, rfl⟩
    show some (Slot.v (.bool (true ^^ isNone (e a)))) = _
    rw [n.i]
    rfl
theorem ev_three {m : S → R Slot} {c : M (List α)} (h : Ev m ρ c (eTup e) w) : Ev m ρ (bnd c fun xs => out (three xs)) (eP3 e e e) w := fun ss src r src' hs hr => by
  obtain ⟨a, s1, r1, r2⟩ := run_bnd_some hr
  obtain ⟨r3, rfl⟩ := run_out_some r2
  obtain ⟨x, ss1, h1, h2, h3⟩ := h ss src a _ hs r1
  cases three_some r3
  exact ⟨x, ss1, h1, h2, h3⟩
theorem evp_tup2 {m : S → R Opd} {c : M (α × α)} (h : EvP m ρ c (eP2 e e)) : EvP m ρ (bnd c fun p => ret [p.1, p.2]) (eTup e) := fun ss src r src' hs hr => by
  obtain ⟨a, s1, r1, r2⟩ := run_bnd_some hr
  obtain ⟨rfl, rfl⟩ := run_ret_some r2
  exact h ss src a _ hs r1
theorem evp_tup3 {m : S → R Opd} {c : M (α × α × α)} (h : EvP m ρ c (eP3 e e e)) : EvP m ρ (bnd c fun p => ret [p.1, p.2.1, p.2.2]) (eTup e) := fun ss src r src' hs hr => by
  obtain ⟨a, s1, r1, r2⟩ := run_bnd_some hr
  obtain ⟨rfl, rfl⟩ := run_ret_some r2
  exact h ss src a _ hs r1
theorem evf_tup2 {m : S → R PyData} {c : M (α × α)} (h : EvF m ρ c (eP2 e e)) : EvF m ρ (bnd c fun p => ret [p.1, p.2]) (eTup e) := fun ss src r src' hs hr => by
  obtain ⟨a, s1, r1, r2⟩ := run_bnd_some hr
  obtain ⟨rfl, rfl⟩ := run_ret_some r2
  exact h ss src a _ hs r1
theorem evf_tup3 {m : S → R PyData} {c : M (α × α × α)} (h : EvF m ρ c (eP3 e e e)) : EvF m ρ (bnd c fun p => ret [p.1, p.2.1, p.2.2]) (eTup e) := fun ss src r src' hs hr => by
  obtain ⟨a, s1, r1, r2⟩ := run_bnd_some hr
  obtain ⟨rfl, rfl⟩ := run_ret_some r2
  exact h ss src a _ hs r1
end Td
end
set_option linter.all false
set_option maxRecDepth 100000
/-! Td, part L: places of items, items taken out, ranges downwards. -/
noncomputable section
namespace Td
open PySem PySem.Spec PyProof.Rows L2 Pd PM
section
variable {α β : Type} {e : α → PyData} {e2 : β → PyData} {k : Nat} [DecidableEq α]
theorem place_e (h : EqE e k) (a : α) : ∀ xs : List α, PySem.SeqAt.dataPlace (xs.map e) (e a) = if a ∈ xs then some (xs.idxOf a) else none
  | [] => rfl
  | x :: xs => by
    have ih := place_e h a xs
    unfold PySem.SeqAt.dataPlace at ih ⊢
    rw [List.map_cons, List.findIdx?_cons, ih, h.eqv, List.idxOf_cons]
    by_cases q : x = a
    · subst q
      simp
    · have q' : ¬ a = x := fun z => q z.symm
      have q2 : (x == a) = false := by simpa using q
      by_cases m : a ∈ xs <;> simp [q, q', m, q2]
def idxO (xs : List α) (a : α) : Option Int := if okLen xs.length = true then (if a ∈ xs then some ((xs.idxOf a : Nat) : Int) else none) else none
def cntO (xs : List α) (a : α) : Option Int := some ((xs.count a : Nat) : Int)
theorem op_idx (h : EqE e k) (hk : k ≤ 60) : Op2 (gMt gIdx) (eLst e) e eInt .val idxO := fun xs a r z => by
  unfold idxO at z
  split at z
  · rename_i hz
    split at z
    · rename_i hm
      cases z
      refine ⟨_, ?_, rfl⟩
      show gIdx (xs.map e) (e a) = _
      unfold gIdx
      rw [h.shp hk, plainAll_e h, List.length_map, hz, place_e h, if_pos hm]
      rfl
    · cases z
  · cases z
theorem count_e (h : EqE e k) (a : α) : ∀ xs : List α, ((xs.map e).countP fun y => PyData.eqv y (e a)) = xs.count a
  | [] => rfl
  | x :: xs => by
    rw [List.map_cons, List.countP_cons, count_e h a xs, List.count_cons, h.eqv]
    by_cases q : x = a <;> simp [q]
theorem op_count (h : EqE e k) (hk : k ≤ 60) : Op2 (gMt gCount) (eLst e) e eInt .val cntO := fun xs a r z => by
  cases z
  refine ⟨_, ?_, rfl⟩
  show gCount (xs.map e) (e a) = _
  unfold gCount
  rw [h.shp hk, plainAll_e h, count_e h]
  rfl
def remF (xs : List α) (a : α) : Option (Unit × List α) := if a ∈ xs then some ((), xs.eraseIdx (xs.idxOf a)) else none
theorem mu_rem (h : EqE e k) (hk : k ≤ 60) : MutE gRem e (fun a => [e a]) eNon remF := fun xs a r z => by
  unfold remF at z
  split at z
  · rename_i hm
    cases z
    show (if (Pd.shp (e a) && PyData.plainAll (xs.map e)) = true then _ else none) = _
    rw [h.shp hk, plainAll_e h, place_e h, if_pos hm]
    simp only [eraseIdx_map']
    rfl
  · cases z
end
theorem sq_p4 {α : Type} {e : α → PyData} : SeqE (eP4 e e e e) (fun p => [p.1, p.2.1, p.2.2.1, p.2.2.2]) e := fun _ => .inr rfl
end Td
end
set_option linter.all false
set_option maxRecDepth 100000
/-! Td, part M: dicts with keys of a type. -/
noncomputable section
namespace Td
open PySem PySem.Spec PyProof.Rows L2 Pd PM
variable {M : Type → Type} [PM M] {α β γ κ : Type} {ρ : List Kn} {e : α → PyData} {e1 : α → PyData} {e2 : β → PyData} {e3 : γ → PyData} {ek : κ → PyData}
def eDct (ek : κ → PyData) (ev : α → PyData) (kvs : List (κ × α)) : PyData := .dict (kvs.map fun p => (ek p.1, ev p.2))
structure KeyE (ek : κ → PyData) : Prop where
  inj : ∀ a b, ek a = ek b → a = b
  kind : (∀ a, isK (ek a) = true) ∨ (∀ a, isT (ek a) = true)
theorem ke_int : KeyE eInt := ⟨fun a b h => by injection h, .inl fun _ => rfl⟩
theorem ke_str : KeyE eStr := ⟨fun a b h => by injection h, .inl fun _ => rfl⟩
theorem ke_pI : KeyE (eP2 eInt eInt) := ⟨fun a b h => by
  obtain ⟨a1, a2⟩ := a
  obtain ⟨b1, b2⟩ := b
  have h : PyData.tuple [.int a1, .int a2] = PyData.tuple [.int b1, .int b2] := h
  simp only [PyData.tuple.injEq, List.cons.injEq, PyData.int.injEq, and_true] at h
  rw [h.1, h.2], .inr fun _ => rfl⟩
theorem ke_tupI : KeyE (eTup eInt) := ⟨fun a b h => by
  have h : a.map eInt = b.map eInt := by injection h
  exact List.map_inj_right (fun _ _ => ke_int.inj _ _) |>.mp h, .inr fun a => by
  show (a.map eInt).all isK = true
  rw [List.all_map, List.all_eq_true]
  intro _ _
  rfl⟩
section
variable [DecidableEq κ]
def putM (kvs : List (κ × α)) (k : κ) (v : α) : List (κ × α) := if (kvs.any fun p => decide (p.1 = k)) = true then kvs.map (fun p => if p.1 = k then (p.1, v) else p) else kvs ++ [(k, v)]
def getM (kvs : List (κ × α)) (k : κ) : Option α := (kvs.find? fun p => decide (p.1 = k)).map (·.2)
def inM (k : κ) (kvs : List (κ × α)) : Option Bool := some (getM kvs k).isSome
def niM (k : κ) (kvs : List (κ × α)) : Option Bool := some (!(getM kvs k).isSome)
def dputO (kvs : List (κ × α)) (k : κ) (v : α) : Option (List (κ × α)) := if okLen (kvs.length + 1) = true then some (putM kvs k v) else none
theorem okKey_e (h : KeyE ek) (ev : α → PyData) (kvs : List (κ × α)) (k : κ) : okKey (kvs.map fun p => (ek p.1, ev p.2)) (ek k) = true := by
  unfold okKey
  rw [Bool.or_eq_true, Bool.and_eq_true, Bool.and_eq_true, List.all_map, List.all_map, List.all_eq_true, List.all_eq_true]
  rcases h.kind with z | z
  · exact .inl ⟨z k, fun p _ => z p.1⟩
  · exact .inr ⟨z k, fun p _ => z p.1⟩
theorem getP_e (h : KeyE ek) (ev : α → PyData) (k : κ) : ∀ kvs : List (κ × α), getP (kvs.map fun p => (ek p.1, ev p.2)) (ek k) = (getM kvs k).map ev
  | [] => rfl
  | p :: kvs => by
    have ih := getP_e h ev k kvs
    unfold getP getM at ih ⊢
    rw [List.map_cons, List.find?_cons, List.find?_cons]
    by_cases q : p.1 = k
    · simp [q]
    · have q' : ¬ ek p.1 = ek k := fun z => q (h.inj _ _ z)
      simp only [q, q', decide_false]
      exact ih
theorem putP_e (h : KeyE ek) (ev : α → PyData) (k : κ) (v : α) (kvs : List (κ × α)) : putP (kvs.map fun p => (ek p.1, ev p.2)) (ek k) (ev v) = (putM kvs k v).map fun p => (ek p.1, ev p.2) := by
  have e1 : ∀ kvs : List (κ × α), (@List.any _ (kvs.map fun p => (ek p.1, ev p.2)) fun p => @decide (p.1 = ek k) (Classical.propDecidable _)) = kvs.any fun p => decide (p.1 = k) := by
    intro kvs
    induction kvs with
    | nil => rfl
    | cons p kvs ih =>
      rw [List.map_cons, List.any_cons, List.any_cons, ih]
      congr 1
      exact decide_eq_decide.mpr ⟨h.inj _ _, fun z => congrArg ek z⟩
  unfold putP putM
  rw [e1]
  split
  · rw [List.map_map, List.map_map]
    refine List.map_congr_left fun p _ => ?_
    simp only [Function.comp]
    by_cases q : p.1 = k
    · rw [if_pos q, if_pos (congrArg ek q)]
    · rw [if_neg q, if_neg fun z => q (h.inj _ _ z)]
  · rw [List.map_append]
    rfl
theorem op_dget (h : KeyE ek) : Op2 gIxA (eDct ek e) ek e .val getM := fun kvs k r z => by
  refine ⟨.v (e r), ?_, rfl⟩
  show (if okKey (kvs.map fun p => (ek p.1, e p.2)) (ek k) = true then (getP (kvs.map fun p => (ek p.1, e p.2)) (ek k)).map Slot.v else none) = _
  rw [okKey_e h, getP_e h, z]
  rfl
theorem op_din (h : KeyE ek) : Op2 (gInA false) ek (eDct ek e) eBool .val inM := fun k kvs r z => by
  cases z
  refine ⟨_, ?_, rfl⟩
  show (if okKey (kvs.map fun p => (ek p.1, e p.2)) (ek k) = true then some (Slot.v (.bool (false.xor (getP (kvs.map fun p => (ek p.1, e p.2)) (ek k)).isSome))) else none) = _
  rw [okKey_e h, getP_e h, Option.isSome_map, Bool.false_xor]
  rfl
theorem op_dni (h : KeyE ek) : Op2 (gInA true) ek (eDct ek e) eBool .val niM := fun k kvs r z => by
  cases z
  refine ⟨_, ?_, rfl⟩
  show (if okKey (kvs.map fun p => (ek p.1, e p.2)) (ek k) = true then some (Slot.v (.bool (true.xor (getP (kvs.map fun p => (ek p.1, e p.2)) (ek k)).isSome))) else none) = _
  rw [okKey_e h, getP_e h, Option.isSome_map, Bool.true_xor]
  rfl
theorem k_dput {i : Nat} {mi mv : S → R PyData} {ci : M κ} {cv : M α} {kvs : List (κ × α)} {ρ' : List (κ × α) → List Kn} (hK : KeyE ek) (hi : ρ[i]? = some (.own (eDct ek e kvs))) (h : EvF mi ρ ci ek) (h' : EvF mv ρ cv e) (hρ : ∀ r, ρ.set i (.own (eDct ek e r)) = ρ' r) :
    EvK (sPutD i mi mv) ρ (bnd cv fun v => bnd ci fun k => out (dputO kvs k v)) (kN ρ') := fun ss src r src' hs hr => by
  obtain ⟨v, s1, r1, r2⟩ := run_bnd_some hr
  obtain ⟨k, s2, r3, r4⟩ := run_bnd_some r2
  obtain ⟨r5, rfl⟩ := run_out_some r4
  obtain ⟨x, ss1, a1, a2, rfl⟩ := h' ss src v _ hs r1
  obtain ⟨y, ss2, b1, b2, rfl⟩ := h ss1 _ k _ a2 r3
  obtain ⟨s, q1, q2⟩ := a2.get hi
  cases q2
  obtain ⟨s', q3, q4⟩ := b2.get hi
  cases q4
  unfold dputO at r5
  split at r5
  · rename_i z
    cases r5
    refine ⟨ss2.set i (.o (eDct ek e (putM kvs k v))), ?_, hρ _ ▸ b2.put (k := .own (eDct ek e (putM kvs k v))) rfl⟩
    unfold sPutD eDct
    unfold eDct at q1 q3
    simp only [a1, q1, b1, q3, okKey_e hK, List.length_map, z, Bool.and_self, if_true, putP_e hK]
  · cases r5
end
theorem ev_dnew : Ev (M := M) mDNew ρ (ret ([] : List (κ × α))) (eDct ek e) .own := fun ss src r src' hs hr => by
  obtain ⟨rfl, rfl⟩ := run_ret_some hr
  exact ⟨_, ss, rfl, hs, rfl⟩
theorem op_lenM : Op1 gLen (eDct ek e) eInt .val (fun kvs => some (kvs.length : Int)) := fun kvs r h => by
  cases h
  refine ⟨_, rfl, ?_⟩
  show Slot.v (.int ((kvs.map _).length : Nat)) = _
  rw [List.length_map]
theorem m2_ixA {m m' : S → R Opd} {st st' : S} {r : Slot} (h : m2 gIx m m' st = .ok r st') : m2 gIxA m m' st = .ok r st' := by
  unfold m2 at h ⊢
  cases q1 : m st with
  | bad =>
    rw [q1] at h
    cases h
  | ok x st1 =>
    simp only [q1] at h ⊢
    cases q2 : m' st1 with
    | bad =>
      simp only [q2] at h
      cases h
    | ok y st2 =>
      simp only [q2] at h ⊢
      split at h
      · rename_i hs
        rw [if_pos hs]
        cases dx : x.d with
        | dict kvs =>
          rw [dx] at h
          cases h
        | _ =>
          rw [dx] at h
          exact h
      · cases h
theorem m2_inA {b : Bool} {m m' : S → R Opd} {st st' : S} {r : Slot} (h : m2 (gIn b) m m' st = .ok r st') : m2 (gInA b) m m' st = .ok r st' := by
  unfold m2 at h ⊢
  cases q1 : m st with
  | bad =>
    rw [q1] at h
    cases h
  | ok x st1 =>
    simp only [q1] at h ⊢
    cases q2 : m' st1 with
    | bad =>
      simp only [q2] at h
      cases h
    | ok y st2 =>
      simp only [q2] at h ⊢
      split at h
      · rename_i hs
        rw [if_pos hs]
        cases dy : y.d with
        | dict kvs =>
          rw [dy] at h
          cases h
        | _ =>
          rw [dy] at h
          exact h
      · cases h
theorem ev_ixA {m m' : S → R Opd} {c : M α} {w : Wf} (h : Ev (m2 gIx m m') ρ c e w) : Ev (m2 gIxA m m') ρ c e w := fun ss src r src' hs hr => by
  obtain ⟨x, ss1, h1, h2⟩ := h ss src r src' hs hr
  exact ⟨x, ss1, m2_ixA h1, h2⟩
theorem ev_inA {b : Bool} {m m' : S → R Opd} {c : M α} {w : Wf} (h : Ev (m2 (gIn b) m m') ρ c e w) : Ev (m2 (gInA b) m m') ρ c e w := fun ss src r src' hs hr => by
  obtain ⟨x, ss1, h1, h2⟩ := h ss src r src' hs hr
  exact ⟨x, ss1, m2_inA h1, h2⟩
/-! reckoning -/
section
variable [DecidableEq κ]
theorem getM_put (kvs : List (κ × α)) (k : κ) (v : α) (k' : κ) : getM (putM kvs k v) k' = if k' = k then some v else getM kvs k' := by
  have find_map : ∀ kvs : List (κ × α), (kvs.any fun p => decide (p.1 = k)) = true → getM (kvs.map fun p => if p.1 = k then (p.1, v) else p) k' = if k' = k then some v else getM kvs k' := by
    intro kvs
    induction kvs with
    | nil => intro h; cases h
    | cons p kvs ih =>
      intro h
      unfold getM at ih ⊢
      rw [List.map_cons, List.find?_cons, List.find?_cons]
      by_cases q : p.1 = k
      · rw [if_pos q]
        by_cases q2 : k' = k
        · simp [q, q2]
        · have q3 : ¬ p.1 = k' := fun z => q2 (by rw [← z, q])
          simp only [q3, decide_false, if_neg q2]
          by_cases hh : (kvs.any fun p => decide (p.1 = k)) = true
          · rw [ih hh, if_neg q2]
          · congr 2
            refine (List.map_congr_left fun x hx => ?_).trans (List.map_id' _)
            rw [if_neg fun z => hh (List.any_eq_true.mpr ⟨x, hx, decide_eq_true z⟩)]
      · rw [if_neg q]
        rw [List.any_cons, decide_eq_false q, Bool.false_or] at h
        by_cases q3 : p.1 = k'
        · have q2 : ¬ k' = k := fun z => q (q3.trans z)
          simp [q3, q2]
        · simp only [q3, decide_false]
          exact ih h
  unfold putM
  split
  · rename_i h
    exact find_map kvs h
  · rename_i h
    unfold getM
    rw [List.find?_append]
    by_cases q : k' = k
    · subst q
      have : kvs.find? (fun p => decide (p.1 = k')) = none := List.find?_eq_none.mpr fun x hx z => h (List.any_eq_true.mpr ⟨x, hx, z⟩)
      rw [this, if_pos rfl]
      simp
    · rw [if_neg q]
      have q' : ¬ k = k' := fun z => q z.symm
      simp [q']
theorem putM_len (kvs : List (κ × α)) (k : κ) (v : α) : (putM kvs k v).length ≤ kvs.length + 1 := by
  unfold putM
  split <;> simp
theorem dputO_of {kvs : List (κ × α)} {k : κ} {v : α} (h : kvs.length + 1 ≤ 16777216) : dputO kvs k v = some (putM kvs k v) := by
  unfold dputO
  rw [if_pos (okLen_of h)]
end
end Td
end
set_option linter.all false
set_option maxRecDepth 100000
/-! Td, part N: what is told of a value's kind. -/
noncomputable section
namespace Td
open PySem PySem.Spec PyProof.Rows L2 Pd PM
theorem op_isc {α : Type} {e : α → PyData} {g : PyData → Option Slot} {b : Bool} (h : ∀ a, g (e a) = some (.v (.bool b))) : Op1 g e eBool .val (fun _ => some b) := fun a r z => by
  cases z
  exact ⟨_, h a, rfl⟩
theorem op_isB : Op2 (gIsB false) eBool eBool eBool .val (fun a b => some (decide (a = b))) := fun a b r z => by
  cases z
  exact ⟨_, rfl, by cases a <;> cases b <;> rfl⟩
theorem op_niB : Op2 (gIsB true) eBool eBool eBool .val (fun a b => some (!decide (a = b))) := fun a b r z => by
  cases z
  exact ⟨_, rfl, by cases a <;> cases b <;> rfl⟩
end Td
end
set_option linter.all false
set_option maxRecDepth 100000
set_option maxHeartbeats 1000000
/-! Nt, part A: nets as rows of pairs: lots of a row of stations, cuts as sums, links taken out; drawn pairs. -/
noncomputable section
namespace Nt
open PySem PySem.Spec PyProof.Rows L2 Pd Td PM K70
def allL (S : List Int) : List (List Int) := S.foldl stepL [[]]
theorem loopS {S : List Int} (h2 : S.length ≤ 8) {cb : List (List Int) → Int → Option (List (List Int))} (hc : ∀ (L : List (List Int)) (x : Int), L.length ≤ 256 → (∀ l ∈ L, l.length ≤ 8) → cb L x = some (stepL L x)) : foldM cb S [[]] = some (allL S) := by
  rw [foldM_eq (f := stepL) (fun i L => L.length = 2 ^ i ∧ ∀ l ∈ L, l.length ≤ i) ⟨rfl, fun l hl => by
    rw [List.mem_singleton.mp hl]
    exact Nat.le_refl 0⟩ ?_]
  · rfl
  · intro i x L hx ⟨q1, q2⟩
    have hi := (List.getElem?_eq_some_iff.mp hx).1
    have hi7 : i < 8 := by omega
    have small : 2 ^ i ≤ 2 ^ 8 := Nat.pow_le_pow_right (by omega) (by omega)
    refine ⟨hc L x (by omega) fun l hl => by have := q2 l hl; omega, by rw [stepL_len, q1, Nat.pow_succ]; omega, fun l hl => ?_⟩
    rcases stepL_mem hl with z | ⟨m, z1, z2⟩
    · have := q2 l z
      omega
    · rw [z2, List.length_append, List.length_singleton]
      have := q2 m z1
      omega
theorem allL_len (S : List Int) : (allL S).length = 2 ^ S.length := by
  unfold allL
  rw [foldl_step_len, List.length_singleton, Nat.one_mul]
theorem allL_few {S : List Int} (h : S.length ≤ 8) : (allL S).length ≤ 256 := by
  rw [allL_len]
  exact Nat.pow_le_pow_right (n := 2) (i := S.length) (j := 8) (by omega) (by omega)
theorem o_chain (a b c : Int) : chainM (some a) (some b) (some c) ltI ltI = some (decide (a < b) && decide (b < c)) := by
  show (bnd (some a) fun a => bnd (some b) fun b => bnd (out (ltI a b)) fun z => cnd z (bnd (some c) fun d => out (ltI b d)) (ret false)) = _
  simp only [o_ret, o_bnd, o_out, o_and, o_or, o_bndS, o_bndB, Td.addI, Td.subI, Td.ltI, Td.gtI, Td.leI', Td.geI, Td.negI, Td.absI, Td.intB, Td.min2, Td.max2, Td.eqV, Td.neV, Td.inV, Td.niV]
  by_cases h : a < b <;> simp [h, cnd_t, cnd_f]
theorem allL_filter (S : List Int) (p : Int → Bool) : S.filter p ∈ allL S := by
  have := fold_in S [[]] [] p (List.mem_singleton.mpr rfl)
  simpa [allL] using this
theorem allL_form {S l : List Int} (nd : S.Nodup) (h : l ∈ allL S) : ∃ p : Int → Bool, l = S.filter p := by
  obtain ⟨m, hm, p, e⟩ := fold_out S [[]] l nd h
  rw [List.mem_singleton.mp hm] at e
  exact ⟨p, by simpa using e⟩
def cr (l : List Int) (e : Int × Int) : Int := if crosses l e = true then 1 else 0
theorem cut_sum (E : List (Int × Int)) (l : List Int) : cutZ E l = (E.map (cr l)).sum := by
  unfold cutZ cutC
  induction E with
  | nil => rfl
  | cons e E ih =>
    rw [List.countP_cons, List.map_cons, List.sum_cons, ← ih]
    unfold cr
    by_cases c : crosses l e = true <;> simp only [c, if_true, if_false, Bool.false_eq_true] <;> omega
theorem cut_perm {E E' : List (Int × Int)} (h : E.Perm E') (l : List Int) : cutZ E l = cutZ E' l := by
  unfold cutZ cutC
  rw [h.countP_eq]
theorem cut_cons (e : Int × Int) (E : List (Int × Int)) (l : List Int) : cutZ (e :: E) l = cr l e + cutZ E l := by
  rw [cut_sum, cut_sum, List.map_cons, List.sum_cons]
theorem cut_app (E E' : List (Int × Int)) (l : List Int) : cutZ (E ++ E') l = cutZ E l + cutZ E' l := by
  unfold cutZ cutC
  rw [List.countP_append]
  omega
def tie (a b : Int) : Int × Int := (min a b, max a b)
theorem cross_tie (l : List Int) (a b : Int) : crosses l (tie a b) = (decide (a ∈ l) != decide (b ∈ l)) := by
  unfold crosses tie
  by_cases h : a ≤ b
  · rw [Int.min_eq_left h, Int.max_eq_right h]
  · rw [Int.min_eq_right (by omega), Int.max_eq_left (by omega)]
    show (decide (b ∈ l) != decide (a ∈ l)) = _
    cases decide (b ∈ l) <;> cases decide (a ∈ l) <;> rfl
theorem idx_perm {α : Type} : ∀ (E : List α) (i : Nat) (x : α), E[i]? = some x → E.Perm (x :: E.eraseIdx i)
  | [], _, _, h => by cases h
  | y :: E, 0, x, h => by
    rw [List.getElem?_cons_zero] at h
    cases h
    exact .refl _
  | y :: E, i + 1, x, h => by
    rw [List.getElem?_cons_succ] at h
    have ih := idx_perm E i x h
    rw [List.eraseIdx_cons_succ]
    exact (ih.cons y).trans (.swap x y _)
theorem two_perm {E : List (Int × Int)} {i j : Nat} {x y : Int × Int} (hij : i ≠ j) (hx : E[i]? = some x) (hy : E[j]? = some y) : ∃ R, E.Perm (x :: y :: R) := by
  have p1 := idx_perm E i x hx
  have m : y ∈ E.eraseIdx i := List.mem_eraseIdx_iff_getElem?.mpr ⟨j, fun z => hij z.symm, hy⟩
  exact ⟨(E.eraseIdx i).erase y, p1.trans ((List.perm_cons_erase m).cons x)⟩
def NetOk (n : Int) (E : List (Int × Int)) : Prop := ∀ q ∈ E, 0 ≤ q.1 ∧ q.1 < q.2 ∧ q.2 < n
theorem least_of {α : Type} (C : List α → Prop) : ∀ (n : Nat) (F : List α), F.length ≤ n → C F → ∃ F, C F ∧ ∀ G, C G → F.length ≤ G.length
  | 0, F, h, c => ⟨F, c, fun G _ => by omega⟩
  | n + 1, F, h, c => by
    by_cases q : ∃ G, C G ∧ G.length < F.length
    · obtain ⟨G, g1, g2⟩ := q
      exact least_of C n G (by omega) g1
    · exact ⟨F, c, fun G g => Nat.le_of_not_lt fun z => q ⟨G, g, z⟩⟩
theorem sum_more {α : Type} {f g : α → Int} {E : List α} {e : α} {d : Int} (he : e ∈ E) (h : ∀ x ∈ E, f x ≤ g x) (hd : f e + d ≤ g e) : (E.map f).sum + d ≤ (E.map g).sum := by
  induction E with
  | nil => cases he
  | cons x E ih =>
    rw [List.map_cons, List.map_cons, List.sum_cons, List.sum_cons]
    have hx := h x List.mem_cons_self
    rcases List.mem_cons.mp he with rfl | m
    · have := sum_le (l := E) (f := f) (g := g) fun y hy => h y (List.mem_cons_of_mem _ hy)
      omega
    · have := ih m fun y hy => h y (List.mem_cons_of_mem _ hy)
      omega
theorem cr_is (l : List Int) (e : Int × Int) : cr l e = if decide (e.1 ∈ l) = decide (e.2 ∈ l) then 0 else 1 := by
  unfold cr crosses
  cases decide (e.1 ∈ l) <;> cases decide (e.2 ∈ l) <;> rfl
theorem fold_tie (a b : Int) : (min a b, max a b) = tie a b := rfl
theorem at_last {α : Type} {xs : List α} (h : 0 < xs.length) (h2 : xs.length ≤ 1000) : at_ xs (-1) = xs[xs.length - 1]? := by
  unfold at_ L2.atI
  have e : ixN xs.length (-1) = some (xs.length - 1) := by
    unfold ixN
    have a : ¬ (0 : Int) ≤ -1 := by decide
    simp only [a, if_false, false_and]
    first
      | rw [if_pos (by omega)]; congr 1; omega
      | (simp; omega)
  rw [e]
  rfl
theorem sort_two {a b n : Int} (ha : 0 ≤ a ∧ a < n) (hb : 0 ≤ b ∧ b < n) (ne : a ≠ b) : ∃ p : Int × Int, two (sortW ltZ [a, b]) = some p ∧ 0 ≤ p.1 ∧ p.1 < p.2 ∧ p.2 < n := by
  rw [sortW_int, srt2]
  by_cases q : a ≤ b
  · rw [if_pos q, if_pos q]
    exact ⟨(a, b), rfl, ha.1, by simp only; omega, hb.2⟩
  · rw [if_neg q, if_neg q]
    exact ⟨(b, a), rfl, hb.1, by simp only; omega, ha.2⟩
theorem sh_nums {L : List Int} (h : ∀ x ∈ L, 0 ≤ x ∧ x ≤ 1000) (hl : L.length ≤ 1000) : ∃ s, reprO (eTup eInt) L = some s :=
  shown (k := 1) (w := 1000 * 11) (sh_tup (k := 0) (w := 10) 1000 (fun x hx => sh_small (h x hx).1 (h x hx).2) hl) (by decide) (by decide)
theorem leastI_same {l m : List Int} (h : ∀ x, x ∈ l ↔ x ∈ m) (hl : l ≠ []) : leastI l = leastI m := by
  have hm : m ≠ [] := fun z => by
    obtain ⟨x, hx⟩ := List.exists_mem_of_ne_nil _ hl
    have := (h x).mp hx
    rw [z] at this
    cases this
  have a := leastI_mem hl
  have b := leastI_mem hm
  have c := leastI_le ((h _).mp a)
  have d := leastI_le ((h _).mpr b)
  omega
theorem srtL_mem {L : List (List Int)} {l : List Int} : l ∈ srtL L ↔ l ∈ L := by
  unfold srtL
  exact List.mem_mergeSort
/-- rows put one behind another, some of them empty -/
theorem foldM_cat {β γ : Type} {cb : List β → γ → Option (List β)} {f : γ → List β} {xs : List γ} (hl : xs.length ≤ 100000) (hf : ∀ x ∈ xs, (f x).length ≤ 100) (hc : ∀ (b : List β) x, x ∈ xs → b.length ≤ 16000000 → cb b x = some (b ++ f x)) : foldM cb xs [] = some (xs.flatMap f) := by
  have key : ∀ (ys : List γ) (b : List β), (∀ y ∈ ys, y ∈ xs) → b.length + 100 * ys.length ≤ 10000000 → foldM cb ys b = some (b ++ ys.flatMap f) := by
    intro ys
    induction ys with
    | nil =>
      intro b _ _
      unfold foldM
      simp
      rfl
    | cons y ys ih =>
      intro b hy hb
      rw [List.length_cons] at hb
      have h1 := hf y (hy y List.mem_cons_self)
      unfold foldM
      rw [hc b y (hy y List.mem_cons_self) (by omega), o_bnd, ih _ (fun z hz => hy z (List.mem_cons_of_mem _ hz)) (by rw [List.length_append]; omega), List.flatMap_cons, List.append_assoc]
  have := key xs [] (fun _ h => h) (by simp; omega)
  simpa using this
end Nt
end
set_option linter.all false
set_option maxRecDepth 100000
set_option maxHeartbeats 1000000
/-! Nt, part B: links at a station, links told by numbers, rows put together. -/
noncomputable section
namespace Nt
open PySem PySem.Spec PyProof.Rows L2 Pd Td PM K70
/-- the ends at a station -/
def at_st (st : Int) (q : Int × Int) : Bool := decide (st ∈ [q.1, q.2])
def endsL (E : List (Int × Int)) (st : Int) : List (Int × Int) := ((enumL E).filter fun q => at_st st q.2).map fun q => (q.1, [q.2.1, q.2.2].sum - st)
theorem ends_mem {E : List (Int × Int)} {st : Int} {q : Int × Int} : q ∈ endsL E st ↔ ∃ (i : Nat) (e : Int × Int), E[i]? = some e ∧ at_st st e = true ∧ q = ((i : Int), e.1 + e.2 - st) := by
  unfold endsL
  rw [List.mem_map]
  constructor
  · rintro ⟨p, hp, rfl⟩
    obtain ⟨p1, p2⟩ := List.mem_filter.mp hp
    obtain ⟨i, e1, e2, e3⟩ := enumL_mem p1
    refine ⟨i, p.2, e3, p2, ?_⟩
    rw [e1]
    simp
  · rintro ⟨i, e, e1, e2, rfl⟩
    refine ⟨((i : Int), e), List.mem_filter.mpr ⟨?_, e2⟩, by simp⟩
    unfold enumL
    refine List.mem_map.mpr ⟨(e, i), ?_, rfl⟩
    exact List.mk_mem_zipIdx_iff_getElem?.mpr e1
theorem end_tie {n st : Int} {e : Int × Int} (h : e.1 < e.2) (hs : at_st st e = true) : e = tie st (e.1 + e.2 - st) ∧ e.1 + e.2 - st ≠ st := by
  obtain ⟨a, b⟩ := e
  unfold at_st at hs
  simp only [List.mem_cons, List.mem_nil_iff, or_false, decide_eq_true_eq] at hs h ⊢
  unfold tie
  rcases hs with rfl | rfl
  · refine ⟨Prod.ext ?_ ?_, ?_⟩ <;> (try simp only) <;> omega
  · refine ⟨Prod.ext ?_ ?_, ?_⟩ <;> (try simp only) <;> omega
def oe (st : Int) (e : Int × Int) : Int := e.1 + e.2 - st
def atI (st : Int) (e : Int × Int) : Int := if at_st st e = true then 1 else 0
def dI (st : Int) (l : List Int) (e : Int × Int) : Int := if at_st st e = true ∧ oe st e ∈ l then 1 else 0
theorem deg_is (E : List (Int × Int)) (st : Int) : ((endsL E st).length : Int) = (E.map (atI st)).sum := by
  unfold endsL
  rw [List.length_map]
  have : ∀ (E : List (Int × Int)) (j : Nat), (((E.zipIdx j).map fun q => ((q.2 : Int), q.1)).filter fun q => at_st st q.2).length = E.countP (at_st st) := by
    intro E
    induction E with
    | nil => intro j; rfl
    | cons e E ih =>
      intro j
      rw [List.zipIdx_cons, List.map_cons, List.countP_cons]
      by_cases c : at_st st e = true
      · simp only [List.filter_cons, c, if_true]
        rw [List.length_cons, ih]
      · simp only [List.filter_cons, c, if_false, Bool.false_eq_true]
        rw [ih]
        rfl
  unfold enumL
  rw [this E 0]
  induction E with
  | nil => rfl
  | cons e E ih =>
    rw [List.countP_cons, List.map_cons, List.sum_cons, ← ih]
    unfold atI
    by_cases c : at_st st e = true <;> simp only [c, if_true, if_false, Bool.false_eq_true] <;> omega
def leftL (E : List (Int × Int)) (k m : Int) : List (Int × Int) := ((enumL E).filter fun q => !decide (q.1 ∈ [k, m])).map (·.2)
theorem enum_mem {E : List (Int × Int)} {q : Int × Int × Int} : q ∈ enumL E ↔ ∃ i : Nat, q.1 = (i : Int) ∧ E[i]? = some q.2 := by
  constructor
  · intro h
    obtain ⟨i, e1, _, e3⟩ := enumL_mem h
    exact ⟨i, e1, e3⟩
  · rintro ⟨i, e1, e3⟩
    unfold enumL
    exact List.mem_map.mpr ⟨(q.2, i), List.mk_mem_zipIdx_iff_getElem?.mpr e3, Prod.ext e1.symm rfl⟩
theorem enum_nodup (E : List (Int × Int)) : (enumL E).Nodup := by
  have h1 : ((enumL E).map (·.1)).Nodup := by
    have : (enumL E).map (·.1) = (List.range E.length).map fun i => ((i : Nat) : Int) := by
      unfold enumL
      rw [List.map_map]
      apply List.ext_getElem?
      intro j
      simp only [List.getElem?_map, List.getElem?_zipIdx, List.getElem?_range]
      cases h : E[j]? with
      | none =>
        have := List.getElem?_eq_none_iff.mp h
        rw [List.getElem?_eq_none (by simpa using this)]
        rfl
      | some e =>
        have := (List.getElem?_eq_some_iff.mp h).1
        rw [List.getElem?_range this]
        simp
    rw [this]
    exact List.Pairwise.map _ (fun a b hab z => hab (by omega)) List.nodup_range
  exact List.Pairwise.of_map (S := fun a b : Int => a ≠ b) (·.1) (fun a b h z => h (congrArg (·.1) z)) h1
theorem enum_snd (E : List (Int × Int)) : (enumL E).map (·.2) = E := by
  unfold enumL
  rw [List.map_map]
  exact List.zipIdx_map_fst 0 E
theorem left_perm {E : List (Int × Int)} {i j : Nat} {x y : Int × Int} (hij : i ≠ j) (hx : E[i]? = some x) (hy : E[j]? = some y) : E.Perm (x :: y :: leftL E i j) := by
  have p1 := (List.filter_append_perm (fun q : Int × Int × Int => decide (q.1 ∈ [(i : Int), (j : Int)])) (enumL E)).map (·.2)
  rw [List.map_append, enum_snd] at p1
  have p2 : ((enumL E).filter fun q => decide (q.1 ∈ [(i : Int), (j : Int)])).Perm [((i : Int), x), ((j : Int), y)] := by
    refine (List.perm_ext_iff_of_nodup ((enum_nodup E).filter _) ?_).mpr fun q => ?_
    · simp
      omega
    · rw [List.mem_filter, enum_mem]
      simp only [List.mem_cons, List.mem_nil_iff, or_false, decide_eq_true_eq]
      constructor
      · rintro ⟨⟨t, t1, t2⟩, h⟩
        rcases h with h | h
        · have : t = i := by omega
          subst this
          rw [hx] at t2
          injection t2 with t2
          exact .inl (Prod.ext h t2.symm)
        · have : t = j := by omega
          subst this
          rw [hy] at t2
          injection t2 with t2
          exact .inr (Prod.ext h t2.symm)
      · rintro (rfl | rfl)
        · exact ⟨⟨i, rfl, hx⟩, .inl rfl⟩
        · exact ⟨⟨j, rfl, hy⟩, .inr rfl⟩
  have p3 := p2.map (·.2)
  exact (p1.symm.trans (p3.append_right _))
theorem d_foldM_cat {β γ : Type} {cb : List β → γ → DM (List β)} {f : γ → List β} {xs : List γ} (hl : xs.length ≤ 100000) (hf : ∀ x ∈ xs, (f x).length ≤ 100) (hc : ∀ (b : List β) x, x ∈ xs → b.length ≤ 16000000 → cb b x = ret (b ++ f x)) : (foldM cb xs [] : DM (List β)) = ret (xs.flatMap f) := by
  have key : ∀ (ys : List γ) (b : List β), (∀ y ∈ ys, y ∈ xs) → b.length + 100 * ys.length ≤ 10000000 → (foldM cb ys b : DM (List β)) = ret (b ++ ys.flatMap f) := by
    intro ys
    induction ys with
    | nil =>
      intro b _ _
      unfold foldM
      simp
    | cons y ys ih =>
      intro b hy hb
      rw [List.length_cons] at hb
      have h1 := hf y (hy y List.mem_cons_self)
      unfold foldM
      rw [hc b y (hy y List.mem_cons_self) (by omega), d_bnd, ih _ (fun z hz => hy z (List.mem_cons_of_mem _ hz)) (by rw [List.length_append]; omega), List.flatMap_cons, List.append_assoc]
  have := key xs [] (fun _ h => h) (by simp; omega)
  simpa using this
end Nt
end
set_option linter.all false
set_option maxRecDepth 100000
set_option maxHeartbeats 4000000
noncomputable section
namespace K70
open PySem PySem.Spec PyProof.Rows L2 Pd
theorem only_one {α : Type} {l : List α} {x : α} (nd : l.Nodup) (hx : x ∈ l) (h : ∀ a ∈ l, a = x) : l = [x] := by
  cases l with
  | nil => cases hx
  | cons a l =>
    have ha := h a List.mem_cons_self
    subst ha
    cases l with
    | nil => rfl
    | cons b l =>
      have hb := h b (List.mem_cons_of_mem _ List.mem_cons_self)
      subst hb
      exact absurd List.mem_cons_self (List.nodup_cons.mp nd).1
def lenZ (l : List Int) : Int := (l.length : Nat)
def sizeN (n : Int) (E : List (Int × Int)) (T : List Int) (t : Int) : Int := leastI ((leastS n E T t).map lenZ)
def smallS (n : Int) (E : List (Int × Int)) (T : List Int) (t : Int) : List (List Int) := (leastS n E T t).filter fun l => decide (lenZ l = sizeN n E T t)
section
variable {n : Int} {E : List (Int × Int)} {T : List Int} (td : Td n T) (ok : Ok n E)
include td ok
theorem small_one {t : Int} (ht : t ∈ T) : ∃ X, smallS n E T t = [X] ∧ X ∈ leastS n E T t ∧ lenZ X = sizeN n E T t ∧ ∀ A ∈ leastS n E T t, ∀ x ∈ X, x ∈ A := by
  have hs : sizeN n E T t ∈ (leastS n E T t).map lenZ := leastI_mem fun e => leastS_ne td ht (List.map_eq_nil_iff.mp e)
  obtain ⟨X, h1, h2⟩ := List.mem_map.mp hs
  have fX := lots_form (abL_mem.mp (leastS_mem.mp h1).1).1
  have inA : ∀ A ∈ leastS n E T t, ∀ x ∈ X, x ∈ A := fun A hA x hx => by
    have hi := least_inter td ok ht h1 hA
    have e : ((rngL n).filter fun x => decide (x ∈ X) && decide (x ∈ A)) = X.filter fun x => decide (x ∈ A) := by
      conv => rhs; rw [fX]
      rw [List.filter_filter]
      exact List.filter_congr fun x _ => Bool.and_comm _ _
    rw [e] at hi
    have hl : sizeN n E T t ≤ lenZ (X.filter fun x => decide (x ∈ A)) := leastI_le (List.mem_map.mpr ⟨_, hi, rfl⟩)
    apply Classical.byContradiction
    intro no
    have lt := (List.length_filter_lt_length_iff_exists (p := fun x => decide (x ∈ A)) (l := X)).mpr ⟨x, hx, by simpa using no⟩
    unfold lenZ at hl h2
    omega
  refine ⟨X, only_one ?_ ?_ ?_, h1, h2, inA⟩
  · unfold smallS leastS abL
    exact (((lotsG_nodup n).filter _).filter _).filter _
  · exact List.mem_filter.mpr ⟨h1, decide_eq_true h2⟩
  · intro A hA
    obtain ⟨a1, a2⟩ := List.mem_filter.mp hA
    have a2 := of_decide_eq_true a2
    have lA := (abL_mem.mp (leastS_mem.mp a1).1).1
    refine lots_ext lA (abL_mem.mp (leastS_mem.mp h1).1).1 fun x => ⟨fun hx => ?_, inA A a1 x⟩
    apply Classical.byContradiction
    intro no
    have fA := lots_form lA
    have e : X = A.filter fun x => decide (x ∈ X) := by
      conv => rhs; rw [fA]
      rw [List.filter_filter]
      conv => lhs; rw [fX]
      refine List.filter_congr fun y _ => ?_
      by_cases z : y ∈ X
      · simp [z, inA A a1 y z]
      · simp [z]
    have lt := (List.length_filter_lt_length_iff_exists (p := fun x => decide (x ∈ X)) (l := A)).mpr ⟨x, hx, by simpa using no⟩
    rw [← e] at lt
    unfold lenZ at a2 h2
    omega
/-- the smallest lots of two told stations have nothing in common -/
theorem small_apart {t u : Int} (ht : t ∈ T) (hu : u ∈ T) (ne : t ≠ u) {X Y : List Int} (hX : X ∈ leastS n E T t) (hY : Y ∈ leastS n E T u) (minX : ∀ A ∈ leastS n E T t, ∀ x ∈ X, x ∈ A) : ∀ x ∈ X, x ∉ Y := by
  obtain ⟨a1, a2⟩ := leastS_mem.mp hX
  obtain ⟨b1, b2⟩ := leastS_mem.mp hY
  have a5 := (about_iff td.nd ht).mp (abL_mem.mp a1).2
  have b5 := (about_iff td.nd hu).mp (abL_mem.mp b1).2
  have i1 : ((rngL n).filter fun x => decide (x ∈ X) && !decide (x ∈ Y)) ∈ abL n T t := abL_mem.mpr ⟨lots_all n _, (about_iff td.nd ht).mpr fun v hv => by
    simp only [List.mem_filter, rngL_mem, Bool.and_eq_true, decide_eq_true_eq, Bool.not_eq_true', decide_eq_false_iff_not]
    rw [a5 v hv, b5 v hv]
    exact ⟨fun h => h.2.1, fun h => ⟨td.at_ v hv, h, fun w => ne (h.symm.trans w)⟩⟩⟩
  have i2 : ((rngL n).filter fun x => !decide (x ∈ X) && decide (x ∈ Y)) ∈ abL n T u := abL_mem.mpr ⟨lots_all n _, (about_iff td.nd hu).mpr fun v hv => by
    simp only [List.mem_filter, rngL_mem, Bool.and_eq_true, decide_eq_true_eq, Bool.not_eq_true', decide_eq_false_iff_not]
    rw [a5 v hv, b5 v hv]
    exact ⟨fun h => h.2.2, fun h => ⟨td.at_ v hv, fun w => ne (w.symm.trans h), h⟩⟩⟩
  have m1 := least_le (E := E) i1
  have m2 := least_le (E := E) i2
  have l1 : ((rngL n).filter fun x => decide (x ∈ X) && !decide (x ∈ Y)) ∈ leastS n E T t := by
    refine leastS_mem.mpr ⟨i1, ?_⟩
    unfold cutZ at *
    rw [cnt_cut ok X Y X (fun a _ => a) (fun x _ _ => rfl)] at a2
    rw [cnt_cut ok X Y Y (fun _ b => b) (fun x _ _ => rfl)] at b2
    have ci := cnt_cut ok X Y ((rngL n).filter fun x => decide (x ∈ X) && !decide (x ∈ Y)) (fun a b => a && !b) (fun x h1 h2 => by
      rw [Bool.eq_iff_iff, decide_eq_true_eq, List.mem_filter, rngL_mem]
      exact ⟨fun h => h.2, fun h => ⟨⟨h1, h2⟩, h⟩⟩)
    have cu := cnt_cut ok X Y ((rngL n).filter fun x => !decide (x ∈ X) && decide (x ∈ Y)) (fun a b => !a && b) (fun x h1 h2 => by
      rw [Bool.eq_iff_iff, decide_eq_true_eq, List.mem_filter, rngL_mem]
      exact ⟨fun h => h.2, fun h => ⟨⟨h1, h2⟩, h⟩⟩)
    rw [ci] at m1 ⊢
    rw [cu] at m2
    have I2 := cnt4_id X Y (f1 := fun a b c d => a != c) (f2 := fun a b c d => b != d) (f3 := fun a b c d => (a && !b) != (c && !d)) (f4 := fun a b c d => (!a && b) != (!c && d)) (f5 := fun a b c d => ((a == true && b == true) && (c == false && d == false)) || ((a == false && b == false) && (c == true && d == true))) (by decide) E
    omega
  intro x hx hy
  have := minX _ l1 x hx
  rw [List.mem_filter] at this
  simp [hx, hy] at this
end
/-! ### parity -/
def degN (E : List (Int × Int)) (v : Int) : Nat := E.countP fun p => decide (v = p.1) || decide (v = p.2)
theorem sum_ind : ∀ (l : List Int) (a b : Int), l.Nodup → a ≠ b → (l.map fun v => (decide (v = a) || decide (v = b)).toNat).sum = (decide (a ∈ l)).toNat + (decide (b ∈ l)).toNat
  | [], a, b, _, _ => by simp
  | x :: l, a, b, nd, ne => by
    obtain ⟨nx, nd'⟩ := List.nodup_cons.mp nd
    have ih := sum_ind l a b nd' ne
    rw [List.map_cons, List.sum_cons, ih]
    by_cases h1 : x = a
    · subst h1
      have h2 : x ≠ b := ne
      simp [nx, h2, Ne.symm h2] <;> omega
    · by_cases h2 : x = b
      · subst h2
        simp [nx, h1, Ne.symm h1] <;> omega
      · simp [h1, h2, Ne.symm h1, Ne.symm h2]
theorem deg_sum (l : List Int) (nd : l.Nodup) : ∀ E : List (Int × Int), (∀ p ∈ E, p.1 ≠ p.2) → (l.map (degN E)).sum = (E.map fun p => (decide (p.1 ∈ l)).toNat + (decide (p.2 ∈ l)).toNat).sum
  | [], _ => by
    have : ∀ m : List Int, (m.map (degN [])).sum = 0 := fun m => by
      induction m with
      | nil => rfl
      | cons a m ih =>
        rw [List.map_cons, List.sum_cons, ih]
        rfl
    rw [this]
    rfl
  | p :: E, h => by
    have ih := deg_sum l nd E fun q hq => h q (List.mem_cons_of_mem _ hq)
    have s := sum_ind l p.1 p.2 nd (h p List.mem_cons_self)
    rw [List.map_cons, List.sum_cons, ← ih, ← s]
    clear ih s nd
    induction l with
    | nil => rfl
    | cons v l ih =>
      simp only [List.map_cons, List.sum_cons, ih]
      have : degN (p :: E) v = degN E v + (decide (v = p.1) || decide (v = p.2)).toNat := by
        unfold degN
        rw [List.countP_cons]
        cases (decide (v = p.1) || decide (v = p.2)) <;> rfl
      rw [this]
      omega
theorem cut_parity (l : List Int) (nd : l.Nodup) (E : List (Int × Int)) (h : ∀ p ∈ E, p.1 ≠ p.2) : cutC E l % 2 = (l.map (degN E)).sum % 2 := by
  rw [deg_sum l nd E h]
  clear h nd
  unfold cutC
  induction E with
  | nil => rfl
  | cons p E ih =>
    rw [List.countP_cons, List.map_cons, List.sum_cons]
    unfold crosses at ih ⊢
    cases decide (p.1 ∈ l) <;> cases decide (p.2 ∈ l) <;> simp at ih ⊢ <;> omega
theorem even_but {f : Int → Nat} : ∀ {l : List Int} {t : Int}, l.Nodup → t ∈ l → (∀ v ∈ l, v ≠ t → f v % 2 = 0) → (l.map f).sum % 2 = f t % 2
  | [], t, _, h, _ => by cases h
  | a :: l, t, nd, h, k => by
    obtain ⟨na, nd'⟩ := List.nodup_cons.mp nd
    rw [List.map_cons, List.sum_cons]
    by_cases z : a = t
    · subst z
      have : ∀ m : List Int, (∀ v ∈ m, f v % 2 = 0) → (m.map f).sum % 2 = 0 := fun m => by
        induction m with
        | nil => intro _; rfl
        | cons b m ih =>
          intro hm
          rw [List.map_cons, List.sum_cons]
          have := hm b List.mem_cons_self
          have := ih fun v hv => hm v (List.mem_cons_of_mem _ hv)
          omega
      have := this l fun v hv => k v (List.mem_cons_of_mem _ hv) fun e => na (by rw [← e]; exact hv)
      omega
    · have := even_but nd' ((List.mem_cons.mp h).resolve_left fun w => z w.symm) fun v hv => k v (List.mem_cons_of_mem _ hv)
      have := k a List.mem_cons_self z
      omega
theorem even_out {f : Int → Nat} (p : Int → Bool) : ∀ l : List Int, (∀ v ∈ l, p v = false → f v % 2 = 0) → (l.map f).sum % 2 = ((l.filter p).map f).sum % 2
  | [], _ => rfl
  | a :: l, k => by
    have ih := even_out p l fun v hv => k v (List.mem_cons_of_mem _ hv)
    rw [List.map_cons, List.sum_cons]
    cases q : p a with
    | true =>
      rw [List.filter_cons_of_pos q, List.map_cons, List.sum_cons]
      omega
    | false =>
      rw [List.filter_cons_of_neg (by rw [q]; exact Bool.false_ne_true)]
      have := k a List.mem_cons_self q
      omega
/-- beside told stations all even: the sum of the told ones' degrees is even -/
theorem told_even {n : Int} {E : List (Int × Int)} {T : List Int} (td : Td n T) (ok : Ok n E) (h : ∀ p ∈ E, p.1 ≠ p.2) (ev : ∀ v, 0 ≤ v → v < n → v ∉ T → degN E v % 2 = 0) : (T.map (degN E)).sum % 2 = 0 := by
  have all := deg_sum (rngL n) (rngL_nodup n) E h
  have two : (E.map fun p => (decide (p.1 ∈ rngL n)).toNat + (decide (p.2 ∈ rngL n)).toNat).sum = 2 * E.length := by
    clear all h ev
    induction E with
    | nil => rfl
    | cons p E ih =>
      rw [List.map_cons, List.sum_cons, ih ⟨fun q hq => ok.at_ q (List.mem_cons_of_mem _ hq)⟩]
      obtain ⟨h1, h2⟩ := ok.at_ p List.mem_cons_self
      rw [decide_eq_true (rngL_mem.mpr h1), decide_eq_true (rngL_mem.mpr h2), List.length_cons]
      show 1 + 1 + _ = _
      omega
  have e := even_out (f := degN E) (fun v => decide (v ∈ T)) (rngL n) fun v hv hp => by
    have := rngL_mem.mp hv
    exact ev v this.1 this.2 (by simpa using hp)
  have pm : ((rngL n).filter fun v => decide (v ∈ T)).Perm T := (List.perm_ext_iff_of_nodup ((rngL_nodup n).filter _) td.nd).mpr fun v => by
    rw [List.mem_filter, decide_eq_true_eq, rngL_mem]
    exact ⟨fun h => h.2, fun h => ⟨td.at_ v h, h⟩⟩
  have s : (((rngL n).filter fun v => decide (v ∈ T)).map (degN E)).sum = (T.map (degN E)).sum := (pm.map _).sum_nat
  omega
end K70
end
set_option linter.all false
set_option maxRecDepth 100000
set_option maxHeartbeats 0
/-! the walk of this law, printed by gen.py -/
noncomputable section
namespace K73
open PySem PySem.Spec PyProof.Rows L2 Pd
def top (i : Nat) : Stmt := PySem.Challenge.pw_waysandcuts_k73_whole_split_off_kept.main.body.getD i (.Pass ⟨0, 0, 0, 0⟩)
structure Bl (mg : Str → Option Value) : Prop where
  range : mg "range" = none
  len : mg "len" = none
  min : mg "min" = none
  sum : mg "sum" = none
  sorted : mg "sorted" = none
  tuple : mg "tuple" = none
  enumerate : mg "enumerate" = none
  isinstance : mg "isinstance" = none
  int : mg "int" = none
  bool : mg "bool" = none
  all : mg "all" = none
  list : mg "list" = none
  max : mg "max" = none
  abs : mg "abs" = none
  repr : mg "repr" = none
abbrev st_lots_of_numbers : Stmt := top 9
def m_lots_of_numbers : S → RS := (sSeq (sSet 1 (mLst (mCons (mF (mTup mNil)) mNil)))
  (sSeq (sFor (jRg (mCons (mF (mVar 0)) mNil)) (gN 2) (sSet 1 (m2 gAdd (mPk 1) (mO (mLc (jSeq (mF (mVar 1))) [3] (gN 3) tYesM (mF (mTup (mStar (mPk 3) (mCons (mF (mVar 2)) mNil)))))))))
  (sRet (mMv 1))))
def g_lots_of_numbers : GFn := gOf 4 m_lots_of_numbers
abbrev st_is_about : Stmt := top 11
def m_is_about : S → RS := (sRet (m2 gEq (mO (mLc (jSeq (mF (mVar 0))) [3] (gN 3) (mB (m2 (gInA false) (mPk 3) (mPk 2))) (mF (mVar 3)))) (mO (mLst (mCons (mF (mVar 1)) mNil)))))
def g_is_about : GFn := gOf 4 m_is_about
abbrev st_lots_about : Stmt := top 12
def m_lots_about : S → RS := (sRet (mLc (jSeq (mF (mCall g_lots_of_numbers (xCons (mF (m2 gIxA (mPk 0) (mO (mC (.int 0))))) xNil)))) [3] (gN 3) (mB (mCall g_is_about (xCons (mF (mVar 1)) (xCons (mF (mVar 2)) (xCons (mF (mVar 3)) xNil))))) (mF (mVar 3))))
def g_lots_about : GFn := gOf 4 m_lots_about
abbrev st_links_in_cut : Stmt := top 10
def m_links_in_cut : S → RS := (sRet (m1 gLen (mO (mLc (jSeq (mF (m2 gIxA (mPk 0) (mO (mC (.int 1)))))) [2, 3] (gTp (gCn (gN 2) (gCn (gN 3) gNl))) (mB (m2 gNe (mO (m2 (gInA false) (mPk 2) (mPk 1))) (mO (m2 (gInA false) (mPk 3) (mPk 1))))) (mF (mC (.int 1)))))))
def g_links_in_cut : GFn := gOf 4 m_links_in_cut
abbrev st_least_about : Stmt := top 13
def m_least_about : S → RS := (sRet (m1 gMin (mO (mLc (jSeq (mF (mCall g_lots_about (xCons (mF (mVar 0)) (xCons (mF (mVar 1)) (xCons (mF (mVar 2)) xNil)))))) [3] (gN 3) tYesM (mF (mCall g_links_in_cut (xCons (mF (mVar 0)) (xCons (mF (mVar 3)) xNil))))))))
def g_least_about : GFn := gOf 4 m_least_about
abbrev st_all_least : Stmt := top 14
def m_all_least : S → RS := (sRet (mLc (jSeq (mF (mVar 1))) [2] (gN 2) tYesM (mF (mCall g_least_about (xCons (mF (mVar 0)) (xCons (mF (mVar 1)) (xCons (mF (mVar 2)) xNil)))))))
def g_all_least : GFn := gOf 3 m_all_least
abbrev st_joined_pair : Stmt := top 17
def m_joined_pair : S → RS := (sRet (m1 gTuple (mO (m1 gSorted (mO (mLst (mCons (mF (m2 gSub (mO (m1 gSum (mO (m2 gIxA (mO (m2 gIxA (mPk 0) (mO (mC (.int 1))))) (mPk 2))))) (mPk 1))) (mCons (mF (m2 gSub (mO (m1 gSum (mO (m2 gIxA (mO (m2 gIxA (mPk 0) (mO (mC (.int 1))))) (mPk 3))))) (mPk 1))) mNil))))))))
def g_joined_pair : GFn := gOf 4 m_joined_pair
abbrev st_split_net : Stmt := top 18
def m_split_net : S → RS := (sSeq (sSet 4 (mLc (jEnum (mF (m2 gIxA (mPk 0) (mO (mC (.int 1)))))) [7, 8] (gTp (gCn (gN 7) (gCn (gN 8) gNl))) (mB (m2 (gInA true) (mPk 7) (mO (mTup (mCons (mF (mVar 2)) (mCons (mF (mVar 3)) mNil)))))) (mF (mVar 8))))
  (sSeq (sAsg (mF (mCall g_joined_pair (xCons (mF (mVar 0)) (xCons (mF (mVar 1)) (xCons (mF (mVar 2)) (xCons (mF (mVar 3)) xNil)))))) (gTp (gCn (gN 5) (gCn (gN 6) gNl))))
  (sRet (mTup (mCons (mF (m2 gIxA (mPk 0) (mO (mC (.int 0))))) (mCons (mF (m1 gTuple (mO (m1 gSorted (mO (mIf (mB (m2 gNe (mPk 5) (mPk 6))) (m2 gAdd (mPk 4) (mO (mLst (mCons (mF (mTup (mCons (mF (mVar 5)) (mCons (mF (mVar 6)) mNil)))) mNil)))) (mVar 4))))))) mNil))))))
def g_split_net : GFn := gOf 9 m_split_net
abbrev st_is_number : Stmt := top 5
def m_is_number : S → RS := (sRet (mAndV (m1 gIsInt (mPk 0)) (mAndV (mNotV (m1 gIsBool (mPk 0))) (m2 gGe (mPk 0) (mO (mC (.int 0)))))))
def g_is_number : GFn := gOf 1 m_is_number
abbrev st_is_station : Stmt := top 6
def m_is_station : S → RS := (sRet (mAndV (mCall g_is_number (xCons (mF (mVar 1)) xNil)) (m2 gLt (mPk 1) (mO (m2 gIxA (mPk 0) (mO (mC (.int 0))))))))
def g_is_station : GFn := gOf 2 m_is_station
abbrev st_links_at : Stmt := top 7
def m_links_at : S → RS := (sSeq (sIf (mNot (mB (mCall g_is_station (xCons (mF (mVar 0)) (xCons (mF (mVar 1)) xNil))))) (fun st => .bad) sNil)
  (sRet (m1 gTuple (mO (mLc (jEnum (mF (m2 gIxA (mPk 0) (mO (mC (.int 1)))))) [2, 3] (gTp (gCn (gN 2) (gCn (gN 3) gNl))) (mB (m2 (gInA false) (mPk 1) (mPk 3))) (mF (mVar 2)))))))
def g_links_at : GFn := gOf 4 m_links_at
abbrev st_kept_splits : Stmt := top 19
def m_kept_splits : S → RS := (sSeq (sPar3 3 4 5 (mCall g_all_least (xCons (mF (mVar 0)) (xCons (mF (mVar 1)) xNil))) (mCall g_links_at (xCons (mF (mVar 0)) (xCons (mF (mVar 2)) xNil))) (mLst mNil))
  (sSeq (sFor (jSeq (mF (mVar 4))) (gN 6) (sFor (jSeq (mF (mVar 4))) (gN 7) (sIf (mAnd (mB (m2 gLt (mPk 6) (mPk 7))) (mB (m2 gEq (mO (mCall g_all_least (xCons (mF (mCall g_split_net (xCons (mF (mVar 0)) (xCons (mF (mVar 2)) (xCons (mF (mVar 6)) (xCons (mF (mVar 7)) xNil)))))) (xCons (mF (mVar 1)) xNil)))) (mPk 3)))) (sDrop (mMut gApp 5 (mCons (mF (mTup (mCons (mF (mVar 6)) (mCons (mF (mVar 7)) mNil)))) mNil))) sNil)))
  (sRet (m1 gTuple (mPk 5)))))
def g_kept_splits : GFn := gOf 8 m_kept_splits
abbrev st_law_split : Stmt := top 30
def m_law_split : S → RS := (sSeq (sAsg (mF (m1 gSorted (mO (mLst (mCons (mF (m2 gSub (mO (m1 gSum (mO (m2 gIxA (mO (m2 gIxA (mPk 0) (mO (mC (.int 1))))) (mPk 2))))) (mPk 1))) (mCons (mF (m2 gSub (mO (m1 gSum (mO (m2 gIxA (mO (m2 gIxA (mPk 0) (mO (mC (.int 1))))) (mPk 3))))) (mPk 1))) mNil)))))) (gTp (gCn (gN 4) (gCn (gN 5) gNl))))
  (sSeq (sSet 6 (m2 gAdd (mO (mLc (jEnum (mF (m2 gIxA (mPk 0) (mO (mC (.int 1)))))) [7, 8] (gTp (gCn (gN 7) (gCn (gN 8) gNl))) (mB (m2 (gInA true) (mPk 7) (mO (mTup (mCons (mF (mVar 2)) (mCons (mF (mVar 3)) mNil)))))) (mF (mVar 8)))) (mO (m2 gMul (mO (mLst (mCons (mF (mTup (mCons (mF (mVar 4)) (mCons (mF (mVar 5)) mNil)))) mNil))) (mO (m1 gInt (mO (m2 gNe (mPk 4) (mPk 5)))))))))
  (sRet (mTup (mCons (mF (m2 gIxA (mPk 0) (mO (mC (.int 0))))) (mCons (mF (m1 gTuple (mO (m1 gSorted (mPk 6))))) mNil))))))
def g_law_split : GFn := gOf 9 m_law_split
abbrev st_is_even_beside : Stmt := top 15
def m_is_even_beside : S → RS := (sSeq (sSet 2 (mLc (jRg (mCons (mF (m2 gIxA (mPk 0) (mO (mC (.int 0))))) mNil)) [3] (gN 3) (mB (m2 (gInA true) (mPk 3) (mPk 1))) (mF (mVar 3))))
  (sRet (m1 gAll (mO (mLc (jSeq (mF (mVar 2))) [3] (gN 3) tYesM (mF (m2 gEq (mO (m2 gMod (mO (m1 gLen (mO (mLc (jSeq (mF (m2 gIxA (mPk 0) (mO (mC (.int 1)))))) [4] (gN 4) (mB (m2 (gInA false) (mPk 3) (mPk 4))) (mF (mC (.int 1))))))) (mO (mC (.int 2))))) (mO (mC (.int 0))))))))))
def g_is_even_beside : GFn := gOf 5 m_is_even_beside
abbrev st_law_pick : Stmt := top 22
def m_law_pick : S → RS := (sSeq (sIf (mB (m2 gLt (mPk 1) (mO (mC (.int 2))))) (sRet (mC (.int 0))) sNil)
  (sSeq (sSet 2 (mCel (mVar 0)))
  (sSeq (sWhile (mAnd (mB (m2 gLt (mO (mGetS Src.left (mVar 0))) (mO (mC (.int 2))))) (mB (m2 gGt (mO (mCelLen (mVar 2))) (mO (mC (.int 0)))))) (sPutS uLeft (mVar 0) (mF (mCelPop (mVar 2)))))
  (sSeq (sSet 3 (mGetS Src.left (mVar 0)))
  (sSeq (sIf (mB (m2 gGt (mPk 3) (mO (mC (.int 1))))) (sSeq (sPutS uLeft (mVar 0) (mF (m2 gDiv (mPk 3) (mPk 1))))
  (sRet (m2 gMod (mO (m1 gInt (mPk 3))) (mPk 1)))) sNil)
  (sSeq (sPutS uTurn (mVar 0) (mF (m2 gAdd (mO (mGetS Src.turn (mVar 0))) (mO (mC (.int 1))))))
  (sSeq (sSet 4 (mGetS Src.turn (mVar 0)))
  (sSeq (sSet 5 (m2 gMod (mO (m1 gInt (mO (m2 gAdd (mO (mGetS Src.mixed (mVar 0))) (mO (m2 gMul (mPk 4) (mO (mC (.int 104729))))))))) (mO (mC (.int 998244353)))))
  (sSeq (sSet 5 (m2 gMod (mO (m1 gInt (mO (m2 gAdd (mO (m2 gMul (mPk 5) (mPk 5))) (mO (m2 gMul (mPk 4) (mO (mC (.int 17))))))))) (mO (mC (.int 2147483647)))))
  (sRet (m2 gMod (mO (m1 gInt (mO (m2 gDiv (mPk 5) (mO (mC (.int 16))))))) (mPk 1))))))))))))
def g_law_pick : GFn := gOf 6 m_law_pick
abbrev st_law_of : Stmt := top 24
def m_law_of : S → RS := (sRet (m2 gIxA (mPk 1) (mO (mCall g_law_pick (xSrc 0 (xCons (mF (m1 gLen (mPk 1))) xNil))))))
def g_law_of : GFn := gOf 2 m_law_of
abbrev st_law_cut : Stmt := top 27
def m_law_cut : S → RS := (sRet (m1 gLen (mO (mLc (jSeq (mF (m2 gIxA (mPk 0) (mO (mC (.int 1)))))) [2, 3] (gTp (gCn (gN 2) (gCn (gN 3) gNl))) (mB (m2 gNe (mO (m2 (gInA false) (mPk 2) (mPk 1))) (mO (m2 (gInA false) (mPk 3) (mPk 1))))) (mF (mC (.int 1)))))))
def g_law_cut : GFn := gOf 4 m_law_cut
abbrev st_law_all_lots : Stmt := top 26
def m_law_all_lots : S → RS := (sSeq (sSet 1 (mLst (mCons (mF (mTup mNil)) mNil)))
  (sSeq (sFor (jRg (mCons (mF (mVar 0)) mNil)) (gN 2) (sSet 1 (m2 gAdd (mPk 1) (mO (mLc (jSeq (mF (mVar 1))) [3] (gN 3) tYesM (mF (m2 gAdd (mPk 3) (mO (mTup (mCons (mF (mVar 2)) mNil))))))))))
  (sRet (mMv 1))))
def g_law_all_lots : GFn := gOf 4 m_law_all_lots
abbrev st_law_about : Stmt := top 28
def m_law_about : S → RS := (sSeq (sSet 3 (mLc (jSeq (mF (mCall g_law_all_lots (xCons (mF (m2 gIxA (mPk 0) (mO (mC (.int 0))))) xNil)))) [5] (gN 5) (mB (m2 gEq (mO (mLc (jSeq (mF (mVar 1))) [6] (gN 6) (mB (m2 (gInA false) (mPk 6) (mPk 5))) (mF (mVar 6)))) (mO (mLst (mCons (mF (mVar 2)) mNil))))) (mF (mVar 5))))
  (sSeq (sSet 4 (m1 gMin (mO (mLc (jSeq (mF (mVar 3))) [5] (gN 5) tYesM (mF (mCall g_law_cut (xCons (mF (mVar 0)) (xCons (mF (mVar 5)) xNil))))))))
  (sRet (mTup (mCons (mF (mLc (jSeq (mF (mVar 3))) [5] (gN 5) (mB (m2 gEq (mO (mCall g_law_cut (xCons (mF (mVar 0)) (xCons (mF (mVar 5)) xNil)))) (mPk 4))) (mF (mVar 5)))) (mCons (mF (mVar 4)) mNil))))))
def g_law_about : GFn := gOf 7 m_law_about
abbrev st_law_leasts : Stmt := top 29
def m_law_leasts : S → RS := (sRet (mLc (jSeq (mF (mVar 1))) [2] (gN 2) tYesM (mF (m2 gIxA (mO (mCall g_law_about (xCons (mF (mVar 0)) (xCons (mF (mVar 1)) (xCons (mF (mVar 2)) xNil))))) (mO (mC (.int 1)))))))
def g_law_leasts : GFn := gOf 3 m_law_leasts
abbrev st_law_any_order : Stmt := top 23
def m_law_any_order : S → RS := (sSeq (sSet 2 (m1 gList (mPk 1)))
  (sRet (mLc (jRg (mCons (mF (m1 gLen (mPk 2))) mNil)) [3] (gN 3) tYesM (mF (mMut gPopAt 2 (mCons (mF (mCall g_law_pick (xSrc 0 (xCons (mF (m1 gLen (mPk 2))) xNil)))) mNil))))))
def g_law_any_order : GFn := gOf 4 m_law_any_order
abbrev st_law_net : Stmt := top 25
def m_law_net : S → RS := (sSeq (sSet 4 (m2 gAdd (mO (mC (.int 2))) (mO (mCall g_law_pick (xSrc 0 (xCons (mF (m2 gSub (mPk 1) (mO (mC (.int 1))))) xNil))))))
  (sSeq (sSet 5 (m1 gSorted (mO (mSl (mO (mCall g_law_any_order (xSrc 0 (xCons (mF (mLRg (mRg1 (mVar 4)))) xNil)))) mNoP (mP (m2 gAdd (mO (mC (.int 2))) (mO (mCall g_law_pick (xSrc 0 (xCons (mF (m2 gSub (mPk 4) (mO (mC (.int 1))))) xNil))))))))))
  (sSeq (sSet 6 (mLst mNil))
  (sSeq (sFor (jRg (mCons (mF (mCall g_law_pick (xSrc 0 (xCons (mF (m2 gAdd (mPk 2) (mO (mC (.int 1))))) xNil)))) mNil)) (gN 7) (sSeq (sAsg (mF (m1 gSorted (mO (mSl (mO (mCall g_law_any_order (xSrc 0 (xCons (mF (mLRg (mRg1 (mVar 4)))) xNil)))) mNoP (mP (mC (.int 2))))))) (gTp (gCn (gN 8) (gCn (gN 9) gNl))))
  (sDrop (mMut gApp 6 (mCons (mF (mTup (mCons (mF (mVar 8)) (mCons (mF (mVar 9)) mNil)))) mNil)))))
  (sSeq (sFor (jRg (mCons (mF (mIf (mB (mVar 3)) (mVar 4) (mC (.int 0)))) mNil)) (gN 10) (sSeq (sSet 11 (mLc (jRg (mCons (mF (mVar 4)) mNil)) [14] (gN 14) (mAnd (mB (m2 (gInA true) (mPk 14) (mPk 5))) (mB (m2 gEq (mO (m2 gMod (mO (m1 gInt (mO (m1 gLen (mO (mLcP 6 [15] (gN 15) (mB (m2 (gInA false) (mPk 14) (mPk 15))) (mF (mC (.int 1))))))))) (mO (mC (.int 2))))) (mO (mC (.int 1)))))) (mF (mVar 14))))
  (sIf (mB (m2 (gInA false) (mPk 10) (mPk 11))) (sSeq (sSet 12 (mLc (jSeq (mF (mVar 11))) [14] (gN 14) (mB (m2 gGt (mPk 14) (mPk 10))) (mF (mVar 14))))
  (sSeq (sSet 13 (mIf (mB (m2 gNe (mPk 12) (mO (mLst mNil)))) (mCall g_law_of (xSrc 0 (xCons (mF (mVar 12)) xNil))) (mCall g_law_of (xSrc 0 (xCons (mF (mVar 5)) xNil)))))
  (sDrop (mMut gApp 6 (mCons (mF (mTup (mCons (mF (m2 gMin2 (mPk 10) (mPk 13))) (mCons (mF (m2 gMax2 (mPk 10) (mPk 13))) mNil)))) mNil))))) sNil)))
  (sRet (mTup (mCons (mF (mTup (mCons (mF (mVar 4)) (mCons (mF (m1 gTuple (mO (m1 gSorted (mPk 6))))) mNil)))) (mCons (mF (m1 gTuple (mPk 5))) mNil)))))))))
def g_law_net : GFn := gOf 16 m_law_net
abbrev st_law_open_cells : Stmt := top 21
def m_law_open_cells : S → RS := (sSeq (sSet 1 (mC (.int 11)))
  (sSeq (sFor (jScr 0) (gN 2) (sSet 1 (m2 gMod (mO (m1 gInt (mO (m2 gAdd (mO (m2 gAdd (mO (m2 gMul (mPk 1) (mO (mC (.int 69069))))) (mO (m2 gMul (mPk 2) (mO (mC (.int 31))))))) (mO (mC (.int 5))))))) (mO (mC (.int 2147483629))))))
  (sSeq (sSet 3 (mLc (jScr 0) [2] (gN 2) tYesM (mF (m1 gAbs (mPk 2)))))
  (sRet (mNewS (m1 gRev (mPk 3)) (mF (mC (.int 1))) (mF (mVar 1)) (mF (mC (.int 0))))))))
def g_law_open_cells : GFn := gOf 4 m_law_open_cells
abbrev st_law : Stmt := top 31
def m_law : S → RS := (sSeq (sSet 1 (mCall g_law_open_cells (xSrc 0 xNil)))
  (sSeq (sFor (jRg (mCons (mF (mC (.int 3))) mNil)) (gN 2) (sSeq (sAsg (mF (mCall g_law_net (xSrc 1 (xCons (mF (m2 gIxA (mO (mLst (mCons (mF (mC (.int 4))) (mCons (mF (mC (.int 5))) (mCons (mF (mC (.int 6))) mNil))))) (mPk 2))) (xCons (mF (m2 gIxA (mO (mLst (mCons (mF (mC (.int 6))) (mCons (mF (mC (.int 7))) (mCons (mF (mC (.int 9))) mNil))))) (mPk 2))) (xCons (mF (mC (.bool true))) xNil)))))) (gTp (gCn (gN 3) (gCn (gN 4) gNl))))
  (sSeq (sPar2 5 6 (m1 gRepr (mO (mLst (mCons (mF (mVar 3)) (mCons (mF (mVar 4)) mNil))))) (mCall g_law_leasts (xCons (mF (mVar 3)) (xCons (mF (mVar 4)) xNil))))
  (sSeq (sFor (jSeq (mF (mLc (jRg (mCons (mF (m2 gIxA (mPk 3) (mO (mC (.int 0))))) mNil)) [7] (gN 7) (mB (m2 (gInA true) (mPk 7) (mPk 4))) (mF (mVar 7))))) (gN 7) (sSeq (sSet 8 (mLc (jEnum (mF (m2 gIxA (mPk 3) (mO (mC (.int 1)))))) [10, 13] (gTp (gCn (gN 10) (gCn (gN 13) gNl))) (mB (m2 (gInA false) (mPk 7) (mPk 13))) (mF (mVar 10))))
  (sSeq (sSet 9 (mLst mNil))
  (sSeq (sFor (jSeq (mF (mVar 8))) (gN 10) (sSet 9 (m2 gAdd (mPk 9) (mO (mLc (jSeq (mF (mVar 8))) [11] (gN 11) (mAnd (mB (m2 gLt (mPk 10) (mPk 11))) (mB (m2 gEq (mO (mCall g_law_leasts (xCons (mF (mCall g_law_split (xCons (mF (mVar 3)) (xCons (mF (mVar 7)) (xCons (mF (mVar 10)) (xCons (mF (mVar 11)) xNil)))))) (xCons (mF (mVar 4)) xNil)))) (mPk 6)))) (mF (mTup (mCons (mF (mVar 10)) (mCons (mF (mVar 11)) mNil)))))))))
  (sSeq (sIf (mB (m2 gNe (mO (m1 gRepr (mO (mCall g_kept_splits (xCons (mF (mVar 3)) (xCons (mF (mVar 4)) (xCons (mF (mVar 7)) xNil))))))) (mO (m1 gRepr (mO (m1 gTuple (mPk 9))))))) (sRet (mC (.bool false))) sNil)
  (sSeq (sIf (mB (m2 gNe (mO (mLc (jSeq (mF (mVar 8))) [10] (gN 10) (mB (m2 gEq (mO (mLc (jSeq (mF (mVar 9))) [13] (gN 13) (mB (m2 (gInA false) (mPk 10) (mPk 13))) (mF (mVar 13)))) (mO (mLst mNil)))) (mF (mVar 10)))) (mO (mLst mNil)))) (sRet (mC (.bool false))) sNil)
  (sIf (mB (m2 gNe (mPk 9) (mO (mLst mNil)))) (sSeq (sAsg (mF (mCall g_law_of (xSrc 1 (xCons (mF (mVar 9)) xNil)))) (gTp (gCn (gN 10) (gCn (gN 11) gNl))))
  (sSeq (sSet 12 (mCall g_split_net (xCons (mF (mVar 3)) (xCons (mF (mVar 7)) (xCons (mF (mVar 10)) (xCons (mF (mVar 11)) xNil))))))
  (sSeq (sIf (mOr (mB (m2 gNe (mO (m1 gRepr (mPk 12))) (mO (m1 gRepr (mO (mCall g_law_split (xCons (mF (mVar 3)) (xCons (mF (mVar 7)) (xCons (mF (mVar 10)) (xCons (mF (mVar 11)) xNil)))))))))) (mB (m2 (gIsB true) (mO (mCall g_is_even_beside (xCons (mF (mVar 12)) (xCons (mF (mVar 4)) xNil)))) (mO (mC (.bool true)))))) (sRet (mC (.bool false))) sNil)
  (sIf (mB (m2 gNe (mO (mLc (jSeq (mF (mVar 4))) [14] (gN 14) tYesM (mF (mCall g_least_about (xCons (mF (mVar 12)) (xCons (mF (mVar 4)) (xCons (mF (mVar 14)) xNil))))))) (mPk 6))) (sRet (mC (.bool false))) sNil)))) sNil)))))))
  (sIf (mB (m2 gNe (mO (m1 gRepr (mO (mLst (mCons (mF (mVar 3)) (mCons (mF (mVar 4)) mNil)))))) (mPk 5))) (sRet (mC (.bool false))) sNil)))))
  (sSeq (sSet 3 (mTup (mCons (mF (mC (.int 4))) (mCons (mF (mTup (mCons (mF (mTup (mCons (mF (mC (.int 0))) (mCons (mF (mC (.int 3))) mNil)))) (mCons (mF (mTup (mCons (mF (mC (.int 0))) (mCons (mF (mC (.int 3))) mNil)))) (mCons (mF (mTup (mCons (mF (mC (.int 1))) (mCons (mF (mC (.int 3))) mNil)))) (mCons (mF (mTup (mCons (mF (mC (.int 2))) (mCons (mF (mC (.int 3))) mNil)))) mNil)))))) mNil))))
  (sRet (m2 gEq (mO (mCall g_kept_splits (xCons (mF (mVar 3)) (xCons (mF (mTup (mCons (mF (mC (.int 0))) (mCons (mF (mC (.int 1))) (mCons (mF (mC (.int 2))) mNil))))) (xCons (mF (mC (.int 3))) xNil))))) (mO (mTup (mCons (mF (mTup (mCons (mF (mC (.int 0))) (mCons (mF (mC (.int 2))) mNil)))) (mCons (mF (mTup (mCons (mF (mC (.int 0))) (mCons (mF (mC (.int 3))) mNil)))) (mCons (mF (mTup (mCons (mF (mC (.int 1))) (mCons (mF (mC (.int 2))) mNil)))) (mCons (mF (mTup (mCons (mF (mC (.int 1))) (mCons (mF (mC (.int 3))) mNil)))) mNil)))))))))))
def g_law : GFn := gOf 15 m_law
section
variable {P : Program} {w : World} {K : PySem.W.Frag} {mg : Str → Option Value} {base : Heap} {f : Addr} {fd : FuncData}
theorem sc_lots_of_numbers : FnScope ["n", "found", "station", "lot"] ["n"] (defScope st_lots_of_numbers) := ⟨rfl, rfl, rfl, by decide +kernel, rfl, by decide +kernel, by decide +kernel⟩
theorem ok_lots_of_numbers (F : FunD K "lots_of_numbers" "lots_of_numbers" (defArgs st_lots_of_numbers) (defBody st_lots_of_numbers) (defScope st_lots_of_numbers) [] [] f fd) (bl : Bl mg)  : FnG P w K mg base 1 f fd ["n"] (spG K 1 g_lots_of_numbers) :=
  have sc := sc_lots_of_numbers
  fn_okM (N := ["n", "found", "station", "lot"]) (ps := ["n"]) (m := m_lots_of_numbers) F sc fun cd A fr s H E hg hr => by
    have hu6 : (A.deeper (envOfC "lots_of_numbers" (defScope st_lots_of_numbers) s.heap.objs.size f cd)).units + 66 < cLine := by have := hr.un; omega
    have hu4 : (A.deeper (envOfC "lots_of_numbers" (defScope st_lots_of_numbers) s.heap.objs.size f cd)).units + 64 < cLine := by have := hr.un; omega
    have hu1 : (A.deeper (envOfC "lots_of_numbers" (defScope st_lots_of_numbers) s.heap.objs.size f cd)).units + 1 < cLine := by have := hr.un; omega
    exact (b_cons (s_set (i := 1) (ps_set sc.nd rfl (.inl rfl) (d_lst (a_cons (f_of (d_tup a_nil)) a_nil))))
      (b_cons (s_for (idx := [2]) PassesOwn.never rfl (j_rng1 rfl bl.range (a_cons (f_of (d_var (pe_var (i := 0) rfl (.inl rfl)))) a_nil)) (q_name (pg_name (i := 2) sc.nd rfl (.inr rfl)) (by decide)) (b_one (s_set (i := 1) (ps_set sc.nd rfl (.inl rfl) (d_bin o_add (p_var (pe_var (i := 1) rfl (.inl rfl))) (p_of (d_lc rfl sc.nd (j_seq (f_of (d_var (pe_var (i := 1) rfl (.inl rfl))))) (blkOk_by (own := [("lot", 3)]) (by kernel_rfl)) rfl (fun _ _ _ _ _ => (q_name (pg_name (i := 3) sc.nd rfl (.inl rfl)) (by decide))) (fun _ _ _ _ _ => t_yes) (fun _ _ _ _ _ => (f_of (d_tup (a_star (p_var (pe_var (i := 3) rfl (.inl rfl))) (a_cons (f_of (d_var (pe_var (i := 2) rfl (.inr (.inl rfl))))) a_nil))))))))))))
      (b_one (s_ret (d_mv (pe_var (i := 1) rfl (.inl rfl)))))))
theorem sc_is_about : FnScope ["told", "t", "lot", "u"] ["told", "t", "lot"] (defScope st_is_about) := ⟨rfl, rfl, rfl, by decide +kernel, rfl, by decide +kernel, by decide +kernel⟩
theorem ok_is_about (F : FunD K "is_about" "is_about" (defArgs st_is_about) (defBody st_is_about) (defScope st_is_about) [] [] f fd) (bl : Bl mg)  : FnG P w K mg base 1 f fd ["told", "t", "lot"] (spG K 3 g_is_about) :=
  have sc := sc_is_about
  fn_okM (N := ["told", "t", "lot", "u"]) (ps := ["told", "t", "lot"]) (m := m_is_about) F sc fun cd A fr s H E hg hr => by
    have hu6 : (A.deeper (envOfC "is_about" (defScope st_is_about) s.heap.objs.size f cd)).units + 66 < cLine := by have := hr.un; omega
    have hu4 : (A.deeper (envOfC "is_about" (defScope st_is_about) s.heap.objs.size f cd)).units + 64 < cLine := by have := hr.un; omega
    have hu1 : (A.deeper (envOfC "is_about" (defScope st_is_about) s.heap.objs.size f cd)).units + 1 < cLine := by have := hr.un; omega
    exact (b_one (s_ret (d_cmp (o_eq hu4) (p_of (d_lc rfl sc.nd (j_seq (f_of (d_var (pe_var (i := 0) rfl (.inl rfl))))) (blkOk_by (own := [("u", 3)]) (by kernel_rfl)) rfl (fun _ _ _ _ _ => (q_name (pg_name (i := 3) sc.nd rfl (.inl rfl)) (by decide))) (fun _ _ _ _ _ => (t_one (t_cmp (o_inA hu6) (p_var (pe_var (i := 3) rfl (.inl rfl))) (p_var (pe_var (i := 2) rfl (.inr (.inl rfl)))) rfl))) (fun _ _ _ _ _ => (f_of (d_var (pe_var (i := 3) rfl (.inl rfl))))))) (p_of (d_lst (a_cons (f_of (d_var (pe_var (i := 1) rfl (.inl rfl)))) a_nil))) (nomark _))))
theorem sc_lots_about : FnScope ["net", "told", "t", "lot"] ["net", "told", "t"] (defScope st_lots_about) := ⟨rfl, rfl, rfl, by decide +kernel, rfl, by decide +kernel, by decide +kernel⟩
theorem ok_lots_about (F : FunD K "lots_about" "lots_about" (defArgs st_lots_about) (defBody st_lots_about) (defScope st_lots_about) [] [] f fd) (bl : Bl mg) (Dlots_of_numbers : Def P w K mg base 1 1 "lots_of_numbers" g_lots_of_numbers) (Dis_about : Def P w K mg base 1 3 "is_about" g_is_about) : FnG P w K mg base 2 f fd ["net", "told", "t"] (spG K 3 g_lots_about) :=
  have sc := sc_lots_about
  fn_okM (N := ["net", "told", "t", "lot"]) (ps := ["net", "told", "t"]) (m := m_lots_about) F sc fun cd A fr s H E hg hr => by
    have hu6 : (A.deeper (envOfC "lots_about" (defScope st_lots_about) s.heap.objs.size f cd)).units + 66 < cLine := by have := hr.un; omega
    have hu4 : (A.deeper (envOfC "lots_about" (defScope st_lots_about) s.heap.objs.size f cd)).units + 64 < cLine := by have := hr.un; omega
    have hu1 : (A.deeper (envOfC "lots_about" (defScope st_lots_about) s.heap.objs.size f cd)).units + 1 < cLine := by have := hr.un; omega
    exact (b_one (s_ret (d_lc rfl sc.nd (j_seq (f_of (d_call Dlots_of_numbers hg (hr.mono (by decide)) rfl (x_cons (f_of (d_ixA hu1 (p_var (pe_var (i := 0) rfl (.inl rfl))) (p_of d_int) fun _ _ => rfl)) x_nil) (xn_cons xn_nil)))) (blkOk_by (own := [("lot", 3)]) (by kernel_rfl)) rfl (fun _ _ _ _ _ => (q_name (pg_name (i := 3) sc.nd rfl (.inl rfl)) (by decide))) (fun _ _ _ _ _ => (t_one (t_val (d_call Dis_about hg (hr.mono (by decide)) rfl (x_cons (f_of (d_var (pe_var (i := 1) rfl (.inr (.inl rfl))))) (x_cons (f_of (d_var (pe_var (i := 2) rfl (.inr (.inl rfl))))) (x_cons (f_of (d_var (pe_var (i := 3) rfl (.inl rfl)))) x_nil))) (xn_cons (xn_cons (xn_cons xn_nil))))))) (fun _ _ _ _ _ => (f_of (d_var (pe_var (i := 3) rfl (.inl rfl))))))))
theorem sc_links_in_cut : FnScope ["net", "lot", "a", "b"] ["net", "lot"] (defScope st_links_in_cut) := ⟨rfl, rfl, rfl, by decide +kernel, rfl, by decide +kernel, by decide +kernel⟩
theorem ok_links_in_cut (F : FunD K "links_in_cut" "links_in_cut" (defArgs st_links_in_cut) (defBody st_links_in_cut) (defScope st_links_in_cut) [] [] f fd) (bl : Bl mg)  : FnG P w K mg base 1 f fd ["net", "lot"] (spG K 2 g_links_in_cut) :=
  have sc := sc_links_in_cut
  fn_okM (N := ["net", "lot", "a", "b"]) (ps := ["net", "lot"]) (m := m_links_in_cut) F sc fun cd A fr s H E hg hr => by
    have hu6 : (A.deeper (envOfC "links_in_cut" (defScope st_links_in_cut) s.heap.objs.size f cd)).units + 66 < cLine := by have := hr.un; omega
    have hu4 : (A.deeper (envOfC "links_in_cut" (defScope st_links_in_cut) s.heap.objs.size f cd)).units + 64 < cLine := by have := hr.un; omega
    have hu1 : (A.deeper (envOfC "links_in_cut" (defScope st_links_in_cut) s.heap.objs.size f cd)).units + 1 < cLine := by have := hr.un; omega
    exact (b_one (s_ret (d_b1 c_len rfl bl.len boot_len (p_of (d_lc rfl sc.nd (j_seq (f_of (d_ixA hu1 (p_var (pe_var (i := 0) rfl (.inl rfl))) (p_of d_int) fun _ _ => rfl))) (blkOk_by (own := [("a", 2), ("b", 3)]) (by kernel_rfl)) rfl (fun _ _ _ _ _ => (q_tup rfl (q_cons (q_name (pg_name (i := 2) sc.nd rfl (.inl rfl)) (by decide)) (q_cons (q_name (pg_name (i := 3) sc.nd rfl (.inl rfl)) (by decide)) q_nil)) (gl_cons (gl_cons gl_nil)))) (fun _ _ _ _ _ => (t_one (t_cmp (o_ne hu4) (p_of (d_cmp (o_inA hu6) (p_var (pe_var (i := 2) rfl (.inl rfl))) (p_var (pe_var (i := 1) rfl (.inr (.inl rfl)))) rfl)) (p_of (d_cmp (o_inA hu6) (p_var (pe_var (i := 3) rfl (.inl rfl))) (p_var (pe_var (i := 1) rfl (.inr (.inl rfl)))) rfl)) (nomark _)))) (fun _ _ _ _ _ => (f_of d_int)))))))
theorem sc_least_about : FnScope ["net", "told", "t", "lot"] ["net", "told", "t"] (defScope st_least_about) := ⟨rfl, rfl, rfl, by decide +kernel, rfl, by decide +kernel, by decide +kernel⟩
theorem ok_least_about (F : FunD K "least_about" "least_about" (defArgs st_least_about) (defBody st_least_about) (defScope st_least_about) [] [] f fd) (bl : Bl mg) (Dlots_about : Def P w K mg base 2 3 "lots_about" g_lots_about) (Dlinks_in_cut : Def P w K mg base 1 2 "links_in_cut" g_links_in_cut) : FnG P w K mg base 3 f fd ["net", "told", "t"] (spG K 3 g_least_about) :=
  have sc := sc_least_about
  fn_okM (N := ["net", "told", "t", "lot"]) (ps := ["net", "told", "t"]) (m := m_least_about) F sc fun cd A fr s H E hg hr => by
    have hu6 : (A.deeper (envOfC "least_about" (defScope st_least_about) s.heap.objs.size f cd)).units + 66 < cLine := by have := hr.un; omega
    have hu4 : (A.deeper (envOfC "least_about" (defScope st_least_about) s.heap.objs.size f cd)).units + 64 < cLine := by have := hr.un; omega
    have hu1 : (A.deeper (envOfC "least_about" (defScope st_least_about) s.heap.objs.size f cd)).units + 1 < cLine := by have := hr.un; omega
    exact (b_one (s_ret (d_b1 (c_min rfl hu4) rfl bl.min boot_min (p_of (d_lc rfl sc.nd (j_seq (f_of (d_call Dlots_about hg (hr.mono (by decide)) rfl (x_cons (f_of (d_var (pe_var (i := 0) rfl (.inr (.inl rfl))))) (x_cons (f_of (d_var (pe_var (i := 1) rfl (.inl rfl)))) (x_cons (f_of (d_var (pe_var (i := 2) rfl (.inl rfl)))) x_nil))) (xn_cons (xn_cons (xn_cons xn_nil)))))) (blkOk_by (own := [("lot", 3)]) (by kernel_rfl)) rfl (fun _ _ _ _ _ => (q_name (pg_name (i := 3) sc.nd rfl (.inl rfl)) (by decide))) (fun _ _ _ _ _ => t_yes) (fun _ _ _ _ _ => (f_of (d_call Dlinks_in_cut hg (hr.mono (by decide)) rfl (x_cons (f_of (d_var (pe_var (i := 0) rfl (.inr (.inl rfl))))) (x_cons (f_of (d_var (pe_var (i := 3) rfl (.inl rfl)))) x_nil)) (xn_cons (xn_cons xn_nil))))))))))
theorem sc_all_least : FnScope ["net", "told", "t"] ["net", "told"] (defScope st_all_least) := ⟨rfl, rfl, rfl, by decide +kernel, rfl, by decide +kernel, by decide +kernel⟩
theorem ok_all_least (F : FunD K "all_least" "all_least" (defArgs st_all_least) (defBody st_all_least) (defScope st_all_least) [] [] f fd) (bl : Bl mg) (Dleast_about : Def P w K mg base 3 3 "least_about" g_least_about) : FnG P w K mg base 4 f fd ["net", "told"] (spG K 2 g_all_least) :=
  have sc := sc_all_least
  fn_okM (N := ["net", "told", "t"]) (ps := ["net", "told"]) (m := m_all_least) F sc fun cd A fr s H E hg hr => by
    have hu6 : (A.deeper (envOfC "all_least" (defScope st_all_least) s.heap.objs.size f cd)).units + 66 < cLine := by have := hr.un; omega
    have hu4 : (A.deeper (envOfC "all_least" (defScope st_all_least) s.heap.objs.size f cd)).units + 64 < cLine := by have := hr.un; omega
    have hu1 : (A.deeper (envOfC "all_least" (defScope st_all_least) s.heap.objs.size f cd)).units + 1 < cLine := by have := hr.un; omega
    exact (b_one (s_ret (d_lc rfl sc.nd (j_seq (f_of (d_var (pe_var (i := 1) rfl (.inr (.inl rfl)))))) (blkOk_by (own := [("t", 2)]) (by kernel_rfl)) rfl (fun _ _ _ _ _ => (q_name (pg_name (i := 2) sc.nd rfl (.inl rfl)) (by decide))) (fun _ _ _ _ _ => t_yes) (fun _ _ _ _ _ => (f_of (d_call Dleast_about hg (hr.mono (by decide)) rfl (x_cons (f_of (d_var (pe_var (i := 0) rfl (.inr (.inl rfl))))) (x_cons (f_of (d_var (pe_var (i := 1) rfl (.inr (.inl rfl))))) (x_cons (f_of (d_var (pe_var (i := 2) rfl (.inl rfl)))) x_nil))) (xn_cons (xn_cons (xn_cons xn_nil)))))))))
theorem sc_joined_pair : FnScope ["net", "s", "k", "l"] ["net", "s", "k", "l"] (defScope st_joined_pair) := ⟨rfl, rfl, rfl, by decide +kernel, rfl, by decide +kernel, by decide +kernel⟩
theorem ok_joined_pair (F : FunD K "joined_pair" "joined_pair" (defArgs st_joined_pair) (defBody st_joined_pair) (defScope st_joined_pair) [] [] f fd) (bl : Bl mg)  : FnG P w K mg base 1 f fd ["net", "s", "k", "l"] (spG K 4 g_joined_pair) :=
  have sc := sc_joined_pair
  fn_okM (N := ["net", "s", "k", "l"]) (ps := ["net", "s", "k", "l"]) (m := m_joined_pair) F sc fun cd A fr s H E hg hr => by
    have hu6 : (A.deeper (envOfC "joined_pair" (defScope st_joined_pair) s.heap.objs.size f cd)).units + 66 < cLine := by have := hr.un; omega
    have hu4 : (A.deeper (envOfC "joined_pair" (defScope st_joined_pair) s.heap.objs.size f cd)).units + 64 < cLine := by have := hr.un; omega
    have hu1 : (A.deeper (envOfC "joined_pair" (defScope st_joined_pair) s.heap.objs.size f cd)).units + 1 < cLine := by have := hr.un; omega
    exact (b_one (s_ret (d_t1 c_tuple rfl bl.tuple boot_tuple (p_of (d_b1 (c_sorted hu6) rfl bl.sorted boot_sorted (p_of (d_lst (a_cons (f_of (d_bin o_sub (p_of (d_b1 (c_sum rfl) rfl bl.sum boot_sum (p_of (d_ixA hu1 (p_of (d_ixA hu1 (p_var (pe_var (i := 0) rfl (.inl rfl))) (p_of d_int) fun _ _ => rfl)) (p_var (pe_var (i := 2) rfl (.inl rfl))) fun _ _ => rfl)))) (p_var (pe_var (i := 1) rfl (.inl rfl))))) (a_cons (f_of (d_bin o_sub (p_of (d_b1 (c_sum rfl) rfl bl.sum boot_sum (p_of (d_ixA hu1 (p_of (d_ixA hu1 (p_var (pe_var (i := 0) rfl (.inl rfl))) (p_of d_int) fun _ _ => rfl)) (p_var (pe_var (i := 3) rfl (.inl rfl))) fun _ _ => rfl)))) (p_var (pe_var (i := 1) rfl (.inl rfl))))) a_nil)))))))))
theorem sc_split_net : FnScope ["net", "s", "k", "l", "left", "u", "v", "number", "pair"] ["net", "s", "k", "l"] (defScope st_split_net) := ⟨rfl, rfl, rfl, by decide +kernel, rfl, by decide +kernel, by decide +kernel⟩
theorem ok_split_net (F : FunD K "split_net" "split_net" (defArgs st_split_net) (defBody st_split_net) (defScope st_split_net) [] [] f fd) (bl : Bl mg) (Djoined_pair : Def P w K mg base 1 4 "joined_pair" g_joined_pair) : FnG P w K mg base 2 f fd ["net", "s", "k", "l"] (spG K 4 g_split_net) :=
  have sc := sc_split_net
  fn_okM (N := ["net", "s", "k", "l", "left", "u", "v", "number", "pair"]) (ps := ["net", "s", "k", "l"]) (m := m_split_net) F sc fun cd A fr s H E hg hr => by
    have hu6 : (A.deeper (envOfC "split_net" (defScope st_split_net) s.heap.objs.size f cd)).units + 66 < cLine := by have := hr.un; omega
    have hu4 : (A.deeper (envOfC "split_net" (defScope st_split_net) s.heap.objs.size f cd)).units + 64 < cLine := by have := hr.un; omega
    have hu1 : (A.deeper (envOfC "split_net" (defScope st_split_net) s.heap.objs.size f cd)).units + 1 < cLine := by have := hr.un; omega
    exact (b_cons (s_lc rfl sc.nd rfl rfl (sw_true rfl rfl rfl rfl) (j_enum rfl bl.enumerate (f_of (d_ixA hu1 (p_var (pe_var (i := 0) rfl (.inl rfl))) (p_of d_int) fun _ _ => rfl))) (blkOk_by (own := [("number", 7), ("pair", 8)]) (by kernel_rfl)) rfl (fun _ _ _ _ _ => (q_tup rfl (q_cons (q_name (pg_name (i := 7) sc.nd rfl (.inl rfl)) (by decide)) (q_cons (q_name (pg_name (i := 8) sc.nd rfl (.inl rfl)) (by decide)) q_nil)) (gl_cons (gl_cons gl_nil)))) (fun _ _ _ _ _ => (t_one (t_cmp (o_notInA hu6) (p_var (pe_var (i := 7) rfl (.inl rfl))) (p_of (d_tup (a_cons (f_of (d_var (pe_var (i := 2) rfl (.inr (.inl rfl))))) (a_cons (f_of (d_var (pe_var (i := 3) rfl (.inr (.inl rfl))))) a_nil)))) rfl))) (fun _ _ _ _ _ => (f_of (d_var (pe_var (i := 8) rfl (.inl rfl))))))
      (b_cons (s_asg (idx := [5, 6]) (ps_asg (f_of (d_call Djoined_pair hg (hr.mono (by decide)) rfl (x_cons (f_of (d_var (pe_var (i := 0) rfl (.inl rfl)))) (x_cons (f_of (d_var (pe_var (i := 1) rfl (.inl rfl)))) (x_cons (f_of (d_var (pe_var (i := 2) rfl (.inr (.inl rfl))))) (x_cons (f_of (d_var (pe_var (i := 3) rfl (.inr (.inl rfl))))) x_nil)))) (xn_cons (xn_cons (xn_cons (xn_cons xn_nil)))))) (q_tup rfl (q_cons (q_name (pg_name (i := 5) sc.nd rfl (.inl rfl)) (by decide)) (q_cons (q_name (pg_name (i := 6) sc.nd rfl (.inl rfl)) (by decide)) q_nil)) (gl_cons (gl_cons gl_nil)))))
      (b_one (s_ret (d_tup (a_cons (f_of (d_ixA hu1 (p_var (pe_var (i := 0) rfl (.inl rfl))) (p_of d_int) fun _ _ => rfl)) (a_cons (f_of (d_t1 c_tuple rfl bl.tuple boot_tuple (p_of (d_b1 (c_sorted hu6) rfl bl.sorted boot_sorted (p_of (d_if (t_cmp (o_ne hu4) (p_var (pe_var (i := 5) rfl (.inl rfl))) (p_var (pe_var (i := 6) rfl (.inl rfl))) (nomark _)) (d_bin o_add (p_var (pe_var (i := 4) rfl (.inl rfl))) (p_of (d_lst (a_cons (f_of (d_tup (a_cons (f_of (d_var (pe_var (i := 5) rfl (.inl rfl)))) (a_cons (f_of (d_var (pe_var (i := 6) rfl (.inl rfl)))) a_nil)))) a_nil)))) (d_var (pe_var (i := 4) rfl (.inl rfl))))))))) a_nil)))))))
theorem sc_is_number : FnScope ["value"] ["value"] (defScope st_is_number) := ⟨rfl, rfl, rfl, by decide +kernel, rfl, by decide +kernel, by decide +kernel⟩
theorem ok_is_number (F : FunD K "is_number" "is_number" (defArgs st_is_number) (defBody st_is_number) (defScope st_is_number) [] [] f fd) (bl : Bl mg)  : FnG P w K mg base 1 f fd ["value"] (spG K 1 g_is_number) :=
  have sc := sc_is_number
  fn_okM (N := ["value"]) (ps := ["value"]) (m := m_is_number) F sc fun cd A fr s H E hg hr => by
    have hu6 : (A.deeper (envOfC "is_number" (defScope st_is_number) s.heap.objs.size f cd)).units + 66 < cLine := by have := hr.un; omega
    have hu4 : (A.deeper (envOfC "is_number" (defScope st_is_number) s.heap.objs.size f cd)).units + 64 < cLine := by have := hr.un; omega
    have hu1 : (A.deeper (envOfC "is_number" (defScope st_is_number) s.heap.objs.size f cd)).units + 1 < cLine := by have := hr.un; omega
    exact (b_one (s_ret (d_and (d_isi i_int rfl bl.isinstance rfl bl.int boot_int (p_var (pe_var (i := 0) rfl (.inl rfl)))) (d_and (d_not (d_isi i_bool rfl bl.isinstance rfl bl.bool boot_bool (p_var (pe_var (i := 0) rfl (.inl rfl))))) (d_one (d_cmp (o_ge hu4) (p_var (pe_var (i := 0) rfl (.inl rfl))) (p_of d_int) (nomark _)))))))
theorem sc_is_station : FnScope ["net", "value"] ["net", "value"] (defScope st_is_station) := ⟨rfl, rfl, rfl, by decide +kernel, rfl, by decide +kernel, by decide +kernel⟩
theorem ok_is_station (F : FunD K "is_station" "is_station" (defArgs st_is_station) (defBody st_is_station) (defScope st_is_station) [] [] f fd) (bl : Bl mg) (Dis_number : Def P w K mg base 1 1 "is_number" g_is_number) : FnG P w K mg base 2 f fd ["net", "value"] (spG K 2 g_is_station) :=
  have sc := sc_is_station
  fn_okM (N := ["net", "value"]) (ps := ["net", "value"]) (m := m_is_station) F sc fun cd A fr s H E hg hr => by
    have hu6 : (A.deeper (envOfC "is_station" (defScope st_is_station) s.heap.objs.size f cd)).units + 66 < cLine := by have := hr.un; omega
    have hu4 : (A.deeper (envOfC "is_station" (defScope st_is_station) s.heap.objs.size f cd)).units + 64 < cLine := by have := hr.un; omega
    have hu1 : (A.deeper (envOfC "is_station" (defScope st_is_station) s.heap.objs.size f cd)).units + 1 < cLine := by have := hr.un; omega
    exact (b_one (s_ret (d_and (d_call Dis_number hg (hr.mono (by decide)) rfl (x_cons (f_of (d_var (pe_var (i := 1) rfl (.inl rfl)))) x_nil) (xn_cons xn_nil)) (d_one (d_cmp (o_lt hu4) (p_var (pe_var (i := 1) rfl (.inl rfl))) (p_of (d_ixA hu1 (p_var (pe_var (i := 0) rfl (.inl rfl))) (p_of d_int) fun _ _ => rfl)) (nomark _))))))
theorem sc_links_at : FnScope ["net", "station", "number", "link"] ["net", "station"] (defScope st_links_at) := ⟨rfl, rfl, rfl, by decide +kernel, rfl, by decide +kernel, by decide +kernel⟩
theorem ok_links_at (F : FunD K "links_at" "links_at" (defArgs st_links_at) (defBody st_links_at) (defScope st_links_at) [] [] f fd) (bl : Bl mg) (Dis_station : Def P w K mg base 2 2 "is_station" g_is_station) : FnG P w K mg base 3 f fd ["net", "station"] (spG K 2 g_links_at) :=
  have sc := sc_links_at
  fn_okM (N := ["net", "station", "number", "link"]) (ps := ["net", "station"]) (m := m_links_at) F sc fun cd A fr s H E hg hr => by
    have hu6 : (A.deeper (envOfC "links_at" (defScope st_links_at) s.heap.objs.size f cd)).units + 66 < cLine := by have := hr.un; omega
    have hu4 : (A.deeper (envOfC "links_at" (defScope st_links_at) s.heap.objs.size f cd)).units + 64 < cLine := by have := hr.un; omega
    have hu1 : (A.deeper (envOfC "links_at" (defScope st_links_at) s.heap.objs.size f cd)).units + 1 < cLine := by have := hr.un; omega
    exact (b_cons (s_if (t_not (t_val (d_call Dis_station hg (hr.mono (by decide)) rfl (x_cons (f_of (d_var (pe_var (i := 0) rfl (.inl rfl)))) (x_cons (f_of (d_var (pe_var (i := 1) rfl (.inr (.inl rfl))))) x_nil)) (xn_cons (xn_cons xn_nil))))) (b_one (s_bad ps_never)) b_nil)
      (b_one (s_ret (d_t1 c_tuple rfl bl.tuple boot_tuple (p_of (d_lc rfl sc.nd (j_enum rfl bl.enumerate (f_of (d_ixA hu1 (p_var (pe_var (i := 0) rfl (.inl rfl))) (p_of d_int) fun _ _ => rfl))) (blkOk_by (own := [("number", 2), ("link", 3)]) (by kernel_rfl)) rfl (fun _ _ _ _ _ => (q_tup rfl (q_cons (q_name (pg_name (i := 2) sc.nd rfl (.inl rfl)) (by decide)) (q_cons (q_name (pg_name (i := 3) sc.nd rfl (.inl rfl)) (by decide)) q_nil)) (gl_cons (gl_cons gl_nil)))) (fun _ _ _ _ _ => (t_one (t_cmp (o_inA hu6) (p_var (pe_var (i := 1) rfl (.inr (.inl rfl)))) (p_var (pe_var (i := 3) rfl (.inl rfl))) rfl))) (fun _ _ _ _ _ => (f_of (d_var (pe_var (i := 2) rfl (.inl rfl)))))))))))
theorem sc_kept_splits : FnScope ["net", "told", "s", "least", "numbers", "found", "k", "l"] ["net", "told", "s"] (defScope st_kept_splits) := ⟨rfl, rfl, rfl, by decide +kernel, rfl, by decide +kernel, by decide +kernel⟩
theorem ok_kept_splits (F : FunD K "kept_splits" "kept_splits" (defArgs st_kept_splits) (defBody st_kept_splits) (defScope st_kept_splits) [] [] f fd) (bl : Bl mg) (Dall_least : Def P w K mg base 4 2 "all_least" g_all_least) (Dsplit_net : Def P w K mg base 2 4 "split_net" g_split_net) (Dlinks_at : Def P w K mg base 3 2 "links_at" g_links_at) : FnG P w K mg base 5 f fd ["net", "told", "s"] (spG K 3 g_kept_splits) :=
  have sc := sc_kept_splits
  fn_okM (N := ["net", "told", "s", "least", "numbers", "found", "k", "l"]) (ps := ["net", "told", "s"]) (m := m_kept_splits) F sc fun cd A fr s H E hg hr => by
    have hu6 : (A.deeper (envOfC "kept_splits" (defScope st_kept_splits) s.heap.objs.size f cd)).units + 66 < cLine := by have := hr.un; omega
    have hu4 : (A.deeper (envOfC "kept_splits" (defScope st_kept_splits) s.heap.objs.size f cd)).units + 64 < cLine := by have := hr.un; omega
    have hu1 : (A.deeper (envOfC "kept_splits" (defScope st_kept_splits) s.heap.objs.size f cd)).units + 1 < cLine := by have := hr.un; omega
    exact (b_cons (s_par3 (ps_par3 (i := 3) (j := 4) (l := 5) rfl sc.nd rfl rfl rfl (by decide) (by decide) (by decide) rfl rfl rfl (pa_cons (d_call Dall_least hg (hr.mono (by decide)) rfl (x_cons (f_of (d_var (pe_var (i := 0) rfl (.inl rfl)))) (x_cons (f_of (d_var (pe_var (i := 1) rfl (.inl rfl)))) x_nil)) (xn_cons (xn_cons xn_nil))) (pa_cons (d_call Dlinks_at hg (hr.mono (by decide)) rfl (x_cons (f_of (d_var (pe_var (i := 0) rfl (.inl rfl)))) (x_cons (f_of (d_var (pe_var (i := 2) rfl (.inl rfl)))) x_nil)) (xn_cons (xn_cons xn_nil))) (pa_cons (d_lst a_nil) pa_nil))) rfl))
      (b_cons (s_for (idx := [6]) PassesOwn.never rfl (j_seq (f_of (d_var (pe_var (i := 4) rfl (.inl rfl))))) (q_name (pg_name (i := 6) sc.nd rfl (.inl rfl)) (by decide)) (b_one (s_for (idx := [7]) PassesOwn.never rfl (j_seq (f_of (d_var (pe_var (i := 4) rfl (.inl rfl))))) (q_name (pg_name (i := 7) sc.nd rfl (.inl rfl)) (by decide)) (b_one (s_if (PW.pt (w_and (t_cmp (o_lt hu4) (p_var (pe_var (i := 6) rfl (.inl rfl))) (p_var (pe_var (i := 7) rfl (.inl rfl))) (nomark _)) (w_and1 (t_cmp (o_eq hu4) (p_of (d_call Dall_least hg (hr.mono (by decide)) rfl (x_cons (f_of (d_call Dsplit_net hg (hr.mono (by decide)) rfl (x_cons (f_of (d_var (pe_var (i := 0) rfl (.inl rfl)))) (x_cons (f_of (d_var (pe_var (i := 2) rfl (.inl rfl)))) (x_cons (f_of (d_var (pe_var (i := 6) rfl (.inl rfl)))) (x_cons (f_of (d_var (pe_var (i := 7) rfl (.inl rfl)))) x_nil)))) (xn_cons (xn_cons (xn_cons (xn_cons xn_nil)))))) (x_cons (f_of (d_var (pe_var (i := 1) rfl (.inl rfl)))) x_nil)) (xn_cons (xn_cons xn_nil)))) (p_var (pe_var (i := 3) rfl (.inl rfl))) (nomark _))))) (b_one (s_expr (m_app (pe_var (i := 5) rfl (.inl rfl)) (a_cons (f_of (d_tup (a_cons (f_of (d_var (pe_var (i := 6) rfl (.inl rfl)))) (a_cons (f_of (d_var (pe_var (i := 7) rfl (.inl rfl)))) a_nil)))) a_nil)))) b_nil)))))
      (b_one (s_ret (d_t1 c_tuple rfl bl.tuple boot_tuple (p_var (pe_var (i := 5) rfl (.inl rfl))))))))
theorem sc_law_split : FnScope ["net", "s", "k", "l", "u", "v", "pairs", "number", "pair"] ["net", "s", "k", "l"] (defScope st_law_split) := ⟨rfl, rfl, rfl, by decide +kernel, rfl, by decide +kernel, by decide +kernel⟩
theorem ok_law_split (F : FunD K "_law_split" "_law_split" (defArgs st_law_split) (defBody st_law_split) (defScope st_law_split) [] [] f fd) (bl : Bl mg)  : FnG P w K mg base 1 f fd ["net", "s", "k", "l"] (spG K 4 g_law_split) :=
  have sc := sc_law_split
  fn_okM (N := ["net", "s", "k", "l", "u", "v", "pairs", "number", "pair"]) (ps := ["net", "s", "k", "l"]) (m := m_law_split) F sc fun cd A fr s H E hg hr => by
    have hu6 : (A.deeper (envOfC "_law_split" (defScope st_law_split) s.heap.objs.size f cd)).units + 66 < cLine := by have := hr.un; omega
    have hu4 : (A.deeper (envOfC "_law_split" (defScope st_law_split) s.heap.objs.size f cd)).units + 64 < cLine := by have := hr.un; omega
    have hu1 : (A.deeper (envOfC "_law_split" (defScope st_law_split) s.heap.objs.size f cd)).units + 1 < cLine := by have := hr.un; omega
    exact (b_cons (s_asg (idx := [4, 5]) (ps_asg (f_of (d_b1 (c_sorted hu6) rfl bl.sorted boot_sorted (p_of (d_lst (a_cons (f_of (d_bin o_sub (p_of (d_b1 (c_sum rfl) rfl bl.sum boot_sum (p_of (d_ixA hu1 (p_of (d_ixA hu1 (p_var (pe_var (i := 0) rfl (.inl rfl))) (p_of d_int) fun _ _ => rfl)) (p_var (pe_var (i := 2) rfl (.inr (.inl rfl)))) fun _ _ => rfl)))) (p_var (pe_var (i := 1) rfl (.inl rfl))))) (a_cons (f_of (d_bin o_sub (p_of (d_b1 (c_sum rfl) rfl bl.sum boot_sum (p_of (d_ixA hu1 (p_of (d_ixA hu1 (p_var (pe_var (i := 0) rfl (.inl rfl))) (p_of d_int) fun _ _ => rfl)) (p_var (pe_var (i := 3) rfl (.inr (.inl rfl)))) fun _ _ => rfl)))) (p_var (pe_var (i := 1) rfl (.inl rfl))))) a_nil)))))) (q_tup rfl (q_cons (q_name (pg_name (i := 4) sc.nd rfl (.inl rfl)) (by decide)) (q_cons (q_name (pg_name (i := 5) sc.nd rfl (.inl rfl)) (by decide)) q_nil)) (gl_cons (gl_cons gl_nil)))))
      (b_cons (s_set (i := 6) (ps_set sc.nd rfl (.inl rfl) (d_bin o_add (p_of (d_lc rfl sc.nd (j_enum rfl bl.enumerate (f_of (d_ixA hu1 (p_var (pe_var (i := 0) rfl (.inl rfl))) (p_of d_int) fun _ _ => rfl))) (blkOk_by (own := [("number", 7), ("pair", 8)]) (by kernel_rfl)) rfl (fun _ _ _ _ _ => (q_tup rfl (q_cons (q_name (pg_name (i := 7) sc.nd rfl (.inl rfl)) (by decide)) (q_cons (q_name (pg_name (i := 8) sc.nd rfl (.inl rfl)) (by decide)) q_nil)) (gl_cons (gl_cons gl_nil)))) (fun _ _ _ _ _ => (t_one (t_cmp (o_notInA hu6) (p_var (pe_var (i := 7) rfl (.inl rfl))) (p_of (d_tup (a_cons (f_of (d_var (pe_var (i := 2) rfl (.inr (.inl rfl))))) (a_cons (f_of (d_var (pe_var (i := 3) rfl (.inr (.inl rfl))))) a_nil)))) rfl))) (fun _ _ _ _ _ => (f_of (d_var (pe_var (i := 8) rfl (.inl rfl))))))) (p_of (d_bin o_mul (p_of (d_lst (a_cons (f_of (d_tup (a_cons (f_of (d_var (pe_var (i := 4) rfl (.inl rfl)))) (a_cons (f_of (d_var (pe_var (i := 5) rfl (.inl rfl)))) a_nil)))) a_nil))) (p_of (d_t1 c_int rfl bl.int boot_int (p_of (d_cmp (o_ne hu4) (p_var (pe_var (i := 4) rfl (.inl rfl))) (p_var (pe_var (i := 5) rfl (.inl rfl))) (nomark _))))))))))
      (b_one (s_ret (d_tup (a_cons (f_of (d_ixA hu1 (p_var (pe_var (i := 0) rfl (.inl rfl))) (p_of d_int) fun _ _ => rfl)) (a_cons (f_of (d_t1 c_tuple rfl bl.tuple boot_tuple (p_of (d_b1 (c_sorted hu6) rfl bl.sorted boot_sorted (p_var (pe_var (i := 6) rfl (.inl rfl))))))) a_nil)))))))
theorem sc_is_even_beside : FnScope ["net", "told", "others", "s", "pair"] ["net", "told"] (defScope st_is_even_beside) := ⟨rfl, rfl, rfl, by decide +kernel, rfl, by decide +kernel, by decide +kernel⟩
theorem ok_is_even_beside (F : FunD K "is_even_beside" "is_even_beside" (defArgs st_is_even_beside) (defBody st_is_even_beside) (defScope st_is_even_beside) [] [] f fd) (bl : Bl mg)  : FnG P w K mg base 1 f fd ["net", "told"] (spG K 2 g_is_even_beside) :=
  have sc := sc_is_even_beside
  fn_okM (N := ["net", "told", "others", "s", "pair"]) (ps := ["net", "told"]) (m := m_is_even_beside) F sc fun cd A fr s H E hg hr => by
    have hu6 : (A.deeper (envOfC "is_even_beside" (defScope st_is_even_beside) s.heap.objs.size f cd)).units + 66 < cLine := by have := hr.un; omega
    have hu4 : (A.deeper (envOfC "is_even_beside" (defScope st_is_even_beside) s.heap.objs.size f cd)).units + 64 < cLine := by have := hr.un; omega
    have hu1 : (A.deeper (envOfC "is_even_beside" (defScope st_is_even_beside) s.heap.objs.size f cd)).units + 1 < cLine := by have := hr.un; omega
    exact (b_cons (s_lc rfl sc.nd rfl rfl (sw_true rfl rfl rfl rfl) (j_rng1 rfl bl.range (a_cons (f_of (d_ixA hu1 (p_var (pe_var (i := 0) rfl (.inr (.inl rfl)))) (p_of d_int) fun _ _ => rfl)) a_nil)) (blkOk_by (own := [("s", 3)]) (by kernel_rfl)) rfl (fun _ _ _ _ _ => (q_name (pg_name (i := 3) sc.nd rfl (.inl rfl)) (by decide))) (fun _ _ _ _ _ => (t_one (t_cmp (o_notInA hu6) (p_var (pe_var (i := 3) rfl (.inl rfl))) (p_var (pe_var (i := 1) rfl (.inr (.inl rfl)))) rfl))) (fun _ _ _ _ _ => (f_of (d_var (pe_var (i := 3) rfl (.inl rfl))))))
      (b_one (s_ret (d_b1 (c_all rfl) rfl bl.all boot_all (p_of (d_lc rfl sc.nd (j_seq (f_of (d_var (pe_var (i := 2) rfl (.inl rfl))))) (blkOk_by (own := [("s", 3)]) (by kernel_rfl)) rfl (fun _ _ _ _ _ => (q_name (pg_name (i := 3) sc.nd rfl (.inr rfl)) (by decide))) (fun _ _ _ _ _ => t_yes) (fun _ _ _ _ _ => (f_of (d_cmp (o_eq hu4) (p_of (d_bin o_mod (p_of (d_b1 c_len rfl bl.len boot_len (p_of (d_lc rfl sc.nd (j_seq (f_of (d_ixA hu1 (p_var (pe_var (i := 0) rfl (.inr (.inl rfl)))) (p_of d_int) fun _ _ => rfl))) (blkOk_by (own := [("pair", 4)]) (by kernel_rfl)) rfl (fun _ _ _ _ _ => (q_name (pg_name (i := 4) sc.nd rfl (.inl rfl)) (by decide))) (fun _ _ _ _ _ => (t_one (t_cmp (o_inA hu6) (p_var (pe_var (i := 3) rfl (.inr (.inl rfl)))) (p_var (pe_var (i := 4) rfl (.inl rfl))) rfl))) (fun _ _ _ _ _ => (f_of d_int)))))) (p_of d_int))) (p_of d_int) (nomark _))))))))))
theorem sc_law_pick : FnScope ["source", "most", "cells", "others", "lap", "stirred"] ["source", "most"] (defScope st_law_pick) := ⟨rfl, rfl, rfl, by decide +kernel, rfl, by decide +kernel, by decide +kernel⟩
theorem ok_law_pick (F : FunD K "_law_pick" "_law_pick" (defArgs st_law_pick) (defBody st_law_pick) (defScope st_law_pick) [] [] f fd) (bl : Bl mg)  : FnG P w K mg base 1 f fd ["source", "most"] (spG K 2 g_law_pick) :=
  have sc := sc_law_pick
  fn_okM (N := ["source", "most", "cells", "others", "lap", "stirred"]) (ps := ["source", "most"]) (m := m_law_pick) F sc fun cd A fr s H E hg hr => by
    have hu6 : (A.deeper (envOfC "_law_pick" (defScope st_law_pick) s.heap.objs.size f cd)).units + 66 < cLine := by have := hr.un; omega
    have hu4 : (A.deeper (envOfC "_law_pick" (defScope st_law_pick) s.heap.objs.size f cd)).units + 64 < cLine := by have := hr.un; omega
    have hu1 : (A.deeper (envOfC "_law_pick" (defScope st_law_pick) s.heap.objs.size f cd)).units + 1 < cLine := by have := hr.un; omega
    exact (b_cons (s_if (t_cmp (o_lt hu4) (p_var (pe_var (i := 1) rfl (.inl rfl))) (p_of d_int) (nomark _)) (b_one (s_ret d_int)) b_nil)
      (b_cons (s_set (i := 2) (ps_set sc.nd rfl (.inl rfl) (k_cel hu1 (d_var (pe_var (i := 0) rfl (.inl rfl))))))
      (b_cons (s_while PassesOwn.never (PW.pt (w_and (t_cmp (o_lt hu4) (p_of (k_get hu1 key_left (d_var (pe_var (i := 0) rfl (.inl rfl))))) (p_of d_int) (nomark _)) (w_and1 (t_cmp (o_gt hu4) (p_of (k_len rfl bl.len (d_var (pe_var (i := 2) rfl (.inl rfl))))) (p_of d_int) (nomark _))))) (b_one (s_put hu1 key_left (d_var (pe_var (i := 0) rfl (.inl rfl))) (f_of (k_pop (d_var (pe_var (i := 2) rfl (.inl rfl))))))))
      (b_cons (s_set (i := 3) (ps_set sc.nd rfl (.inl rfl) (k_get hu1 key_left (d_var (pe_var (i := 0) rfl (.inl rfl))))))
      (b_cons (s_if (t_cmp (o_gt hu4) (p_var (pe_var (i := 3) rfl (.inl rfl))) (p_of d_int) (nomark _)) (b_cons (s_put hu1 key_left (d_var (pe_var (i := 0) rfl (.inl rfl))) (f_of (d_bin o_div (p_var (pe_var (i := 3) rfl (.inl rfl))) (p_var (pe_var (i := 1) rfl (.inl rfl))))))
      (b_one (s_ret (d_bin o_mod (p_of (d_t1 c_int rfl bl.int boot_int (p_var (pe_var (i := 3) rfl (.inl rfl))))) (p_var (pe_var (i := 1) rfl (.inl rfl))))))) b_nil)
      (b_cons (s_put hu1 key_turn (d_var (pe_var (i := 0) rfl (.inl rfl))) (f_of (d_bin o_add (p_of (k_get hu1 key_turn (d_var (pe_var (i := 0) rfl (.inl rfl))))) (p_of d_int))))
      (b_cons (s_set (i := 4) (ps_set sc.nd rfl (.inl rfl) (k_get hu1 key_turn (d_var (pe_var (i := 0) rfl (.inl rfl))))))
      (b_cons (s_set (i := 5) (ps_set sc.nd rfl (.inl rfl) (d_bin o_mod (p_of (d_t1 c_int rfl bl.int boot_int (p_of (d_bin o_add (p_of (k_get hu1 key_mixed (d_var (pe_var (i := 0) rfl (.inl rfl))))) (p_of (d_bin o_mul (p_var (pe_var (i := 4) rfl (.inl rfl))) (p_of d_int))))))) (p_of d_int))))
      (b_cons (s_set (i := 5) (ps_set sc.nd rfl (.inl rfl) (d_bin o_mod (p_of (d_t1 c_int rfl bl.int boot_int (p_of (d_bin o_add (p_of (d_bin o_mul (p_var (pe_var (i := 5) rfl (.inl rfl))) (p_var (pe_var (i := 5) rfl (.inl rfl))))) (p_of (d_bin o_mul (p_var (pe_var (i := 4) rfl (.inl rfl))) (p_of d_int))))))) (p_of d_int))))
      (b_one (s_ret (d_bin o_mod (p_of (d_t1 c_int rfl bl.int boot_int (p_of (d_bin o_div (p_var (pe_var (i := 5) rfl (.inl rfl))) (p_of d_int))))) (p_var (pe_var (i := 1) rfl (.inl rfl)))))))))))))))
theorem sc_law_of : FnScope ["source", "some"] ["source", "some"] (defScope st_law_of) := ⟨rfl, rfl, rfl, by decide +kernel, rfl, by decide +kernel, by decide +kernel⟩
theorem ok_law_of (F : FunD K "_law_of" "_law_of" (defArgs st_law_of) (defBody st_law_of) (defScope st_law_of) [] [] f fd) (bl : Bl mg) (Dlaw_pick : Def P w K mg base 1 2 "_law_pick" g_law_pick) : FnG P w K mg base 2 f fd ["source", "some"] (spG K 2 g_law_of) :=
  have sc := sc_law_of
  fn_okM (N := ["source", "some"]) (ps := ["source", "some"]) (m := m_law_of) F sc fun cd A fr s H E hg hr => by
    have hu6 : (A.deeper (envOfC "_law_of" (defScope st_law_of) s.heap.objs.size f cd)).units + 66 < cLine := by have := hr.un; omega
    have hu4 : (A.deeper (envOfC "_law_of" (defScope st_law_of) s.heap.objs.size f cd)).units + 64 < cLine := by have := hr.un; omega
    have hu1 : (A.deeper (envOfC "_law_of" (defScope st_law_of) s.heap.objs.size f cd)).units + 1 < cLine := by have := hr.un; omega
    exact (b_one (s_ret (d_ixA hu1 (p_var (pe_var (i := 1) rfl (.inl rfl))) (p_of (d_call Dlaw_pick hg (hr.mono (by decide)) rfl (x_src (pe_var (i := 0) rfl (.inl rfl)) (x_cons (f_of (d_b1 c_len rfl bl.len boot_len (p_var (pe_var (i := 1) rfl (.inl rfl))))) x_nil)) (xn_src (xn_cons xn_nil)))) fun _ _ => rfl)))
theorem sc_law_cut : FnScope ["net", "lot", "a", "b"] ["net", "lot"] (defScope st_law_cut) := ⟨rfl, rfl, rfl, by decide +kernel, rfl, by decide +kernel, by decide +kernel⟩
theorem ok_law_cut (F : FunD K "_law_cut" "_law_cut" (defArgs st_law_cut) (defBody st_law_cut) (defScope st_law_cut) [] [] f fd) (bl : Bl mg)  : FnG P w K mg base 1 f fd ["net", "lot"] (spG K 2 g_law_cut) :=
  have sc := sc_law_cut
  fn_okM (N := ["net", "lot", "a", "b"]) (ps := ["net", "lot"]) (m := m_law_cut) F sc fun cd A fr s H E hg hr => by
    have hu6 : (A.deeper (envOfC "_law_cut" (defScope st_law_cut) s.heap.objs.size f cd)).units + 66 < cLine := by have := hr.un; omega
    have hu4 : (A.deeper (envOfC "_law_cut" (defScope st_law_cut) s.heap.objs.size f cd)).units + 64 < cLine := by have := hr.un; omega
    have hu1 : (A.deeper (envOfC "_law_cut" (defScope st_law_cut) s.heap.objs.size f cd)).units + 1 < cLine := by have := hr.un; omega
    exact (b_one (s_ret (d_b1 c_len rfl bl.len boot_len (p_of (d_lc rfl sc.nd (j_seq (f_of (d_ixA hu1 (p_var (pe_var (i := 0) rfl (.inl rfl))) (p_of d_int) fun _ _ => rfl))) (blkOk_by (own := [("a", 2), ("b", 3)]) (by kernel_rfl)) rfl (fun _ _ _ _ _ => (q_tup rfl (q_cons (q_name (pg_name (i := 2) sc.nd rfl (.inl rfl)) (by decide)) (q_cons (q_name (pg_name (i := 3) sc.nd rfl (.inl rfl)) (by decide)) q_nil)) (gl_cons (gl_cons gl_nil)))) (fun _ _ _ _ _ => (t_one (t_cmp (o_ne hu4) (p_of (d_cmp (o_inA hu6) (p_var (pe_var (i := 2) rfl (.inl rfl))) (p_var (pe_var (i := 1) rfl (.inr (.inl rfl)))) rfl)) (p_of (d_cmp (o_inA hu6) (p_var (pe_var (i := 3) rfl (.inl rfl))) (p_var (pe_var (i := 1) rfl (.inr (.inl rfl)))) rfl)) (nomark _)))) (fun _ _ _ _ _ => (f_of d_int)))))))
theorem sc_law_all_lots : FnScope ["n", "found", "station", "lot"] ["n"] (defScope st_law_all_lots) := ⟨rfl, rfl, rfl, by decide +kernel, rfl, by decide +kernel, by decide +kernel⟩
theorem ok_law_all_lots (F : FunD K "_law_all_lots" "_law_all_lots" (defArgs st_law_all_lots) (defBody st_law_all_lots) (defScope st_law_all_lots) [] [] f fd) (bl : Bl mg)  : FnG P w K mg base 1 f fd ["n"] (spG K 1 g_law_all_lots) :=
  have sc := sc_law_all_lots
  fn_okM (N := ["n", "found", "station", "lot"]) (ps := ["n"]) (m := m_law_all_lots) F sc fun cd A fr s H E hg hr => by
    have hu6 : (A.deeper (envOfC "_law_all_lots" (defScope st_law_all_lots) s.heap.objs.size f cd)).units + 66 < cLine := by have := hr.un; omega
    have hu4 : (A.deeper (envOfC "_law_all_lots" (defScope st_law_all_lots) s.heap.objs.size f cd)).units + 64 < cLine := by have := hr.un; omega
    have hu1 : (A.deeper (envOfC "_law_all_lots" (defScope st_law_all_lots) s.heap.objs.size f cd)).units + 1 < cLine := by have := hr.un; omega
    exact (b_cons (s_set (i := 1) (ps_set sc.nd rfl (.inl rfl) (d_lst (a_cons (f_of (d_tup a_nil)) a_nil))))
      (b_cons (s_for (idx := [2]) PassesOwn.never rfl (j_rng1 rfl bl.range (a_cons (f_of (d_var (pe_var (i := 0) rfl (.inl rfl)))) a_nil)) (q_name (pg_name (i := 2) sc.nd rfl (.inr rfl)) (by decide)) (b_one (s_set (i := 1) (ps_set sc.nd rfl (.inl rfl) (d_bin o_add (p_var (pe_var (i := 1) rfl (.inl rfl))) (p_of (d_lc rfl sc.nd (j_seq (f_of (d_var (pe_var (i := 1) rfl (.inl rfl))))) (blkOk_by (own := [("lot", 3)]) (by kernel_rfl)) rfl (fun _ _ _ _ _ => (q_name (pg_name (i := 3) sc.nd rfl (.inl rfl)) (by decide))) (fun _ _ _ _ _ => t_yes) (fun _ _ _ _ _ => (f_of (d_bin o_add (p_var (pe_var (i := 3) rfl (.inl rfl))) (p_of (d_tup (a_cons (f_of (d_var (pe_var (i := 2) rfl (.inr (.inl rfl))))) a_nil)))))))))))))
      (b_one (s_ret (d_mv (pe_var (i := 1) rfl (.inl rfl)))))))
theorem sc_law_about : FnScope ["net", "told", "t", "some", "least", "lot", "u"] ["net", "told", "t"] (defScope st_law_about) := ⟨rfl, rfl, rfl, by decide +kernel, rfl, by decide +kernel, by decide +kernel⟩
theorem ok_law_about (F : FunD K "_law_about" "_law_about" (defArgs st_law_about) (defBody st_law_about) (defScope st_law_about) [] [] f fd) (bl : Bl mg) (Dlaw_cut : Def P w K mg base 1 2 "_law_cut" g_law_cut) (Dlaw_all_lots : Def P w K mg base 1 1 "_law_all_lots" g_law_all_lots) : FnG P w K mg base 2 f fd ["net", "told", "t"] (spG K 3 g_law_about) :=
  have sc := sc_law_about
  fn_okM (N := ["net", "told", "t", "some", "least", "lot", "u"]) (ps := ["net", "told", "t"]) (m := m_law_about) F sc fun cd A fr s H E hg hr => by
    have hu6 : (A.deeper (envOfC "_law_about" (defScope st_law_about) s.heap.objs.size f cd)).units + 66 < cLine := by have := hr.un; omega
    have hu4 : (A.deeper (envOfC "_law_about" (defScope st_law_about) s.heap.objs.size f cd)).units + 64 < cLine := by have := hr.un; omega
    have hu1 : (A.deeper (envOfC "_law_about" (defScope st_law_about) s.heap.objs.size f cd)).units + 1 < cLine := by have := hr.un; omega
    exact (b_cons (s_lc rfl sc.nd rfl rfl (sw_true rfl rfl rfl rfl) (j_seq (f_of (d_call Dlaw_all_lots hg (hr.mono (by decide)) rfl (x_cons (f_of (d_ixA hu1 (p_var (pe_var (i := 0) rfl (.inr (.inl rfl)))) (p_of d_int) fun _ _ => rfl)) x_nil) (xn_cons xn_nil)))) (blkOk_by (own := [("lot", 5)]) (by kernel_rfl)) rfl (fun _ _ _ _ _ => (q_name (pg_name (i := 5) sc.nd rfl (.inr rfl)) (by decide))) (fun _ _ _ _ _ => (t_one (t_cmp (o_eq hu4) (p_of (d_lc rfl sc.nd (j_seq (f_of (d_var (pe_var (i := 1) rfl (.inr (.inl rfl)))))) (blkOk_by (own := [("u", 6)]) (by kernel_rfl)) rfl (fun _ _ _ _ _ => (q_name (pg_name (i := 6) sc.nd rfl (.inl rfl)) (by decide))) (fun _ _ _ _ _ => (t_one (t_cmp (o_inA hu6) (p_var (pe_var (i := 6) rfl (.inl rfl))) (p_var (pe_var (i := 5) rfl (.inr (.inl rfl)))) rfl))) (fun _ _ _ _ _ => (f_of (d_var (pe_var (i := 6) rfl (.inl rfl))))))) (p_of (d_lst (a_cons (f_of (d_var (pe_var (i := 2) rfl (.inr (.inl rfl))))) a_nil))) (nomark _)))) (fun _ _ _ _ _ => (f_of (d_var (pe_var (i := 5) rfl (.inr (.inl rfl)))))))
      (b_cons (s_set (i := 4) (ps_set sc.nd rfl (.inr rfl) (d_b1 (c_min rfl hu4) rfl bl.min boot_min (p_of (d_lc rfl sc.nd (j_seq (f_of (d_var (pe_var (i := 3) rfl (.inl rfl))))) (blkOk_by (own := [("lot", 5)]) (by kernel_rfl)) rfl (fun _ _ _ _ _ => (q_name (pg_name (i := 5) sc.nd rfl (.inl rfl)) (by decide))) (fun _ _ _ _ _ => t_yes) (fun _ _ _ _ _ => (f_of (d_call Dlaw_cut hg (hr.mono (by decide)) rfl (x_cons (f_of (d_var (pe_var (i := 0) rfl (.inr (.inl rfl))))) (x_cons (f_of (d_var (pe_var (i := 5) rfl (.inl rfl)))) x_nil)) (xn_cons (xn_cons xn_nil))))))))))
      (b_one (s_ret (d_tup (a_cons (f_of (d_lc rfl sc.nd (j_seq (f_of (d_var (pe_var (i := 3) rfl (.inl rfl))))) (blkOk_by (own := [("lot", 5)]) (by kernel_rfl)) rfl (fun _ _ _ _ _ => (q_name (pg_name (i := 5) sc.nd rfl (.inl rfl)) (by decide))) (fun _ _ _ _ _ => (t_one (t_cmp (o_eq hu4) (p_of (d_call Dlaw_cut hg (hr.mono (by decide)) rfl (x_cons (f_of (d_var (pe_var (i := 0) rfl (.inr (.inl rfl))))) (x_cons (f_of (d_var (pe_var (i := 5) rfl (.inl rfl)))) x_nil)) (xn_cons (xn_cons xn_nil)))) (p_var (pe_var (i := 4) rfl (.inr (.inl rfl)))) (nomark _)))) (fun _ _ _ _ _ => (f_of (d_var (pe_var (i := 5) rfl (.inl rfl))))))) (a_cons (f_of (d_var (pe_var (i := 4) rfl (.inr (.inl rfl))))) a_nil)))))))
theorem sc_law_leasts : FnScope ["net", "told", "t"] ["net", "told"] (defScope st_law_leasts) := ⟨rfl, rfl, rfl, by decide +kernel, rfl, by decide +kernel, by decide +kernel⟩
theorem ok_law_leasts (F : FunD K "_law_leasts" "_law_leasts" (defArgs st_law_leasts) (defBody st_law_leasts) (defScope st_law_leasts) [] [] f fd) (bl : Bl mg) (Dlaw_about : Def P w K mg base 2 3 "_law_about" g_law_about) : FnG P w K mg base 3 f fd ["net", "told"] (spG K 2 g_law_leasts) :=
  have sc := sc_law_leasts
  fn_okM (N := ["net", "told", "t"]) (ps := ["net", "told"]) (m := m_law_leasts) F sc fun cd A fr s H E hg hr => by
    have hu6 : (A.deeper (envOfC "_law_leasts" (defScope st_law_leasts) s.heap.objs.size f cd)).units + 66 < cLine := by have := hr.un; omega
    have hu4 : (A.deeper (envOfC "_law_leasts" (defScope st_law_leasts) s.heap.objs.size f cd)).units + 64 < cLine := by have := hr.un; omega
    have hu1 : (A.deeper (envOfC "_law_leasts" (defScope st_law_leasts) s.heap.objs.size f cd)).units + 1 < cLine := by have := hr.un; omega
    exact (b_one (s_ret (d_lc rfl sc.nd (j_seq (f_of (d_var (pe_var (i := 1) rfl (.inr (.inl rfl)))))) (blkOk_by (own := [("t", 2)]) (by kernel_rfl)) rfl (fun _ _ _ _ _ => (q_name (pg_name (i := 2) sc.nd rfl (.inl rfl)) (by decide))) (fun _ _ _ _ _ => t_yes) (fun _ _ _ _ _ => (f_of (d_ixA hu1 (p_of (d_call Dlaw_about hg (hr.mono (by decide)) rfl (x_cons (f_of (d_var (pe_var (i := 0) rfl (.inr (.inl rfl))))) (x_cons (f_of (d_var (pe_var (i := 1) rfl (.inr (.inl rfl))))) (x_cons (f_of (d_var (pe_var (i := 2) rfl (.inl rfl)))) x_nil))) (xn_cons (xn_cons (xn_cons xn_nil))))) (p_of d_int) fun _ _ => rfl))))))
theorem sc_law_any_order : FnScope ["source", "things", "others", "lap"] ["source", "things"] (defScope st_law_any_order) := ⟨rfl, rfl, rfl, by decide +kernel, rfl, by decide +kernel, by decide +kernel⟩
theorem ok_law_any_order (F : FunD K "_law_any_order" "_law_any_order" (defArgs st_law_any_order) (defBody st_law_any_order) (defScope st_law_any_order) [] [] f fd) (bl : Bl mg) (Dlaw_pick : Def P w K mg base 1 2 "_law_pick" g_law_pick) : FnG P w K mg base 2 f fd ["source", "things"] (spG K 2 g_law_any_order) :=
  have sc := sc_law_any_order
  fn_okM (N := ["source", "things", "others", "lap"]) (ps := ["source", "things"]) (m := m_law_any_order) F sc fun cd A fr s H E hg hr => by
    have hu6 : (A.deeper (envOfC "_law_any_order" (defScope st_law_any_order) s.heap.objs.size f cd)).units + 66 < cLine := by have := hr.un; omega
    have hu4 : (A.deeper (envOfC "_law_any_order" (defScope st_law_any_order) s.heap.objs.size f cd)).units + 64 < cLine := by have := hr.un; omega
    have hu1 : (A.deeper (envOfC "_law_any_order" (defScope st_law_any_order) s.heap.objs.size f cd)).units + 1 < cLine := by have := hr.un; omega
    exact (b_cons (s_set (i := 2) (ps_set sc.nd rfl (.inr rfl) (d_t1 c_list rfl bl.list boot_list (p_var (pe_var (i := 1) rfl (.inl rfl))))))
      (b_one (s_ret (d_lc rfl sc.nd (j_rng1 rfl bl.range (a_cons (f_of (d_b1 c_len rfl bl.len boot_len (p_var (pe_var (i := 2) rfl (.inr (.inl rfl)))))) a_nil)) (blkOk_by (own := [("lap", 3)]) (by kernel_rfl)) rfl (fun _ _ _ _ _ => (q_name (pg_name (i := 3) sc.nd rfl (.inl rfl)) (by decide))) (fun _ _ _ _ _ => t_yes) (fun _ _ _ _ _ => (f_of (m_popAt (pe_var (i := 2) rfl (.inr (.inl rfl))) (a_cons (f_of (d_call Dlaw_pick hg (hr.mono (by decide)) rfl (x_src (pe_var (i := 0) rfl (.inr (.inl rfl))) (x_cons (f_of (d_b1 c_len rfl bl.len boot_len (p_var (pe_var (i := 2) rfl (.inr (.inl rfl)))))) x_nil)) (xn_src (xn_cons xn_nil)))) a_nil))))))))
theorem sc_law_net : FnScope ["source", "most", "links", "is_even", "n", "told", "pairs", "lap", "a", "b", "s", "odd", "late", "other", "v", "pair"] ["source", "most", "links", "is_even"] (defScope st_law_net) := ⟨rfl, rfl, rfl, by decide +kernel, rfl, by decide +kernel, by decide +kernel⟩
theorem ok_law_net (F : FunD K "_law_net" "_law_net" (defArgs st_law_net) (defBody st_law_net) (defScope st_law_net) [] [] f fd) (bl : Bl mg) (Dlaw_of : Def P w K mg base 2 2 "_law_of" g_law_of) (Dlaw_pick : Def P w K mg base 1 2 "_law_pick" g_law_pick) (Dlaw_any_order : Def P w K mg base 2 2 "_law_any_order" g_law_any_order) : FnG P w K mg base 3 f fd ["source", "most", "links", "is_even"] (spG K 4 g_law_net) :=
  have sc := sc_law_net
  fn_okM (N := ["source", "most", "links", "is_even", "n", "told", "pairs", "lap", "a", "b", "s", "odd", "late", "other", "v", "pair"]) (ps := ["source", "most", "links", "is_even"]) (m := m_law_net) F sc fun cd A fr s H E hg hr => by
    have hu6 : (A.deeper (envOfC "_law_net" (defScope st_law_net) s.heap.objs.size f cd)).units + 66 < cLine := by have := hr.un; omega
    have hu4 : (A.deeper (envOfC "_law_net" (defScope st_law_net) s.heap.objs.size f cd)).units + 64 < cLine := by have := hr.un; omega
    have hu1 : (A.deeper (envOfC "_law_net" (defScope st_law_net) s.heap.objs.size f cd)).units + 1 < cLine := by have := hr.un; omega
    exact (b_cons (s_set (i := 4) (ps_set sc.nd rfl (.inl rfl) (d_bin o_add (p_of d_int) (p_of (d_call Dlaw_pick hg (hr.mono (by decide)) rfl (x_src (pe_var (i := 0) rfl (.inl rfl)) (x_cons (f_of (d_bin o_sub (p_var (pe_var (i := 1) rfl (.inl rfl))) (p_of d_int))) x_nil)) (xn_src (xn_cons xn_nil)))))))
      (b_cons (s_set (i := 5) (ps_set sc.nd rfl (.inr rfl) (d_b1 (c_sorted hu6) rfl bl.sorted boot_sorted (p_of (d_sl (p_of (d_call Dlaw_any_order hg (hr.mono (by decide)) rfl (x_src (pe_var (i := 0) rfl (.inl rfl)) (x_cons (f_of (d_lrg rfl rfl bl.list (g_1 rfl bl.range (d_var (pe_var (i := 4) rfl (.inl rfl)))))) x_nil)) (xn_src (xn_cons xn_nil)))) o_none (o_some (d_bin o_add (p_of d_int) (p_of (d_call Dlaw_pick hg (hr.mono (by decide)) rfl (x_src (pe_var (i := 0) rfl (.inl rfl)) (x_cons (f_of (d_bin o_sub (p_var (pe_var (i := 4) rfl (.inl rfl))) (p_of d_int))) x_nil)) (xn_src (xn_cons xn_nil)))))))))))
      (b_cons (s_set (i := 6) (ps_set sc.nd rfl (.inr rfl) (d_lst a_nil)))
      (b_cons (s_for (idx := [7]) PassesOwn.never rfl (j_rng1 rfl bl.range (a_cons (f_of (d_call Dlaw_pick hg (hr.mono (by decide)) rfl (x_src (pe_var (i := 0) rfl (.inl rfl)) (x_cons (f_of (d_bin o_add (p_var (pe_var (i := 2) rfl (.inl rfl))) (p_of d_int))) x_nil)) (xn_src (xn_cons xn_nil)))) a_nil)) (q_name (pg_name (i := 7) sc.nd rfl (.inl rfl)) (by decide)) (b_cons (s_asg (idx := [8, 9]) (ps_asg (f_of (d_b1 (c_sorted hu6) rfl bl.sorted boot_sorted (p_of (d_sl (p_of (d_call Dlaw_any_order hg (hr.mono (by decide)) rfl (x_src (pe_var (i := 0) rfl (.inl rfl)) (x_cons (f_of (d_lrg rfl rfl bl.list (g_1 rfl bl.range (d_var (pe_var (i := 4) rfl (.inl rfl)))))) x_nil)) (xn_src (xn_cons xn_nil)))) o_none (o_some d_int))))) (q_tup rfl (q_cons (q_name (pg_name (i := 8) sc.nd rfl (.inl rfl)) (by decide)) (q_cons (q_name (pg_name (i := 9) sc.nd rfl (.inl rfl)) (by decide)) q_nil)) (gl_cons (gl_cons gl_nil)))))
      (b_one (s_expr (m_app (pe_var (i := 6) rfl (.inr (.inl rfl))) (a_cons (f_of (d_tup (a_cons (f_of (d_var (pe_var (i := 8) rfl (.inl rfl)))) (a_cons (f_of (d_var (pe_var (i := 9) rfl (.inl rfl)))) a_nil)))) a_nil))))))
      (b_cons (s_for (idx := [10]) PassesOwn.never rfl (j_rng1 rfl bl.range (a_cons (f_of (d_if (t_val (d_var (pe_var (i := 3) rfl (.inl rfl)))) (d_var (pe_var (i := 4) rfl (.inl rfl))) d_int)) a_nil)) (q_name (pg_name (i := 10) sc.nd rfl (.inr rfl)) (by decide)) (b_cons (s_lc rfl sc.nd rfl rfl (sw_true rfl rfl rfl rfl) (j_rng1 rfl bl.range (a_cons (f_of (d_var (pe_var (i := 4) rfl (.inl rfl)))) a_nil)) (blkOk_by (own := [("v", 14)]) (by kernel_rfl)) rfl (fun _ _ _ _ _ => (q_name (pg_name (i := 14) sc.nd rfl (.inr rfl)) (by decide))) (fun _ _ _ _ _ => (t_one (PW.pt (w_and (t_cmp (o_notInA hu6) (p_var (pe_var (i := 14) rfl (.inr (.inl rfl)))) (p_var (pe_var (i := 5) rfl (.inr (.inl rfl)))) rfl) (w_and1 (t_cmp (o_eq hu4) (p_of (d_bin o_mod (p_of (d_t1 c_int rfl bl.int boot_int (p_of (d_b1 c_len rfl bl.len boot_len (p_of (d_lcP rfl sc.nd (pe_var (i := 6) rfl (.inr (.inl rfl))) (by decide) (blkOk_by (own := [("pair", 15)]) (by kernel_rfl)) rfl (fun _ _ _ _ _ => (q_name (pg_name (i := 15) sc.nd rfl (.inl rfl)) (by decide))) (fun _ _ _ _ _ => (t_one (t_cmp (o_inA hu6) (p_var (pe_var (i := 14) rfl (.inr (.inl rfl)))) (p_var (pe_var (i := 15) rfl (.inl rfl))) rfl))) (fun _ _ _ _ _ => (f_of d_int)))))))) (p_of d_int))) (p_of d_int) (nomark _))))))) (fun _ _ _ _ _ => (f_of (d_var (pe_var (i := 14) rfl (.inr (.inl rfl)))))))
      (b_one (s_if (t_cmp (o_inA hu6) (p_var (pe_var (i := 10) rfl (.inr (.inl rfl)))) (p_var (pe_var (i := 11) rfl (.inl rfl))) rfl) (b_cons (s_lc rfl sc.nd rfl rfl (sw_true rfl rfl rfl rfl) (j_seq (f_of (d_var (pe_var (i := 11) rfl (.inl rfl))))) (blkOk_by (own := [("v", 14)]) (by kernel_rfl)) rfl (fun _ _ _ _ _ => (q_name (pg_name (i := 14) sc.nd rfl (.inl rfl)) (by decide))) (fun _ _ _ _ _ => (t_one (t_cmp (o_gt hu4) (p_var (pe_var (i := 14) rfl (.inl rfl))) (p_var (pe_var (i := 10) rfl (.inr (.inl rfl)))) (nomark _)))) (fun _ _ _ _ _ => (f_of (d_var (pe_var (i := 14) rfl (.inl rfl))))))
      (b_cons (s_set (i := 13) (ps_set sc.nd rfl (.inl rfl) (d_if (t_cmp (o_ne hu4) (p_var (pe_var (i := 12) rfl (.inl rfl))) (p_of (d_lst a_nil)) (nomark _)) (d_call Dlaw_of hg (hr.mono (by decide)) rfl (x_src (pe_var (i := 0) rfl (.inl rfl)) (x_cons (f_of (d_var (pe_var (i := 12) rfl (.inl rfl)))) x_nil)) (xn_src (xn_cons xn_nil))) (d_call Dlaw_of hg (hr.mono (by decide)) rfl (x_src (pe_var (i := 0) rfl (.inl rfl)) (x_cons (f_of (d_var (pe_var (i := 5) rfl (.inr (.inl rfl))))) x_nil)) (xn_src (xn_cons xn_nil))))))
      (b_one (s_expr (m_app (pe_var (i := 6) rfl (.inr (.inl rfl))) (a_cons (f_of (d_tup (a_cons (f_of (d_b2 (c_min2 rfl) rfl bl.min boot_min (p_var (pe_var (i := 10) rfl (.inr (.inl rfl)))) (p_var (pe_var (i := 13) rfl (.inl rfl))))) (a_cons (f_of (d_b2 (c_max2 rfl) rfl bl.max boot_max (p_var (pe_var (i := 10) rfl (.inr (.inl rfl)))) (p_var (pe_var (i := 13) rfl (.inl rfl))))) a_nil)))) a_nil)))))) b_nil))))
      (b_one (s_ret (d_tup (a_cons (f_of (d_tup (a_cons (f_of (d_var (pe_var (i := 4) rfl (.inl rfl)))) (a_cons (f_of (d_t1 c_tuple rfl bl.tuple boot_tuple (p_of (d_b1 (c_sorted hu6) rfl bl.sorted boot_sorted (p_var (pe_var (i := 6) rfl (.inr (.inl rfl)))))))) a_nil)))) (a_cons (f_of (d_t1 c_tuple rfl bl.tuple boot_tuple (p_var (pe_var (i := 5) rfl (.inr (.inl rfl)))))) a_nil))))))))))
theorem sc_law_open_cells : FnScope ["script", "stirred", "cell", "cells"] ["script"] (defScope st_law_open_cells) := ⟨rfl, rfl, rfl, by decide +kernel, rfl, by decide +kernel, by decide +kernel⟩
theorem ok_law_open_cells (F : FunD K "_law_open_cells" "_law_open_cells" (defArgs st_law_open_cells) (defBody st_law_open_cells) (defScope st_law_open_cells) [] [] f fd) (bl : Bl mg)  : FnG P w K mg base 1 f fd ["script"] (spG K 1 g_law_open_cells) :=
  have sc := sc_law_open_cells
  fn_okM (N := ["script", "stirred", "cell", "cells"]) (ps := ["script"]) (m := m_law_open_cells) F sc fun cd A fr s H E hg hr => by
    have hu6 : (A.deeper (envOfC "_law_open_cells" (defScope st_law_open_cells) s.heap.objs.size f cd)).units + 66 < cLine := by have := hr.un; omega
    have hu4 : (A.deeper (envOfC "_law_open_cells" (defScope st_law_open_cells) s.heap.objs.size f cd)).units + 64 < cLine := by have := hr.un; omega
    have hu1 : (A.deeper (envOfC "_law_open_cells" (defScope st_law_open_cells) s.heap.objs.size f cd)).units + 1 < cLine := by have := hr.un; omega
    exact (b_cons (s_set (i := 1) (ps_set sc.nd rfl (.inl rfl) d_int))
      (b_cons (s_for (idx := [2]) PassesOwn.never rfl (i_scr (pe_var (i := 0) rfl (.inl rfl))) (q_name (pg_name (i := 2) sc.nd rfl (.inl rfl)) (by decide)) (b_one (s_set (i := 1) (ps_set sc.nd rfl (.inl rfl) (d_bin o_mod (p_of (d_t1 c_int rfl bl.int boot_int (p_of (d_bin o_add (p_of (d_bin o_add (p_of (d_bin o_mul (p_var (pe_var (i := 1) rfl (.inl rfl))) (p_of d_int))) (p_of (d_bin o_mul (p_var (pe_var (i := 2) rfl (.inl rfl))) (p_of d_int))))) (p_of d_int))))) (p_of d_int))))))
      (b_cons (s_lc rfl sc.nd rfl rfl (sw_true rfl rfl rfl rfl) (i_scr (pe_var (i := 0) rfl (.inl rfl))) (blkOk_by (own := [("cell", 2)]) (by kernel_rfl)) rfl (fun _ _ _ _ _ => (q_name (pg_name (i := 2) sc.nd rfl (.inl rfl)) (by decide))) (fun _ _ _ _ _ => t_yes) (fun _ _ _ _ _ => (f_of (d_b1 c_abs rfl bl.abs boot_abs (p_var (pe_var (i := 2) rfl (.inl rfl)))))))
      (b_one (s_ret (k_new (d_rev (p_var (pe_var (i := 3) rfl (.inl rfl)))) (f_of d_int) (f_of (d_var (pe_var (i := 1) rfl (.inl rfl)))) (f_of d_int)))))))
theorem sc_law : FnScope ["script", "source", "lap", "net", "told", "kept", "leasts", "s", "some", "due", "k", "l", "late", "pair", "t"] ["script"] (defScope st_law) := ⟨rfl, rfl, rfl, by decide +kernel, rfl, by decide +kernel, by decide +kernel⟩
theorem ok_law (F : FunD K "law" "law" (defArgs st_law) (defBody st_law) (defScope st_law) [] [] f fd) (bl : Bl mg) (Dkept_splits : Def P w K mg base 5 3 "kept_splits" g_kept_splits) (Dleast_about : Def P w K mg base 3 3 "least_about" g_least_about) (Dlaw_split : Def P w K mg base 1 4 "_law_split" g_law_split) (Dis_even_beside : Def P w K mg base 1 2 "is_even_beside" g_is_even_beside) (Dsplit_net : Def P w K mg base 2 4 "split_net" g_split_net) (Dlaw_of : Def P w K mg base 2 2 "_law_of" g_law_of) (Dlaw_leasts : Def P w K mg base 3 2 "_law_leasts" g_law_leasts) (Dlaw_net : Def P w K mg base 3 4 "_law_net" g_law_net) (Dlaw_open_cells : Def P w K mg base 1 1 "_law_open_cells" g_law_open_cells) : FnG P w K mg base 6 f fd ["script"] (spG K 1 g_law) :=
  have sc := sc_law
  fn_okM (N := ["script", "source", "lap", "net", "told", "kept", "leasts", "s", "some", "due", "k", "l", "late", "pair", "t"]) (ps := ["script"]) (m := m_law) F sc fun cd A fr s H E hg hr => by
    have hu6 : (A.deeper (envOfC "law" (defScope st_law) s.heap.objs.size f cd)).units + 66 < cLine := by have := hr.un; omega
    have hu4 : (A.deeper (envOfC "law" (defScope st_law) s.heap.objs.size f cd)).units + 64 < cLine := by have := hr.un; omega
    have hu1 : (A.deeper (envOfC "law" (defScope st_law) s.heap.objs.size f cd)).units + 1 < cLine := by have := hr.un; omega
    exact (b_cons (s_set (i := 1) (ps_set sc.nd rfl (.inl rfl) (d_call Dlaw_open_cells hg (hr.mono (by decide)) rfl (x_src (pe_var (i := 0) rfl (.inl rfl)) x_nil) (xn_src xn_nil))))
      (b_cons (s_for (idx := [2]) PassesOwn.never rfl (j_rng1 rfl bl.range (a_cons (f_of d_int) a_nil)) (q_name (pg_name (i := 2) sc.nd rfl (.inl rfl)) (by decide)) (b_cons (s_asg (idx := [3, 4]) (ps_asg (f_of (d_call Dlaw_net hg (hr.mono (by decide)) rfl (x_src (pe_var (i := 1) rfl (.inl rfl)) (x_cons (f_of (d_ixA hu1 (p_of (d_lst (a_cons (f_of d_int) (a_cons (f_of d_int) (a_cons (f_of d_int) a_nil))))) (p_var (pe_var (i := 2) rfl (.inl rfl))) fun _ _ => rfl)) (x_cons (f_of (d_ixA hu1 (p_of (d_lst (a_cons (f_of d_int) (a_cons (f_of d_int) (a_cons (f_of d_int) a_nil))))) (p_var (pe_var (i := 2) rfl (.inl rfl))) fun _ _ => rfl)) (x_cons (f_of d_bl) x_nil)))) (xn_src (xn_cons (xn_cons (xn_cons xn_nil)))))) (q_tup rfl (q_cons (q_name (pg_name (i := 3) sc.nd rfl (.inr rfl)) (by decide)) (q_cons (q_name (pg_name (i := 4) sc.nd rfl (.inr rfl)) (by decide)) q_nil)) (gl_cons (gl_cons gl_nil)))))
      (b_cons (s_par2T (by decide) (ps_asg (pe_tup (pa_cons (d_b1 (c_repr hg hu4) rfl bl.repr boot_repr (p_of (d_lst (a_cons (f_of (d_var (pe_var (i := 3) rfl (.inr (.inl rfl))))) (a_cons (f_of (d_var (pe_var (i := 4) rfl (.inr (.inl rfl))))) a_nil))))) (pa_cons (d_call Dlaw_leasts hg (hr.mono (by decide)) rfl (x_cons (f_of (d_var (pe_var (i := 3) rfl (.inr (.inl rfl))))) (x_cons (f_of (d_var (pe_var (i := 4) rfl (.inr (.inl rfl))))) x_nil)) (xn_cons (xn_cons xn_nil))) pa_nil))) (pg_tup rfl (pgs_cons (pg_name (i := 5) sc.nd rfl (.inl rfl)) (pgs_cons (pg_name (i := 6) sc.nd rfl (.inr rfl)) pgs_nil)))))
      (b_cons (s_for (idx := [7]) PassesOwn.never rfl (j_seq (f_of (d_lc rfl sc.nd (j_rng1 rfl bl.range (a_cons (f_of (d_ixA hu1 (p_var (pe_var (i := 3) rfl (.inr (.inl rfl)))) (p_of d_int) fun _ _ => rfl)) a_nil)) (blkOk_by (own := [("s", 7)]) (by kernel_rfl)) rfl (fun _ _ _ _ _ => (q_name (pg_name (i := 7) sc.nd rfl (.inl rfl)) (by decide))) (fun _ _ _ _ _ => (t_one (t_cmp (o_notInA hu6) (p_var (pe_var (i := 7) rfl (.inl rfl))) (p_var (pe_var (i := 4) rfl (.inr (.inl rfl)))) rfl))) (fun _ _ _ _ _ => (f_of (d_var (pe_var (i := 7) rfl (.inl rfl)))))))) (q_name (pg_name (i := 7) sc.nd rfl (.inr rfl)) (by decide)) (b_cons (s_lc rfl sc.nd rfl rfl (sw_true rfl rfl rfl rfl) (j_enum rfl bl.enumerate (f_of (d_ixA hu1 (p_var (pe_var (i := 3) rfl (.inr (.inl rfl)))) (p_of d_int) fun _ _ => rfl))) (blkOk_by (own := [("k", 10), ("pair", 13)]) (by kernel_rfl)) rfl (fun _ _ _ _ _ => (q_tup rfl (q_cons (q_name (pg_name (i := 10) sc.nd rfl (.inl rfl)) (by decide)) (q_cons (q_name (pg_name (i := 13) sc.nd rfl (.inl rfl)) (by decide)) q_nil)) (gl_cons (gl_cons gl_nil)))) (fun _ _ _ _ _ => (t_one (t_cmp (o_inA hu6) (p_var (pe_var (i := 7) rfl (.inr (.inl rfl)))) (p_var (pe_var (i := 13) rfl (.inl rfl))) rfl))) (fun _ _ _ _ _ => (f_of (d_var (pe_var (i := 10) rfl (.inl rfl))))))
      (b_cons (s_set (i := 9) (ps_set sc.nd rfl (.inr rfl) (d_lst a_nil)))
      (b_cons (s_for (idx := [10]) PassesOwn.never rfl (j_seq (f_of (d_var (pe_var (i := 8) rfl (.inl rfl))))) (q_name (pg_name (i := 10) sc.nd rfl (.inr rfl)) (by decide)) (b_one (s_set (i := 9) (ps_set sc.nd rfl (.inr rfl) (d_bin o_add (p_var (pe_var (i := 9) rfl (.inr (.inl rfl)))) (p_of (d_lc rfl sc.nd (j_seq (f_of (d_var (pe_var (i := 8) rfl (.inl rfl))))) (blkOk_by (own := [("l", 11)]) (by kernel_rfl)) rfl (fun _ _ _ _ _ => (q_name (pg_name (i := 11) sc.nd rfl (.inl rfl)) (by decide))) (fun _ _ _ _ _ => (t_one (PW.pt (w_and (t_cmp (o_lt hu4) (p_var (pe_var (i := 10) rfl (.inr (.inl rfl)))) (p_var (pe_var (i := 11) rfl (.inl rfl))) (nomark _)) (w_and1 (t_cmp (o_eq hu4) (p_of (d_call Dlaw_leasts hg (hr.mono (by decide)) rfl (x_cons (f_of (d_call Dlaw_split hg (hr.mono (by decide)) rfl (x_cons (f_of (d_var (pe_var (i := 3) rfl (.inr (.inl rfl))))) (x_cons (f_of (d_var (pe_var (i := 7) rfl (.inr (.inl rfl))))) (x_cons (f_of (d_var (pe_var (i := 10) rfl (.inr (.inl rfl))))) (x_cons (f_of (d_var (pe_var (i := 11) rfl (.inl rfl)))) x_nil)))) (xn_cons (xn_cons (xn_cons (xn_cons xn_nil)))))) (x_cons (f_of (d_var (pe_var (i := 4) rfl (.inr (.inl rfl))))) x_nil)) (xn_cons (xn_cons xn_nil)))) (p_var (pe_var (i := 6) rfl (.inr (.inl rfl)))) (nomark _))))))) (fun _ _ _ _ _ => (f_of (d_tup (a_cons (f_of (d_var (pe_var (i := 10) rfl (.inr (.inl rfl))))) (a_cons (f_of (d_var (pe_var (i := 11) rfl (.inl rfl)))) a_nil))))))))))))
      (b_cons (s_if (t_cmp (o_ne hu4) (p_of (d_b1 (c_repr hg hu4) rfl bl.repr boot_repr (p_of (d_call Dkept_splits hg (hr.mono (by decide)) rfl (x_cons (f_of (d_var (pe_var (i := 3) rfl (.inr (.inl rfl))))) (x_cons (f_of (d_var (pe_var (i := 4) rfl (.inr (.inl rfl))))) (x_cons (f_of (d_var (pe_var (i := 7) rfl (.inr (.inl rfl))))) x_nil))) (xn_cons (xn_cons (xn_cons xn_nil))))))) (p_of (d_b1 (c_repr hg hu4) rfl bl.repr boot_repr (p_of (d_t1 c_tuple rfl bl.tuple boot_tuple (p_var (pe_var (i := 9) rfl (.inr (.inl rfl)))))))) (nomark _)) (b_one (s_ret d_bl)) b_nil)
      (b_cons (s_if (t_cmp (o_ne hu4) (p_of (d_lc rfl sc.nd (j_seq (f_of (d_var (pe_var (i := 8) rfl (.inl rfl))))) (blkOk_by (own := [("k", 10)]) (by kernel_rfl)) rfl (fun _ _ _ _ _ => (q_name (pg_name (i := 10) sc.nd rfl (.inr rfl)) (by decide))) (fun _ _ _ _ _ => (t_one (t_cmp (o_eq hu4) (p_of (d_lc rfl sc.nd (j_seq (f_of (d_var (pe_var (i := 9) rfl (.inr (.inl rfl)))))) (blkOk_by (own := [("pair", 13)]) (by kernel_rfl)) rfl (fun _ _ _ _ _ => (q_name (pg_name (i := 13) sc.nd rfl (.inl rfl)) (by decide))) (fun _ _ _ _ _ => (t_one (t_cmp (o_inA hu6) (p_var (pe_var (i := 10) rfl (.inr (.inl rfl)))) (p_var (pe_var (i := 13) rfl (.inl rfl))) rfl))) (fun _ _ _ _ _ => (f_of (d_var (pe_var (i := 13) rfl (.inl rfl))))))) (p_of (d_lst a_nil)) (nomark _)))) (fun _ _ _ _ _ => (f_of (d_var (pe_var (i := 10) rfl (.inr (.inl rfl)))))))) (p_of (d_lst a_nil)) (nomark _)) (b_one (s_ret d_bl)) b_nil)
      (b_one (s_if (t_cmp (o_ne hu4) (p_var (pe_var (i := 9) rfl (.inr (.inl rfl)))) (p_of (d_lst a_nil)) (nomark _)) (b_cons (s_asg (idx := [10, 11]) (ps_asg (f_of (d_call Dlaw_of hg (hr.mono (by decide)) rfl (x_src (pe_var (i := 1) rfl (.inl rfl)) (x_cons (f_of (d_var (pe_var (i := 9) rfl (.inr (.inl rfl))))) x_nil)) (xn_src (xn_cons xn_nil)))) (q_tup rfl (q_cons (q_name (pg_name (i := 10) sc.nd rfl (.inr rfl)) (by decide)) (q_cons (q_name (pg_name (i := 11) sc.nd rfl (.inl rfl)) (by decide)) q_nil)) (gl_cons (gl_cons gl_nil)))))
      (b_cons (s_set (i := 12) (ps_set sc.nd rfl (.inr rfl) (d_call Dsplit_net hg (hr.mono (by decide)) rfl (x_cons (f_of (d_var (pe_var (i := 3) rfl (.inr (.inl rfl))))) (x_cons (f_of (d_var (pe_var (i := 7) rfl (.inr (.inl rfl))))) (x_cons (f_of (d_var (pe_var (i := 10) rfl (.inr (.inl rfl))))) (x_cons (f_of (d_var (pe_var (i := 11) rfl (.inl rfl)))) x_nil)))) (xn_cons (xn_cons (xn_cons (xn_cons xn_nil)))))))
      (b_cons (s_if (PW.pt (w_or (t_cmp (o_ne hu4) (p_of (d_b1 (c_repr hg hu4) rfl bl.repr boot_repr (p_var (pe_var (i := 12) rfl (.inr (.inl rfl)))))) (p_of (d_b1 (c_repr hg hu4) rfl bl.repr boot_repr (p_of (d_call Dlaw_split hg (hr.mono (by decide)) rfl (x_cons (f_of (d_var (pe_var (i := 3) rfl (.inr (.inl rfl))))) (x_cons (f_of (d_var (pe_var (i := 7) rfl (.inr (.inl rfl))))) (x_cons (f_of (d_var (pe_var (i := 10) rfl (.inr (.inl rfl))))) (x_cons (f_of (d_var (pe_var (i := 11) rfl (.inl rfl)))) x_nil)))) (xn_cons (xn_cons (xn_cons (xn_cons xn_nil)))))))) (nomark _)) (w_or1 (t_cmp o_isNotB (p_of (d_call Dis_even_beside hg (hr.mono (by decide)) rfl (x_cons (f_of (d_var (pe_var (i := 12) rfl (.inr (.inl rfl))))) (x_cons (f_of (d_var (pe_var (i := 4) rfl (.inr (.inl rfl))))) x_nil)) (xn_cons (xn_cons xn_nil)))) (p_of d_bl) (nomark _))))) (b_one (s_ret d_bl)) b_nil)
      (b_one (s_if (t_cmp (o_ne hu4) (p_of (d_lc rfl sc.nd (j_seq (f_of (d_var (pe_var (i := 4) rfl (.inr (.inl rfl)))))) (blkOk_by (own := [("t", 14)]) (by kernel_rfl)) rfl (fun _ _ _ _ _ => (q_name (pg_name (i := 14) sc.nd rfl (.inl rfl)) (by decide))) (fun _ _ _ _ _ => t_yes) (fun _ _ _ _ _ => (f_of (d_call Dleast_about hg (hr.mono (by decide)) rfl (x_cons (f_of (d_var (pe_var (i := 12) rfl (.inr (.inl rfl))))) (x_cons (f_of (d_var (pe_var (i := 4) rfl (.inr (.inl rfl))))) (x_cons (f_of (d_var (pe_var (i := 14) rfl (.inl rfl)))) x_nil))) (xn_cons (xn_cons (xn_cons xn_nil)))))))) (p_var (pe_var (i := 6) rfl (.inr (.inl rfl)))) (nomark _)) (b_one (s_ret d_bl)) b_nil))))) b_nil))))))))
      (b_one (s_if (t_cmp (o_ne hu4) (p_of (d_b1 (c_repr hg hu4) rfl bl.repr boot_repr (p_of (d_lst (a_cons (f_of (d_var (pe_var (i := 3) rfl (.inr (.inl rfl))))) (a_cons (f_of (d_var (pe_var (i := 4) rfl (.inr (.inl rfl))))) a_nil)))))) (p_var (pe_var (i := 5) rfl (.inl rfl))) (nomark _)) (b_one (s_ret d_bl)) b_nil))))))
      (b_cons (s_set (i := 3) (ps_set sc.nd rfl (.inr rfl) (d_tup (a_cons (f_of d_int) (a_cons (f_of (d_tup (a_cons (f_of (d_tup (a_cons (f_of d_int) (a_cons (f_of d_int) a_nil)))) (a_cons (f_of (d_tup (a_cons (f_of d_int) (a_cons (f_of d_int) a_nil)))) (a_cons (f_of (d_tup (a_cons (f_of d_int) (a_cons (f_of d_int) a_nil)))) (a_cons (f_of (d_tup (a_cons (f_of d_int) (a_cons (f_of d_int) a_nil)))) a_nil)))))) a_nil)))))
      (b_one (s_ret (d_cmp (o_eq hu4) (p_of (d_call Dkept_splits hg (hr.mono (by decide)) rfl (x_cons (f_of (d_var (pe_var (i := 3) rfl (.inr (.inl rfl))))) (x_cons (f_of (d_tup (a_cons (f_of d_int) (a_cons (f_of d_int) (a_cons (f_of d_int) a_nil))))) (x_cons (f_of d_int) x_nil))) (xn_cons (xn_cons (xn_cons xn_nil))))) (p_of (d_tup (a_cons (f_of (d_tup (a_cons (f_of d_int) (a_cons (f_of d_int) a_nil)))) (a_cons (f_of (d_tup (a_cons (f_of d_int) (a_cons (f_of d_int) a_nil)))) (a_cons (f_of (d_tup (a_cons (f_of d_int) (a_cons (f_of d_int) a_nil)))) (a_cons (f_of (d_tup (a_cons (f_of d_int) (a_cons (f_of d_int) a_nil)))) a_nil)))))) (nomark _)))))))
end
def dd_lots_of_numbers : He.DefD := ⟨("lots_of_numbers", none), "lots_of_numbers", "lots_of_numbers", defArgs st_lots_of_numbers, defBody st_lots_of_numbers, defScope st_lots_of_numbers, [], []⟩
def dd_is_about : He.DefD := ⟨("is_about", none), "is_about", "is_about", defArgs st_is_about, defBody st_is_about, defScope st_is_about, [], []⟩
def dd_lots_about : He.DefD := ⟨("lots_about", none), "lots_about", "lots_about", defArgs st_lots_about, defBody st_lots_about, defScope st_lots_about, [], []⟩
def dd_links_in_cut : He.DefD := ⟨("links_in_cut", none), "links_in_cut", "links_in_cut", defArgs st_links_in_cut, defBody st_links_in_cut, defScope st_links_in_cut, [], []⟩
def dd_least_about : He.DefD := ⟨("least_about", none), "least_about", "least_about", defArgs st_least_about, defBody st_least_about, defScope st_least_about, [], []⟩
def dd_all_least : He.DefD := ⟨("all_least", none), "all_least", "all_least", defArgs st_all_least, defBody st_all_least, defScope st_all_least, [], []⟩
def dd_joined_pair : He.DefD := ⟨("joined_pair", none), "joined_pair", "joined_pair", defArgs st_joined_pair, defBody st_joined_pair, defScope st_joined_pair, [], []⟩
def dd_split_net : He.DefD := ⟨("split_net", none), "split_net", "split_net", defArgs st_split_net, defBody st_split_net, defScope st_split_net, [], []⟩
def dd_is_number : He.DefD := ⟨("is_number", none), "is_number", "is_number", defArgs st_is_number, defBody st_is_number, defScope st_is_number, [], []⟩
def dd_is_station : He.DefD := ⟨("is_station", none), "is_station", "is_station", defArgs st_is_station, defBody st_is_station, defScope st_is_station, [], []⟩
def dd_links_at : He.DefD := ⟨("links_at", none), "links_at", "links_at", defArgs st_links_at, defBody st_links_at, defScope st_links_at, [], []⟩
def dd_kept_splits : He.DefD := ⟨("kept_splits", none), "kept_splits", "kept_splits", defArgs st_kept_splits, defBody st_kept_splits, defScope st_kept_splits, [], []⟩
def dd_law_split : He.DefD := ⟨("_law_split", none), "_law_split", "_law_split", defArgs st_law_split, defBody st_law_split, defScope st_law_split, [], []⟩
def dd_is_even_beside : He.DefD := ⟨("is_even_beside", none), "is_even_beside", "is_even_beside", defArgs st_is_even_beside, defBody st_is_even_beside, defScope st_is_even_beside, [], []⟩
def dd_law_pick : He.DefD := ⟨("_law_pick", none), "_law_pick", "_law_pick", defArgs st_law_pick, defBody st_law_pick, defScope st_law_pick, [], []⟩
def dd_law_of : He.DefD := ⟨("_law_of", none), "_law_of", "_law_of", defArgs st_law_of, defBody st_law_of, defScope st_law_of, [], []⟩
def dd_law_cut : He.DefD := ⟨("_law_cut", none), "_law_cut", "_law_cut", defArgs st_law_cut, defBody st_law_cut, defScope st_law_cut, [], []⟩
def dd_law_all_lots : He.DefD := ⟨("_law_all_lots", none), "_law_all_lots", "_law_all_lots", defArgs st_law_all_lots, defBody st_law_all_lots, defScope st_law_all_lots, [], []⟩
def dd_law_about : He.DefD := ⟨("_law_about", none), "_law_about", "_law_about", defArgs st_law_about, defBody st_law_about, defScope st_law_about, [], []⟩
def dd_law_leasts : He.DefD := ⟨("_law_leasts", none), "_law_leasts", "_law_leasts", defArgs st_law_leasts, defBody st_law_leasts, defScope st_law_leasts, [], []⟩
def dd_law_any_order : He.DefD := ⟨("_law_any_order", none), "_law_any_order", "_law_any_order", defArgs st_law_any_order, defBody st_law_any_order, defScope st_law_any_order, [], []⟩
def dd_law_net : He.DefD := ⟨("_law_net", none), "_law_net", "_law_net", defArgs st_law_net, defBody st_law_net, defScope st_law_net, [], []⟩
def dd_law_open_cells : He.DefD := ⟨("_law_open_cells", none), "_law_open_cells", "_law_open_cells", defArgs st_law_open_cells, defBody st_law_open_cells, defScope st_law_open_cells, [], []⟩
def dd_law : He.DefD := ⟨("law", none), "law", "law", defArgs st_law, defBody st_law, defScope st_law, [], []⟩
def fn : List He.DefD := [dd_lots_of_numbers, dd_is_about, dd_lots_about, dd_links_in_cut, dd_least_about, dd_all_least, dd_joined_pair, dd_split_net, dd_is_number, dd_is_station, dd_links_at, dd_kept_splits, dd_law_split, dd_is_even_beside, dd_law_pick, dd_law_of, dd_law_cut, dd_law_all_lots, dd_law_about, dd_law_leasts, dd_law_any_order, dd_law_net, dd_law_open_cells, dd_law]
def fa : List He.Fa := [.glo "lots_of_numbers", .glo "is_about", .glo "lots_about", .glo "links_in_cut", .glo "least_about", .glo "all_least", .glo "joined_pair", .glo "split_net", .glo "is_number", .glo "is_station", .glo "links_at", .glo "kept_splits", .glo "_law_split", .glo "is_even_beside", .glo "_law_pick", .glo "_law_of", .glo "_law_cut", .glo "_law_all_lots", .glo "_law_about", .glo "_law_leasts", .glo "_law_any_order", .glo "_law_net", .glo "_law_open_cells", .glo "law", .free "range", .free "len", .free "min", .free "sum", .free "sorted", .free "tuple", .free "enumerate", .free "isinstance", .free "int", .free "bool", .free "all", .free "list", .free "max", .free "abs", .free "repr"]
abbrev R : PySem.W.OpenRow := PySem.W.OpenLaw.row PySem.Challenge.rw_waysandcuts_k73_whole_split_off_kept
abbrev hk : PySem.W.Hook := He.hookD 4 fa fn
def ob (s : PySem.W.SharedT) : He.AlD := He.obsDG 4 fa fn (HandSHeadRun.getT s)
theorem ob_eq (s : PySem.W.SharedT) : ob s = hk.obs s.abs := He.obsDG_eq (HandSHeadRun.getT_eq s)
def loose : List Str := ["copied", "NameMissing", "UnknownStation", "is_number", "is_station", "links_at", "lots_of_numbers", "links_in_cut", "is_about", "lots_about", "least_about", "all_least", "is_even_beside", "joined_pair", "split_net", "kept_splits", "_law_open_cells", "_law_pick", "_law_any_order", "_law_of", "_law_net", "_law_all_lots", "_law_cut", "_law_about", "_law_leasts", "_law_split"]
theorem run (w : World) : HandSHeadRun.RunEq R (PySem.W.view R.prog [31]) hk ob 4000 loose w := by
  intro os
  kernel_rfl
theorem facts {P : Program} {w : World} {K : PySem.W.Frag} {h : Heap} {mg : Str → Option Value} {f : Addr} (X : K.In h) (G : h.Ns mainGlobals mg) (hfa : mg ("law" : Str) = some (.ref f)) (c : He.SaysD fa fn K)
    (good : ∀ ns : List Int, ns.length ≤ 63 → ∃ s, g_law [.scr ns] none = some (.v (.bool true), s)) :
    ∃ fd : FuncData, (∀ (s : Shared) (v : Value), BindsTo s fd ⟨[v], []⟩ [("script", v)]) ∧ ∀ base : Heap, K.In base → base.Ns mainGlobals mg → FnG P w K mg base 6 f fd ["script"] (spLaw K 63) := by
  obtain ⟨f0, F0⟩ := c.def_ 0 (d := dd_lots_of_numbers) rfl
  obtain ⟨f1, F1⟩ := c.def_ 1 (d := dd_is_about) rfl
  obtain ⟨f2, F2⟩ := c.def_ 2 (d := dd_lots_about) rfl
  obtain ⟨f3, F3⟩ := c.def_ 3 (d := dd_links_in_cut) rfl
  obtain ⟨f4, F4⟩ := c.def_ 4 (d := dd_least_about) rfl
  obtain ⟨f5, F5⟩ := c.def_ 5 (d := dd_all_least) rfl
  obtain ⟨f6, F6⟩ := c.def_ 6 (d := dd_joined_pair) rfl
  obtain ⟨f7, F7⟩ := c.def_ 7 (d := dd_split_net) rfl
  obtain ⟨f8, F8⟩ := c.def_ 8 (d := dd_is_number) rfl
  obtain ⟨f9, F9⟩ := c.def_ 9 (d := dd_is_station) rfl
  obtain ⟨f10, F10⟩ := c.def_ 10 (d := dd_links_at) rfl
  obtain ⟨f11, F11⟩ := c.def_ 11 (d := dd_kept_splits) rfl
  obtain ⟨f12, F12⟩ := c.def_ 12 (d := dd_law_split) rfl
  obtain ⟨f13, F13⟩ := c.def_ 13 (d := dd_is_even_beside) rfl
  obtain ⟨f14, F14⟩ := c.def_ 14 (d := dd_law_pick) rfl
  obtain ⟨f15, F15⟩ := c.def_ 15 (d := dd_law_of) rfl
  obtain ⟨f16, F16⟩ := c.def_ 16 (d := dd_law_cut) rfl
  obtain ⟨f17, F17⟩ := c.def_ 17 (d := dd_law_all_lots) rfl
  obtain ⟨f18, F18⟩ := c.def_ 18 (d := dd_law_about) rfl
  obtain ⟨f19, F19⟩ := c.def_ 19 (d := dd_law_leasts) rfl
  obtain ⟨f20, F20⟩ := c.def_ 20 (d := dd_law_any_order) rfl
  obtain ⟨f21, F21⟩ := c.def_ 21 (d := dd_law_net) rfl
  obtain ⟨f22, F22⟩ := c.def_ 22 (d := dd_law_open_cells) rfl
  obtain ⟨f23, F23⟩ := c.def_ 23 (d := dd_law) rfl
  have e := hfa.symm.trans (He.glo_ok X G (c.fact 23 (f := .glo "law") rfl))
  cases e
  have bl : Bl mg := ⟨He.free_ok X G (c.fact 24 (f := .free "range") rfl), He.free_ok X G (c.fact 25 (f := .free "len") rfl), He.free_ok X G (c.fact 26 (f := .free "min") rfl), He.free_ok X G (c.fact 27 (f := .free "sum") rfl), He.free_ok X G (c.fact 28 (f := .free "sorted") rfl), He.free_ok X G (c.fact 29 (f := .free "tuple") rfl), He.free_ok X G (c.fact 30 (f := .free "enumerate") rfl), He.free_ok X G (c.fact 31 (f := .free "isinstance") rfl), He.free_ok X G (c.fact 32 (f := .free "int") rfl), He.free_ok X G (c.fact 33 (f := .free "bool") rfl), He.free_ok X G (c.fact 34 (f := .free "all") rfl), He.free_ok X G (c.fact 35 (f := .free "list") rfl), He.free_ok X G (c.fact 36 (f := .free "max") rfl), He.free_ok X G (c.fact 37 (f := .free "abs") rfl), He.free_ok X G (c.fact 38 (f := .free "repr") rfl)⟩
  have b := FunD.bindsA (ps := ["script"]) F23 fun _ _ _ _ _ _ us hl => match us, hl with | [_], _ => rfl
  refine ⟨f23, fun s v => b s [v] rfl, fun base _ _ => ?_⟩
  have Dlots_of_numbers : Def P w K mg base 1 1 "lots_of_numbers" g_lots_of_numbers := ⟨_, f0, ["n"], rfl, ok_lots_of_numbers F0 bl , He.glo_ok X G (c.fact 0 (f := .glo "lots_of_numbers") rfl), F0.kp, F0.bindsN fun _ _ _ _ _ _ us hl => match us, hl with | [_], _ => rfl⟩
  have Dis_about : Def P w K mg base 1 3 "is_about" g_is_about := ⟨_, f1, ["told", "t", "lot"], rfl, ok_is_about F1 bl , He.glo_ok X G (c.fact 1 (f := .glo "is_about") rfl), F1.kp, F1.bindsN fun _ _ _ _ _ _ us hl => match us, hl with | [_, _, _], _ => rfl⟩
  have Dlots_about : Def P w K mg base 2 3 "lots_about" g_lots_about := ⟨_, f2, ["net", "told", "t"], rfl, ok_lots_about F2 bl Dlots_of_numbers Dis_about, He.glo_ok X G (c.fact 2 (f := .glo "lots_about") rfl), F2.kp, F2.bindsN fun _ _ _ _ _ _ us hl => match us, hl with | [_, _, _], _ => rfl⟩
  have Dlinks_in_cut : Def P w K mg base 1 2 "links_in_cut" g_links_in_cut := ⟨_, f3, ["net", "lot"], rfl, ok_links_in_cut F3 bl , He.glo_ok X G (c.fact 3 (f := .glo "links_in_cut") rfl), F3.kp, F3.bindsN fun _ _ _ _ _ _ us hl => match us, hl with | [_, _], _ => rfl⟩
  have Dleast_about : Def P w K mg base 3 3 "least_about" g_least_about := ⟨_, f4, ["net", "told", "t"], rfl, ok_least_about F4 bl Dlots_about Dlinks_in_cut, He.glo_ok X G (c.fact 4 (f := .glo "least_about") rfl), F4.kp, F4.bindsN fun _ _ _ _ _ _ us hl => match us, hl with | [_, _, _], _ => rfl⟩
  have Dall_least : Def P w K mg base 4 2 "all_least" g_all_least := ⟨_, f5, ["net", "told"], rfl, ok_all_least F5 bl Dleast_about, He.glo_ok X G (c.fact 5 (f := .glo "all_least") rfl), F5.kp, F5.bindsN fun _ _ _ _ _ _ us hl => match us, hl with | [_, _], _ => rfl⟩
  have Djoined_pair : Def P w K mg base 1 4 "joined_pair" g_joined_pair := ⟨_, f6, ["net", "s", "k", "l"], rfl, ok_joined_pair F6 bl , He.glo_ok X G (c.fact 6 (f := .glo "joined_pair") rfl), F6.kp, F6.bindsN fun _ _ _ _ _ _ us hl => match us, hl with | [_, _, _, _], _ => rfl⟩
  have Dsplit_net : Def P w K mg base 2 4 "split_net" g_split_net := ⟨_, f7, ["net", "s", "k", "l"], rfl, ok_split_net F7 bl Djoined_pair, He.glo_ok X G (c.fact 7 (f := .glo "split_net") rfl), F7.kp, F7.bindsN fun _ _ _ _ _ _ us hl => match us, hl with | [_, _, _, _], _ => rfl⟩
  have Dis_number : Def P w K mg base 1 1 "is_number" g_is_number := ⟨_, f8, ["value"], rfl, ok_is_number F8 bl , He.glo_ok X G (c.fact 8 (f := .glo "is_number") rfl), F8.kp, F8.bindsN fun _ _ _ _ _ _ us hl => match us, hl with | [_], _ => rfl⟩
  have Dis_station : Def P w K mg base 2 2 "is_station" g_is_station := ⟨_, f9, ["net", "value"], rfl, ok_is_station F9 bl Dis_number, He.glo_ok X G (c.fact 9 (f := .glo "is_station") rfl), F9.kp, F9.bindsN fun _ _ _ _ _ _ us hl => match us, hl with | [_, _], _ => rfl⟩
  have Dlinks_at : Def P w K mg base 3 2 "links_at" g_links_at := ⟨_, f10, ["net", "station"], rfl, ok_links_at F10 bl Dis_station, He.glo_ok X G (c.fact 10 (f := .glo "links_at") rfl), F10.kp, F10.bindsN fun _ _ _ _ _ _ us hl => match us, hl with | [_, _], _ => rfl⟩
  have Dkept_splits : Def P w K mg base 5 3 "kept_splits" g_kept_splits := ⟨_, f11, ["net", "told", "s"], rfl, ok_kept_splits F11 bl Dall_least Dsplit_net Dlinks_at, He.glo_ok X G (c.fact 11 (f := .glo "kept_splits") rfl), F11.kp, F11.bindsN fun _ _ _ _ _ _ us hl => match us, hl with | [_, _, _], _ => rfl⟩
  have Dlaw_split : Def P w K mg base 1 4 "_law_split" g_law_split := ⟨_, f12, ["net", "s", "k", "l"], rfl, ok_law_split F12 bl , He.glo_ok X G (c.fact 12 (f := .glo "_law_split") rfl), F12.kp, F12.bindsN fun _ _ _ _ _ _ us hl => match us, hl with | [_, _, _, _], _ => rfl⟩
  have Dis_even_beside : Def P w K mg base 1 2 "is_even_beside" g_is_even_beside := ⟨_, f13, ["net", "told"], rfl, ok_is_even_beside F13 bl , He.glo_ok X G (c.fact 13 (f := .glo "is_even_beside") rfl), F13.kp, F13.bindsN fun _ _ _ _ _ _ us hl => match us, hl with | [_, _], _ => rfl⟩
  have Dlaw_pick : Def P w K mg base 1 2 "_law_pick" g_law_pick := ⟨_, f14, ["source", "most"], rfl, ok_law_pick F14 bl , He.glo_ok X G (c.fact 14 (f := .glo "_law_pick") rfl), F14.kp, F14.bindsN fun _ _ _ _ _ _ us hl => match us, hl with | [_, _], _ => rfl⟩
  have Dlaw_of : Def P w K mg base 2 2 "_law_of" g_law_of := ⟨_, f15, ["source", "some"], rfl, ok_law_of F15 bl Dlaw_pick, He.glo_ok X G (c.fact 15 (f := .glo "_law_of") rfl), F15.kp, F15.bindsN fun _ _ _ _ _ _ us hl => match us, hl with | [_, _], _ => rfl⟩
  have Dlaw_cut : Def P w K mg base 1 2 "_law_cut" g_law_cut := ⟨_, f16, ["net", "lot"], rfl, ok_law_cut F16 bl , He.glo_ok X G (c.fact 16 (f := .glo "_law_cut") rfl), F16.kp, F16.bindsN fun _ _ _ _ _ _ us hl => match us, hl with | [_, _], _ => rfl⟩
  have Dlaw_all_lots : Def P w K mg base 1 1 "_law_all_lots" g_law_all_lots := ⟨_, f17, ["n"], rfl, ok_law_all_lots F17 bl , He.glo_ok X G (c.fact 17 (f := .glo "_law_all_lots") rfl), F17.kp, F17.bindsN fun _ _ _ _ _ _ us hl => match us, hl with | [_], _ => rfl⟩
  have Dlaw_about : Def P w K mg base 2 3 "_law_about" g_law_about := ⟨_, f18, ["net", "told", "t"], rfl, ok_law_about F18 bl Dlaw_cut Dlaw_all_lots, He.glo_ok X G (c.fact 18 (f := .glo "_law_about") rfl), F18.kp, F18.bindsN fun _ _ _ _ _ _ us hl => match us, hl with | [_, _, _], _ => rfl⟩
  have Dlaw_leasts : Def P w K mg base 3 2 "_law_leasts" g_law_leasts := ⟨_, f19, ["net", "told"], rfl, ok_law_leasts F19 bl Dlaw_about, He.glo_ok X G (c.fact 19 (f := .glo "_law_leasts") rfl), F19.kp, F19.bindsN fun _ _ _ _ _ _ us hl => match us, hl with | [_, _], _ => rfl⟩
  have Dlaw_any_order : Def P w K mg base 2 2 "_law_any_order" g_law_any_order := ⟨_, f20, ["source", "things"], rfl, ok_law_any_order F20 bl Dlaw_pick, He.glo_ok X G (c.fact 20 (f := .glo "_law_any_order") rfl), F20.kp, F20.bindsN fun _ _ _ _ _ _ us hl => match us, hl with | [_, _], _ => rfl⟩
  have Dlaw_net : Def P w K mg base 3 4 "_law_net" g_law_net := ⟨_, f21, ["source", "most", "links", "is_even"], rfl, ok_law_net F21 bl Dlaw_of Dlaw_pick Dlaw_any_order, He.glo_ok X G (c.fact 21 (f := .glo "_law_net") rfl), F21.kp, F21.bindsN fun _ _ _ _ _ _ us hl => match us, hl with | [_, _, _, _], _ => rfl⟩
  have Dlaw_open_cells : Def P w K mg base 1 1 "_law_open_cells" g_law_open_cells := ⟨_, f22, ["script"], rfl, ok_law_open_cells F22 bl , He.glo_ok X G (c.fact 22 (f := .glo "_law_open_cells") rfl), F22.kp, F22.bindsN fun _ _ _ _ _ _ us hl => match us, hl with | [_], _ => rfl⟩
  exact (ok_law F23 bl Dkept_splits Dleast_about Dlaw_split Dis_even_beside Dsplit_net Dlaw_of Dlaw_leasts Dlaw_net Dlaw_open_cells).imp (spLaw_of good)
end K73
open PySem PySem.W PySem.Calls PyProof.Rows
theorem K73.closes (good : ∀ ns : List Int, ns.length ≤ 63 → ∃ s, K73.g_law [.scr ns] none = some (.v (.bool true), s)) : PySem.Challenge.rw_waysandcuts_k73_whole_split_off_kept.Holds := by
  w_on; o_law
  refine HandSHeadRun.head_any (r := OpenLaw.row PySem.Challenge.rw_waysandcuts_k73_whole_split_off_kept) (q := view (OpenLaw.row PySem.Challenge.rw_waysandcuts_k73_whole_split_off_kept).prog [31]) (H := K73.hk) (ob := K73.ob) (M := 4000) (loose := K73.loose) (d := HandSHeadRun.topDef (OpenLaw.row PySem.Challenge.rw_waysandcuts_k73_whole_split_off_kept).prog 31) (kwd := []) K73.ob_eq (by kernel_rfl) (fun s => by kernel_rfl) K73.run (by kernel_rfl) (by kernel_rfl) (by kernel_rfl) (by rfl) (by first | assumption | decide +kernel) (by decide +kernel) ⟨rfl, rfl, rfl, rfl, rfl, by decide +kernel⟩ ?hw ?hc
  case hw => w_witness2
  case hc =>
    refine Pd.walk_g (l := PySem.Challenge.rw_waysandcuts_k73_whole_split_off_kept) (n := 63) (k := 6) (x := "script") rfl (by decide) (by kernel_rfl) ⟨rfl, by decide, by decide⟩ ?F
    intro w mg fa h Y G hmg0
    obtain ⟨K, KX, c⟩ := Y
    have hmg : mg ("law" : PySem.Str) = some (.ref fa) := by
      have e : (HandSHeadRun.topDef (OpenLaw.row PySem.Challenge.rw_waysandcuts_k73_whole_split_off_kept).prog 31).name = ("law" : PySem.Str) := by kernel_rfl
      rw [← e]
      exact hmg0
    obtain ⟨fd, hb, hF⟩ := K73.facts (P := (PySem.Challenge.rw_waysandcuts_k73_whole_split_off_kept).prog) (w := w) KX G hmg c good
    exact ⟨K, fd, KX, hb, hF⟩
end
set_option linter.all false
set_option maxRecDepth 100000
set_option maxHeartbeats 0
/-! typed functions of this law, printed by td.py -/
noncomputable section
namespace T73
open PySem PySem.Spec PyProof.Rows L2 Pd Td PM
def t_law_of (some_ : (List Int)) : DM Int :=
  (bnd (bnd (ret some_) fun (a : (List Int)) => bnd (bnd (bnd (bnd (ret some_) fun (a : (List Int)) => out ((some ((a).length : Int)))) fun (a : Int) => bnd (ret ()) fun b => ret (a, b)) fun (a : (Int × Unit)) => pickD a.1) fun (b : Int) => out (at_ a b)) fun (a : Int) => ret a)
theorem fn_law_of (some_ : (List Int)) : FnD K73.g_law_of [.src, .v ((eLst eInt) some_)] (t_law_of some_) eInt .val :=
  fn_d (n := 2) (m := K73.m_law_of) (ρ := [.src, .val ((eLst eInt) some_)]) rfl rfl (hs_src (hs_v hs_nil)) (by
    exact k_ret (inj := fun r => r) (ev_ixA (ev_2 (op_ix sq_lst) (evp_val (e := (eLst eInt)) (a := some_) rfl) (evp_of (ev_callD (evx_src rfl (evx_cons (evf_of (ev_1 (op_len sq_lst) (evp_val (e := (eLst eInt)) (a := some_) rfl))) evx_nil)) (fun _ => rfl) (fun (a : (Int × Unit)) => fn_pick a.1))))) rt_f)
def t_law_net (most_ : Int) (links_ : Int) (is_even_ : Bool) : DM ((Int × (List (Int × Int))) × (List Int)) :=
  (bnd (bnd (ret (2 : Int)) fun (a : Int) => bnd (bnd (bnd (bnd (ret most_) fun (a : Int) => bnd (ret (1 : Int)) fun (b : Int) => out (subI a b)) fun (a : Int) => bnd (ret ()) fun b => ret (a, b)) fun (a : (Int × Unit)) => pickD a.1) fun (b : Int) => out (addI a b)) fun (n_ : Int) => 
  (bnd (bnd (bnd (bnd (bnd (bnd (bnd (ret n_) fun a => ret ((0 : Int), a)) fun (p : Int × Int) => out (rngO p.1 p.2)) fun (a : (List Int)) => bnd (ret ()) fun b => ret (a, b)) fun (a : ((List Int) × Unit)) => anyD eInt a.1) fun xs => bnd (ret ()) fun a => bnd (bnd (ret (2 : Int)) fun (a : Int) => bnd (bnd (bnd (bnd (ret n_) fun (a : Int) => bnd (ret (1 : Int)) fun (b : Int) => out (subI a b)) fun (a : Int) => bnd (ret ()) fun b => ret (a, b)) fun (a : (Int × Unit)) => pickD a.1) fun (b : Int) => out (addI a b)) fun b => ret (cut xs none (some b))) fun (a : (List Int)) => out (some (sortW ltZ a))) fun (told_ : (List Int)) => 
  (bnd (bnd (ret ([] : List (Int × Int))) fun xs => out (lenOk xs)) fun (pairs_ : (List (Int × Int))) => 
  (bnd (bnd (bnd (bnd (bnd (bnd (ret links_) fun (a : Int) => bnd (ret (1 : Int)) fun (b : Int) => out (addI a b)) fun (a : Int) => bnd (ret ()) fun b => ret (a, b)) fun (a : (Int × Unit)) => pickD a.1) fun (a : Int) => out (rngO 0 a)) fun xs => foldM (fun (b1 : (List (Int × Int))) (q2 : Int) => 
  (bnd (bnd (bnd (bnd (bnd (bnd (bnd (bnd (ret n_) fun a => ret ((0 : Int), a)) fun (p : Int × Int) => out (rngO p.1 p.2)) fun (a : (List Int)) => bnd (ret ()) fun b => ret (a, b)) fun (a : ((List Int) × Unit)) => anyD eInt a.1) fun xs => bnd (ret ()) fun a => bnd (ret (2 : Int)) fun b => ret (cut xs none (some b))) fun (a : (List Int)) => out (some (sortW ltZ a))) fun (a : (List Int)) => out (two a)) fun (p3 : (Int × Int)) => 
  (bnd (bnd (bnd (ret p3.1) fun a => bnd (ret p3.2) fun b => ret (a, b)) fun b => out (appF b1 b)) fun (b4 : (Unit × (List (Int × Int)))) => 
  (ret b4.2)))) xs pairs_) fun (b5 : (List (Int × Int))) => 
  (bnd (bnd (bnd (bnd (ret is_even_) fun z => cnd z (ret n_) (ret (0 : Int))) fun (a : Int) => out (rngO 0 a)) fun xs => foldM (fun (b12 : (List (Int × Int))) (q13 : Int) => 
  (bnd (bnd (bnd (ret n_) fun (a : Int) => out (rngO 0 a)) fun xs => lcM xs (fun (q14 : Int) => (andB (bnd (ret q14) fun (a : Int) => bnd (ret told_) fun (b : (List Int)) => out (niV a b)) (bnd (bnd (bnd (bnd (lcM b12 (fun (q15 : (Int × Int)) => (bnd (ret q14) fun (a : Int) => bnd (ret q15) fun (b : (Int × Int)) => out (inV a [b.1, b.2]))) (fun (q15 : (Int × Int)) => (ret (1 : Int)))) fun (a : (List Int)) => out ((some ((a).length : Int)))) fun (a : Int) => out (some a)) fun (a : Int) => bnd (ret (2 : Int)) fun (b : Int) => out (modI a b)) fun (a : Int) => bnd (ret (1 : Int)) fun (b : Int) => out (eqV a b)))) (fun (q14 : Int) => (ret q14))) fun (odd_ : (List Int)) => 
  (bnd (bnd (ret q13) fun (a : Int) => bnd (ret odd_) fun (b : (List Int)) => out (inV a b)) fun z => cnd z
  (bnd (bnd (bnd (ret odd_) fun (a : (List Int)) => ret a) fun xs => lcM xs (fun (q16 : Int) => (bnd (ret q16) fun (a : Int) => bnd (ret q13) fun (b : Int) => out (gtI a b))) (fun (q16 : Int) => (ret q16))) fun (late_ : (List Int)) => 
  (bnd (bnd (bnd (ret late_) fun (a : (List Int)) => bnd (bnd (ret ([] : List Int)) fun xs => out (lenOk xs)) fun (b : (List Int)) => out (neV a b)) fun z => cnd z (bnd (bnd (ret late_) fun (a : (List Int)) => bnd (ret ()) fun b => ret (a, b)) fun (a : ((List Int) × Unit)) => t_law_of a.1) (bnd (bnd (ret told_) fun (a : (List Int)) => bnd (ret ()) fun b => ret (a, b)) fun (a : ((List Int) × Unit)) => t_law_of a.1)) fun (other_ : Int) => 
  (bnd (bnd (bnd (bnd (ret q13) fun (a : Int) => bnd (ret other_) fun (b : Int) => out (min2 a b)) fun a => bnd (bnd (ret q13) fun (a : Int) => bnd (ret other_) fun (b : Int) => out (max2 a b)) fun b => ret (a, b)) fun b => out (appF b12 b)) fun (b17 : (Unit × (List (Int × Int)))) => 
  (ret b17.2))))
  (ret b12)))) xs b5) fun (b18 : (List (Int × Int))) => 
  (bnd (bnd (bnd (ret n_) fun a => bnd (bnd (bnd (ret b18) fun (a : (List (Int × Int))) => out (some (sortW (ltP ltZ ltZ) a))) fun (a : (List (Int × Int))) => out (some a)) fun b => ret (a, b)) fun a => bnd (bnd (ret told_) fun (a : (List Int)) => out (some a)) fun b => ret (a, b)) fun (a : ((Int × (List (Int × Int))) × (List Int))) => ret a))))))
theorem fn_law_net (most_ : Int) (links_ : Int) (is_even_ : Bool) : FnD K73.g_law_net [.src, .v (eInt most_), .v (eInt links_), .v (eBool is_even_)] (t_law_net most_ links_ is_even_) (eP2 (eP2 eInt (eTup (eP2 eInt eInt))) (eTup eInt)) .val :=
  fn_d (n := 16) (m := K73.m_law_net) (ρ := [.src, .val (eInt most_), .val (eInt links_), .val (eBool is_even_), .dead, .dead, .dead, .dead, .dead, .dead, .dead, .dead, .dead, .dead, .dead, .dead]) rfl rfl (hs_src (hs_v (hs_v (hs_v (hs_no (hs_no (hs_no (hs_no (hs_no (hs_no (hs_no (hs_no (hs_no (hs_no (hs_no (hs_no hs_nil)))))))))))))))) (by
    refine k_seq (ρ' := fun (n_ : Int) => [.src, .val (eInt most_), .val (eInt links_), .val (eBool is_even_), .val (eInt n_), .dead, .dead, .dead, .dead, .dead, .dead, .dead, .dead, .dead, .dead, .dead]) (k_set (ev_2 op_addI (evp_of (ev_c (e := eInt) (a := (2 : Int)) rfl)) (evp_of (ev_callD (evx_src rfl (evx_cons (evf_of (ev_2 op_subI (evp_val (e := eInt) (a := most_) rfl) (evp_of (ev_c (e := eInt) (a := (1 : Int)) rfl)))) evx_nil)) (fun _ => rfl) (fun (a : (Int × Unit)) => fn_pick a.1)))) (fun _ => rfl)) (fun (n_ : Int) => ?_)
    refine k_seq (ρ' := fun (told_ : (List Int)) => [.src, .val (eInt most_), .val (eInt links_), .val (eBool is_even_), .val (eInt n_), .own ((eLst eInt) told_), .dead, .dead, .dead, .dead, .dead, .dead, .dead, .dead, .dead, .dead]) (k_set (ev_1 (op_sort sq_lst or_int (by decide) (.inr fun _ => rfl)) (evp_of (ev_sl (evp_of (ev_callD (evx_src rfl (evx_cons (evf_of (ev_lrg (evr_1 (ev_var (e := eInt) (a := n_) rfl)))) evx_nil)) (fun _ => rfl) (fun (a : ((List Int) × Unit)) => fn_any eInt a.1))) evo_none (evo_some (ev_2 op_addI (evp_of (ev_c (e := eInt) (a := (2 : Int)) rfl)) (evp_of (ev_callD (evx_src rfl (evx_cons (evf_of (ev_2 op_subI (evp_val (e := eInt) (a := n_) rfl) (evp_of (ev_c (e := eInt) (a := (1 : Int)) rfl)))) evx_nil)) (fun _ => rfl) (fun (a : (Int × Unit)) => fn_pick a.1)))))))) (fun _ => rfl)) (fun (told_ : (List Int)) => ?_)
    refine k_seq (ρ' := fun (pairs_ : (List (Int × Int))) => [.src, .val (eInt most_), .val (eInt links_), .val (eBool is_even_), .val (eInt n_), .own ((eLst eInt) told_), .own ((eLst (eP2 eInt eInt)) pairs_), .dead, .dead, .dead, .dead, .dead, .dead, .dead, .dead, .dead]) (k_set (ev_lst (eva_nil (e := (eP2 eInt eInt)))) (fun _ => rfl)) (fun (pairs_ : (List (Int × Int))) => ?_)
    refine k_seq (ρ' := fun (b5 : (List (Int × Int))) => [.src, .val (eInt most_), .val (eInt links_), .val (eBool is_even_), .val (eInt n_), .own ((eLst eInt) told_), .own ((eLst (eP2 eInt eInt)) b5), .dead, .dead, .dead, .dead, .dead, .dead, .dead, .dead, .dead]) ?_ (fun (b5 : (List (Int × Int))) => ?_)
    · refine k_for (e1 := eInt) (ρL := fun (b1 : (List (Int × Int))) => [.src, .val (eInt most_), .val (eInt links_), .val (eBool is_even_), .val (eInt n_), .own ((eLst eInt) told_), .own ((eLst (eP2 eInt eInt)) b1), .dead, .dead, .dead, .dead, .dead, .dead, .dead, .dead, .dead]) (ρa := fun (b1 : (List (Int × Int))) (q2 : Int) => [.src, .val (eInt most_), .val (eInt links_), .val (eBool is_even_), .val (eInt n_), .own ((eLst eInt) told_), .own ((eLst (eP2 eInt eInt)) b1), .val (eInt q2), .dead, .dead, .dead, .dead, .dead, .dead, .dead, .dead]) (b0 := pairs_) (evi_rg1 (evf_of (ev_callD (evx_src rfl (evx_cons (evf_of (ev_2 op_addI (evp_val (e := eInt) (a := links_) rfl) (evp_of (ev_c (e := eInt) (a := (1 : Int)) rfl)))) evx_nil)) (fun _ => rfl) (fun (a : (Int × Unit)) => fn_pick a.1)))) (.cons .same (.cons .same (.cons .same (.cons .same (.cons .same (.cons .same (.cons .same (.cons .same (.cons .same (.cons .same (.cons .same (.cons .same (.cons .same (.cons .same (.cons .same (.cons .same .nil)))))))))))))))) (fun (b1 : (List (Int × Int))) (q2 : Int) => (tg_n rfl)) (fun (b1 : (List (Int × Int))) (q2 : Int) => ?_)
      refine k_seq (ρ' := fun (p3 : (Int × Int)) => [.src, .val (eInt most_), .val (eInt links_), .val (eBool is_even_), .val (eInt n_), .own ((eLst eInt) told_), .own ((eLst (eP2 eInt eInt)) b1), .val (eInt q2), .val (eInt p3.1), .val (eInt p3.2), .dead, .dead, .dead, .dead, .dead, .dead]) (k_asg (evf_twoL (evf_of (ev_1 (op_sort sq_lst or_int (by decide) (.inr fun _ => rfl)) (evp_of (ev_sl (evp_of (ev_callD (evx_src rfl (evx_cons (evf_of (ev_lrg (evr_1 (ev_var (e := eInt) (a := n_) rfl)))) evx_nil)) (fun _ => rfl) (fun (a : ((List Int) × Unit)) => fn_any eInt a.1))) evo_none (evo_some (ev_c (e := eInt) (a := (2 : Int)) rfl))))))) (fun (p3 : (Int × Int)) => (tg_tpl (tg_cn (tg_n rfl) (tg_cn (tg_n rfl) tg_nl))))) (fun (p3 : (Int × Int)) => ?_)
      refine k_last (ρ' := fun (b4 : (Unit × (List (Int × Int)))) => [.src, .val (eInt most_), .val (eInt links_), .val (eBool is_even_), .val (eInt n_), .own ((eLst eInt) told_), .own ((eLst (eP2 eInt eInt)) b4.2), .val (eInt q2), .val (eInt p3.1), .val (eInt p3.2), .dead, .dead, .dead, .dead, .dead, .dead]) (k_mut mu_app (xs := b1) rfl (eva_1 (evf_of (ev_p2 (evf_of (ev_var (e := eInt) (a := p3.1) rfl)) (evf_of (ev_var (e := eInt) (a := p3.2) rfl))))) (fun _ => rfl)) (fun (b4 : (Unit × (List (Int × Int)))) => ?_)
      exact k_nil (nx_l (.cons .same (.cons .same (.cons .same (.cons .same (.cons .same (.cons .same (.cons .same (.cons .dead (.cons .dead (.cons .dead (.cons .same (.cons .same (.cons .same (.cons .same (.cons .same (.cons .same .nil)))))))))))))))))
    refine k_seq (ρ' := fun (b18 : (List (Int × Int))) => [.src, .val (eInt most_), .val (eInt links_), .val (eBool is_even_), .val (eInt n_), .any ((eLst eInt) told_), .own ((eLst (eP2 eInt eInt)) b18), .dead, .dead, .dead, .dead, .dead, .dead, .dead, .dead, .dead]) ?_ (fun (b18 : (List (Int × Int))) => ?_)
    · refine k_for (e1 := eInt) (ρL := fun (b12 : (List (Int × Int))) => [.src, .val (eInt most_), .val (eInt links_), .val (eBool is_even_), .val (eInt n_), .any ((eLst eInt) told_), .own ((eLst (eP2 eInt eInt)) b12), .dead, .dead, .dead, .dead, .dead, .dead, .dead, .dead, .dead]) (ρa := fun (b12 : (List (Int × Int))) (q13 : Int) => [.src, .val (eInt most_), .val (eInt links_), .val (eBool is_even_), .val (eInt n_), .any ((eLst eInt) told_), .own ((eLst (eP2 eInt eInt)) b12), .dead, .dead, .dead, .val (eInt q13), .dead, .dead, .dead, .dead, .dead]) (b0 := b5) (evi_rg1 (evf_of (ev_if (evt_of (ev_var (e := eBool) (a := is_even_) rfl)) (ev_var (e := eInt) (a := n_) rfl) (ev_c (e := eInt) (a := (0 : Int)) rfl)))) (.cons .same (.cons .same (.cons .same (.cons .same (.cons .same (.cons .ow (.cons .same (.cons .same (.cons .same (.cons .same (.cons .same (.cons .same (.cons .same (.cons .same (.cons .same (.cons .same .nil)))))))))))))))) (fun (b12 : (List (Int × Int))) (q13 : Int) => (tg_n rfl)) (fun (b12 : (List (Int × Int))) (q13 : Int) => ?_)
      refine k_seq (ρ' := fun (odd_ : (List Int)) => [.src, .val (eInt most_), .val (eInt links_), .val (eBool is_even_), .val (eInt n_), .any ((eLst eInt) told_), .own ((eLst (eP2 eInt eInt)) b12), .dead, .dead, .dead, .val (eInt q13), .own ((eLst eInt) odd_), .dead, .dead, .dead, .dead]) (k_set (ev_lc (e1 := eInt) (ρa := fun (q14 : Int) => [.src, .val (eInt most_), .val (eInt links_), .val (eBool is_even_), .val (eInt n_), .any ((eLst eInt) told_), .own ((eLst (eP2 eInt eInt)) b12), .dead, .dead, .dead, .val (eInt q13), .dead, .dead, .dead, .val (eInt q14), .dead]) rfl (evi_rg1 (evf_of (ev_var (e := eInt) (a := n_) rfl))) (fun q14 => (tg_n rfl)) (fun q14 => (evt_and (evt_of (ev_inA (ev_2 (op_ni sq_lst eq_int (by decide)) (evp_val (e := eInt) (a := q14) rfl) (evp_any (e := (eLst eInt)) (a := told_) rfl)))) (evt_of (ev_2 (op_eq eq_int (by decide)) (evp_of (ev_2 op_modI (evp_of (ev_1 op_int (evp_of (ev_1 (op_len sq_lst) (evp_of (ev_lcP (e1 := (eP2 eInt eInt)) (xs := b12) (ρa := fun (q15 : (Int × Int)) => [.src, .val (eInt most_), .val (eInt links_), .val (eBool is_even_), .val (eInt n_), .any ((eLst eInt) told_), .own ((eLst (eP2 eInt eInt)) b12), .dead, .dead, .dead, .val (eInt q13), .dead, .dead, .dead, .val (eInt q14), .val ((eP2 eInt eInt) q15)]) rfl (by decide) rfl (fun q15 => (tg_n rfl)) (fun q15 => (evt_of (ev_inA (ev_2 (op_in sq_p2 eq_int (by decide)) (evp_val (e := eInt) (a := q14) rfl) (evp_val (e := (eP2 eInt eInt)) (a := q15) rfl))))) (fun q15 => (evf_of (ev_c (e := eInt) (a := (1 : Int)) rfl))) (fun _ => rfl))))))) (evp_of (ev_c (e := eInt) (a := (2 : Int)) rfl)))) (evp_of (ev_c (e := eInt) (a := (1 : Int)) rfl)))))) (fun q14 => (evf_of (ev_var (e := eInt) (a := q14) rfl))) (fun _ => rfl)) (fun _ => rfl)) (fun (odd_ : (List Int)) => ?_)
      refine k_if (evt_of (ev_inA (ev_2 (op_in sq_lst eq_int (by decide)) (evp_val (e := eInt) (a := q13) rfl) (evp_own (e := (eLst eInt)) (a := odd_) rfl)))) ?_ ?_
      · refine k_weak (ρ1 := [.src, .val (eInt most_), .val (eInt links_), .val (eBool is_even_), .val (eInt n_), .any ((eLst eInt) told_), .own ((eLst (eP2 eInt eInt)) b12), .dead, .dead, .dead, .val (eInt q13), .any ((eLst eInt) odd_), .dead, .dead, .dead, .dead]) (.cons .same (.cons .same (.cons .same (.cons .same (.cons .same (.cons .same (.cons .same (.cons .same (.cons .same (.cons .same (.cons .same (.cons .ow (.cons .same (.cons .same (.cons .same (.cons .same .nil)))))))))))))))) ?_
        refine k_seq (ρ' := fun (late_ : (List Int)) => [.src, .val (eInt most_), .val (eInt links_), .val (eBool is_even_), .val (eInt n_), .any ((eLst eInt) told_), .own ((eLst (eP2 eInt eInt)) b12), .dead, .dead, .dead, .val (eInt q13), .any ((eLst eInt) odd_), .own ((eLst eInt) late_), .dead, .dead, .dead]) (k_set (ev_lc (e1 := eInt) (ρa := fun (q16 : Int) => [.src, .val (eInt most_), .val (eInt links_), .val (eBool is_even_), .val (eInt n_), .any ((eLst eInt) told_), .own ((eLst (eP2 eInt eInt)) b12), .dead, .dead, .dead, .val (eInt q13), .any ((eLst eInt) odd_), .dead, .dead, .val (eInt q16), .dead]) rfl (evi_seq sq_lst (evf_of (ev_varA (e := (eLst eInt)) (a := odd_) rfl))) (fun q16 => (tg_n rfl)) (fun q16 => (evt_of (ev_2 op_gtI (evp_val (e := eInt) (a := q16) rfl) (evp_val (e := eInt) (a := q13) rfl)))) (fun q16 => (evf_of (ev_var (e := eInt) (a := q16) rfl))) (fun _ => rfl)) (fun _ => rfl)) (fun (late_ : (List Int)) => ?_)
        refine k_weak (ρ1 := [.src, .val (eInt most_), .val (eInt links_), .val (eBool is_even_), .val (eInt n_), .any ((eLst eInt) told_), .own ((eLst (eP2 eInt eInt)) b12), .dead, .dead, .dead, .val (eInt q13), .any ((eLst eInt) odd_), .any ((eLst eInt) late_), .dead, .dead, .dead]) (.cons .same (.cons .same (.cons .same (.cons .same (.cons .same (.cons .same (.cons .same (.cons .same (.cons .same (.cons .same (.cons .same (.cons .same (.cons .ow (.cons .same (.cons .same (.cons .same .nil)))))))))))))))) ?_
        refine k_seq (ρ' := fun (other_ : Int) => [.src, .val (eInt most_), .val (eInt links_), .val (eBool is_even_), .val (eInt n_), .any ((eLst eInt) told_), .own ((eLst (eP2 eInt eInt)) b12), .dead, .dead, .dead, .val (eInt q13), .any ((eLst eInt) odd_), .any ((eLst eInt) late_), .val (eInt other_), .dead, .dead]) (k_set (ev_if (evt_of (ev_2 (op_ne (eq_lst eq_int) (by decide)) (evp_any (e := (eLst eInt)) (a := late_) rfl) (evp_of (ev_lst (eva_nil (e := eInt)))))) (ev_callD (evx_src rfl (evx_cons (evf_of (ev_varA (e := (eLst eInt)) (a := late_) rfl)) evx_nil)) (fun _ => rfl) (fun (a : ((List Int) × Unit)) => fn_law_of a.1)) (ev_callD (evx_src rfl (evx_cons (evf_of (ev_varA (e := (eLst eInt)) (a := told_) rfl)) evx_nil)) (fun _ => rfl) (fun (a : ((List Int) × Unit)) => fn_law_of a.1))) (fun _ => rfl)) (fun (other_ : Int) => ?_)
        refine k_last (ρ' := fun (b17 : (Unit × (List (Int × Int)))) => [.src, .val (eInt most_), .val (eInt links_), .val (eBool is_even_), .val (eInt n_), .any ((eLst eInt) told_), .own ((eLst (eP2 eInt eInt)) b17.2), .dead, .dead, .dead, .val (eInt q13), .any ((eLst eInt) odd_), .any ((eLst eInt) late_), .val (eInt other_), .dead, .dead]) (k_mut mu_app (xs := b12) rfl (eva_1 (evf_of (ev_p2 (evf_of (ev_2 op_min2 (evp_val (e := eInt) (a := q13) rfl) (evp_val (e := eInt) (a := other_) rfl))) (evf_of (ev_2 op_max2 (evp_val (e := eInt) (a := q13) rfl) (evp_val (e := eInt) (a := other_) rfl)))))) (fun _ => rfl)) (fun (b17 : (Unit × (List (Int × Int)))) => ?_)
        exact k_nil (nx_l (.cons .same (.cons .same (.cons .same (.cons .same (.cons .same (.cons .same (.cons .same (.cons .same (.cons .same (.cons .same (.cons .dead (.cons .dead (.cons .dead (.cons .dead (.cons .same (.cons .same .nil)))))))))))))))))
      exact k_nil (nx_l (.cons .same (.cons .same (.cons .same (.cons .same (.cons .same (.cons .same (.cons .same (.cons .same (.cons .same (.cons .same (.cons .dead (.cons .dead (.cons .same (.cons .same (.cons .same (.cons .same .nil)))))))))))))))))
    exact k_ret (inj := fun r => r) (ev_p2 (evf_of (ev_p2 (evf_of (ev_var (e := eInt) (a := n_) rfl)) (evf_of (ev_1 (op_tuple sq_lst) (evp_of (ev_1 (op_sort sq_lst (or_p2 or_int or_int) (by decide) (.inl fun _ => rfl)) (evp_own (e := (eLst (eP2 eInt eInt))) (a := b18) rfl))))))) (evf_of (ev_1 (op_tuple sq_lst) (evp_any (e := (eLst eInt)) (a := told_) rfl)))) rt_f)
def t_law_all_lots (n_ : Int) : Option (List (List Int)) :=
  (bnd (bnd (bnd (bnd (ret ([] : List Int)) fun xs => out (lenOk xs)) fun (a : (List Int)) => bnd (ret ([] : List (List Int))) fun as => ret (a :: as)) fun xs => out (lenOk xs)) fun (found_ : (List (List Int))) => 
  (bnd (bnd (bnd (ret n_) fun (a : Int) => out (rngO 0 a)) fun xs => foldM (fun (b1 : (List (List Int))) (q2 : Int) => 
  (bnd (bnd (ret b1) fun (a : (List (List Int))) => bnd (bnd (bnd (ret b1) fun (a : (List (List Int))) => ret a) fun xs => lcM xs (fun (q3 : (List Int)) => (ret true)) (fun (q3 : (List Int)) => (bnd (ret q3) fun (a : (List Int)) => bnd (bnd (bnd (ret q2) fun (a : Int) => bnd (ret ([] : List Int)) fun as => ret (a :: as)) fun xs => out (lenOk xs)) fun (b : (List Int)) => out (cat a b)))) fun (b : (List (List Int))) => out (cat a b)) fun (found_ : (List (List Int))) => 
  (ret found_))) xs found_) fun (b4 : (List (List Int))) => 
  (ret b4)))
theorem fn_law_all_lots (n_ : Int) : FnP K73.g_law_all_lots [.v (eInt n_)] (t_law_all_lots n_) (eLst (eTup eInt)) .own :=
  fn_p (n := 4) (m := K73.m_law_all_lots) (ρ := [.val (eInt n_), .dead, .dead, .dead]) rfl rfl (hs_v (hs_no (hs_no (hs_no hs_nil)))) (by
    refine k_seq (ρ' := fun (found_ : (List (List Int))) => [.val (eInt n_), .own ((eLst (eTup eInt)) found_), .dead, .dead]) (k_set (ev_lst (eva_cons (evf_of (ev_tup (eva_nil (e := eInt)))) (eva_nil (e := (eTup eInt))))) (fun _ => rfl)) (fun (found_ : (List (List Int))) => ?_)
    refine k_seq (ρ' := fun (b4 : (List (List Int))) => [.val (eInt n_), .own ((eLst (eTup eInt)) b4), .dead, .dead]) ?_ (fun (b4 : (List (List Int))) => ?_)
    · refine k_for (e1 := eInt) (ρL := fun (b1 : (List (List Int))) => [.val (eInt n_), .own ((eLst (eTup eInt)) b1), .dead, .dead]) (ρa := fun (b1 : (List (List Int))) (q2 : Int) => [.val (eInt n_), .own ((eLst (eTup eInt)) b1), .val (eInt q2), .dead]) (b0 := found_) (evi_rg1 (evf_of (ev_var (e := eInt) (a := n_) rfl))) (.cons .same (.cons .same (.cons .same (.cons .same .nil)))) (fun (b1 : (List (List Int))) (q2 : Int) => (tg_n rfl)) (fun (b1 : (List (List Int))) (q2 : Int) => ?_)
      refine k_weak (ρ1 := [.val (eInt n_), .any ((eLst (eTup eInt)) b1), .val (eInt q2), .dead]) (.cons .same (.cons .ow (.cons .same (.cons .same .nil)))) ?_
      refine k_last (ρ' := fun (found_ : (List (List Int))) => [.val (eInt n_), .own ((eLst (eTup eInt)) found_), .val (eInt q2), .dead]) (k_set (ev_2 op_catL (evp_any (e := (eLst (eTup eInt))) (a := b1) rfl) (evp_of (ev_lc (e1 := (eTup eInt)) (ρa := fun (q3 : (List Int)) => [.val (eInt n_), .any ((eLst (eTup eInt)) b1), .val (eInt q2), .val ((eTup eInt) q3)]) rfl (evi_seq sq_lst (evf_of (ev_varA (e := (eLst (eTup eInt))) (a := b1) rfl))) (fun q3 => (tg_n rfl)) (fun q3 => evt_yes) (fun q3 => (evf_of (ev_2 op_catT (evp_val (e := (eTup eInt)) (a := q3) rfl) (evp_of (ev_tup (eva_cons (evf_of (ev_var (e := eInt) (a := q2) rfl)) (eva_nil (e := eInt)))))))) (fun _ => rfl)))) (fun _ => rfl)) (fun (found_ : (List (List Int))) => ?_)
      exact k_nil (nx_l (.cons .same (.cons .same (.cons .dead (.cons .same .nil)))))
    exact k_mv (e3 := (eLst (eTup eInt))) (a := b4) (k := .own ((eLst (eTup eInt)) b4)) (inj := fun r => r) rfl (.inr (.inl ⟨rfl, rfl⟩)) rt_f)
def t_law_cut (net_ : (Int × (List (Int × Int)))) (lot_ : (List Int)) : Option Int :=
  (bnd (bnd (bnd (bnd (bnd (ret net_) fun (p : (Int × (List (Int × Int)))) => ret p.2) fun (a : (List (Int × Int))) => ret a) fun xs => lcM xs (fun (q1 : (Int × Int)) => (bnd (bnd (ret q1.1) fun (a : Int) => bnd (ret lot_) fun (b : (List Int)) => out (inV a b)) fun (a : Bool) => bnd (bnd (ret q1.2) fun (a : Int) => bnd (ret lot_) fun (b : (List Int)) => out (inV a b)) fun (b : Bool) => out (neV a b))) (fun (q1 : (Int × Int)) => (ret (1 : Int)))) fun (a : (List Int)) => out ((some ((a).length : Int)))) fun (a : Int) => ret a)
theorem fn_law_cut (net_ : (Int × (List (Int × Int)))) (lot_ : (List Int)) : FnP K73.g_law_cut [.v ((eP2 eInt (eTup (eP2 eInt eInt))) net_), .v ((eTup eInt) lot_)] (t_law_cut net_ lot_) eInt .val :=
  fn_p (n := 4) (m := K73.m_law_cut) (ρ := [.val ((eP2 eInt (eTup (eP2 eInt eInt))) net_), .val ((eTup eInt) lot_), .dead, .dead]) rfl rfl (hs_v (hs_v (hs_no (hs_no hs_nil)))) (by
    exact k_ret (inj := fun r => r) (ev_1 (op_len sq_lst) (evp_of (ev_lc (e1 := (eP2 eInt eInt)) (ρa := fun (q1 : (Int × Int)) => [.val ((eP2 eInt (eTup (eP2 eInt eInt))) net_), .val ((eTup eInt) lot_), .val (eInt q1.1), .val (eInt q1.2)]) rfl (evi_seq sq_tup (evf_of (ev_ixA (ev_2_1 (evp_val (e := (eP2 eInt (eTup (eP2 eInt eInt)))) (a := net_) rfl))))) (fun q1 => (tg_tp (tg_cn (tg_n rfl) (tg_cn (tg_n rfl) tg_nl)))) (fun q1 => (evt_of (ev_2 (op_ne eq_bool (by decide)) (evp_of (ev_inA (ev_2 (op_in sq_tup eq_int (by decide)) (evp_val (e := eInt) (a := q1.1) rfl) (evp_val (e := (eTup eInt)) (a := lot_) rfl)))) (evp_of (ev_inA (ev_2 (op_in sq_tup eq_int (by decide)) (evp_val (e := eInt) (a := q1.2) rfl) (evp_val (e := (eTup eInt)) (a := lot_) rfl))))))) (fun q1 => (evf_of (ev_c (e := eInt) (a := (1 : Int)) rfl))) (fun _ => rfl)))) rt_f)
def t_law_about (net_ : (Int × (List (Int × Int)))) (told_ : (List Int)) (t_ : Int) : Option ((List (List Int)) × Int) :=
  (bnd (bnd (bnd (bnd (bnd (bnd (ret net_) fun (p : (Int × (List (Int × Int)))) => ret p.1) fun (a : Int) => bnd (ret ()) fun b => ret (a, b)) fun (a : (Int × Unit)) => out (t_law_all_lots a.1)) fun (a : (List (List Int))) => ret a) fun xs => lcM xs (fun (q1 : (List Int)) => (bnd (bnd (bnd (ret told_) fun (a : (List Int)) => ret a) fun xs => lcM xs (fun (q2 : Int) => (bnd (ret q2) fun (a : Int) => bnd (ret q1) fun (b : (List Int)) => out (inV a b))) (fun (q2 : Int) => (ret q2))) fun (a : (List Int)) => bnd (bnd (bnd (ret t_) fun (a : Int) => bnd (ret ([] : List Int)) fun as => ret (a :: as)) fun xs => out (lenOk xs)) fun (b : (List Int)) => out (eqV a b))) (fun (q1 : (List Int)) => (ret q1))) fun (some_ : (List (List Int))) => 
  (bnd (bnd (bnd (bnd (ret some_) fun (a : (List (List Int))) => ret a) fun xs => lcM xs (fun (q3 : (List Int)) => (ret true)) (fun (q3 : (List Int)) => (bnd (bnd (ret net_) fun (a : (Int × (List (Int × Int)))) => bnd (bnd (ret q3) fun (a : (List Int)) => bnd (ret ()) fun b => ret (a, b)) fun b => ret (a, b)) fun (a : ((Int × (List (Int × Int))) × (List Int) × Unit)) => out (t_law_cut a.1 a.2.1)))) fun (a : (List Int)) => out (minW ltZ a)) fun (least_ : Int) => 
  (bnd (bnd (bnd (bnd (ret some_) fun (a : (List (List Int))) => ret a) fun xs => lcM xs (fun (q4 : (List Int)) => (bnd (bnd (bnd (ret net_) fun (a : (Int × (List (Int × Int)))) => bnd (bnd (ret q4) fun (a : (List Int)) => bnd (ret ()) fun b => ret (a, b)) fun b => ret (a, b)) fun (a : ((Int × (List (Int × Int))) × (List Int) × Unit)) => out (t_law_cut a.1 a.2.1)) fun (a : Int) => bnd (ret least_) fun (b : Int) => out (eqV a b))) (fun (q4 : (List Int)) => (ret q4))) fun a => bnd (ret least_) fun b => ret (a, b)) fun (a : ((List (List Int)) × Int)) => ret a)))
theorem fn_law_about (net_ : (Int × (List (Int × Int)))) (told_ : (List Int)) (t_ : Int) : FnP K73.g_law_about [.v ((eP2 eInt (eTup (eP2 eInt eInt))) net_), .v ((eTup eInt) told_), .v (eInt t_)] (t_law_about net_ told_ t_) (eP2 (eLst (eTup eInt)) eInt) .val :=
  fn_p (n := 7) (m := K73.m_law_about) (ρ := [.val ((eP2 eInt (eTup (eP2 eInt eInt))) net_), .val ((eTup eInt) told_), .val (eInt t_), .dead, .dead, .dead, .dead]) rfl rfl (hs_v (hs_v (hs_v (hs_no (hs_no (hs_no (hs_no hs_nil))))))) (by
    refine k_seq (ρ' := fun (some_ : (List (List Int))) => [.val ((eP2 eInt (eTup (eP2 eInt eInt))) net_), .val ((eTup eInt) told_), .val (eInt t_), .own ((eLst (eTup eInt)) some_), .dead, .dead, .dead]) (k_set (ev_lc (e1 := (eTup eInt)) (ρa := fun (q1 : (List Int)) => [.val ((eP2 eInt (eTup (eP2 eInt eInt))) net_), .val ((eTup eInt) told_), .val (eInt t_), .dead, .dead, .val ((eTup eInt) q1), .dead]) rfl (evi_seq sq_lst (evf_of (ev_call (evx_cons (evf_of (ev_ixA (ev_2_0 (evp_val (e := (eP2 eInt (eTup (eP2 eInt eInt)))) (a := net_) rfl)))) evx_nil) (fun _ => rfl) (fun (a : (Int × Unit)) => fn_law_all_lots a.1)))) (fun q1 => (tg_n rfl)) (fun q1 => (evt_of (ev_2 (op_eq (eq_lst eq_int) (by decide)) (evp_of (ev_lc (e1 := eInt) (ρa := fun (q2 : Int) => [.val ((eP2 eInt (eTup (eP2 eInt eInt))) net_), .val ((eTup eInt) told_), .val (eInt t_), .dead, .dead, .val ((eTup eInt) q1), .val (eInt q2)]) rfl (evi_seq sq_tup (evf_of (ev_var (e := (eTup eInt)) (a := told_) rfl))) (fun q2 => (tg_n rfl)) (fun q2 => (evt_of (ev_inA (ev_2 (op_in sq_tup eq_int (by decide)) (evp_val (e := eInt) (a := q2) rfl) (evp_val (e := (eTup eInt)) (a := q1) rfl))))) (fun q2 => (evf_of (ev_var (e := eInt) (a := q2) rfl))) (fun _ => rfl))) (evp_of (ev_lst (eva_cons (evf_of (ev_var (e := eInt) (a := t_) rfl)) (eva_nil (e := eInt)))))))) (fun q1 => (evf_of (ev_var (e := (eTup eInt)) (a := q1) rfl))) (fun _ => rfl)) (fun _ => rfl)) (fun (some_ : (List (List Int))) => ?_)
    refine k_weak (ρ1 := [.val ((eP2 eInt (eTup (eP2 eInt eInt))) net_), .val ((eTup eInt) told_), .val (eInt t_), .any ((eLst (eTup eInt)) some_), .dead, .dead, .dead]) (.cons .same (.cons .same (.cons .same (.cons .ow (.cons .same (.cons .same (.cons .same .nil))))))) ?_
    refine k_seq (ρ' := fun (least_ : Int) => [.val ((eP2 eInt (eTup (eP2 eInt eInt))) net_), .val ((eTup eInt) told_), .val (eInt t_), .any ((eLst (eTup eInt)) some_), .val (eInt least_), .dead, .dead]) (k_set (ev_1 (op_min sq_lst or_int (by decide)) (evp_of (ev_lc (e1 := (eTup eInt)) (ρa := fun (q3 : (List Int)) => [.val ((eP2 eInt (eTup (eP2 eInt eInt))) net_), .val ((eTup eInt) told_), .val (eInt t_), .any ((eLst (eTup eInt)) some_), .dead, .val ((eTup eInt) q3), .dead]) rfl (evi_seq sq_lst (evf_of (ev_varA (e := (eLst (eTup eInt))) (a := some_) rfl))) (fun q3 => (tg_n rfl)) (fun q3 => evt_yes) (fun q3 => (evf_of (ev_call (evx_cons (evf_of (ev_var (e := (eP2 eInt (eTup (eP2 eInt eInt)))) (a := net_) rfl)) (evx_cons (evf_of (ev_var (e := (eTup eInt)) (a := q3) rfl)) evx_nil)) (fun _ => rfl) (fun (a : ((Int × (List (Int × Int))) × (List Int) × Unit)) => fn_law_cut a.1 a.2.1)))) (fun _ => rfl)))) (fun _ => rfl)) (fun (least_ : Int) => ?_)
    exact k_ret (inj := fun r => r) (ev_p2 (evf_of (ev_lc (e1 := (eTup eInt)) (ρa := fun (q4 : (List Int)) => [.val ((eP2 eInt (eTup (eP2 eInt eInt))) net_), .val ((eTup eInt) told_), .val (eInt t_), .any ((eLst (eTup eInt)) some_), .val (eInt least_), .val ((eTup eInt) q4), .dead]) rfl (evi_seq sq_lst (evf_of (ev_varA (e := (eLst (eTup eInt))) (a := some_) rfl))) (fun q4 => (tg_n rfl)) (fun q4 => (evt_of (ev_2 (op_eq eq_int (by decide)) (evp_of (ev_call (evx_cons (evf_of (ev_var (e := (eP2 eInt (eTup (eP2 eInt eInt)))) (a := net_) rfl)) (evx_cons (evf_of (ev_var (e := (eTup eInt)) (a := q4) rfl)) evx_nil)) (fun _ => rfl) (fun (a : ((Int × (List (Int × Int))) × (List Int) × Unit)) => fn_law_cut a.1 a.2.1))) (evp_val (e := eInt) (a := least_) rfl)))) (fun q4 => (evf_of (ev_var (e := (eTup eInt)) (a := q4) rfl))) (fun _ => rfl))) (evf_of (ev_var (e := eInt) (a := least_) rfl))) rt_f)
def t_law_leasts (net_ : (Int × (List (Int × Int)))) (told_ : (List Int)) : Option (List Int) :=
  (bnd (bnd (bnd (ret told_) fun (a : (List Int)) => ret a) fun xs => lcM xs (fun (q1 : Int) => (ret true)) (fun (q1 : Int) => (bnd (bnd (bnd (ret net_) fun (a : (Int × (List (Int × Int)))) => bnd (bnd (ret told_) fun (a : (List Int)) => bnd (bnd (ret q1) fun (a : Int) => bnd (ret ()) fun b => ret (a, b)) fun b => ret (a, b)) fun b => ret (a, b)) fun (a : ((Int × (List (Int × Int))) × (List Int) × Int × Unit)) => out (t_law_about a.1 a.2.1 a.2.2.1)) fun (p : ((List (List Int)) × Int)) => ret p.2))) fun (a : (List Int)) => ret a)
theorem fn_law_leasts (net_ : (Int × (List (Int × Int)))) (told_ : (List Int)) : FnP K73.g_law_leasts [.v ((eP2 eInt (eTup (eP2 eInt eInt))) net_), .v ((eTup eInt) told_)] (t_law_leasts net_ told_) (eLst eInt) .own :=
  fn_p (n := 3) (m := K73.m_law_leasts) (ρ := [.val ((eP2 eInt (eTup (eP2 eInt eInt))) net_), .val ((eTup eInt) told_), .dead]) rfl rfl (hs_v (hs_v (hs_no hs_nil))) (by
    exact k_ret (inj := fun r => r) (ev_lc (e1 := eInt) (ρa := fun (q1 : Int) => [.val ((eP2 eInt (eTup (eP2 eInt eInt))) net_), .val ((eTup eInt) told_), .val (eInt q1)]) rfl (evi_seq sq_tup (evf_of (ev_var (e := (eTup eInt)) (a := told_) rfl))) (fun q1 => (tg_n rfl)) (fun q1 => evt_yes) (fun q1 => (evf_of (ev_ixA (ev_2_1 (evp_of (ev_call (evx_cons (evf_of (ev_var (e := (eP2 eInt (eTup (eP2 eInt eInt)))) (a := net_) rfl)) (evx_cons (evf_of (ev_var (e := (eTup eInt)) (a := told_) rfl)) (evx_cons (evf_of (ev_var (e := eInt) (a := q1) rfl)) evx_nil))) (fun _ => rfl) (fun (a : ((Int × (List (Int × Int))) × (List Int) × Int × Unit)) => fn_law_about a.1 a.2.1 a.2.2.1))))))) (fun _ => rfl)) rt_f)
def t_law_split (net_ : (Int × (List (Int × Int)))) (s_ : Int) (k_ : Int) (l_ : Int) : Option (Int × (List (Int × Int))) :=
  (bnd (bnd (bnd (bnd (bnd (bnd (bnd (bnd (bnd (ret net_) fun (p : (Int × (List (Int × Int)))) => ret p.2) fun (a : (List (Int × Int))) => bnd (ret k_) fun (b : Int) => out (at_ a b)) fun (a : (Int × Int)) => out (some ([a.1, a.2]).sum)) fun (a : Int) => bnd (ret s_) fun (b : Int) => out (subI a b)) fun (a : Int) => bnd (bnd (bnd (bnd (bnd (bnd (ret net_) fun (p : (Int × (List (Int × Int)))) => ret p.2) fun (a : (List (Int × Int))) => bnd (ret l_) fun (b : Int) => out (at_ a b)) fun (a : (Int × Int)) => out (some ([a.1, a.2]).sum)) fun (a : Int) => bnd (ret s_) fun (b : Int) => out (subI a b)) fun (a : Int) => bnd (ret ([] : List Int)) fun as => ret (a :: as)) fun as => ret (a :: as)) fun xs => out (lenOk xs)) fun (a : (List Int)) => out (some (sortW ltZ a))) fun (a : (List Int)) => out (two a)) fun (p1 : (Int × Int)) => 
  (bnd (bnd (bnd (bnd (bnd (ret net_) fun (p : (Int × (List (Int × Int)))) => ret p.2) fun (a : (List (Int × Int))) => ret (enumL a)) fun xs => lcM xs (fun (q2 : (Int × (Int × Int))) => (bnd (ret q2.1) fun (a : Int) => bnd (bnd (ret k_) fun a => bnd (ret l_) fun b => ret (a, b)) fun (b : (Int × Int)) => out (niV a [b.1, b.2]))) (fun (q2 : (Int × (Int × Int))) => (ret q2.2))) fun (a : (List (Int × Int))) => bnd (bnd (bnd (bnd (bnd (ret p1.1) fun a => bnd (ret p1.2) fun b => ret (a, b)) fun (a : (Int × Int)) => bnd (ret ([] : List (Int × Int))) fun as => ret (a :: as)) fun xs => out (lenOk xs)) fun (a : (List (Int × Int))) => bnd (bnd (bnd (ret p1.1) fun (a : Int) => bnd (ret p1.2) fun (b : Int) => out (neV a b)) fun (a : Bool) => out (intB a)) fun (b : Int) => out (repL a b)) fun (b : (List (Int × Int))) => out (cat a b)) fun (pairs_ : (List (Int × Int))) => 
  (bnd (bnd (bnd (ret net_) fun (p : (Int × (List (Int × Int)))) => ret p.1) fun a => bnd (bnd (bnd (ret pairs_) fun (a : (List (Int × Int))) => out (some (sortW (ltP ltZ ltZ) a))) fun (a : (List (Int × Int))) => out (some a)) fun b => ret (a, b)) fun (a : (Int × (List (Int × Int)))) => ret a)))
theorem fn_law_split (net_ : (Int × (List (Int × Int)))) (s_ : Int) (k_ : Int) (l_ : Int) : FnP K73.g_law_split [.v ((eP2 eInt (eTup (eP2 eInt eInt))) net_), .v (eInt s_), .v (eInt k_), .v (eInt l_)] (t_law_split net_ s_ k_ l_) (eP2 eInt (eTup (eP2 eInt eInt))) .val :=
  fn_p (n := 9) (m := K73.m_law_split) (ρ := [.val ((eP2 eInt (eTup (eP2 eInt eInt))) net_), .val (eInt s_), .val (eInt k_), .val (eInt l_), .dead, .dead, .dead, .dead, .dead]) rfl rfl (hs_v (hs_v (hs_v (hs_v (hs_no (hs_no (hs_no (hs_no (hs_no hs_nil))))))))) (by
    refine k_seq (ρ' := fun (p1 : (Int × Int)) => [.val ((eP2 eInt (eTup (eP2 eInt eInt))) net_), .val (eInt s_), .val (eInt k_), .val (eInt l_), .val (eInt p1.1), .val (eInt p1.2), .dead, .dead, .dead]) (k_asg (evf_twoL (evf_of (ev_1 (op_sort sq_lst or_int (by decide) (.inr fun _ => rfl)) (evp_of (ev_lst (eva_cons (evf_of (ev_2 op_subI (evp_of (ev_1 (op_sum sq_p2) (evp_of (ev_ixA (ev_2 (op_ix sq_tup) (evp_of (ev_ixA (ev_2_1 (evp_val (e := (eP2 eInt (eTup (eP2 eInt eInt)))) (a := net_) rfl)))) (evp_val (e := eInt) (a := k_) rfl)))))) (evp_val (e := eInt) (a := s_) rfl))) (eva_cons (evf_of (ev_2 op_subI (evp_of (ev_1 (op_sum sq_p2) (evp_of (ev_ixA (ev_2 (op_ix sq_tup) (evp_of (ev_ixA (ev_2_1 (evp_val (e := (eP2 eInt (eTup (eP2 eInt eInt)))) (a := net_) rfl)))) (evp_val (e := eInt) (a := l_) rfl)))))) (evp_val (e := eInt) (a := s_) rfl))) (eva_nil (e := eInt))))))))) (fun (p1 : (Int × Int)) => (tg_tpl (tg_cn (tg_n rfl) (tg_cn (tg_n rfl) tg_nl))))) (fun (p1 : (Int × Int)) => ?_)
    refine k_seq (ρ' := fun (pairs_ : (List (Int × Int))) => [.val ((eP2 eInt (eTup (eP2 eInt eInt))) net_), .val (eInt s_), .val (eInt k_), .val (eInt l_), .val (eInt p1.1), .val (eInt p1.2), .own ((eLst (eP2 eInt eInt)) pairs_), .dead, .dead]) (k_set (ev_2 op_catL (evp_of (ev_lc (e1 := (eP2 eInt (eP2 eInt eInt))) (ρa := fun (q2 : (Int × (Int × Int))) => [.val ((eP2 eInt (eTup (eP2 eInt eInt))) net_), .val (eInt s_), .val (eInt k_), .val (eInt l_), .val (eInt p1.1), .val (eInt p1.2), .dead, .val (eInt q2.1), .val ((eP2 eInt eInt) q2.2)]) rfl (evi_enum sq_tup (evf_of (ev_ixA (ev_2_1 (evp_val (e := (eP2 eInt (eTup (eP2 eInt eInt)))) (a := net_) rfl))))) (fun q2 => (tg_tp (tg_cn (tg_n rfl) (tg_cn (tg_n rfl) tg_nl)))) (fun q2 => (evt_of (ev_inA (ev_2 (op_ni sq_p2 eq_int (by decide)) (evp_val (e := eInt) (a := q2.1) rfl) (evp_of (ev_p2 (evf_of (ev_var (e := eInt) (a := k_) rfl)) (evf_of (ev_var (e := eInt) (a := l_) rfl)))))))) (fun q2 => (evf_of (ev_var (e := (eP2 eInt eInt)) (a := q2.2) rfl))) (fun _ => rfl))) (evp_of (ev_2 op_repL (evp_of (ev_lst (eva_cons (evf_of (ev_p2 (evf_of (ev_var (e := eInt) (a := p1.1) rfl)) (evf_of (ev_var (e := eInt) (a := p1.2) rfl)))) (eva_nil (e := (eP2 eInt eInt)))))) (evp_of (ev_1 op_intB (evp_of (ev_2 (op_ne eq_int (by decide)) (evp_val (e := eInt) (a := p1.1) rfl) (evp_val (e := eInt) (a := p1.2) rfl)))))))) (fun _ => rfl)) (fun (pairs_ : (List (Int × Int))) => ?_)
    exact k_ret (inj := fun r => r) (ev_p2 (evf_of (ev_ixA (ev_2_0 (evp_val (e := (eP2 eInt (eTup (eP2 eInt eInt)))) (a := net_) rfl)))) (evf_of (ev_1 (op_tuple sq_lst) (evp_of (ev_1 (op_sort sq_lst (or_p2 or_int or_int) (by decide) (.inl fun _ => rfl)) (evp_own (e := (eLst (eP2 eInt eInt))) (a := pairs_) rfl)))))) rt_f)
def t_lots_of_numbers (n_ : Int) : Option (List (List Int)) :=
  (bnd (bnd (bnd (bnd (ret ([] : List Int)) fun xs => out (lenOk xs)) fun (a : (List Int)) => bnd (ret ([] : List (List Int))) fun as => ret (a :: as)) fun xs => out (lenOk xs)) fun (found_ : (List (List Int))) => 
  (bnd (bnd (bnd (ret n_) fun (a : Int) => out (rngO 0 a)) fun xs => foldM (fun (b1 : (List (List Int))) (q2 : Int) => 
  (bnd (bnd (ret b1) fun (a : (List (List Int))) => bnd (bnd (bnd (ret b1) fun (a : (List (List Int))) => ret a) fun xs => lcM xs (fun (q3 : (List Int)) => (ret true)) (fun (q3 : (List Int)) => (bnd (bnd (ret q3) fun (a4 : (List Int)) => bnd (bnd (ret q2) fun (a : Int) => bnd (ret ([] : List Int)) fun as => ret (a :: as)) fun as => ret (a4 ++ as)) fun xs => out (lenOk xs)))) fun (b : (List (List Int))) => out (cat a b)) fun (found_ : (List (List Int))) => 
  (ret found_))) xs found_) fun (b5 : (List (List Int))) => 
  (ret b5)))
theorem fn_lots_of_numbers (n_ : Int) : FnP K73.g_lots_of_numbers [.v (eInt n_)] (t_lots_of_numbers n_) (eLst (eTup eInt)) .own :=
  fn_p (n := 4) (m := K73.m_lots_of_numbers) (ρ := [.val (eInt n_), .dead, .dead, .dead]) rfl rfl (hs_v (hs_no (hs_no (hs_no hs_nil)))) (by
    refine k_seq (ρ' := fun (found_ : (List (List Int))) => [.val (eInt n_), .own ((eLst (eTup eInt)) found_), .dead, .dead]) (k_set (ev_lst (eva_cons (evf_of (ev_tup (eva_nil (e := eInt)))) (eva_nil (e := (eTup eInt))))) (fun _ => rfl)) (fun (found_ : (List (List Int))) => ?_)
    refine k_seq (ρ' := fun (b5 : (List (List Int))) => [.val (eInt n_), .own ((eLst (eTup eInt)) b5), .dead, .dead]) ?_ (fun (b5 : (List (List Int))) => ?_)
    · refine k_for (e1 := eInt) (ρL := fun (b1 : (List (List Int))) => [.val (eInt n_), .own ((eLst (eTup eInt)) b1), .dead, .dead]) (ρa := fun (b1 : (List (List Int))) (q2 : Int) => [.val (eInt n_), .own ((eLst (eTup eInt)) b1), .val (eInt q2), .dead]) (b0 := found_) (evi_rg1 (evf_of (ev_var (e := eInt) (a := n_) rfl))) (.cons .same (.cons .same (.cons .same (.cons .same .nil)))) (fun (b1 : (List (List Int))) (q2 : Int) => (tg_n rfl)) (fun (b1 : (List (List Int))) (q2 : Int) => ?_)
      refine k_weak (ρ1 := [.val (eInt n_), .any ((eLst (eTup eInt)) b1), .val (eInt q2), .dead]) (.cons .same (.cons .ow (.cons .same (.cons .same .nil)))) ?_
      refine k_last (ρ' := fun (found_ : (List (List Int))) => [.val (eInt n_), .own ((eLst (eTup eInt)) found_), .val (eInt q2), .dead]) (k_set (ev_2 op_catL (evp_any (e := (eLst (eTup eInt))) (a := b1) rfl) (evp_of (ev_lc (e1 := (eTup eInt)) (ρa := fun (q3 : (List Int)) => [.val (eInt n_), .any ((eLst (eTup eInt)) b1), .val (eInt q2), .val ((eTup eInt) q3)]) rfl (evi_seq sq_lst (evf_of (ev_varA (e := (eLst (eTup eInt))) (a := b1) rfl))) (fun q3 => (tg_n rfl)) (fun q3 => evt_yes) (fun q3 => (evf_of (ev_tup (eva_star (SeqE.sq sq_tup) (evp_val (e := (eTup eInt)) (a := q3) rfl) (eva_cons (evf_of (ev_var (e := eInt) (a := q2) rfl)) (eva_nil (e := eInt))))))) (fun _ => rfl)))) (fun _ => rfl)) (fun (found_ : (List (List Int))) => ?_)
      exact k_nil (nx_l (.cons .same (.cons .same (.cons .dead (.cons .same .nil)))))
    exact k_mv (e3 := (eLst (eTup eInt))) (a := b5) (k := .own ((eLst (eTup eInt)) b5)) (inj := fun r => r) rfl (.inr (.inl ⟨rfl, rfl⟩)) rt_f)
def t_is_about (told_ : (List Int)) (t_ : Int) (lot_ : (List Int)) : Option Bool :=
  (bnd (bnd (bnd (bnd (ret told_) fun (a : (List Int)) => ret a) fun xs => lcM xs (fun (q1 : Int) => (bnd (ret q1) fun (a : Int) => bnd (ret lot_) fun (b : (List Int)) => out (inV a b))) (fun (q1 : Int) => (ret q1))) fun (a : (List Int)) => bnd (bnd (bnd (ret t_) fun (a : Int) => bnd (ret ([] : List Int)) fun as => ret (a :: as)) fun xs => out (lenOk xs)) fun (b : (List Int)) => out (eqV a b)) fun (a : Bool) => ret a)
theorem fn_is_about (told_ : (List Int)) (t_ : Int) (lot_ : (List Int)) : FnP K73.g_is_about [.v ((eTup eInt) told_), .v (eInt t_), .v ((eTup eInt) lot_)] (t_is_about told_ t_ lot_) eBool .val :=
  fn_p (n := 4) (m := K73.m_is_about) (ρ := [.val ((eTup eInt) told_), .val (eInt t_), .val ((eTup eInt) lot_), .dead]) rfl rfl (hs_v (hs_v (hs_v (hs_no hs_nil)))) (by
    exact k_ret (inj := fun r => r) (ev_2 (op_eq (eq_lst eq_int) (by decide)) (evp_of (ev_lc (e1 := eInt) (ρa := fun (q1 : Int) => [.val ((eTup eInt) told_), .val (eInt t_), .val ((eTup eInt) lot_), .val (eInt q1)]) rfl (evi_seq sq_tup (evf_of (ev_var (e := (eTup eInt)) (a := told_) rfl))) (fun q1 => (tg_n rfl)) (fun q1 => (evt_of (ev_inA (ev_2 (op_in sq_tup eq_int (by decide)) (evp_val (e := eInt) (a := q1) rfl) (evp_val (e := (eTup eInt)) (a := lot_) rfl))))) (fun q1 => (evf_of (ev_var (e := eInt) (a := q1) rfl))) (fun _ => rfl))) (evp_of (ev_lst (eva_cons (evf_of (ev_var (e := eInt) (a := t_) rfl)) (eva_nil (e := eInt)))))) rt_f)
def t_lots_about (net_ : (Int × (List (Int × Int)))) (told_ : (List Int)) (t_ : Int) : Option (List (List Int)) :=
  (bnd (bnd (bnd (bnd (bnd (bnd (ret net_) fun (p : (Int × (List (Int × Int)))) => ret p.1) fun (a : Int) => bnd (ret ()) fun b => ret (a, b)) fun (a : (Int × Unit)) => out (t_lots_of_numbers a.1)) fun (a : (List (List Int))) => ret a) fun xs => lcM xs (fun (q1 : (List Int)) => (bnd (bnd (ret told_) fun (a : (List Int)) => bnd (bnd (ret t_) fun (a : Int) => bnd (bnd (ret q1) fun (a : (List Int)) => bnd (ret ()) fun b => ret (a, b)) fun b => ret (a, b)) fun b => ret (a, b)) fun (a : ((List Int) × Int × (List Int) × Unit)) => out (t_is_about a.1 a.2.1 a.2.2.1))) (fun (q1 : (List Int)) => (ret q1))) fun (a : (List (List Int))) => ret a)
theorem fn_lots_about (net_ : (Int × (List (Int × Int)))) (told_ : (List Int)) (t_ : Int) : FnP K73.g_lots_about [.v ((eP2 eInt (eTup (eP2 eInt eInt))) net_), .v ((eTup eInt) told_), .v (eInt t_)] (t_lots_about net_ told_ t_) (eLst (eTup eInt)) .own :=
  fn_p (n := 4) (m := K73.m_lots_about) (ρ := [.val ((eP2 eInt (eTup (eP2 eInt eInt))) net_), .val ((eTup eInt) told_), .val (eInt t_), .dead]) rfl rfl (hs_v (hs_v (hs_v (hs_no hs_nil)))) (by
    exact k_ret (inj := fun r => r) (ev_lc (e1 := (eTup eInt)) (ρa := fun (q1 : (List Int)) => [.val ((eP2 eInt (eTup (eP2 eInt eInt))) net_), .val ((eTup eInt) told_), .val (eInt t_), .val ((eTup eInt) q1)]) rfl (evi_seq sq_lst (evf_of (ev_call (evx_cons (evf_of (ev_ixA (ev_2_0 (evp_val (e := (eP2 eInt (eTup (eP2 eInt eInt)))) (a := net_) rfl)))) evx_nil) (fun _ => rfl) (fun (a : (Int × Unit)) => fn_lots_of_numbers a.1)))) (fun q1 => (tg_n rfl)) (fun q1 => (evt_of (ev_call (evx_cons (evf_of (ev_var (e := (eTup eInt)) (a := told_) rfl)) (evx_cons (evf_of (ev_var (e := eInt) (a := t_) rfl)) (evx_cons (evf_of (ev_var (e := (eTup eInt)) (a := q1) rfl)) evx_nil))) (fun _ => rfl) (fun (a : ((List Int) × Int × (List Int) × Unit)) => fn_is_about a.1 a.2.1 a.2.2.1)))) (fun q1 => (evf_of (ev_var (e := (eTup eInt)) (a := q1) rfl))) (fun _ => rfl)) rt_f)
def t_links_in_cut (net_ : (Int × (List (Int × Int)))) (lot_ : (List Int)) : Option Int :=
  (bnd (bnd (bnd (bnd (bnd (ret net_) fun (p : (Int × (List (Int × Int)))) => ret p.2) fun (a : (List (Int × Int))) => ret a) fun xs => lcM xs (fun (q1 : (Int × Int)) => (bnd (bnd (ret q1.1) fun (a : Int) => bnd (ret lot_) fun (b : (List Int)) => out (inV a b)) fun (a : Bool) => bnd (bnd (ret q1.2) fun (a : Int) => bnd (ret lot_) fun (b : (List Int)) => out (inV a b)) fun (b : Bool) => out (neV a b))) (fun (q1 : (Int × Int)) => (ret (1 : Int)))) fun (a : (List Int)) => out ((some ((a).length : Int)))) fun (a : Int) => ret a)
theorem fn_links_in_cut (net_ : (Int × (List (Int × Int)))) (lot_ : (List Int)) : FnP K73.g_links_in_cut [.v ((eP2 eInt (eTup (eP2 eInt eInt))) net_), .v ((eTup eInt) lot_)] (t_links_in_cut net_ lot_) eInt .val :=
  fn_p (n := 4) (m := K73.m_links_in_cut) (ρ := [.val ((eP2 eInt (eTup (eP2 eInt eInt))) net_), .val ((eTup eInt) lot_), .dead, .dead]) rfl rfl (hs_v (hs_v (hs_no (hs_no hs_nil)))) (by
    exact k_ret (inj := fun r => r) (ev_1 (op_len sq_lst) (evp_of (ev_lc (e1 := (eP2 eInt eInt)) (ρa := fun (q1 : (Int × Int)) => [.val ((eP2 eInt (eTup (eP2 eInt eInt))) net_), .val ((eTup eInt) lot_), .val (eInt q1.1), .val (eInt q1.2)]) rfl (evi_seq sq_tup (evf_of (ev_ixA (ev_2_1 (evp_val (e := (eP2 eInt (eTup (eP2 eInt eInt)))) (a := net_) rfl))))) (fun q1 => (tg_tp (tg_cn (tg_n rfl) (tg_cn (tg_n rfl) tg_nl)))) (fun q1 => (evt_of (ev_2 (op_ne eq_bool (by decide)) (evp_of (ev_inA (ev_2 (op_in sq_tup eq_int (by decide)) (evp_val (e := eInt) (a := q1.1) rfl) (evp_val (e := (eTup eInt)) (a := lot_) rfl)))) (evp_of (ev_inA (ev_2 (op_in sq_tup eq_int (by decide)) (evp_val (e := eInt) (a := q1.2) rfl) (evp_val (e := (eTup eInt)) (a := lot_) rfl))))))) (fun q1 => (evf_of (ev_c (e := eInt) (a := (1 : Int)) rfl))) (fun _ => rfl)))) rt_f)
def t_least_about (net_ : (Int × (List (Int × Int)))) (told_ : (List Int)) (t_ : Int) : Option Int :=
  (bnd (bnd (bnd (bnd (bnd (bnd (ret net_) fun (a : (Int × (List (Int × Int)))) => bnd (bnd (ret told_) fun (a : (List Int)) => bnd (bnd (ret t_) fun (a : Int) => bnd (ret ()) fun b => ret (a, b)) fun b => ret (a, b)) fun b => ret (a, b)) fun (a : ((Int × (List (Int × Int))) × (List Int) × Int × Unit)) => out (t_lots_about a.1 a.2.1 a.2.2.1)) fun (a : (List (List Int))) => ret a) fun xs => lcM xs (fun (q1 : (List Int)) => (ret true)) (fun (q1 : (List Int)) => (bnd (bnd (ret net_) fun (a : (Int × (List (Int × Int)))) => bnd (bnd (ret q1) fun (a : (List Int)) => bnd (ret ()) fun b => ret (a, b)) fun b => ret (a, b)) fun (a : ((Int × (List (Int × Int))) × (List Int) × Unit)) => out (t_links_in_cut a.1 a.2.1)))) fun (a : (List Int)) => out (minW ltZ a)) fun (a : Int) => ret a)
theorem fn_least_about (net_ : (Int × (List (Int × Int)))) (told_ : (List Int)) (t_ : Int) : FnP K73.g_least_about [.v ((eP2 eInt (eTup (eP2 eInt eInt))) net_), .v ((eTup eInt) told_), .v (eInt t_)] (t_least_about net_ told_ t_) eInt .val :=
  fn_p (n := 4) (m := K73.m_least_about) (ρ := [.val ((eP2 eInt (eTup (eP2 eInt eInt))) net_), .val ((eTup eInt) told_), .val (eInt t_), .dead]) rfl rfl (hs_v (hs_v (hs_v (hs_no hs_nil)))) (by
    exact k_ret (inj := fun r => r) (ev_1 (op_min sq_lst or_int (by decide)) (evp_of (ev_lc (e1 := (eTup eInt)) (ρa := fun (q1 : (List Int)) => [.val ((eP2 eInt (eTup (eP2 eInt eInt))) net_), .val ((eTup eInt) told_), .val (eInt t_), .val ((eTup eInt) q1)]) rfl (evi_seq sq_lst (evf_of (ev_call (evx_cons (evf_of (ev_var (e := (eP2 eInt (eTup (eP2 eInt eInt)))) (a := net_) rfl)) (evx_cons (evf_of (ev_var (e := (eTup eInt)) (a := told_) rfl)) (evx_cons (evf_of (ev_var (e := eInt) (a := t_) rfl)) evx_nil))) (fun _ => rfl) (fun (a : ((Int × (List (Int × Int))) × (List Int) × Int × Unit)) => fn_lots_about a.1 a.2.1 a.2.2.1)))) (fun q1 => (tg_n rfl)) (fun q1 => evt_yes) (fun q1 => (evf_of (ev_call (evx_cons (evf_of (ev_var (e := (eP2 eInt (eTup (eP2 eInt eInt)))) (a := net_) rfl)) (evx_cons (evf_of (ev_var (e := (eTup eInt)) (a := q1) rfl)) evx_nil)) (fun _ => rfl) (fun (a : ((Int × (List (Int × Int))) × (List Int) × Unit)) => fn_links_in_cut a.1 a.2.1)))) (fun _ => rfl)))) rt_f)
def t_all_least (net_ : (Int × (List (Int × Int)))) (told_ : (List Int)) : Option (List Int) :=
  (bnd (bnd (bnd (ret told_) fun (a : (List Int)) => ret a) fun xs => lcM xs (fun (q1 : Int) => (ret true)) (fun (q1 : Int) => (bnd (bnd (ret net_) fun (a : (Int × (List (Int × Int)))) => bnd (bnd (ret told_) fun (a : (List Int)) => bnd (bnd (ret q1) fun (a : Int) => bnd (ret ()) fun b => ret (a, b)) fun b => ret (a, b)) fun b => ret (a, b)) fun (a : ((Int × (List (Int × Int))) × (List Int) × Int × Unit)) => out (t_least_about a.1 a.2.1 a.2.2.1)))) fun (a : (List Int)) => ret a)
theorem fn_all_least (net_ : (Int × (List (Int × Int)))) (told_ : (List Int)) : FnP K73.g_all_least [.v ((eP2 eInt (eTup (eP2 eInt eInt))) net_), .v ((eTup eInt) told_)] (t_all_least net_ told_) (eLst eInt) .own :=
  fn_p (n := 3) (m := K73.m_all_least) (ρ := [.val ((eP2 eInt (eTup (eP2 eInt eInt))) net_), .val ((eTup eInt) told_), .dead]) rfl rfl (hs_v (hs_v (hs_no hs_nil))) (by
    exact k_ret (inj := fun r => r) (ev_lc (e1 := eInt) (ρa := fun (q1 : Int) => [.val ((eP2 eInt (eTup (eP2 eInt eInt))) net_), .val ((eTup eInt) told_), .val (eInt q1)]) rfl (evi_seq sq_tup (evf_of (ev_var (e := (eTup eInt)) (a := told_) rfl))) (fun q1 => (tg_n rfl)) (fun q1 => evt_yes) (fun q1 => (evf_of (ev_call (evx_cons (evf_of (ev_var (e := (eP2 eInt (eTup (eP2 eInt eInt)))) (a := net_) rfl)) (evx_cons (evf_of (ev_var (e := (eTup eInt)) (a := told_) rfl)) (evx_cons (evf_of (ev_var (e := eInt) (a := q1) rfl)) evx_nil))) (fun _ => rfl) (fun (a : ((Int × (List (Int × Int))) × (List Int) × Int × Unit)) => fn_least_about a.1 a.2.1 a.2.2.1)))) (fun _ => rfl)) rt_f)
def t_is_number (value_ : Int) : Option Bool :=
  (bnd (andB (bnd (ret value_) fun (a : Int) => out (some true)) (andB (bnd (bnd (ret value_) fun (a : Int) => out (some false)) fun z => ret (!z)) (bnd (ret value_) fun (a : Int) => bnd (ret (0 : Int)) fun (b : Int) => out (geI a b)))) fun (a : Bool) => ret a)
theorem fn_is_number (value_ : Int) : FnP K73.g_is_number [.v (eInt value_)] (t_is_number value_) eBool .val :=
  fn_p (n := 1) (m := K73.m_is_number) (ρ := [.val (eInt value_)]) rfl rfl (hs_v hs_nil) (by
    exact k_ret (inj := fun r => r) (ev_and (ev_1 (op_isc (b := true) (fun _ => rfl)) (evp_val (e := eInt) (a := value_) rfl)) (ev_and (ev_not (ev_1 (op_isc (b := false) (fun _ => rfl)) (evp_val (e := eInt) (a := value_) rfl))) (ev_2 op_geI (evp_val (e := eInt) (a := value_) rfl) (evp_of (ev_c (e := eInt) (a := (0 : Int)) rfl))))) rt_f)
def t_is_station (net_ : (Int × (List (Int × Int)))) (value_ : Int) : Option Bool :=
  (bnd (andB (bnd (bnd (ret value_) fun (a : Int) => bnd (ret ()) fun b => ret (a, b)) fun (a : (Int × Unit)) => out (t_is_number a.1)) (bnd (ret value_) fun (a : Int) => bnd (bnd (ret net_) fun (p : (Int × (List (Int × Int)))) => ret p.1) fun (b : Int) => out (ltI a b))) fun (a : Bool) => ret a)
theorem fn_is_station (net_ : (Int × (List (Int × Int)))) (value_ : Int) : FnP K73.g_is_station [.v ((eP2 eInt (eTup (eP2 eInt eInt))) net_), .v (eInt value_)] (t_is_station net_ value_) eBool .val :=
  fn_p (n := 2) (m := K73.m_is_station) (ρ := [.val ((eP2 eInt (eTup (eP2 eInt eInt))) net_), .val (eInt value_)]) rfl rfl (hs_v (hs_v hs_nil)) (by
    exact k_ret (inj := fun r => r) (ev_and (ev_call (evx_cons (evf_of (ev_var (e := eInt) (a := value_) rfl)) evx_nil) (fun _ => rfl) (fun (a : (Int × Unit)) => fn_is_number a.1)) (ev_2 op_ltI (evp_val (e := eInt) (a := value_) rfl) (evp_of (ev_ixA (ev_2_0 (evp_val (e := (eP2 eInt (eTup (eP2 eInt eInt)))) (a := net_) rfl)))))) rt_f)
def t_links_at (net_ : (Int × (List (Int × Int)))) (station_ : Int) : Option (List Int) :=
  (bnd (bnd (bnd (bnd (ret net_) fun (a : (Int × (List (Int × Int)))) => bnd (bnd (ret station_) fun (a : Int) => bnd (ret ()) fun b => ret (a, b)) fun b => ret (a, b)) fun (a : ((Int × (List (Int × Int))) × Int × Unit)) => out (t_is_station a.1 a.2.1)) fun z => ret (!z)) fun z => cnd z
  (out none)
  (bnd (bnd (bnd (bnd (bnd (ret net_) fun (p : (Int × (List (Int × Int)))) => ret p.2) fun (a : (List (Int × Int))) => ret (enumL a)) fun xs => lcM xs (fun (q1 : (Int × (Int × Int))) => (bnd (ret station_) fun (a : Int) => bnd (ret q1.2) fun (b : (Int × Int)) => out (inV a [b.1, b.2]))) (fun (q1 : (Int × (Int × Int))) => (ret q1.1))) fun (a : (List Int)) => out (some a)) fun (a : (List Int)) => ret a))
theorem fn_links_at (net_ : (Int × (List (Int × Int)))) (station_ : Int) : FnP K73.g_links_at [.v ((eP2 eInt (eTup (eP2 eInt eInt))) net_), .v (eInt station_)] (t_links_at net_ station_) (eTup eInt) .val :=
  fn_p (n := 4) (m := K73.m_links_at) (ρ := [.val ((eP2 eInt (eTup (eP2 eInt eInt))) net_), .val (eInt station_), .dead, .dead]) rfl rfl (hs_v (hs_v (hs_no (hs_no hs_nil)))) (by
    refine k_ifx (evt_not (evt_of (ev_call (evx_cons (evf_of (ev_var (e := (eP2 eInt (eTup (eP2 eInt eInt)))) (a := net_) rfl)) (evx_cons (evf_of (ev_var (e := eInt) (a := station_) rfl)) evx_nil)) (fun _ => rfl) (fun (a : ((Int × (List (Int × Int))) × Int × Unit)) => fn_is_station a.1 a.2.1)))) ?_ ?_
    · exact k_fail
    refine k_nilseq ?_
    exact k_ret (inj := fun r => r) (ev_1 (op_tuple sq_lst) (evp_of (ev_lc (e1 := (eP2 eInt (eP2 eInt eInt))) (ρa := fun (q1 : (Int × (Int × Int))) => [.val ((eP2 eInt (eTup (eP2 eInt eInt))) net_), .val (eInt station_), .val (eInt q1.1), .val ((eP2 eInt eInt) q1.2)]) rfl (evi_enum sq_tup (evf_of (ev_ixA (ev_2_1 (evp_val (e := (eP2 eInt (eTup (eP2 eInt eInt)))) (a := net_) rfl))))) (fun q1 => (tg_tp (tg_cn (tg_n rfl) (tg_cn (tg_n rfl) tg_nl)))) (fun q1 => (evt_of (ev_inA (ev_2 (op_in sq_p2 eq_int (by decide)) (evp_val (e := eInt) (a := station_) rfl) (evp_val (e := (eP2 eInt eInt)) (a := q1.2) rfl))))) (fun q1 => (evf_of (ev_var (e := eInt) (a := q1.1) rfl))) (fun _ => rfl)))) rt_f)
def t_joined_pair (net_ : (Int × (List (Int × Int)))) (s_ : Int) (k_ : Int) (l_ : Int) : Option (List Int) :=
  (bnd (bnd (bnd (bnd (bnd (bnd (bnd (bnd (bnd (ret net_) fun (p : (Int × (List (Int × Int)))) => ret p.2) fun (a : (List (Int × Int))) => bnd (ret k_) fun (b : Int) => out (at_ a b)) fun (a : (Int × Int)) => out (some ([a.1, a.2]).sum)) fun (a : Int) => bnd (ret s_) fun (b : Int) => out (subI a b)) fun (a : Int) => bnd (bnd (bnd (bnd (bnd (bnd (ret net_) fun (p : (Int × (List (Int × Int)))) => ret p.2) fun (a : (List (Int × Int))) => bnd (ret l_) fun (b : Int) => out (at_ a b)) fun (a : (Int × Int)) => out (some ([a.1, a.2]).sum)) fun (a : Int) => bnd (ret s_) fun (b : Int) => out (subI a b)) fun (a : Int) => bnd (ret ([] : List Int)) fun as => ret (a :: as)) fun as => ret (a :: as)) fun xs => out (lenOk xs)) fun (a : (List Int)) => out (some (sortW ltZ a))) fun (a : (List Int)) => out (some a)) fun (a : (List Int)) => ret a)
theorem fn_joined_pair (net_ : (Int × (List (Int × Int)))) (s_ : Int) (k_ : Int) (l_ : Int) : FnP K73.g_joined_pair [.v ((eP2 eInt (eTup (eP2 eInt eInt))) net_), .v (eInt s_), .v (eInt k_), .v (eInt l_)] (t_joined_pair net_ s_ k_ l_) (eTup eInt) .val :=
  fn_p (n := 4) (m := K73.m_joined_pair) (ρ := [.val ((eP2 eInt (eTup (eP2 eInt eInt))) net_), .val (eInt s_), .val (eInt k_), .val (eInt l_)]) rfl rfl (hs_v (hs_v (hs_v (hs_v hs_nil)))) (by
    exact k_ret (inj := fun r => r) (ev_1 (op_tuple sq_lst) (evp_of (ev_1 (op_sort sq_lst or_int (by decide) (.inr fun _ => rfl)) (evp_of (ev_lst (eva_cons (evf_of (ev_2 op_subI (evp_of (ev_1 (op_sum sq_p2) (evp_of (ev_ixA (ev_2 (op_ix sq_tup) (evp_of (ev_ixA (ev_2_1 (evp_val (e := (eP2 eInt (eTup (eP2 eInt eInt)))) (a := net_) rfl)))) (evp_val (e := eInt) (a := k_) rfl)))))) (evp_val (e := eInt) (a := s_) rfl))) (eva_cons (evf_of (ev_2 op_subI (evp_of (ev_1 (op_sum sq_p2) (evp_of (ev_ixA (ev_2 (op_ix sq_tup) (evp_of (ev_ixA (ev_2_1 (evp_val (e := (eP2 eInt (eTup (eP2 eInt eInt)))) (a := net_) rfl)))) (evp_val (e := eInt) (a := l_) rfl)))))) (evp_val (e := eInt) (a := s_) rfl))) (eva_nil (e := eInt))))))))) rt_f)
def t_split_net (net_ : (Int × (List (Int × Int)))) (s_ : Int) (k_ : Int) (l_ : Int) : Option (Int × (List (Int × Int))) :=
  (bnd (bnd (bnd (bnd (ret net_) fun (p : (Int × (List (Int × Int)))) => ret p.2) fun (a : (List (Int × Int))) => ret (enumL a)) fun xs => lcM xs (fun (q1 : (Int × (Int × Int))) => (bnd (ret q1.1) fun (a : Int) => bnd (bnd (ret k_) fun a => bnd (ret l_) fun b => ret (a, b)) fun (b : (Int × Int)) => out (niV a [b.1, b.2]))) (fun (q1 : (Int × (Int × Int))) => (ret q1.2))) fun (left_ : (List (Int × Int))) => 
  (bnd (bnd (bnd (bnd (ret net_) fun (a : (Int × (List (Int × Int)))) => bnd (bnd (ret s_) fun (a : Int) => bnd (bnd (ret k_) fun (a : Int) => bnd (bnd (ret l_) fun (a : Int) => bnd (ret ()) fun b => ret (a, b)) fun b => ret (a, b)) fun b => ret (a, b)) fun b => ret (a, b)) fun (a : ((Int × (List (Int × Int))) × Int × Int × Int × Unit)) => out (t_joined_pair a.1 a.2.1 a.2.2.1 a.2.2.2.1)) fun (a : (List Int)) => out (two a)) fun (p2 : (Int × Int)) => 
  (bnd (bnd (bnd (ret net_) fun (p : (Int × (List (Int × Int)))) => ret p.1) fun a => bnd (bnd (bnd (bnd (bnd (ret p2.1) fun (a : Int) => bnd (ret p2.2) fun (b : Int) => out (neV a b)) fun z => cnd z (bnd (ret left_) fun (a : (List (Int × Int))) => bnd (bnd (bnd (bnd (ret p2.1) fun a => bnd (ret p2.2) fun b => ret (a, b)) fun (a : (Int × Int)) => bnd (ret ([] : List (Int × Int))) fun as => ret (a :: as)) fun xs => out (lenOk xs)) fun (b : (List (Int × Int))) => out (cat a b)) (ret left_)) fun (a : (List (Int × Int))) => out (some (sortW (ltP ltZ ltZ) a))) fun (a : (List (Int × Int))) => out (some a)) fun b => ret (a, b)) fun (a : (Int × (List (Int × Int)))) => ret a)))
theorem fn_split_net (net_ : (Int × (List (Int × Int)))) (s_ : Int) (k_ : Int) (l_ : Int) : FnP K73.g_split_net [.v ((eP2 eInt (eTup (eP2 eInt eInt))) net_), .v (eInt s_), .v (eInt k_), .v (eInt l_)] (t_split_net net_ s_ k_ l_) (eP2 eInt (eTup (eP2 eInt eInt))) .val :=
  fn_p (n := 9) (m := K73.m_split_net) (ρ := [.val ((eP2 eInt (eTup (eP2 eInt eInt))) net_), .val (eInt s_), .val (eInt k_), .val (eInt l_), .dead, .dead, .dead, .dead, .dead]) rfl rfl (hs_v (hs_v (hs_v (hs_v (hs_no (hs_no (hs_no (hs_no (hs_no hs_nil))))))))) (by
    refine k_seq (ρ' := fun (left_ : (List (Int × Int))) => [.val ((eP2 eInt (eTup (eP2 eInt eInt))) net_), .val (eInt s_), .val (eInt k_), .val (eInt l_), .own ((eLst (eP2 eInt eInt)) left_), .dead, .dead, .dead, .dead]) (k_set (ev_lc (e1 := (eP2 eInt (eP2 eInt eInt))) (ρa := fun (q1 : (Int × (Int × Int))) => [.val ((eP2 eInt (eTup (eP2 eInt eInt))) net_), .val (eInt s_), .val (eInt k_), .val (eInt l_), .dead, .dead, .dead, .val (eInt q1.1), .val ((eP2 eInt eInt) q1.2)]) rfl (evi_enum sq_tup (evf_of (ev_ixA (ev_2_1 (evp_val (e := (eP2 eInt (eTup (eP2 eInt eInt)))) (a := net_) rfl))))) (fun q1 => (tg_tp (tg_cn (tg_n rfl) (tg_cn (tg_n rfl) tg_nl)))) (fun q1 => (evt_of (ev_inA (ev_2 (op_ni sq_p2 eq_int (by decide)) (evp_val (e := eInt) (a := q1.1) rfl) (evp_of (ev_p2 (evf_of (ev_var (e := eInt) (a := k_) rfl)) (evf_of (ev_var (e := eInt) (a := l_) rfl)))))))) (fun q1 => (evf_of (ev_var (e := (eP2 eInt eInt)) (a := q1.2) rfl))) (fun _ => rfl)) (fun _ => rfl)) (fun (left_ : (List (Int × Int))) => ?_)
    refine k_seq (ρ' := fun (p2 : (Int × Int)) => [.val ((eP2 eInt (eTup (eP2 eInt eInt))) net_), .val (eInt s_), .val (eInt k_), .val (eInt l_), .own ((eLst (eP2 eInt eInt)) left_), .val (eInt p2.1), .val (eInt p2.2), .dead, .dead]) (k_asg (evf_twoT (evf_of (ev_call (evx_cons (evf_of (ev_var (e := (eP2 eInt (eTup (eP2 eInt eInt)))) (a := net_) rfl)) (evx_cons (evf_of (ev_var (e := eInt) (a := s_) rfl)) (evx_cons (evf_of (ev_var (e := eInt) (a := k_) rfl)) (evx_cons (evf_of (ev_var (e := eInt) (a := l_) rfl)) evx_nil)))) (fun _ => rfl) (fun (a : ((Int × (List (Int × Int))) × Int × Int × Int × Unit)) => fn_joined_pair a.1 a.2.1 a.2.2.1 a.2.2.2.1)))) (fun (p2 : (Int × Int)) => (tg_tp (tg_cn (tg_n rfl) (tg_cn (tg_n rfl) tg_nl))))) (fun (p2 : (Int × Int)) => ?_)
    refine k_weak (ρ1 := [.val ((eP2 eInt (eTup (eP2 eInt eInt))) net_), .val (eInt s_), .val (eInt k_), .val (eInt l_), .any ((eLst (eP2 eInt eInt)) left_), .val (eInt p2.1), .val (eInt p2.2), .dead, .dead]) (.cons .same (.cons .same (.cons .same (.cons .same (.cons .ow (.cons .same (.cons .same (.cons .same (.cons .same .nil))))))))) ?_
    exact k_ret (inj := fun r => r) (ev_p2 (evf_of (ev_ixA (ev_2_0 (evp_val (e := (eP2 eInt (eTup (eP2 eInt eInt)))) (a := net_) rfl)))) (evf_of (ev_1 (op_tuple sq_lst) (evp_of (ev_1 (op_sort sq_lst (or_p2 or_int or_int) (by decide) (.inl fun _ => rfl)) (evp_of (ev_if (evt_of (ev_2 (op_ne eq_int (by decide)) (evp_val (e := eInt) (a := p2.1) rfl) (evp_val (e := eInt) (a := p2.2) rfl))) (Ev.weak (ev_2 op_catL (evp_any (e := (eLst (eP2 eInt eInt))) (a := left_) rfl) (evp_of (ev_lst (eva_cons (evf_of (ev_p2 (evf_of (ev_var (e := eInt) (a := p2.1) rfl)) (evf_of (ev_var (e := eInt) (a := p2.2) rfl)))) (eva_nil (e := (eP2 eInt eInt)))))))) (Ev.weak (ev_varA (e := (eLst (eP2 eInt eInt))) (a := left_) rfl))))))))) rt_f)
def t_kept_splits (net_ : (Int × (List (Int × Int)))) (told_ : (List Int)) (s_ : Int) : Option (List (Int × Int)) :=
  (bnd (bnd (bnd (bnd (ret net_) fun (a : (Int × (List (Int × Int)))) => bnd (bnd (ret told_) fun (a : (List Int)) => bnd (ret ()) fun b => ret (a, b)) fun b => ret (a, b)) fun (a : ((Int × (List (Int × Int))) × (List Int) × Unit)) => out (t_all_least a.1 a.2.1)) fun a => bnd (bnd (bnd (ret net_) fun (a : (Int × (List (Int × Int)))) => bnd (bnd (ret s_) fun (a : Int) => bnd (ret ()) fun b => ret (a, b)) fun b => ret (a, b)) fun (a : ((Int × (List (Int × Int))) × Int × Unit)) => out (t_links_at a.1 a.2.1)) fun b => bnd (bnd (ret ([] : List (Int × Int))) fun xs => out (lenOk xs)) fun d => ret (a, b, d)) fun (p1 : ((List Int) × (List Int) × (List (Int × Int)))) => 
  (bnd (bnd (bnd (ret p1.2.1) fun (a : (List Int)) => ret a) fun xs => foldM (fun (b2 : (List (Int × Int))) (q3 : Int) => 
  (bnd (bnd (bnd (ret p1.2.1) fun (a : (List Int)) => ret a) fun xs => foldM (fun (b4 : (List (Int × Int))) (q5 : Int) => 
  (bnd (andB (bnd (ret q3) fun (a : Int) => bnd (ret q5) fun (b : Int) => out (ltI a b)) (bnd (bnd (bnd (bnd (bnd (ret net_) fun (a : (Int × (List (Int × Int)))) => bnd (bnd (ret s_) fun (a : Int) => bnd (bnd (ret q3) fun (a : Int) => bnd (bnd (ret q5) fun (a : Int) => bnd (ret ()) fun b => ret (a, b)) fun b => ret (a, b)) fun b => ret (a, b)) fun b => ret (a, b)) fun (a : ((Int × (List (Int × Int))) × Int × Int × Int × Unit)) => out (t_split_net a.1 a.2.1 a.2.2.1 a.2.2.2.1)) fun (a : (Int × (List (Int × Int)))) => bnd (bnd (ret told_) fun (a : (List Int)) => bnd (ret ()) fun b => ret (a, b)) fun b => ret (a, b)) fun (a : ((Int × (List (Int × Int))) × (List Int) × Unit)) => out (t_all_least a.1 a.2.1)) fun (a : (List Int)) => bnd (ret p1.1) fun (b : (List Int)) => out (eqV a b))) fun z => cnd z
  (bnd (bnd (bnd (ret q3) fun a => bnd (ret q5) fun b => ret (a, b)) fun b => out (appF b4 b)) fun (b6 : (Unit × (List (Int × Int)))) => 
  (ret b6.2))
  (ret b4))) xs b2) fun (b7 : (List (Int × Int))) => 
  (ret b7))) xs p1.2.2) fun (b8 : (List (Int × Int))) => 
  (bnd (bnd (ret b8) fun (a : (List (Int × Int))) => out (some a)) fun (a : (List (Int × Int))) => ret a)))
theorem fn_kept_splits (net_ : (Int × (List (Int × Int)))) (told_ : (List Int)) (s_ : Int) : FnP K73.g_kept_splits [.v ((eP2 eInt (eTup (eP2 eInt eInt))) net_), .v ((eTup eInt) told_), .v (eInt s_)] (t_kept_splits net_ told_ s_) (eTup (eP2 eInt eInt)) .val :=
  fn_p (n := 8) (m := K73.m_kept_splits) (ρ := [.val ((eP2 eInt (eTup (eP2 eInt eInt))) net_), .val ((eTup eInt) told_), .val (eInt s_), .dead, .dead, .dead, .dead, .dead]) rfl rfl (hs_v (hs_v (hs_v (hs_no (hs_no (hs_no (hs_no (hs_no hs_nil)))))))) (by
    refine k_seq (ρ' := fun (p1 : ((List Int) × (List Int) × (List (Int × Int)))) => [.val ((eP2 eInt (eTup (eP2 eInt eInt))) net_), .val ((eTup eInt) told_), .val (eInt s_), .own ((eLst eInt) p1.1), .val ((eTup eInt) p1.2.1), .own ((eLst (eP2 eInt eInt)) p1.2.2), .dead, .dead]) (k_par3 (ev_call (evx_cons (evf_of (ev_var (e := (eP2 eInt (eTup (eP2 eInt eInt)))) (a := net_) rfl)) (evx_cons (evf_of (ev_var (e := (eTup eInt)) (a := told_) rfl)) evx_nil)) (fun _ => rfl) (fun (a : ((Int × (List (Int × Int))) × (List Int) × Unit)) => fn_all_least a.1 a.2.1)) (ev_call (evx_cons (evf_of (ev_var (e := (eP2 eInt (eTup (eP2 eInt eInt)))) (a := net_) rfl)) (evx_cons (evf_of (ev_var (e := eInt) (a := s_) rfl)) evx_nil)) (fun _ => rfl) (fun (a : ((Int × (List (Int × Int))) × Int × Unit)) => fn_links_at a.1 a.2.1)) (ev_lst (eva_nil (e := (eP2 eInt eInt)))) (fun _ => rfl)) (fun (p1 : ((List Int) × (List Int) × (List (Int × Int)))) => ?_)
    refine k_seq (ρ' := fun (b8 : (List (Int × Int))) => [.val ((eP2 eInt (eTup (eP2 eInt eInt))) net_), .val ((eTup eInt) told_), .val (eInt s_), .own ((eLst eInt) p1.1), .val ((eTup eInt) p1.2.1), .own ((eLst (eP2 eInt eInt)) b8), .dead, .dead]) ?_ (fun (b8 : (List (Int × Int))) => ?_)
    · refine k_for (e1 := eInt) (ρL := fun (b2 : (List (Int × Int))) => [.val ((eP2 eInt (eTup (eP2 eInt eInt))) net_), .val ((eTup eInt) told_), .val (eInt s_), .own ((eLst eInt) p1.1), .val ((eTup eInt) p1.2.1), .own ((eLst (eP2 eInt eInt)) b2), .dead, .dead]) (ρa := fun (b2 : (List (Int × Int))) (q3 : Int) => [.val ((eP2 eInt (eTup (eP2 eInt eInt))) net_), .val ((eTup eInt) told_), .val (eInt s_), .own ((eLst eInt) p1.1), .val ((eTup eInt) p1.2.1), .own ((eLst (eP2 eInt eInt)) b2), .val (eInt q3), .dead]) (b0 := p1.2.2) (evi_seq sq_tup (evf_of (ev_var (e := (eTup eInt)) (a := p1.2.1) rfl))) (.cons .same (.cons .same (.cons .same (.cons .same (.cons .same (.cons .same (.cons .same (.cons .same .nil)))))))) (fun (b2 : (List (Int × Int))) (q3 : Int) => (tg_n rfl)) (fun (b2 : (List (Int × Int))) (q3 : Int) => ?_)
      refine k_last (ρ' := fun (b7 : (List (Int × Int))) => [.val ((eP2 eInt (eTup (eP2 eInt eInt))) net_), .val ((eTup eInt) told_), .val (eInt s_), .own ((eLst eInt) p1.1), .val ((eTup eInt) p1.2.1), .own ((eLst (eP2 eInt eInt)) b7), .val (eInt q3), .dead]) ?_ (fun (b7 : (List (Int × Int))) => ?_)
      · refine k_for (e1 := eInt) (ρL := fun (b4 : (List (Int × Int))) => [.val ((eP2 eInt (eTup (eP2 eInt eInt))) net_), .val ((eTup eInt) told_), .val (eInt s_), .own ((eLst eInt) p1.1), .val ((eTup eInt) p1.2.1), .own ((eLst (eP2 eInt eInt)) b4), .val (eInt q3), .dead]) (ρa := fun (b4 : (List (Int × Int))) (q5 : Int) => [.val ((eP2 eInt (eTup (eP2 eInt eInt))) net_), .val ((eTup eInt) told_), .val (eInt s_), .own ((eLst eInt) p1.1), .val ((eTup eInt) p1.2.1), .own ((eLst (eP2 eInt eInt)) b4), .val (eInt q3), .val (eInt q5)]) (b0 := b2) (evi_seq sq_tup (evf_of (ev_var (e := (eTup eInt)) (a := p1.2.1) rfl))) (.cons .same (.cons .same (.cons .same (.cons .same (.cons .same (.cons .same (.cons .same (.cons .same .nil)))))))) (fun (b4 : (List (Int × Int))) (q5 : Int) => (tg_n rfl)) (fun (b4 : (List (Int × Int))) (q5 : Int) => ?_)
        refine k_if (evt_and (evt_of (ev_2 op_ltI (evp_val (e := eInt) (a := q3) rfl) (evp_val (e := eInt) (a := q5) rfl))) (evt_of (ev_2 (op_eq (eq_lst eq_int) (by decide)) (evp_of (ev_call (evx_cons (evf_of (ev_call (evx_cons (evf_of (ev_var (e := (eP2 eInt (eTup (eP2 eInt eInt)))) (a := net_) rfl)) (evx_cons (evf_of (ev_var (e := eInt) (a := s_) rfl)) (evx_cons (evf_of (ev_var (e := eInt) (a := q3) rfl)) (evx_cons (evf_of (ev_var (e := eInt) (a := q5) rfl)) evx_nil)))) (fun _ => rfl) (fun (a : ((Int × (List (Int × Int))) × Int × Int × Int × Unit)) => fn_split_net a.1 a.2.1 a.2.2.1 a.2.2.2.1))) (evx_cons (evf_of (ev_var (e := (eTup eInt)) (a := told_) rfl)) evx_nil)) (fun _ => rfl) (fun (a : ((Int × (List (Int × Int))) × (List Int) × Unit)) => fn_all_least a.1 a.2.1))) (evp_own (e := (eLst eInt)) (a := p1.1) rfl)))) ?_ ?_
        · refine k_last (ρ' := fun (b6 : (Unit × (List (Int × Int)))) => [.val ((eP2 eInt (eTup (eP2 eInt eInt))) net_), .val ((eTup eInt) told_), .val (eInt s_), .own ((eLst eInt) p1.1), .val ((eTup eInt) p1.2.1), .own ((eLst (eP2 eInt eInt)) b6.2), .val (eInt q3), .val (eInt q5)]) (k_mut mu_app (xs := b4) rfl (eva_1 (evf_of (ev_p2 (evf_of (ev_var (e := eInt) (a := q3) rfl)) (evf_of (ev_var (e := eInt) (a := q5) rfl))))) (fun _ => rfl)) (fun (b6 : (Unit × (List (Int × Int)))) => ?_)
          exact k_nil (nx_l (.cons .same (.cons .same (.cons .same (.cons .same (.cons .same (.cons .same (.cons .same (.cons .dead .nil)))))))))
        exact k_nil (nx_l (.cons .same (.cons .same (.cons .same (.cons .same (.cons .same (.cons .same (.cons .same (.cons .dead .nil)))))))))
      exact k_nil (nx_l (.cons .same (.cons .same (.cons .same (.cons .same (.cons .same (.cons .same (.cons .dead (.cons .same .nil)))))))))
    exact k_ret (inj := fun r => r) (ev_1 (op_tuple sq_lst) (evp_own (e := (eLst (eP2 eInt eInt))) (a := b8) rfl)) rt_f)
def t_law_of_1 (some_ : (List (Int × Int))) : DM (Int × Int) :=
  (bnd (bnd (ret some_) fun (a : (List (Int × Int))) => bnd (bnd (bnd (bnd (ret some_) fun (a : (List (Int × Int))) => out ((some ((a).length : Int)))) fun (a : Int) => bnd (ret ()) fun b => ret (a, b)) fun (a : (Int × Unit)) => pickD a.1) fun (b : Int) => out (at_ a b)) fun (a : (Int × Int)) => ret a)
theorem fn_law_of_1 (some_ : (List (Int × Int))) : FnD K73.g_law_of [.src, .v ((eLst (eP2 eInt eInt)) some_)] (t_law_of_1 some_) (eP2 eInt eInt) .val :=
  fn_d (n := 2) (m := K73.m_law_of) (ρ := [.src, .val ((eLst (eP2 eInt eInt)) some_)]) rfl rfl (hs_src (hs_v hs_nil)) (by
    exact k_ret (inj := fun r => r) (ev_ixA (ev_2 (op_ix sq_lst) (evp_val (e := (eLst (eP2 eInt eInt))) (a := some_) rfl) (evp_of (ev_callD (evx_src rfl (evx_cons (evf_of (ev_1 (op_len sq_lst) (evp_val (e := (eLst (eP2 eInt eInt))) (a := some_) rfl))) evx_nil)) (fun _ => rfl) (fun (a : (Int × Unit)) => fn_pick a.1))))) rt_f)
def t_is_even_beside (net_ : (Int × (List (Int × Int)))) (told_ : (List Int)) : Option Bool :=
  (bnd (bnd (bnd (bnd (ret net_) fun (p : (Int × (List (Int × Int)))) => ret p.1) fun (a : Int) => out (rngO 0 a)) fun xs => lcM xs (fun (q1 : Int) => (bnd (ret q1) fun (a : Int) => bnd (ret told_) fun (b : (List Int)) => out (niV a b))) (fun (q1 : Int) => (ret q1))) fun (others_ : (List Int)) => 
  (bnd (bnd (bnd (bnd (ret others_) fun (a : (List Int)) => ret a) fun xs => lcM xs (fun (q2 : Int) => (ret true)) (fun (q2 : Int) => (bnd (bnd (bnd (bnd (bnd (bnd (ret net_) fun (p : (Int × (List (Int × Int)))) => ret p.2) fun (a : (List (Int × Int))) => ret a) fun xs => lcM xs (fun (q3 : (Int × Int)) => (bnd (ret q2) fun (a : Int) => bnd (ret q3) fun (b : (Int × Int)) => out (inV a [b.1, b.2]))) (fun (q3 : (Int × Int)) => (ret (1 : Int)))) fun (a : (List Int)) => out ((some ((a).length : Int)))) fun (a : Int) => bnd (ret (2 : Int)) fun (b : Int) => out (modI a b)) fun (a : Int) => bnd (ret (0 : Int)) fun (b : Int) => out (eqV a b)))) fun (a : (List Bool)) => out (some ((a).all id))) fun (a : Bool) => ret a))
theorem fn_is_even_beside (net_ : (Int × (List (Int × Int)))) (told_ : (List Int)) : FnP K73.g_is_even_beside [.v ((eP2 eInt (eTup (eP2 eInt eInt))) net_), .v ((eTup eInt) told_)] (t_is_even_beside net_ told_) eBool .val :=
  fn_p (n := 5) (m := K73.m_is_even_beside) (ρ := [.val ((eP2 eInt (eTup (eP2 eInt eInt))) net_), .val ((eTup eInt) told_), .dead, .dead, .dead]) rfl rfl (hs_v (hs_v (hs_no (hs_no (hs_no hs_nil))))) (by
    refine k_seq (ρ' := fun (others_ : (List Int)) => [.val ((eP2 eInt (eTup (eP2 eInt eInt))) net_), .val ((eTup eInt) told_), .own ((eLst eInt) others_), .dead, .dead]) (k_set (ev_lc (e1 := eInt) (ρa := fun (q1 : Int) => [.val ((eP2 eInt (eTup (eP2 eInt eInt))) net_), .val ((eTup eInt) told_), .dead, .val (eInt q1), .dead]) rfl (evi_rg1 (evf_of (ev_ixA (ev_2_0 (evp_val (e := (eP2 eInt (eTup (eP2 eInt eInt)))) (a := net_) rfl))))) (fun q1 => (tg_n rfl)) (fun q1 => (evt_of (ev_inA (ev_2 (op_ni sq_tup eq_int (by decide)) (evp_val (e := eInt) (a := q1) rfl) (evp_val (e := (eTup eInt)) (a := told_) rfl))))) (fun q1 => (evf_of (ev_var (e := eInt) (a := q1) rfl))) (fun _ => rfl)) (fun _ => rfl)) (fun (others_ : (List Int)) => ?_)
    refine k_weak (ρ1 := [.val ((eP2 eInt (eTup (eP2 eInt eInt))) net_), .val ((eTup eInt) told_), .any ((eLst eInt) others_), .dead, .dead]) (.cons .same (.cons .same (.cons .ow (.cons .same (.cons .same .nil))))) ?_
    exact k_ret (inj := fun r => r) (ev_1 (op_all sq_lst) (evp_of (ev_lc (e1 := eInt) (ρa := fun (q2 : Int) => [.val ((eP2 eInt (eTup (eP2 eInt eInt))) net_), .val ((eTup eInt) told_), .any ((eLst eInt) others_), .val (eInt q2), .dead]) rfl (evi_seq sq_lst (evf_of (ev_varA (e := (eLst eInt)) (a := others_) rfl))) (fun q2 => (tg_n rfl)) (fun q2 => evt_yes) (fun q2 => (evf_of (ev_2 (op_eq eq_int (by decide)) (evp_of (ev_2 op_modI (evp_of (ev_1 (op_len sq_lst) (evp_of (ev_lc (e1 := (eP2 eInt eInt)) (ρa := fun (q3 : (Int × Int)) => [.val ((eP2 eInt (eTup (eP2 eInt eInt))) net_), .val ((eTup eInt) told_), .any ((eLst eInt) others_), .val (eInt q2), .val ((eP2 eInt eInt) q3)]) rfl (evi_seq sq_tup (evf_of (ev_ixA (ev_2_1 (evp_val (e := (eP2 eInt (eTup (eP2 eInt eInt)))) (a := net_) rfl))))) (fun q3 => (tg_n rfl)) (fun q3 => (evt_of (ev_inA (ev_2 (op_in sq_p2 eq_int (by decide)) (evp_val (e := eInt) (a := q2) rfl) (evp_val (e := (eP2 eInt eInt)) (a := q3) rfl))))) (fun q3 => (evf_of (ev_c (e := eInt) (a := (1 : Int)) rfl))) (fun _ => rfl))))) (evp_of (ev_c (e := eInt) (a := (2 : Int)) rfl)))) (evp_of (ev_c (e := eInt) (a := (0 : Int)) rfl))))) (fun _ => rfl)))) rt_f)
def t_law : DM Bool :=
  (bnd (bnd (bnd (ret (3 : Int)) fun (a : Int) => out (rngO 0 a)) fun xs => foldO (fun (b1 : Unit) (q2 : Int) => 
  (bnd (bnd (bnd (bnd (bnd (bnd (ret (4 : Int)) fun (a : Int) => bnd (bnd (ret (5 : Int)) fun (a : Int) => bnd (bnd (ret (6 : Int)) fun (a : Int) => bnd (ret ([] : List Int)) fun as => ret (a :: as)) fun as => ret (a :: as)) fun as => ret (a :: as)) fun xs => out (lenOk xs)) fun (a : (List Int)) => bnd (ret q2) fun (b : Int) => out (at_ a b)) fun (a : Int) => bnd (bnd (bnd (bnd (bnd (ret (6 : Int)) fun (a : Int) => bnd (bnd (ret (7 : Int)) fun (a : Int) => bnd (bnd (ret (9 : Int)) fun (a : Int) => bnd (ret ([] : List Int)) fun as => ret (a :: as)) fun as => ret (a :: as)) fun as => ret (a :: as)) fun xs => out (lenOk xs)) fun (a : (List Int)) => bnd (ret q2) fun (b : Int) => out (at_ a b)) fun (a : Int) => bnd (bnd (ret true) fun (a : Bool) => bnd (ret ()) fun b => ret (a, b)) fun b => ret (a, b)) fun b => ret (a, b)) fun (a : (Int × Int × Bool × Unit)) => t_law_net a.1 a.2.1 a.2.2.1) fun (p3 : ((Int × (List (Int × Int))) × (List Int))) => 
  (bnd (bnd (bnd (bnd (ret p3.1) fun a => bnd (ret p3.2) fun b => ret (a, b)) fun (a : ((Int × (List (Int × Int))) × (List Int))) => out (reprO (eL2 (eP2 eInt (eTup (eP2 eInt eInt))) (eTup eInt)) a)) fun a => bnd (bnd (bnd (ret p3.1) fun (a : (Int × (List (Int × Int)))) => bnd (bnd (ret p3.2) fun (a : (List Int)) => bnd (ret ()) fun b => ret (a, b)) fun b => ret (a, b)) fun (a : ((Int × (List (Int × Int))) × (List Int) × Unit)) => out (t_law_leasts a.1 a.2.1)) fun b => ret (a, b)) fun (p4 : (Str × (List Int))) => 
  (bnd (bnd (bnd (bnd (bnd (bnd (ret p3.1) fun (p : (Int × (List (Int × Int)))) => ret p.1) fun (a : Int) => out (rngO 0 a)) fun xs => lcM xs (fun (q5 : Int) => (bnd (ret q5) fun (a : Int) => bnd (ret p3.2) fun (b : (List Int)) => out (niV a b))) (fun (q5 : Int) => (ret q5))) fun (a : (List Int)) => ret a) fun xs => foldO (fun (b6 : Unit) (q7 : Int) => 
  (bnd (bnd (bnd (bnd (ret p3.1) fun (p : (Int × (List (Int × Int)))) => ret p.2) fun (a : (List (Int × Int))) => ret (enumL a)) fun xs => lcM xs (fun (q8 : (Int × (Int × Int))) => (bnd (ret q7) fun (a : Int) => bnd (ret q8.2) fun (b : (Int × Int)) => out (inV a [b.1, b.2]))) (fun (q8 : (Int × (Int × Int))) => (ret q8.1))) fun (some_ : (List Int)) => 
  (bnd (bnd (ret ([] : List (Int × Int))) fun xs => out (lenOk xs)) fun (due_ : (List (Int × Int))) => 
  (bnd (bnd (bnd (ret some_) fun (a : (List Int)) => ret a) fun xs => foldM (fun (b9 : (List (Int × Int))) (q10 : Int) => 
  (bnd (bnd (ret b9) fun (a : (List (Int × Int))) => bnd (bnd (bnd (ret some_) fun (a : (List Int)) => ret a) fun xs => lcM xs (fun (q11 : Int) => (andB (bnd (ret q10) fun (a : Int) => bnd (ret q11) fun (b : Int) => out (ltI a b)) (bnd (bnd (bnd (bnd (bnd (ret p3.1) fun (a : (Int × (List (Int × Int)))) => bnd (bnd (ret q7) fun (a : Int) => bnd (bnd (ret q10) fun (a : Int) => bnd (bnd (ret q11) fun (a : Int) => bnd (ret ()) fun b => ret (a, b)) fun b => ret (a, b)) fun b => ret (a, b)) fun b => ret (a, b)) fun (a : ((Int × (List (Int × Int))) × Int × Int × Int × Unit)) => out (t_law_split a.1 a.2.1 a.2.2.1 a.2.2.2.1)) fun (a : (Int × (List (Int × Int)))) => bnd (bnd (ret p3.2) fun (a : (List Int)) => bnd (ret ()) fun b => ret (a, b)) fun b => ret (a, b)) fun (a : ((Int × (List (Int × Int))) × (List Int) × Unit)) => out (t_law_leasts a.1 a.2.1)) fun (a : (List Int)) => bnd (ret p4.2) fun (b : (List Int)) => out (eqV a b)))) (fun (q11 : Int) => (bnd (ret q10) fun a => bnd (ret q11) fun b => ret (a, b)))) fun (b : (List (Int × Int))) => out (cat a b)) fun (due_ : (List (Int × Int))) => 
  (ret due_))) xs due_) fun (b12 : (List (Int × Int))) => 
  (bnd (bnd (bnd (bnd (bnd (ret p3.1) fun (a : (Int × (List (Int × Int)))) => bnd (bnd (ret p3.2) fun (a : (List Int)) => bnd (bnd (ret q7) fun (a : Int) => bnd (ret ()) fun b => ret (a, b)) fun b => ret (a, b)) fun b => ret (a, b)) fun (a : ((Int × (List (Int × Int))) × (List Int) × Int × Unit)) => out (t_kept_splits a.1 a.2.1 a.2.2.1)) fun (a : (List (Int × Int))) => out (reprO (eTup (eP2 eInt eInt)) a)) fun (a : Str) => bnd (bnd (bnd (ret b12) fun (a : (List (Int × Int))) => out (some a)) fun (a : (List (Int × Int))) => out (reprO (eTup (eP2 eInt eInt)) a)) fun (b : Str) => out (neV a b)) fun z => cnd z
  (bnd (ret false) fun (a : Bool) => ret (Out.rt a))
  (bnd (bnd (bnd (bnd (ret some_) fun (a : (List Int)) => ret a) fun xs => lcM xs (fun (q14 : Int) => (bnd (bnd (bnd (ret b12) fun (a : (List (Int × Int))) => ret a) fun xs => lcM xs (fun (q15 : (Int × Int)) => (bnd (ret q14) fun (a : Int) => bnd (ret q15) fun (b : (Int × Int)) => out (inV a [b.1, b.2]))) (fun (q15 : (Int × Int)) => (ret q15))) fun (a : (List (Int × Int))) => bnd (bnd (ret ([] : List (Int × Int))) fun xs => out (lenOk xs)) fun (b : (List (Int × Int))) => out (eqV a b))) (fun (q14 : Int) => (ret q14))) fun (a : (List Int)) => bnd (bnd (ret ([] : List Int)) fun xs => out (lenOk xs)) fun (b : (List Int)) => out (neV a b)) fun z => cnd z
  (bnd (ret false) fun (a : Bool) => ret (Out.rt a))
  (bnd (bnd (ret b12) fun (a : (List (Int × Int))) => bnd (bnd (ret ([] : List (Int × Int))) fun xs => out (lenOk xs)) fun (b : (List (Int × Int))) => out (neV a b)) fun z => cnd z
  (bnd (bnd (bnd (ret b12) fun (a : (List (Int × Int))) => bnd (ret ()) fun b => ret (a, b)) fun (a : ((List (Int × Int)) × Unit)) => t_law_of_1 a.1) fun (p16 : (Int × Int)) => 
  (bnd (bnd (bnd (ret p3.1) fun (a : (Int × (List (Int × Int)))) => bnd (bnd (ret q7) fun (a : Int) => bnd (bnd (ret p16.1) fun (a : Int) => bnd (bnd (ret p16.2) fun (a : Int) => bnd (ret ()) fun b => ret (a, b)) fun b => ret (a, b)) fun b => ret (a, b)) fun b => ret (a, b)) fun (a : ((Int × (List (Int × Int))) × Int × Int × Int × Unit)) => out (t_split_net a.1 a.2.1 a.2.2.1 a.2.2.2.1)) fun (late_ : (Int × (List (Int × Int)))) => 
  (bnd (orB (bnd (bnd (ret late_) fun (a : (Int × (List (Int × Int)))) => out (reprO (eP2 eInt (eTup (eP2 eInt eInt))) a)) fun (a : Str) => bnd (bnd (bnd (bnd (ret p3.1) fun (a : (Int × (List (Int × Int)))) => bnd (bnd (ret q7) fun (a : Int) => bnd (bnd (ret p16.1) fun (a : Int) => bnd (bnd (ret p16.2) fun (a : Int) => bnd (ret ()) fun b => ret (a, b)) fun b => ret (a, b)) fun b => ret (a, b)) fun b => ret (a, b)) fun (a : ((Int × (List (Int × Int))) × Int × Int × Int × Unit)) => out (t_law_split a.1 a.2.1 a.2.2.1 a.2.2.2.1)) fun (a : (Int × (List (Int × Int)))) => out (reprO (eP2 eInt (eTup (eP2 eInt eInt))) a)) fun (b : Str) => out (neV a b)) (bnd (bnd (bnd (ret late_) fun (a : (Int × (List (Int × Int)))) => bnd (bnd (ret p3.2) fun (a : (List Int)) => bnd (ret ()) fun b => ret (a, b)) fun b => ret (a, b)) fun (a : ((Int × (List (Int × Int))) × (List Int) × Unit)) => out (t_is_even_beside a.1 a.2.1)) fun (a : Bool) => bnd (ret true) fun (b : Bool) => out (some (!decide (a = b))))) fun z => cnd z
  (bnd (ret false) fun (a : Bool) => ret (Out.rt a))
  (bnd (bnd (bnd (bnd (ret p3.2) fun (a : (List Int)) => ret a) fun xs => lcM xs (fun (q17 : Int) => (ret true)) (fun (q17 : Int) => (bnd (bnd (ret late_) fun (a : (Int × (List (Int × Int)))) => bnd (bnd (ret p3.2) fun (a : (List Int)) => bnd (bnd (ret q17) fun (a : Int) => bnd (ret ()) fun b => ret (a, b)) fun b => ret (a, b)) fun b => ret (a, b)) fun (a : ((Int × (List (Int × Int))) × (List Int) × Int × Unit)) => out (t_least_about a.1 a.2.1 a.2.2.1)))) fun (a : (List Int)) => bnd (ret p4.2) fun (b : (List Int)) => out (neV a b)) fun z => cnd z
  (bnd (ret false) fun (a : Bool) => ret (Out.rt a))
  (ret (Out.nx ()))))))
  (ret (Out.nx ()))))))))) xs ()) fun (o : Out Unit Bool) => outK o (fun (b18 : Unit) => 
  (bnd (bnd (bnd (bnd (ret p3.1) fun a => bnd (ret p3.2) fun b => ret (a, b)) fun (a : ((Int × (List (Int × Int))) × (List Int))) => out (reprO (eL2 (eP2 eInt (eTup (eP2 eInt eInt))) (eTup eInt)) a)) fun (a : Str) => bnd (ret p4.1) fun (b : Str) => out (neV a b)) fun z => cnd z
  (bnd (ret false) fun (a : Bool) => ret (Out.rt a))
  (ret (Out.nx ())))) fun (r : Bool) => ret (Out.rt r))))) xs ()) fun (o : Out Unit Bool) => outK o (fun (b19 : Unit) => 
  (bnd (bnd (ret (4 : Int)) fun a => bnd (bnd (bnd (bnd (ret (0 : Int)) fun a => bnd (ret (3 : Int)) fun b => ret (a, b)) fun (a : (Int × Int)) => bnd (bnd (bnd (ret (0 : Int)) fun a => bnd (ret (3 : Int)) fun b => ret (a, b)) fun (a : (Int × Int)) => bnd (bnd (bnd (ret (1 : Int)) fun a => bnd (ret (3 : Int)) fun b => ret (a, b)) fun (a : (Int × Int)) => bnd (bnd (bnd (ret (2 : Int)) fun a => bnd (ret (3 : Int)) fun b => ret (a, b)) fun (a : (Int × Int)) => bnd (ret ([] : List (Int × Int))) fun as => ret (a :: as)) fun as => ret (a :: as)) fun as => ret (a :: as)) fun as => ret (a :: as)) fun xs => out (lenOk xs)) fun b => ret (a, b)) fun (net_ : (Int × (List (Int × Int)))) => 
  (bnd (bnd (bnd (bnd (ret net_) fun (a : (Int × (List (Int × Int)))) => bnd (bnd (bnd (bnd (ret (0 : Int)) fun (a : Int) => bnd (bnd (ret (1 : Int)) fun (a : Int) => bnd (bnd (ret (2 : Int)) fun (a : Int) => bnd (ret ([] : List Int)) fun as => ret (a :: as)) fun as => ret (a :: as)) fun as => ret (a :: as)) fun xs => out (lenOk xs)) fun (a : (List Int)) => bnd (bnd (ret (3 : Int)) fun (a : Int) => bnd (ret ()) fun b => ret (a, b)) fun b => ret (a, b)) fun b => ret (a, b)) fun (a : ((Int × (List (Int × Int))) × (List Int) × Int × Unit)) => out (t_kept_splits a.1 a.2.1 a.2.2.1)) fun (a : (List (Int × Int))) => bnd (bnd (bnd (bnd (ret (0 : Int)) fun a => bnd (ret (2 : Int)) fun b => ret (a, b)) fun (a : (Int × Int)) => bnd (bnd (bnd (ret (0 : Int)) fun a => bnd (ret (3 : Int)) fun b => ret (a, b)) fun (a : (Int × Int)) => bnd (bnd (bnd (ret (1 : Int)) fun a => bnd (ret (2 : Int)) fun b => ret (a, b)) fun (a : (Int × Int)) => bnd (bnd (bnd (ret (1 : Int)) fun a => bnd (ret (3 : Int)) fun b => ret (a, b)) fun (a : (Int × Int)) => bnd (ret ([] : List (Int × Int))) fun as => ret (a :: as)) fun as => ret (a :: as)) fun as => ret (a :: as)) fun as => ret (a :: as)) fun xs => out (lenOk xs)) fun (b : (List (Int × Int))) => out (eqV a b)) fun (a : Bool) => ret a))) fun (r : Bool) => ret r)
open K73 in
def law_rest : S → RS := (sSeq (sFor (jRg (mCons (mF (mC (.int 3))) mNil)) (gN 2) (sSeq (sAsg (mF (mCall g_law_net (xSrc 1 (xCons (mF (m2 gIxA (mO (mLst (mCons (mF (mC (.int 4))) (mCons (mF (mC (.int 5))) (mCons (mF (mC (.int 6))) mNil))))) (mPk 2))) (xCons (mF (m2 gIxA (mO (mLst (mCons (mF (mC (.int 6))) (mCons (mF (mC (.int 7))) (mCons (mF (mC (.int 9))) mNil))))) (mPk 2))) (xCons (mF (mC (.bool true))) xNil)))))) (gTp (gCn (gN 3) (gCn (gN 4) gNl))))
  (sSeq (sPar2 5 6 (m1 gRepr (mO (mLst (mCons (mF (mVar 3)) (mCons (mF (mVar 4)) mNil))))) (mCall g_law_leasts (xCons (mF (mVar 3)) (xCons (mF (mVar 4)) xNil))))
  (sSeq (sFor (jSeq (mF (mLc (jRg (mCons (mF (m2 gIxA (mPk 3) (mO (mC (.int 0))))) mNil)) [7] (gN 7) (mB (m2 (gInA true) (mPk 7) (mPk 4))) (mF (mVar 7))))) (gN 7) (sSeq (sSet 8 (mLc (jEnum (mF (m2 gIxA (mPk 3) (mO (mC (.int 1)))))) [10, 13] (gTp (gCn (gN 10) (gCn (gN 13) gNl))) (mB (m2 (gInA false) (mPk 7) (mPk 13))) (mF (mVar 10))))
  (sSeq (sSet 9 (mLst mNil))
  (sSeq (sFor (jSeq (mF (mVar 8))) (gN 10) (sSet 9 (m2 gAdd (mPk 9) (mO (mLc (jSeq (mF (mVar 8))) [11] (gN 11) (mAnd (mB (m2 gLt (mPk 10) (mPk 11))) (mB (m2 gEq (mO (mCall g_law_leasts (xCons (mF (mCall g_law_split (xCons (mF (mVar 3)) (xCons (mF (mVar 7)) (xCons (mF (mVar 10)) (xCons (mF (mVar 11)) xNil)))))) (xCons (mF (mVar 4)) xNil)))) (mPk 6)))) (mF (mTup (mCons (mF (mVar 10)) (mCons (mF (mVar 11)) mNil)))))))))
  (sSeq (sIf (mB (m2 gNe (mO (m1 gRepr (mO (mCall g_kept_splits (xCons (mF (mVar 3)) (xCons (mF (mVar 4)) (xCons (mF (mVar 7)) xNil))))))) (mO (m1 gRepr (mO (m1 gTuple (mPk 9))))))) (sRet (mC (.bool false))) sNil)
  (sSeq (sIf (mB (m2 gNe (mO (mLc (jSeq (mF (mVar 8))) [10] (gN 10) (mB (m2 gEq (mO (mLc (jSeq (mF (mVar 9))) [13] (gN 13) (mB (m2 (gInA false) (mPk 10) (mPk 13))) (mF (mVar 13)))) (mO (mLst mNil)))) (mF (mVar 10)))) (mO (mLst mNil)))) (sRet (mC (.bool false))) sNil)
  (sIf (mB (m2 gNe (mPk 9) (mO (mLst mNil)))) (sSeq (sAsg (mF (mCall g_law_of (xSrc 1 (xCons (mF (mVar 9)) xNil)))) (gTp (gCn (gN 10) (gCn (gN 11) gNl))))
  (sSeq (sSet 12 (mCall g_split_net (xCons (mF (mVar 3)) (xCons (mF (mVar 7)) (xCons (mF (mVar 10)) (xCons (mF (mVar 11)) xNil))))))
  (sSeq (sIf (mOr (mB (m2 gNe (mO (m1 gRepr (mPk 12))) (mO (m1 gRepr (mO (mCall g_law_split (xCons (mF (mVar 3)) (xCons (mF (mVar 7)) (xCons (mF (mVar 10)) (xCons (mF (mVar 11)) xNil)))))))))) (mB (m2 (gIsB true) (mO (mCall g_is_even_beside (xCons (mF (mVar 12)) (xCons (mF (mVar 4)) xNil)))) (mO (mC (.bool true)))))) (sRet (mC (.bool false))) sNil)
  (sIf (mB (m2 gNe (mO (mLc (jSeq (mF (mVar 4))) [14] (gN 14) tYesM (mF (mCall g_least_about (xCons (mF (mVar 12)) (xCons (mF (mVar 4)) (xCons (mF (mVar 14)) xNil))))))) (mPk 6))) (sRet (mC (.bool false))) sNil)))) sNil)))))))
  (sIf (mB (m2 gNe (mO (m1 gRepr (mO (mLst (mCons (mF (mVar 3)) (mCons (mF (mVar 4)) mNil)))))) (mPk 5))) (sRet (mC (.bool false))) sNil)))))
  (sSeq (sSet 3 (mTup (mCons (mF (mC (.int 4))) (mCons (mF (mTup (mCons (mF (mTup (mCons (mF (mC (.int 0))) (mCons (mF (mC (.int 3))) mNil)))) (mCons (mF (mTup (mCons (mF (mC (.int 0))) (mCons (mF (mC (.int 3))) mNil)))) (mCons (mF (mTup (mCons (mF (mC (.int 1))) (mCons (mF (mC (.int 3))) mNil)))) (mCons (mF (mTup (mCons (mF (mC (.int 2))) (mCons (mF (mC (.int 3))) mNil)))) mNil)))))) mNil))))
  (sRet (m2 gEq (mO (mCall g_kept_splits (xCons (mF (mVar 3)) (xCons (mF (mTup (mCons (mF (mC (.int 0))) (mCons (mF (mC (.int 1))) (mCons (mF (mC (.int 2))) mNil))))) (xCons (mF (mC (.int 3))) xNil))))) (mO (mTup (mCons (mF (mTup (mCons (mF (mC (.int 0))) (mCons (mF (mC (.int 2))) mNil)))) (mCons (mF (mTup (mCons (mF (mC (.int 0))) (mCons (mF (mC (.int 3))) mNil)))) (mCons (mF (mTup (mCons (mF (mC (.int 1))) (mCons (mF (mC (.int 2))) mNil)))) (mCons (mF (mTup (mCons (mF (mC (.int 1))) (mCons (mF (mC (.int 3))) mNil)))) mNil))))))))))
theorem law_ev : EvK (M := DM) law_rest [.dead, .src, .dead, .dead, .dead, .dead, .dead, .dead, .dead, .dead, .dead, .dead, .dead, .dead, .dead] t_law (kF eBool .val) := by
  refine k_seqE (e3 := eBool) (w := .val) (ρL := fun (b1 : Unit) => [.dead, .src, .dead, .dead, .dead, .dead, .dead, .dead, .dead, .dead, .dead, .dead, .dead, .dead, .dead]) (inj := fun r => r) ?_ (fun (b19 : Unit) => ?_) rt_f
  · refine k_forO (e3 := eBool) (w := .val) (e1 := eInt) (ρL := fun (b1 : Unit) => [.dead, .src, .dead, .dead, .dead, .dead, .dead, .dead, .dead, .dead, .dead, .dead, .dead, .dead, .dead]) (ρa := fun (b1 : Unit) (q2 : Int) => [.dead, .src, .val (eInt q2), .dead, .dead, .dead, .dead, .dead, .dead, .dead, .dead, .dead, .dead, .dead, .dead]) (b0 := ()) (evi_rg1 (evf_of (ev_c (e := eInt) (a := (3 : Int)) rfl))) (.cons .same (.cons .same (.cons .same (.cons .same (.cons .same (.cons .same (.cons .same (.cons .same (.cons .same (.cons .same (.cons .same (.cons .same (.cons .same (.cons .same (.cons .same .nil))))))))))))))) (fun (b1 : Unit) (q2 : Int) => (tg_n rfl)) (fun (b1 : Unit) (q2 : Int) => ?_)
    refine k_seq (ρ' := fun (p3 : ((Int × (List (Int × Int))) × (List Int))) => [.dead, .src, .val (eInt q2), .val ((eP2 eInt (eTup (eP2 eInt eInt))) p3.1), .val ((eTup eInt) p3.2), .dead, .dead, .dead, .dead, .dead, .dead, .dead, .dead, .dead, .dead]) (k_asg (evf_of (ev_callD (evx_src rfl (evx_cons (evf_of (ev_ixA (ev_2 (op_ix sq_lst) (evp_of (ev_lst (eva_cons (evf_of (ev_c (e := eInt) (a := (4 : Int)) rfl)) (eva_cons (evf_of (ev_c (e := eInt) (a := (5 : Int)) rfl)) (eva_cons (evf_of (ev_c (e := eInt) (a := (6 : Int)) rfl)) (eva_nil (e := eInt))))))) (evp_val (e := eInt) (a := q2) rfl)))) (evx_cons (evf_of (ev_ixA (ev_2 (op_ix sq_lst) (evp_of (ev_lst (eva_cons (evf_of (ev_c (e := eInt) (a := (6 : Int)) rfl)) (eva_cons (evf_of (ev_c (e := eInt) (a := (7 : Int)) rfl)) (eva_cons (evf_of (ev_c (e := eInt) (a := (9 : Int)) rfl)) (eva_nil (e := eInt))))))) (evp_val (e := eInt) (a := q2) rfl)))) (evx_cons (evf_of (ev_c (e := eBool) (a := true) rfl)) evx_nil)))) (fun _ => rfl) (fun (a : (Int × Int × Bool × Unit)) => fn_law_net a.1 a.2.1 a.2.2.1))) (fun (p3 : ((Int × (List (Int × Int))) × (List Int))) => (tg_tp (tg_cn (tg_n rfl) (tg_cn (tg_n rfl) tg_nl))))) (fun (p3 : ((Int × (List (Int × Int))) × (List Int))) => ?_)
    refine k_seq (ρ' := fun (p4 : (Str × (List Int))) => [.dead, .src, .val (eInt q2), .val ((eP2 eInt (eTup (eP2 eInt eInt))) p3.1), .val ((eTup eInt) p3.2), .val (eStr p4.1), .own ((eLst eInt) p4.2), .dead, .dead, .dead, .dead, .dead, .dead, .dead, .dead]) (k_par2 (ev_1 op_repr (evp_of (ev_l2 (evf_of (ev_var (e := (eP2 eInt (eTup (eP2 eInt eInt)))) (a := p3.1) rfl)) (evf_of (ev_var (e := (eTup eInt)) (a := p3.2) rfl))))) (ev_call (evx_cons (evf_of (ev_var (e := (eP2 eInt (eTup (eP2 eInt eInt)))) (a := p3.1) rfl)) (evx_cons (evf_of (ev_var (e := (eTup eInt)) (a := p3.2) rfl)) evx_nil)) (fun _ => rfl) (fun (a : ((Int × (List (Int × Int))) × (List Int) × Unit)) => fn_law_leasts a.1 a.2.1)) (fun _ => rfl)) (fun (p4 : (Str × (List Int))) => ?_)
    refine k_seqE (e3 := eBool) (w := .val) (ρL := fun (b6 : Unit) => [.dead, .src, .val (eInt q2), .val ((eP2 eInt (eTup (eP2 eInt eInt))) p3.1), .val ((eTup eInt) p3.2), .val (eStr p4.1), .own ((eLst eInt) p4.2), .dead, .dead, .dead, .dead, .dead, .dead, .dead, .dead]) (inj := fun r => (Out.rt r)) ?_ (fun (b18 : Unit) => ?_) rt_o
    · refine k_forO (e3 := eBool) (w := .val) (e1 := eInt) (ρL := fun (b6 : Unit) => [.dead, .src, .val (eInt q2), .val ((eP2 eInt (eTup (eP2 eInt eInt))) p3.1), .val ((eTup eInt) p3.2), .val (eStr p4.1), .own ((eLst eInt) p4.2), .dead, .dead, .dead, .dead, .dead, .dead, .dead, .dead]) (ρa := fun (b6 : Unit) (q7 : Int) => [.dead, .src, .val (eInt q2), .val ((eP2 eInt (eTup (eP2 eInt eInt))) p3.1), .val ((eTup eInt) p3.2), .val (eStr p4.1), .own ((eLst eInt) p4.2), .val (eInt q7), .dead, .dead, .dead, .dead, .dead, .dead, .dead]) (b0 := ()) (evi_seq sq_lst (evf_of (ev_lc (e1 := eInt) (ρa := fun (q5 : Int) => [.dead, .src, .val (eInt q2), .val ((eP2 eInt (eTup (eP2 eInt eInt))) p3.1), .val ((eTup eInt) p3.2), .val (eStr p4.1), .own ((eLst eInt) p4.2), .val (eInt q5), .dead, .dead, .dead, .dead, .dead, .dead, .dead]) rfl (evi_rg1 (evf_of (ev_ixA (ev_2_0 (evp_val (e := (eP2 eInt (eTup (eP2 eInt eInt)))) (a := p3.1) rfl))))) (fun q5 => (tg_n rfl)) (fun q5 => (evt_of (ev_inA (ev_2 (op_ni sq_tup eq_int (by decide)) (evp_val (e := eInt) (a := q5) rfl) (evp_val (e := (eTup eInt)) (a := p3.2) rfl))))) (fun q5 => (evf_of (ev_var (e := eInt) (a := q5) rfl))) (fun _ => rfl)))) (.cons .same (.cons .same (.cons .same (.cons .same (.cons .same (.cons .same (.cons .same (.cons .same (.cons .same (.cons .same (.cons .same (.cons .same (.cons .same (.cons .same (.cons .same .nil))))))))))))))) (fun (b6 : Unit) (q7 : Int) => (tg_n rfl)) (fun (b6 : Unit) (q7 : Int) => ?_)
      refine k_seq (ρ' := fun (some_ : (List Int)) => [.dead, .src, .val (eInt q2), .val ((eP2 eInt (eTup (eP2 eInt eInt))) p3.1), .val ((eTup eInt) p3.2), .val (eStr p4.1), .own ((eLst eInt) p4.2), .val (eInt q7), .own ((eLst eInt) some_), .dead, .dead, .dead, .dead, .dead, .dead]) (k_set (ev_lc (e1 := (eP2 eInt (eP2 eInt eInt))) (ρa := fun (q8 : (Int × (Int × Int))) => [.dead, .src, .val (eInt q2), .val ((eP2 eInt (eTup (eP2 eInt eInt))) p3.1), .val ((eTup eInt) p3.2), .val (eStr p4.1), .own ((eLst eInt) p4.2), .val (eInt q7), .dead, .dead, .val (eInt q8.1), .dead, .dead, .val ((eP2 eInt eInt) q8.2), .dead]) rfl (evi_enum sq_tup (evf_of (ev_ixA (ev_2_1 (evp_val (e := (eP2 eInt (eTup (eP2 eInt eInt)))) (a := p3.1) rfl))))) (fun q8 => (tg_tp (tg_cn (tg_n rfl) (tg_cn (tg_n rfl) tg_nl)))) (fun q8 => (evt_of (ev_inA (ev_2 (op_in sq_p2 eq_int (by decide)) (evp_val (e := eInt) (a := q7) rfl) (evp_val (e := (eP2 eInt eInt)) (a := q8.2) rfl))))) (fun q8 => (evf_of (ev_var (e := eInt) (a := q8.1) rfl))) (fun _ => rfl)) (fun _ => rfl)) (fun (some_ : (List Int)) => ?_)
      refine k_seq (ρ' := fun (due_ : (List (Int × Int))) => [.dead, .src, .val (eInt q2), .val ((eP2 eInt (eTup (eP2 eInt eInt))) p3.1), .val ((eTup eInt) p3.2), .val (eStr p4.1), .own ((eLst eInt) p4.2), .val (eInt q7), .own ((eLst eInt) some_), .own ((eLst (eP2 eInt eInt)) due_), .dead, .dead, .dead, .dead, .dead]) (k_set (ev_lst (eva_nil (e := (eP2 eInt eInt)))) (fun _ => rfl)) (fun (due_ : (List (Int × Int))) => ?_)
      refine k_weak (ρ1 := [.dead, .src, .val (eInt q2), .val ((eP2 eInt (eTup (eP2 eInt eInt))) p3.1), .val ((eTup eInt) p3.2), .val (eStr p4.1), .own ((eLst eInt) p4.2), .val (eInt q7), .any ((eLst eInt) some_), .own ((eLst (eP2 eInt eInt)) due_), .dead, .dead, .dead, .dead, .dead]) (.cons .same (.cons .same (.cons .same (.cons .same (.cons .same (.cons .same (.cons .same (.cons .same (.cons .ow (.cons .same (.cons .same (.cons .same (.cons .same (.cons .same (.cons .same .nil))))))))))))))) ?_
      refine k_seq (ρ' := fun (b12 : (List (Int × Int))) => [.dead, .src, .val (eInt q2), .val ((eP2 eInt (eTup (eP2 eInt eInt))) p3.1), .val ((eTup eInt) p3.2), .val (eStr p4.1), .own ((eLst eInt) p4.2), .val (eInt q7), .any ((eLst eInt) some_), .own ((eLst (eP2 eInt eInt)) b12), .dead, .dead, .dead, .dead, .dead]) ?_ (fun (b12 : (List (Int × Int))) => ?_)
      · refine k_for (e1 := eInt) (ρL := fun (b9 : (List (Int × Int))) => [.dead, .src, .val (eInt q2), .val ((eP2 eInt (eTup (eP2 eInt eInt))) p3.1), .val ((eTup eInt) p3.2), .val (eStr p4.1), .own ((eLst eInt) p4.2), .val (eInt q7), .any ((eLst eInt) some_), .own ((eLst (eP2 eInt eInt)) b9), .dead, .dead, .dead, .dead, .dead]) (ρa := fun (b9 : (List (Int × Int))) (q10 : Int) => [.dead, .src, .val (eInt q2), .val ((eP2 eInt (eTup (eP2 eInt eInt))) p3.1), .val ((eTup eInt) p3.2), .val (eStr p4.1), .own ((eLst eInt) p4.2), .val (eInt q7), .any ((eLst eInt) some_), .own ((eLst (eP2 eInt eInt)) b9), .val (eInt q10), .dead, .dead, .dead, .dead]) (b0 := due_) (evi_seq sq_lst (evf_of (ev_varA (e := (eLst eInt)) (a := some_) rfl))) (.cons .same (.cons .same (.cons .same (.cons .same (.cons .same (.cons .same (.cons .same (.cons .same (.cons .same (.cons .same (.cons .same (.cons .same (.cons .same (.cons .same (.cons .same .nil))))))))))))))) (fun (b9 : (List (Int × Int))) (q10 : Int) => (tg_n rfl)) (fun (b9 : (List (Int × Int))) (q10 : Int) => ?_)
        refine k_last (ρ' := fun (due_ : (List (Int × Int))) => [.dead, .src, .val (eInt q2), .val ((eP2 eInt (eTup (eP2 eInt eInt))) p3.1), .val ((eTup eInt) p3.2), .val (eStr p4.1), .own ((eLst eInt) p4.2), .val (eInt q7), .any ((eLst eInt) some_), .own ((eLst (eP2 eInt eInt)) due_), .val (eInt q10), .dead, .dead, .dead, .dead]) (k_set (ev_2 op_catL (evp_own (e := (eLst (eP2 eInt eInt))) (a := b9) rfl) (evp_of (ev_lc (e1 := eInt) (ρa := fun (q11 : Int) => [.dead, .src, .val (eInt q2), .val ((eP2 eInt (eTup (eP2 eInt eInt))) p3.1), .val ((eTup eInt) p3.2), .val (eStr p4.1), .own ((eLst eInt) p4.2), .val (eInt q7), .any ((eLst eInt) some_), .own ((eLst (eP2 eInt eInt)) b9), .val (eInt q10), .val (eInt q11), .dead, .dead, .dead]) rfl (evi_seq sq_lst (evf_of (ev_varA (e := (eLst eInt)) (a := some_) rfl))) (fun q11 => (tg_n rfl)) (fun q11 => (evt_and (evt_of (ev_2 op_ltI (evp_val (e := eInt) (a := q10) rfl) (evp_val (e := eInt) (a := q11) rfl))) (evt_of (ev_2 (op_eq (eq_lst eq_int) (by decide)) (evp_of (ev_call (evx_cons (evf_of (ev_call (evx_cons (evf_of (ev_var (e := (eP2 eInt (eTup (eP2 eInt eInt)))) (a := p3.1) rfl)) (evx_cons (evf_of (ev_var (e := eInt) (a := q7) rfl)) (evx_cons (evf_of (ev_var (e := eInt) (a := q10) rfl)) (evx_cons (evf_of (ev_var (e := eInt) (a := q11) rfl)) evx_nil)))) (fun _ => rfl) (fun (a : ((Int × (List (Int × Int))) × Int × Int × Int × Unit)) => fn_law_split a.1 a.2.1 a.2.2.1 a.2.2.2.1))) (evx_cons (evf_of (ev_var (e := (eTup eInt)) (a := p3.2) rfl)) evx_nil)) (fun _ => rfl) (fun (a : ((Int × (List (Int × Int))) × (List Int) × Unit)) => fn_law_leasts a.1 a.2.1))) (evp_own (e := (eLst eInt)) (a := p4.2) rfl))))) (fun q11 => (evf_of (ev_p2 (evf_of (ev_var (e := eInt) (a := q10) rfl)) (evf_of (ev_var (e := eInt) (a := q11) rfl))))) (fun _ => rfl)))) (fun _ => rfl)) (fun (due_ : (List (Int × Int))) => ?_)
        exact k_nil (nx_l (.cons .same (.cons .same (.cons .same (.cons .same (.cons .same (.cons .same (.cons .same (.cons .same (.cons .same (.cons .same (.cons .dead (.cons .same (.cons .same (.cons .same (.cons .same .nil))))))))))))))))
      refine k_ifx (evt_of (ev_2 (op_ne eq_str (by decide)) (evp_of (ev_1 op_repr (evp_of (ev_call (evx_cons (evf_of (ev_var (e := (eP2 eInt (eTup (eP2 eInt eInt)))) (a := p3.1) rfl)) (evx_cons (evf_of (ev_var (e := (eTup eInt)) (a := p3.2) rfl)) (evx_cons (evf_of (ev_var (e := eInt) (a := q7) rfl)) evx_nil))) (fun _ => rfl) (fun (a : ((Int × (List (Int × Int))) × (List Int) × Int × Unit)) => fn_kept_splits a.1 a.2.1 a.2.2.1))))) (evp_of (ev_1 op_repr (evp_of (ev_1 (op_tuple sq_lst) (evp_own (e := (eLst (eP2 eInt eInt))) (a := b12) rfl))))))) ?_ ?_
      · exact k_ret (inj := fun r => (Out.rt r)) (ev_c (e := eBool) (a := false) rfl) (rt_ex rt_o)
      refine k_nilseq ?_
      refine k_weak (ρ1 := [.dead, .src, .val (eInt q2), .val ((eP2 eInt (eTup (eP2 eInt eInt))) p3.1), .val ((eTup eInt) p3.2), .val (eStr p4.1), .own ((eLst eInt) p4.2), .val (eInt q7), .any ((eLst eInt) some_), .any ((eLst (eP2 eInt eInt)) b12), .dead, .dead, .dead, .dead, .dead]) (.cons .same (.cons .same (.cons .same (.cons .same (.cons .same (.cons .same (.cons .same (.cons .same (.cons .same (.cons .ow (.cons .same (.cons .same (.cons .same (.cons .same (.cons .same .nil))))))))))))))) ?_
      refine k_ifx (evt_of (ev_2 (op_ne (eq_lst eq_int) (by decide)) (evp_of (ev_lc (e1 := eInt) (ρa := fun (q14 : Int) => [.dead, .src, .val (eInt q2), .val ((eP2 eInt (eTup (eP2 eInt eInt))) p3.1), .val ((eTup eInt) p3.2), .val (eStr p4.1), .own ((eLst eInt) p4.2), .val (eInt q7), .any ((eLst eInt) some_), .any ((eLst (eP2 eInt eInt)) b12), .val (eInt q14), .dead, .dead, .dead, .dead]) rfl (evi_seq sq_lst (evf_of (ev_varA (e := (eLst eInt)) (a := some_) rfl))) (fun q14 => (tg_n rfl)) (fun q14 => (evt_of (ev_2 (op_eq (eq_lst (eq_p2 eq_int eq_int)) (by decide)) (evp_of (ev_lc (e1 := (eP2 eInt eInt)) (ρa := fun (q15 : (Int × Int)) => [.dead, .src, .val (eInt q2), .val ((eP2 eInt (eTup (eP2 eInt eInt))) p3.1), .val ((eTup eInt) p3.2), .val (eStr p4.1), .own ((eLst eInt) p4.2), .val (eInt q7), .any ((eLst eInt) some_), .any ((eLst (eP2 eInt eInt)) b12), .val (eInt q14), .dead, .dead, .val ((eP2 eInt eInt) q15), .dead]) rfl (evi_seq sq_lst (evf_of (ev_varA (e := (eLst (eP2 eInt eInt))) (a := b12) rfl))) (fun q15 => (tg_n rfl)) (fun q15 => (evt_of (ev_inA (ev_2 (op_in sq_p2 eq_int (by decide)) (evp_val (e := eInt) (a := q14) rfl) (evp_val (e := (eP2 eInt eInt)) (a := q15) rfl))))) (fun q15 => (evf_of (ev_var (e := (eP2 eInt eInt)) (a := q15) rfl))) (fun _ => rfl))) (evp_of (ev_lst (eva_nil (e := (eP2 eInt eInt)))))))) (fun q14 => (evf_of (ev_var (e := eInt) (a := q14) rfl))) (fun _ => rfl))) (evp_of (ev_lst (eva_nil (e := eInt)))))) ?_ ?_
      · exact k_ret (inj := fun r => (Out.rt r)) (ev_c (e := eBool) (a := false) rfl) (rt_ex rt_o)
      refine k_nilseq ?_
      refine k_if (evt_of (ev_2 (op_ne (eq_lst (eq_p2 eq_int eq_int)) (by decide)) (evp_any (e := (eLst (eP2 eInt eInt))) (a := b12) rfl) (evp_of (ev_lst (eva_nil (e := (eP2 eInt eInt))))))) ?_ ?_
      · refine k_seq (ρ' := fun (p16 : (Int × Int)) => [.dead, .src, .val (eInt q2), .val ((eP2 eInt (eTup (eP2 eInt eInt))) p3.1), .val ((eTup eInt) p3.2), .val (eStr p4.1), .own ((eLst eInt) p4.2), .val (eInt q7), .any ((eLst eInt) some_), .any ((eLst (eP2 eInt eInt)) b12), .val (eInt p16.1), .val (eInt p16.2), .dead, .dead, .dead]) (k_asg (evf_of (ev_callD (evx_src rfl (evx_cons (evf_of (ev_varA (e := (eLst (eP2 eInt eInt))) (a := b12) rfl)) evx_nil)) (fun _ => rfl) (fun (a : ((List (Int × Int)) × Unit)) => fn_law_of_1 a.1))) (fun (p16 : (Int × Int)) => (tg_tp (tg_cn (tg_n rfl) (tg_cn (tg_n rfl) tg_nl))))) (fun (p16 : (Int × Int)) => ?_)
        refine k_seq (ρ' := fun (late_ : (Int × (List (Int × Int)))) => [.dead, .src, .val (eInt q2), .val ((eP2 eInt (eTup (eP2 eInt eInt))) p3.1), .val ((eTup eInt) p3.2), .val (eStr p4.1), .own ((eLst eInt) p4.2), .val (eInt q7), .any ((eLst eInt) some_), .any ((eLst (eP2 eInt eInt)) b12), .val (eInt p16.1), .val (eInt p16.2), .val ((eP2 eInt (eTup (eP2 eInt eInt))) late_), .dead, .dead]) (k_set (ev_call (evx_cons (evf_of (ev_var (e := (eP2 eInt (eTup (eP2 eInt eInt)))) (a := p3.1) rfl)) (evx_cons (evf_of (ev_var (e := eInt) (a := q7) rfl)) (evx_cons (evf_of (ev_var (e := eInt) (a := p16.1) rfl)) (evx_cons (evf_of (ev_var (e := eInt) (a := p16.2) rfl)) evx_nil)))) (fun _ => rfl) (fun (a : ((Int × (List (Int × Int))) × Int × Int × Int × Unit)) => fn_split_net a.1 a.2.1 a.2.2.1 a.2.2.2.1)) (fun _ => rfl)) (fun (late_ : (Int × (List (Int × Int)))) => ?_)
        refine k_ifx (evt_or (evt_of (ev_2 (op_ne eq_str (by decide)) (evp_of (ev_1 op_repr (evp_val (e := (eP2 eInt (eTup (eP2 eInt eInt)))) (a := late_) rfl))) (evp_of (ev_1 op_repr (evp_of (ev_call (evx_cons (evf_of (ev_var (e := (eP2 eInt (eTup (eP2 eInt eInt)))) (a := p3.1) rfl)) (evx_cons (evf_of (ev_var (e := eInt) (a := q7) rfl)) (evx_cons (evf_of (ev_var (e := eInt) (a := p16.1) rfl)) (evx_cons (evf_of (ev_var (e := eInt) (a := p16.2) rfl)) evx_nil)))) (fun _ => rfl) (fun (a : ((Int × (List (Int × Int))) × Int × Int × Int × Unit)) => fn_law_split a.1 a.2.1 a.2.2.1 a.2.2.2.1))))))) (evt_of (ev_2 op_niB (evp_of (ev_call (evx_cons (evf_of (ev_var (e := (eP2 eInt (eTup (eP2 eInt eInt)))) (a := late_) rfl)) (evx_cons (evf_of (ev_var (e := (eTup eInt)) (a := p3.2) rfl)) evx_nil)) (fun _ => rfl) (fun (a : ((Int × (List (Int × Int))) × (List Int) × Unit)) => fn_is_even_beside a.1 a.2.1))) (evp_of (ev_c (e := eBool) (a := true) rfl))))) ?_ ?_
        · exact k_ret (inj := fun r => (Out.rt r)) (ev_c (e := eBool) (a := false) rfl) (rt_ex rt_o)
        refine k_nilseq ?_
        refine k_if (evt_of (ev_2 (op_ne (eq_lst eq_int) (by decide)) (evp_of (ev_lc (e1 := eInt) (ρa := fun (q17 : Int) => [.dead, .src, .val (eInt q2), .val ((eP2 eInt (eTup (eP2 eInt eInt))) p3.1), .val ((eTup eInt) p3.2), .val (eStr p4.1), .own ((eLst eInt) p4.2), .val (eInt q7), .any ((eLst eInt) some_), .any ((eLst (eP2 eInt eInt)) b12), .val (eInt p16.1), .val (eInt p16.2), .val ((eP2 eInt (eTup (eP2 eInt eInt))) late_), .dead, .val (eInt q17)]) rfl (evi_seq sq_tup (evf_of (ev_var (e := (eTup eInt)) (a := p3.2) rfl))) (fun q17 => (tg_n rfl)) (fun q17 => evt_yes) (fun q17 => (evf_of (ev_call (evx_cons (evf_of (ev_var (e := (eP2 eInt (eTup (eP2 eInt eInt)))) (a := late_) rfl)) (evx_cons (evf_of (ev_var (e := (eTup eInt)) (a := p3.2) rfl)) (evx_cons (evf_of (ev_var (e := eInt) (a := q17) rfl)) evx_nil))) (fun _ => rfl) (fun (a : ((Int × (List (Int × Int))) × (List Int) × Int × Unit)) => fn_least_about a.1 a.2.1 a.2.2.1)))) (fun _ => rfl))) (evp_own (e := (eLst eInt)) (a := p4.2) rfl))) ?_ ?_
        · exact k_ret (inj := fun r => (Out.rt r)) (ev_c (e := eBool) (a := false) rfl) rt_o
        exact k_nil (nx_o (.cons .same (.cons .same (.cons .same (.cons .same (.cons .same (.cons .same (.cons .same (.cons .dead (.cons .dead (.cons .dead (.cons .dead (.cons .dead (.cons .dead (.cons .same (.cons .same .nil))))))))))))))))
      exact k_nil (nx_o (.cons .same (.cons .same (.cons .same (.cons .same (.cons .same (.cons .same (.cons .same (.cons .dead (.cons .dead (.cons .dead (.cons .same (.cons .same (.cons .same (.cons .same (.cons .same .nil))))))))))))))))
    refine k_if (evt_of (ev_2 (op_ne eq_str (by decide)) (evp_of (ev_1 op_repr (evp_of (ev_l2 (evf_of (ev_var (e := (eP2 eInt (eTup (eP2 eInt eInt)))) (a := p3.1) rfl)) (evf_of (ev_var (e := (eTup eInt)) (a := p3.2) rfl)))))) (evp_val (e := eStr) (a := p4.1) rfl))) ?_ ?_
    · exact k_ret (inj := fun r => (Out.rt r)) (ev_c (e := eBool) (a := false) rfl) rt_o
    exact k_nil (nx_o (.cons .same (.cons .same (.cons .dead (.cons .dead (.cons .dead (.cons .dead (.cons .dead (.cons .same (.cons .same (.cons .same (.cons .same (.cons .same (.cons .same (.cons .same (.cons .same .nil))))))))))))))))
  refine k_seq (ρ' := fun (net_ : (Int × (List (Int × Int)))) => [.dead, .src, .dead, .val ((eP2 eInt (eTup (eP2 eInt eInt))) net_), .dead, .dead, .dead, .dead, .dead, .dead, .dead, .dead, .dead, .dead, .dead]) (k_set (ev_p2 (evf_of (ev_c (e := eInt) (a := (4 : Int)) rfl)) (evf_of (ev_tup (eva_cons (evf_of (ev_p2 (evf_of (ev_c (e := eInt) (a := (0 : Int)) rfl)) (evf_of (ev_c (e := eInt) (a := (3 : Int)) rfl)))) (eva_cons (evf_of (ev_p2 (evf_of (ev_c (e := eInt) (a := (0 : Int)) rfl)) (evf_of (ev_c (e := eInt) (a := (3 : Int)) rfl)))) (eva_cons (evf_of (ev_p2 (evf_of (ev_c (e := eInt) (a := (1 : Int)) rfl)) (evf_of (ev_c (e := eInt) (a := (3 : Int)) rfl)))) (eva_cons (evf_of (ev_p2 (evf_of (ev_c (e := eInt) (a := (2 : Int)) rfl)) (evf_of (ev_c (e := eInt) (a := (3 : Int)) rfl)))) (eva_nil (e := (eP2 eInt eInt)))))))))) (fun _ => rfl)) (fun (net_ : (Int × (List (Int × Int)))) => ?_)
  exact k_ret (inj := fun r => r) (ev_2 (op_eq (eq_tup (eq_p2 eq_int eq_int)) (by decide)) (evp_of (ev_call (evx_cons (evf_of (ev_var (e := (eP2 eInt (eTup (eP2 eInt eInt)))) (a := net_) rfl)) (evx_cons (evf_of (ev_tup (eva_cons (evf_of (ev_c (e := eInt) (a := (0 : Int)) rfl)) (eva_cons (evf_of (ev_c (e := eInt) (a := (1 : Int)) rfl)) (eva_cons (evf_of (ev_c (e := eInt) (a := (2 : Int)) rfl)) (eva_nil (e := eInt))))))) (evx_cons (evf_of (ev_c (e := eInt) (a := (3 : Int)) rfl)) evx_nil))) (fun _ => rfl) (fun (a : ((Int × (List (Int × Int))) × (List Int) × Int × Unit)) => fn_kept_splits a.1 a.2.1 a.2.2.1))) (evp_of (ev_tup (eva_cons (evf_of (ev_p2 (evf_of (ev_c (e := eInt) (a := (0 : Int)) rfl)) (evf_of (ev_c (e := eInt) (a := (2 : Int)) rfl)))) (eva_cons (evf_of (ev_p2 (evf_of (ev_c (e := eInt) (a := (0 : Int)) rfl)) (evf_of (ev_c (e := eInt) (a := (3 : Int)) rfl)))) (eva_cons (evf_of (ev_p2 (evf_of (ev_c (e := eInt) (a := (1 : Int)) rfl)) (evf_of (ev_c (e := eInt) (a := (2 : Int)) rfl)))) (eva_cons (evf_of (ev_p2 (evf_of (ev_c (e := eInt) (a := (1 : Int)) rfl)) (evf_of (ev_c (e := eInt) (a := (3 : Int)) rfl)))) (eva_nil (e := (eP2 eInt eInt)))))))))) rt_f
theorem law_good (good : Tri t_law fun r => r = true) : ∀ ns : List Int, ns.length ≤ 63 → ∃ s, K73.g_law [.scr ns] none = some (.v (.bool true), s) := fun ns hn =>
  law_ends (g := K73.g_law) (go := K73.g_law_open_cells) (n := 15) (rest := law_rest) (i := 1) rfl rfl (ρ := [.dead, .src, .dead, .dead, .dead, .dead, .dead, .dead, .dead, .dead, .dead, .dead, .dead, .dead, .dead]) (fun ns sl e => by
    subst e
    exact (hs_cons True.intro (hs_src (hs_cons True.intro (hs_cons True.intro (hs_cons True.intro (hs_cons True.intro (hs_cons True.intro (hs_cons True.intro (hs_cons True.intro (hs_cons True.intro (hs_cons True.intro (hs_cons True.intro (hs_cons True.intro (hs_cons True.intro (hs_cons True.intro hs_nil)))))))))))))))) (fun _ => rfl) law_ev good ns hn
end T73
end
set_option linter.all false
set_option maxRecDepth 100000
set_option maxHeartbeats 4000000
noncomputable section
namespace T73
open PySem PySem.Spec PyProof.Rows L2 Pd Td PM K70
theorem cut_eq (n : Int) (E : List (Int × Int)) (l : List Int) (hE : E.length ≤ 1000) : t_links_in_cut (n, E) l = some (cutZ E l) := by
  unfold t_links_in_cut
  simp only [o_ret, o_bnd, o_out, o_and, o_or, o_bndS, o_bndB, Td.addI, Td.subI, Td.ltI, Td.gtI, Td.leI', Td.geI, Td.negI, Td.absI, Td.intB, Td.min2, Td.max2, Td.eqV, Td.neV, Td.inV, Td.niV]
  rw [lcM_pp (by omega)]
  simp only [o_ret, o_bnd, o_out, o_and, o_or, o_bndS, o_bndB, Td.addI, Td.subI, Td.ltI, Td.gtI, Td.leI', Td.geI, Td.negI, Td.absI, Td.intB, Td.min2, Td.max2, Td.eqV, Td.neV, Td.inV, Td.niV, List.length_map]
  unfold cutZ cutC
  rw [List.countP_eq_length_filter]
  congr 4
theorem law_cut_eq (n : Int) (E : List (Int × Int)) (l : List Int) (hE : E.length ≤ 1000) : t_law_cut (n, E) l = some (cutZ E l) := cut_eq n E l hE
theorem lots_len (n : Int) : (lotsG n).length = 2 ^ n.toNat := by
  unfold lotsG
  rw [foldl_step_len, rngL_len, List.length_singleton, Nat.one_mul]
theorem lots_few (n : Int) (h2 : n ≤ 8) : (lotsG n).length ≤ 256 := by
  rw [lots_len]
  exact Nat.pow_le_pow_right (n := 2) (i := n.toNat) (j := 8) (by omega) (by omega)
theorem lots_eq (n : Int) (h1 : 0 ≤ n) (h2 : n ≤ 8) : t_law_all_lots n = some (lotsG n) := by
  unfold t_law_all_lots
  simp only [o_ret, o_bnd, o_out, o_and, o_or, o_bndS, o_bndB, Td.addI, Td.subI, Td.ltI, Td.gtI, Td.leI', Td.geI, Td.negI, Td.absI, Td.intB, Td.min2, Td.max2, Td.eqV, Td.neV, Td.inV, Td.niV, lenOk_of (α := Int) (xs := []) (by decide), lenOk_of (α := List Int) (xs := [[]]) (by decide), rngO_0 (n := n) (by omega) (by omega)]
  rw [foldM_eq (f := stepL) (fun i L => L.length = 2 ^ i ∧ ∀ l ∈ L, l.length ≤ i) ⟨rfl, fun l hl => by
    rw [List.mem_singleton.mp hl]
    exact Nat.le_refl 0⟩ ?_]
  · rfl
  · intro i x L hx ⟨q1, q2⟩
    have hi := (List.getElem?_eq_some_iff.mp hx).1
    rw [rngL_len] at hi
    have hi7 : i < 8 := by omega
    have small : 2 ^ i ≤ 2 ^ 8 := Nat.pow_le_pow_right (by omega) (by omega)
    refine ⟨?_, by rw [stepL_len, q1, Nat.pow_succ]; omega, fun l hl => ?_⟩
    · rw [lcM_all (f := fun l => l ++ [x]) (by omega) fun l hl => ?_]
      · simp only [o_ret, o_bnd, o_out, o_and, o_or, o_bndS, o_bndB, Td.addI, Td.subI, Td.ltI, Td.gtI, Td.leI', Td.geI, Td.negI, Td.absI, Td.intB, Td.min2, Td.max2, Td.eqV, Td.neV, Td.inV, Td.niV]
        rw [cat_of (by rw [List.length_map]; omega)]
        rfl
      · have := q2 l hl
        rw [lenOk_of (xs := [x]) (Nat.le_of_ble_eq_true rfl)]
        simp only [o_ret, o_bnd, o_out, o_and, o_or, o_bndS, o_bndB, Td.addI, Td.subI, Td.ltI, Td.gtI, Td.leI', Td.geI, Td.negI, Td.absI, Td.intB, Td.min2, Td.max2, Td.eqV, Td.neV, Td.inV, Td.niV]
        exact cat_of (by rw [List.length_singleton]; omega)
    · rcases stepL_mem hl with z | ⟨m, z1, z2⟩
      · have := q2 l z
        omega
      · rw [z2, List.length_append, List.length_singleton]
        have := q2 m z1
        omega
theorem lots_eq' (n : Int) (h1 : 0 ≤ n) (h2 : n ≤ 8) : t_lots_of_numbers n = some (lotsG n) := by
  unfold t_lots_of_numbers
  simp only [o_ret, o_bnd, o_out, o_and, o_or, o_bndS, o_bndB, Td.addI, Td.subI, Td.ltI, Td.gtI, Td.leI', Td.geI, Td.negI, Td.absI, Td.intB, Td.min2, Td.max2, Td.eqV, Td.neV, Td.inV, Td.niV, lenOk_of (α := Int) (xs := []) (by decide), lenOk_of (α := List Int) (xs := [[]]) (by decide), rngO_0 (n := n) (by omega) (by omega)]
  rw [foldM_eq (f := stepL) (fun i L => L.length = 2 ^ i ∧ ∀ l ∈ L, l.length ≤ i) ⟨rfl, fun l hl => by
    rw [List.mem_singleton.mp hl]
    exact Nat.le_refl 0⟩ ?_]
  · rfl
  · intro i x L hx ⟨q1, q2⟩
    have hi := (List.getElem?_eq_some_iff.mp hx).1
    rw [rngL_len] at hi
    have hi7 : i < 8 := by omega
    have small : 2 ^ i ≤ 2 ^ 8 := Nat.pow_le_pow_right (by omega) (by omega)
    refine ⟨?_, by rw [stepL_len, q1, Nat.pow_succ]; omega, fun l hl => ?_⟩
    · rw [lcM_all (f := fun l => l ++ [x]) (by omega) fun l hl => ?_]
      · simp only [o_ret, o_bnd, o_out, o_and, o_or, o_bndS, o_bndB, Td.addI, Td.subI, Td.ltI, Td.gtI, Td.leI', Td.geI, Td.negI, Td.absI, Td.intB, Td.min2, Td.max2, Td.eqV, Td.neV, Td.inV, Td.niV]
        rw [cat_of (by rw [List.length_map]; omega)]
        rfl
      · have := q2 l hl
        exact lenOk_of (by rw [List.length_append, List.length_singleton]; omega)
    · rcases stepL_mem hl with z | ⟨m, z1, z2⟩
      · have := q2 l z
        omega
      · rw [z2, List.length_append, List.length_singleton]
        have := q2 m z1
        omega
theorem about_eq (T : List Int) (t : Int) (l : List Int) (hT : T.length ≤ 1000) : t_is_about T t l = some (isAbout T t l) := by
  unfold t_is_about
  simp only [o_ret, o_bnd, o_out, o_and, o_or, o_bndS, o_bndB, Td.addI, Td.subI, Td.ltI, Td.gtI, Td.leI', Td.geI, Td.negI, Td.absI, Td.intB, Td.min2, Td.max2, Td.eqV, Td.neV, Td.inV, Td.niV]
  rw [lcM_p (by omega), lenOk_of (xs := [t]) (Nat.le_of_ble_eq_true rfl)]
  simp only [o_ret, o_bnd, o_out, o_and, o_or, o_bndS, o_bndB, Td.addI, Td.subI, Td.ltI, Td.gtI, Td.leI', Td.geI, Td.negI, Td.absI, Td.intB, Td.min2, Td.max2, Td.eqV, Td.neV, Td.inV, Td.niV]
  rfl
section
variable {n : Int} {E : List (Int × Int)} {T : List Int} (h1 : 0 ≤ n) (h2 : n ≤ 8) (hE : E.length ≤ 1000) (hT : T.length ≤ 1000)
include h1 h2 hT in
theorem abouts_eq (t : Int) : t_lots_about (n, E) T t = some (abL n T t) := by
  have := lots_few n h2
  unfold t_lots_about
  simp only [o_ret, o_bnd, o_out, o_and, o_or, o_bndS, o_bndB, Td.addI, Td.subI, Td.ltI, Td.gtI, Td.leI', Td.geI, Td.negI, Td.absI, Td.intB, Td.min2, Td.max2, Td.eqV, Td.neV, Td.inV, Td.niV, lots_eq' n h1 h2, about_eq T t _ hT]
  rw [lcM_p (by omega)]
  rfl
include h2 in
theorem ab_few (t : Int) : (abL n T t).length ≤ 256 := Nat.le_trans (List.length_filter_le _ _) (lots_few n h2)
include h1 h2 hE hT in
theorem least_eq (t : Int) (ne : abL n T t ≠ []) : t_least_about (n, E) T t = some (leastN n E T t) := by
  have := ab_few (T := T) h2 t
  unfold t_least_about
  simp only [o_ret, o_bnd, o_out, o_and, o_or, o_bndS, o_bndB, Td.addI, Td.subI, Td.ltI, Td.gtI, Td.leI', Td.geI, Td.negI, Td.absI, Td.intB, Td.min2, Td.max2, Td.eqV, Td.neV, Td.inV, Td.niV, abouts_eq h1 h2 hT, cut_eq _ _ _ hE]
  rw [lcM_f (by omega)]
  simp only [o_ret, o_bnd, o_out, o_and, o_or, o_bndS, o_bndB, Td.addI, Td.subI, Td.ltI, Td.gtI, Td.leI', Td.geI, Td.negI, Td.absI, Td.intB, Td.min2, Td.max2, Td.eqV, Td.neV, Td.inV, Td.niV]
  exact minW_int fun z => ne (List.map_eq_nil_iff.mp z)
include h1 h2 hE hT in
theorem law_about_eq (t : Int) (ne : abL n T t ≠ []) : t_law_about (n, E) T t = some (leastS n E T t, leastN n E T t) := by
  have := ab_few (T := T) h2 t
  have few := lots_few n h2
  unfold t_law_about
  simp only [o_ret, o_bnd, o_out, o_and, o_or, o_bndS, o_bndB, Td.addI, Td.subI, Td.ltI, Td.gtI, Td.leI', Td.geI, Td.negI, Td.absI, Td.intB, Td.min2, Td.max2, Td.eqV, Td.neV, Td.inV, Td.niV, lots_eq n h1 h2, law_cut_eq _ _ _ hE, lenOk_of (xs := [t]) (Nat.le_of_ble_eq_true rfl)]
  rw [lcM_some (p := isAbout T t) (f := fun l => l) (by omega) (fun l hl => ?_) (fun _ _ _ => rfl)]
  · simp only [o_ret, o_bnd, o_out, o_and, o_or, o_bndS, o_bndB, Td.addI, Td.subI, Td.ltI, Td.gtI, Td.leI', Td.geI, Td.negI, Td.absI, Td.intB, Td.min2, Td.max2, Td.eqV, Td.neV, Td.inV, Td.niV, List.map_id']
    have e : List.filter (isAbout T t) (lotsG n) = abL n T t := rfl
    rw [e, lcM_f (by omega)]
    simp only [o_ret, o_bnd, o_out, o_and, o_or, o_bndS, o_bndB, Td.addI, Td.subI, Td.ltI, Td.gtI, Td.leI', Td.geI, Td.negI, Td.absI, Td.intB, Td.min2, Td.max2, Td.eqV, Td.neV, Td.inV, Td.niV]
    rw [minW_int fun z => ne (List.map_eq_nil_iff.mp z)]
    simp only [o_ret, o_bnd, o_out, o_and, o_or, o_bndS, o_bndB, Td.addI, Td.subI, Td.ltI, Td.gtI, Td.leI', Td.geI, Td.negI, Td.absI, Td.intB, Td.min2, Td.max2, Td.eqV, Td.neV, Td.inV, Td.niV]
    rw [lcM_p (by omega)]
    rfl
  · rw [lcM_p (by omega)]
    rfl
include h1 h2 hE hT in
theorem all_least_eq (ne : ∀ t ∈ T, abL n T t ≠ []) : t_all_least (n, E) T = some (T.map (leastN n E T)) := by
  unfold t_all_least
  simp only [o_ret, o_bnd, o_out, o_and, o_or, o_bndS, o_bndB, Td.addI, Td.subI, Td.ltI, Td.gtI, Td.leI', Td.geI, Td.negI, Td.absI, Td.intB, Td.min2, Td.max2, Td.eqV, Td.neV, Td.inV, Td.niV]
  rw [lcM_all (by omega) fun t ht => least_eq h1 h2 hE hT t (ne t ht)]
def inPair (v : Int) (p : Int × Int) : Bool := decide (v ∈ [p.1, p.2])
theorem deg_in (v : Int) : (E.filter (inPair v)).length = degN E v := by
  unfold degN
  rw [List.countP_eq_length_filter]
  congr 1
  congr 1
  funext p
  unfold inPair
  rw [← Bool.decide_or]
  exact decide_eq_decide.mpr (by simp)
def restL (n : Int) (T : List Int) : List Int := (rngL n).filter fun v => !decide (v ∈ T)
include h1 h2 hE in
theorem even_eq : t_is_even_beside (n, E) T = some (((restL n T).map fun v => decide (((degN E v : Nat) : Int) % 2 = 0)).all id) := by
  have := rngL_len n
  unfold t_is_even_beside
  simp only [o_ret, o_bnd, o_out, o_and, o_or, o_bndS, o_bndB, Td.addI, Td.subI, Td.ltI, Td.gtI, Td.leI', Td.geI, Td.negI, Td.absI, Td.intB, Td.min2, Td.max2, Td.eqV, Td.neV, Td.inV, Td.niV, rngO_0 (n := n) (by omega) (by omega), modI_of _ (b := 2) (by decide)]
  rw [lcM_p (by omega)]
  simp only [o_ret, o_bnd, o_out, o_and, o_or, o_bndS, o_bndB, Td.addI, Td.subI, Td.ltI, Td.gtI, Td.leI', Td.geI, Td.negI, Td.absI, Td.intB, Td.min2, Td.max2, Td.eqV, Td.neV, Td.inV, Td.niV]
  have e : ∀ v : Int, lcM E (fun q => some (decide (v ∈ [q.1, q.2]))) (fun _ => some (1 : Int)) = some ((E.filter (inPair v)).map fun _ => (1 : Int)) := fun v => lcM_pp (by omega)
  simp only [o_ret, o_bnd, o_out, o_and, o_or, o_bndS, o_bndB, Td.addI, Td.subI, Td.ltI, Td.gtI, Td.leI', Td.geI, Td.negI, Td.absI, Td.intB, Td.min2, Td.max2, Td.eqV, Td.neV, Td.inV, Td.niV, e, List.length_map, deg_in]
  rw [lcM_f]
  · rfl
  · have := List.length_filter_le (fun v => !decide (v ∈ T)) (rngL n)
    omega
end
end T73
end
set_option linter.all false
set_option maxRecDepth 100000
set_option maxHeartbeats 4000000
noncomputable section
namespace T73
open PySem PySem.Spec PyProof.Rows L2 Pd Td PM K70
open Nt (NetOk tie cr cut_sum cut_perm cut_cons cut_app cross_tie fold_tie)
theorem of_tri {l : List Int} (h : l ≠ []) (hl : l.length ≤ 1000) {P : Int → Prop} (hp : ∀ x ∈ l, P x) : Tri (t_law_of l) P := by
  unfold t_law_of
  try simp only [d_bnd, d_out, Td.d_and, Td.d_or, d_bndB, d_bndR, Td.addI, Td.subI, Td.ltI, Td.gtI, Td.leI', Td.geI, Td.negI, Td.absI, Td.intB, Td.min2, Td.max2, Td.eqV, Td.neV, Td.inV, Td.niV]
  exact Tri.at_ h hl hp
theorem deg_snoc (E : List (Int × Int)) (p : Int × Int) (v : Int) : degN (E ++ [p]) v = degN E v + if v = p.1 ∨ v = p.2 then 1 else 0 := by
  rw [← deg_in, ← deg_in, List.filter_append, List.length_append]
  congr 1
  by_cases c : v = p.1 ∨ v = p.2
  · rw [if_pos c, List.filter_cons_of_pos (by unfold inPair; simpa using c)]
    rfl
  · rw [if_neg c, List.filter_cons_of_neg (by unfold inPair; simpa using c)]
    rfl
theorem deg_perm {E E' : List (Int × Int)} (h : E.Perm E') (v : Int) : degN E v = degN E' v := by
  rw [← deg_in, ← deg_in, (h.filter _).length_eq]
structure Good (n : Int) (E : List (Int × Int)) (T : List Int) : Prop where
  n1 : 2 ≤ n
  n2 : n ≤ 8
  ok : NetOk n E
  el : E.length ≤ 30
  td : K70.Td n T
  len : T.length ≤ 8
  ne : T ≠ []
  ev : ∀ v, 0 ≤ v → v < n → v ∉ T → degN E v % 2 = 0
theorem ok_snoc {n : Int} {E : List (Int × Int)} {p : Int × Int} (h : NetOk n E) (hp : 0 ≤ p.1 ∧ p.1 < p.2 ∧ p.2 < n) : NetOk n (E ++ [p]) := fun q hq => by
  rcases List.mem_append.mp hq with z | z
  · exact h q z
  · rw [List.mem_singleton.mp z]
    exact hp
theorem net_tri (m k : Int) (hm : 2 ≤ m) (hm2 : m ≤ 7) (hk : 0 ≤ k) (hk2 : k ≤ 20) : Tri (t_law_net m k true) fun r => Good r.1.1 r.1.2 r.2 := by
  unfold t_law_net
  try simp only [d_bnd, d_out, Td.d_and, Td.d_or, d_bndB, d_bndR, Td.addI, Td.subI, Td.ltI, Td.gtI, Td.leI', Td.geI, Td.negI, Td.absI, Td.intB, Td.min2, Td.max2, Td.eqV, Td.neV, Td.inV, Td.niV]
  refine Tri.bnd (Tri.pick' (by omega) (by omega)) fun d hd => ?_
  have n1 : 2 ≤ 2 + d := by omega
  have n2 : 2 + d ≤ 8 := by omega
  generalize 2 + d = n at n1 n2 ⊢
  try rw [rngO_0 (n := n) (by omega) (by omega)]
  try simp only [d_bnd, d_out, Td.d_and, Td.d_or, d_bndB, d_bndR, Td.addI, Td.subI, Td.ltI, Td.gtI, Td.leI', Td.geI, Td.negI, Td.absI, Td.intB, Td.min2, Td.max2, Td.eqV, Td.neV, Td.inV, Td.niV]
  refine Tri.bnd (Tri.any (by rw [rngL_len]; omega)) fun ys hys => ?_
  try simp only [d_bnd, d_out, Td.d_and, Td.d_or, d_bndB, d_bndR, Td.addI, Td.subI, Td.ltI, Td.gtI, Td.leI', Td.geI, Td.negI, Td.absI, Td.intB, Td.min2, Td.max2, Td.eqV, Td.neV, Td.inV, Td.niV]
  refine Tri.bnd (Tri.pick' (by omega) (by omega)) fun c hc => ?_
  simp only [d_bnd, d_out, Td.d_and, Td.d_or, d_bndB, d_bndR, Td.addI, Td.subI, Td.ltI, Td.gtI, Td.leI', Td.geI, Td.negI, Td.absI, Td.intB, Td.min2, Td.max2, Td.eqV, Td.neV, Td.inV, Td.niV, sortW_int, lenOk_of (α := Int × Int) (xs := []) (by decide)]
  rw [cut_take _ (by omega)]
  have td : K70.Td n (srtI (ys.take (2 + c).toNat)) := ⟨(List.mergeSort_perm _ _).nodup_iff.mpr (((List.take_sublist _ _).nodup (hys.nodup_iff.mpr (rngL_nodup n)))), fun t ht => rngL_mem.mp (hys.mem_iff.mp (List.mem_of_mem_take (srt_mem.mp ht)))⟩
  have tl : (srtI (ys.take (2 + c).toNat)).length ≤ 8 := by
    unfold srtI
    rw [List.length_mergeSort, List.length_take, hys.length_eq, rngL_len]
    omega
  have tn : srtI (ys.take (2 + c).toNat) ≠ [] := by
    intro z
    have := congrArg List.length z
    unfold srtI at this
    rw [List.length_mergeSort, List.length_take, hys.length_eq, rngL_len, List.length_nil] at this
    omega
  generalize srtI (ys.take (2 + c).toNat) = T at td tl tn ⊢
  refine Tri.bnd (Tri.pick' (by omega) (by omega)) fun f hf => ?_
  try rw [rngO_0 (n := f) (by omega) (by omega)]
  try simp only [d_bnd, d_out, Td.d_and, Td.d_or, d_bndB, d_bndR, Td.addI, Td.subI, Td.ltI, Td.gtI, Td.leI', Td.geI, Td.negI, Td.absI, Td.intB, Td.min2, Td.max2, Td.eqV, Td.neV, Td.inV, Td.niV]
  refine Tri.bnd (Tri.foldM (fun i E => NetOk n E ∧ E.length ≤ i) (rngL f) 0 [] ⟨fun p h => (by cases h), Nat.le_refl 0⟩ fun i x E hx hE => ?_) fun E hE => ?_
  · have hi := (List.getElem?_eq_some_iff.mp hx).1
    rw [rngL_len] at hi
    try rw [rngO_0 (n := n) (by omega) (by omega)]
    try simp only [d_bnd, d_out, Td.d_and, Td.d_or, d_bndB, d_bndR, Td.addI, Td.subI, Td.ltI, Td.gtI, Td.leI', Td.geI, Td.negI, Td.absI, Td.intB, Td.min2, Td.max2, Td.eqV, Td.neV, Td.inV, Td.niV]
    refine Tri.bnd (Tri.any (by rw [rngL_len]; omega)) fun zs hzs => ?_
    rw [cut_take _ (by omega)]
    obtain ⟨a, b, e, q1, q2, q3⟩ := two_sorted hzs n1
    rw [show (2 : Int).toNat = 2 from rfl, e]
    have el := hE.2
    simp only [d_bnd, d_out, Td.d_and, Td.d_or, d_bndB, d_bndR, Td.addI, Td.subI, Td.ltI, Td.gtI, Td.leI', Td.geI, Td.negI, Td.absI, Td.intB, Td.min2, Td.max2, Td.eqV, Td.neV, Td.inV, Td.niV, two, appF_of (xs := E) (a := (a, b)) (by omega)]
    exact Tri.ret ⟨ok_snoc hE.1 ⟨q1, q2, q3⟩, by rw [List.length_append, List.length_singleton]; omega⟩
  · rw [Nat.zero_add, rngL_len] at hE
    try simp only [cnd_t, d_bnd, d_out, Td.d_and, Td.d_or, d_bndB, d_bndR, Td.addI, Td.subI, Td.ltI, Td.gtI, Td.leI', Td.geI, Td.negI, Td.absI, Td.intB, Td.min2, Td.max2, Td.eqV, Td.neV, Td.inV, Td.niV]
    try rw [rngO_0 (n := n) (by omega) (by omega)]
    try simp only [d_bnd, d_out, Td.d_and, Td.d_or, d_bndB, d_bndR, Td.addI, Td.subI, Td.ltI, Td.gtI, Td.leI', Td.geI, Td.negI, Td.absI, Td.intB, Td.min2, Td.max2, Td.eqV, Td.neV, Td.inV, Td.niV]
    refine Tri.bnd (Tri.foldM (fun i E => NetOk n E ∧ E.length ≤ 20 + i ∧ ∀ v, 0 ≤ v → v < (i : Int) → v ∉ T → degN E v % 2 = 0) (rngL n) 0 E ⟨hE.1, by omega, fun v h1 h2 => by omega⟩ fun i s E hs ⟨e1, e2, e3⟩ => ?_) fun E ⟨e1, e2, e3⟩ => ?_
    · rw [Nat.zero_add] at e2 e3
      have hi := (List.getElem?_eq_some_iff.mp hs).1
      rw [rngL_len] at hi
      have hs' := rngL_mem.mp (List.mem_of_getElem? hs)
      have hsi : s = (i : Int) := by
        have := rngL_at (n := n) (i := (i : Int)) (by omega) (by omega)
        rw [Int.toNat_natCast] at this
        rw [this] at hs
        injection hs with hs
        exact hs.symm
      try simp only [d_bnd, d_out, Td.d_and, Td.d_or, d_bndB, d_bndR, Td.addI, Td.subI, Td.ltI, Td.gtI, Td.leI', Td.geI, Td.negI, Td.absI, Td.intB, Td.min2, Td.max2, Td.eqV, Td.neV, Td.inV, Td.niV]
      rw [d_lcM (p := fun v => !decide (v ∈ T) && decide ((((E.filter fun q => decide (v ∈ [q.1, q.2])).length : Nat) : Int) % 2 = 1)) (f := fun v => v) (by rw [rngL_len]; omega) (fun v hv => ?_) (fun _ _ _ => rfl)]
      · simp only [d_bnd, d_out, Td.d_and, Td.d_or, d_bndB, d_bndR, Td.addI, Td.subI, Td.ltI, Td.gtI, Td.leI', Td.geI, Td.negI, Td.absI, Td.intB, Td.min2, Td.max2, Td.eqV, Td.neV, Td.inV, Td.niV, List.map_id']
        have same : (fun v => !decide (v ∈ T) && decide ((((E.filter fun q => decide (v ∈ [q.1, q.2])).length : Nat) : Int) % 2 = 1)) = fun v => !decide (v ∈ T) && decide ((degN E v : Int) % 2 = 1) := by
          funext v
          rw [show (E.filter fun q => decide (v ∈ [q.1, q.2])) = E.filter (inPair v) from rfl, deg_in]
        rw [same]
        generalize ho : List.filter (fun v => !decide (v ∈ T) && decide ((degN E v : Int) % 2 = 1)) (rngL n) = odd
        have odd1 : ∀ v, v ∈ odd ↔ ((0 ≤ v ∧ v < n) ∧ v ∉ T ∧ degN E v % 2 = 1) := fun v => by
          rw [← ho, List.mem_filter, rngL_mem]
          simp only [Bool.and_eq_true, Bool.not_eq_true', decide_eq_false_iff_not, decide_eq_true_eq]
          constructor
          · rintro ⟨a, b, c⟩
            exact ⟨a, b, by omega⟩
          · rintro ⟨a, b, c⟩
            exact ⟨a, b, by omega⟩
        have odd2 : odd.length ≤ 8 := by
          rw [← ho]
          have := List.length_filter_le (fun v => !decide (v ∈ T) && decide ((degN E v : Int) % 2 = 1)) (rngL n)
          rw [rngL_len] at this
          omega
        refine Tri.cnd (fun h => ?_) fun h => Tri.ret ⟨e1, by omega, fun v h1 h2 h3 => ?_⟩
        · have so := (odd1 s).mp (of_decide_eq_true h)
          rw [d_lcM_p (by omega)]
          simp only [d_bnd, d_out, Td.d_and, Td.d_or, d_bndB, d_bndR, Td.addI, Td.subI, Td.ltI, Td.gtI, Td.leI', Td.geI, Td.negI, Td.absI, Td.intB, Td.min2, Td.max2, Td.eqV, Td.neV, Td.inV, Td.niV, lenOk_of (α := Int) (xs := []) (by decide)]
          refine Tri.bnd (P := fun o => (0 ≤ o ∧ o < n) ∧ o ≠ s ∧ (o ∈ T ∨ s < o)) (Tri.cnd (fun h2 => ?_) fun h2 => ?_) fun o ho => ?_
          · refine of_tri (by simpa using h2) ?_ fun x hx => ?_
            · have := List.length_filter_le (fun q => decide (s < q)) odd
              omega
            · obtain ⟨x1, x2⟩ := List.mem_filter.mp hx
              have := of_decide_eq_true x2
              exact ⟨((odd1 x).mp x1).1, by omega, .inr this⟩
          · exact of_tri tn (by omega) fun x hx => ⟨td.at_ x hx, fun z => so.2.1 (z ▸ hx), .inl hx⟩
          · rw [appF_of (by omega)]
            try simp only [d_bnd, d_out, Td.d_and, Td.d_or, d_bndB, d_bndR, Td.addI, Td.subI, Td.ltI, Td.gtI, Td.leI', Td.geI, Td.negI, Td.absI, Td.intB, Td.min2, Td.max2, Td.eqV, Td.neV, Td.inV, Td.niV]
            refine Tri.ret ⟨ok_snoc e1 ⟨by simp only; omega, by simp only; omega, by simp only; omega⟩, by rw [List.length_append, List.length_singleton]; omega, fun v h1 h2 h3 => ?_⟩
            rw [deg_snoc]
            have vo : v ≠ o := fun z => by
              rcases ho.2.2 with w | w
              · exact h3 (z ▸ w)
              · push_cast at h2
                omega
            by_cases c : v = s
            · have : v = min s o ∨ v = max s o := by omega
              rw [if_pos this, c]
              have := so.2.2
              omega
            · have : ¬ (v = min s o ∨ v = max s o) := by omega
              rw [if_neg this]
              exact e3 v h1 (by push_cast at h2; omega) h3
        · by_cases c : v = s
          · subst c
            have : v ∉ odd := of_decide_eq_false h
            rw [odd1] at this
            have : ¬ degN E v % 2 = 1 := fun z => this ⟨hs', h3, z⟩
            omega
          · exact e3 v h1 (by push_cast at h2; omega) h3
      · rw [d_lcM_pp (by omega)]
        simp only [d_bnd, d_out, Td.d_and, Td.d_or, d_bndB, d_bndR, Td.addI, Td.subI, Td.ltI, Td.gtI, Td.leI', Td.geI, Td.negI, Td.absI, Td.intB, Td.min2, Td.max2, Td.eqV, Td.neV, Td.inV, Td.niV, List.length_map, modI_of _ (b := 2) (by decide)]
    · rw [rngL_len] at e2 e3
      refine Tri.ret ⟨n1, n2, fun p hp => ?_, ?_, td, tl, tn, fun v h1 h2 h3 => ?_⟩
      · simp only [sortW_link] at hp
        exact e1 p (srt_mem.mp hp)
      · simp only [sortW_link]
        unfold srtK
        rw [List.length_mergeSort]
        omega
      · simp only [sortW_link]
        rw [deg_perm (show (srtK E).Perm E from List.mergeSort_perm _ _)]
        exact e3 v h1 (by simp only at h2; push_cast; omega) h3
end T73
end
set_option linter.all false
set_option maxRecDepth 100000
set_option maxHeartbeats 1000000
noncomputable section
namespace T73
open PySem PySem.Spec PyProof.Rows L2 Pd Td PM K70
open Nt (NetOk tie cr cut_sum cut_perm cut_cons cut_app cross_tie fold_tie at_st oe atI dI endsL ends_mem cr_is sum_more)
/-! ### each link of a station that is not told has a partner -/
/-- least lots about t -/
def tight (n : Int) (E : List (Int × Int)) (T : List Int) (t : Int) (X : List Int) : Prop := X ∈ abL n T t ∧ cutZ E X = leastN n E T t
section
variable {n : Int} {E : List (Int × Int)} {T : List Int} (g : Good n E T)
include g
theorem ab_of {t : Int} (ht : t ∈ T) {p : Int → Bool} (hp : ∀ u ∈ T, (p u = true ↔ u = t)) : (rngL n).filter p ∈ abL n T t := abL_mem.mpr ⟨lots_all n p, (about_iff g.td.nd ht).mpr fun u hu => by
  rw [List.mem_filter, rngL_mem, hp u hu]
  have := g.td.at_ u hu
  exact ⟨fun h => h.2, fun h => ⟨this, h⟩⟩⟩
theorem ab_is {t : Int} (ht : t ∈ T) {X : List Int} (h : X ∈ abL n T t) : (∀ x ∈ X, 0 ≤ x ∧ x < n) ∧ ∀ u ∈ T, (u ∈ X ↔ u = t) :=
  ⟨fun x hx => lots_in (abL_mem.mp h).1 hx, (about_iff g.td.nd ht).mp (abL_mem.mp h).2⟩
theorem ab_least {t : Int} (ht : t ∈ T) {p : Int → Bool} (hp : ∀ u ∈ T, (p u = true ↔ u = t)) : leastN n E T t ≤ cutZ E ((rngL n).filter p) := least_le (ab_of g ht hp)
theorem in_net {e : Int × Int} (he : e ∈ E) : (0 ≤ e.1 ∧ e.1 < n) ∧ 0 ≤ e.2 ∧ e.2 < n := by
  obtain ⟨a, b, c⟩ := g.ok e he
  omega
theorem cr_f {p : Int → Bool} {e : Int × Int} (he : e ∈ E) : cr ((rngL n).filter p) e = if p e.1 = p e.2 then 0 else 1 := by
  obtain ⟨h1, h2⟩ := in_net g he
  have m : ∀ x, (0 ≤ x ∧ x < n) → decide (x ∈ (rngL n).filter p) = p x := fun x hx => by
    rw [Bool.eq_iff_iff, decide_eq_true_eq, List.mem_filter, rngL_mem]
    exact ⟨fun h => h.2, fun h => ⟨hx, h⟩⟩
  rw [cr_is, m _ h1, m _ h2]
/-- two least lots about one station -/
theorem same_t {t : Int} (ht : t ∈ T) {X Y : List Int} (hX : tight n E T t X) (hY : tight n E T t Y) :
    tight n E T t ((rngL n).filter fun x => decide (x ∈ X) && decide (x ∈ Y)) ∧ tight n E T t ((rngL n).filter fun x => decide (x ∈ X) || decide (x ∈ Y)) ∧ ∀ e ∈ E, ¬ (e.1 ∈ X ∧ e.1 ∉ Y ∧ e.2 ∈ Y ∧ e.2 ∉ X) ∧ ¬ (e.2 ∈ X ∧ e.2 ∉ Y ∧ e.1 ∈ Y ∧ e.1 ∉ X) := by
  obtain ⟨_, x2⟩ := ab_is g ht hX.1
  obtain ⟨_, y2⟩ := ab_is g ht hY.1
  have p1 : ∀ u ∈ T, ((decide (u ∈ X) && decide (u ∈ Y)) = true ↔ u = t) := fun u hu => by
    simp only [Bool.and_eq_true, decide_eq_true_eq, x2 u hu, y2 u hu, and_self]
  have p2 : ∀ u ∈ T, ((decide (u ∈ X) || decide (u ∈ Y)) = true ↔ u = t) := fun u hu => by
    simp only [Bool.or_eq_true, decide_eq_true_eq, x2 u hu, y2 u hu, or_self]
  have a := ab_least g ht p1
  have b := ab_least g ht p2
  have one : ∀ e ∈ E, cr ((rngL n).filter fun x => decide (x ∈ X) && decide (x ∈ Y)) e + cr ((rngL n).filter fun x => decide (x ∈ X) || decide (x ∈ Y)) e ≤ cr X e + cr Y e := fun e he => by
    rw [cr_f g he, cr_f g he, cr_is, cr_is]
    cases decide (e.1 ∈ X) <;> cases decide (e.1 ∈ Y) <;> cases decide (e.2 ∈ X) <;> cases decide (e.2 ∈ Y) <;> decide
  have sum := sum_le one
  rw [sum_add, sum_add, ← cut_sum, ← cut_sum, ← cut_sum, ← cut_sum, hX.2, hY.2] at sum
  refine ⟨⟨ab_of g ht p1, by omega⟩, ⟨ab_of g ht p2, by omega⟩, fun e he => ?_⟩
  have strict : ∀ d : Int, cr ((rngL n).filter fun x => decide (x ∈ X) && decide (x ∈ Y)) e + cr ((rngL n).filter fun x => decide (x ∈ X) || decide (x ∈ Y)) e + d ≤ cr X e + cr Y e → d ≤ 0 := fun d hd => by
    have := sum_more he one hd
    rw [sum_add, sum_add, ← cut_sum, ← cut_sum, ← cut_sum, ← cut_sum, hX.2, hY.2] at this
    omega
  constructor
  · rintro ⟨h1, h2, h3, h4⟩
    have := strict 2 (by rw [cr_f g he, cr_f g he, cr_is, cr_is]; simp [h1, h2, h3, h4])
    omega
  · rintro ⟨h1, h2, h3, h4⟩
    have := strict 2 (by rw [cr_f g he, cr_f g he, cr_is, cr_is]; simp [h1, h2, h3, h4])
    omega
/-- least lots about two stations: no link from what both have to what none has -/
theorem two_t {t t' : Int} (ht : t ∈ T) (ht' : t' ∈ T) (ne : t ≠ t') {X Y : List Int} (hX : tight n E T t X) (hY : tight n E T t' Y) :
    ∀ e ∈ E, ¬ (e.1 ∈ X ∧ e.1 ∈ Y ∧ e.2 ∉ X ∧ e.2 ∉ Y) ∧ ¬ (e.2 ∈ X ∧ e.2 ∈ Y ∧ e.1 ∉ X ∧ e.1 ∉ Y) := by
  obtain ⟨_, x2⟩ := ab_is g ht hX.1
  obtain ⟨_, y2⟩ := ab_is g ht' hY.1
  have p1 : ∀ u ∈ T, ((decide (u ∈ X) && !decide (u ∈ Y)) = true ↔ u = t) := fun u hu => by
    simp only [Bool.and_eq_true, Bool.not_eq_true', decide_eq_true_eq, decide_eq_false_iff_not, x2 u hu, y2 u hu]
    exact ⟨fun h => h.1, fun h => ⟨h, fun z => ne (h.symm.trans z)⟩⟩
  have p2 : ∀ u ∈ T, ((decide (u ∈ Y) && !decide (u ∈ X)) = true ↔ u = t') := fun u hu => by
    simp only [Bool.and_eq_true, Bool.not_eq_true', decide_eq_true_eq, decide_eq_false_iff_not, x2 u hu, y2 u hu]
    exact ⟨fun h => h.1, fun h => ⟨h, fun z => ne (z.symm.trans h)⟩⟩
  have a := ab_least g ht p1
  have b := ab_least g ht' p2
  have one : ∀ e ∈ E, cr ((rngL n).filter fun x => decide (x ∈ X) && !decide (x ∈ Y)) e + cr ((rngL n).filter fun x => decide (x ∈ Y) && !decide (x ∈ X)) e ≤ cr X e + cr Y e := fun e he => by
    rw [cr_f g he, cr_f g he, cr_is, cr_is]
    cases decide (e.1 ∈ X) <;> cases decide (e.1 ∈ Y) <;> cases decide (e.2 ∈ X) <;> cases decide (e.2 ∈ Y) <;> decide
  intro e he
  have strict : ∀ d : Int, cr ((rngL n).filter fun x => decide (x ∈ X) && !decide (x ∈ Y)) e + cr ((rngL n).filter fun x => decide (x ∈ Y) && !decide (x ∈ X)) e + d ≤ cr X e + cr Y e → d ≤ 0 := fun d hd => by
    have := sum_more he one hd
    rw [sum_add, sum_add, ← cut_sum, ← cut_sum, ← cut_sum, ← cut_sum, hX.2, hY.2] at this
    omega
  constructor
  · rintro ⟨h1, h2, h3, h4⟩
    have := strict 2 (by rw [cr_f g he, cr_f g he, cr_is, cr_is]; simp [h1, h2, h3, h4])
    omega
  · rintro ⟨h1, h2, h3, h4⟩
    have := strict 2 (by rw [cr_f g he, cr_f g he, cr_is, cr_is]; simp [h1, h2, h3, h4])
    omega
theorem parity {t : Int} (ht : t ∈ T) {X : List Int} (hX : X ∈ abL n T t) : cutZ E X % 2 = (degN E t : Int) % 2 := by
  obtain ⟨x1, x2⟩ := ab_is g ht hX
  have nd := lots_nodup (abL_mem.mp hX).1
  have p := cut_parity X nd E fun p hp => by
    have := (g.ok p hp).2.1
    omega
  have q := even_but (f := degN E) nd ((x2 t ht).mpr rfl) fun v hv ne => by
    have r := x1 v hv
    refine g.ev v r.1 r.2 fun hT => ne ((x2 v hT).mp hv)
  unfold cutZ
  omega
end
theorem sum_twice {α : Type} (f : α → Int) : ∀ E : List α, (E.map fun e => 2 * f e).sum = 2 * (E.map f).sum
  | [] => rfl
  | e :: E => by
    rw [List.map_cons, List.map_cons, List.sum_cons, List.sum_cons, sum_twice f E]
    omega
/-- the other end -/
theorem at_two {st : Int} {e : Int × Int} (h : at_st st e = true) : (e.1 = st ∧ e.2 = oe st e) ∨ (e.2 = st ∧ e.1 = oe st e) := by
  unfold at_st at h
  unfold oe
  simp only [List.mem_cons, List.mem_nil_iff, or_false, decide_eq_true_eq] at h
  rcases h with rfl | rfl
  · exact .inl ⟨rfl, by omega⟩
  · exact .inr ⟨rfl, by omega⟩
theorem at_not {st : Int} {e : Int × Int} (h : at_st st e = false) : e.1 ≠ st ∧ e.2 ≠ st := by
  unfold at_st at h
  simp only [List.mem_cons, List.mem_nil_iff, or_false, decide_eq_false_iff_not, not_or] at h
  exact ⟨fun z => h.1 z.symm, fun z => h.2 z.symm⟩
section
variable {n : Int} {E : List (Int × Int)} {T : List Int} (g : Good n E T) {s : Int} (hs : 0 ≤ s ∧ s < n) (hT : s ∉ T)
include g hs hT
/-- a least lot without the station has at most half of its links -/
theorem half_out {t : Int} (ht : t ∈ T) {M : List Int} (hM : tight n E T t M) (hsM : s ∉ M) : 2 * (E.map (dI s M)).sum ≤ (E.map (atI s)).sum := by
  obtain ⟨x1, x2⟩ := ab_is g ht hM.1
  have a := ab_least g ht (p := fun x => decide (x ∈ M) || decide (x = s)) fun u hu => by
    simp only [Bool.or_eq_true, decide_eq_true_eq, x2 u hu]
    exact ⟨fun h => h.elim id fun z => absurd hu (z ▸ hT), .inl⟩
  have one : ∀ e ∈ E, cr ((rngL n).filter fun x => decide (x ∈ M) || decide (x = s)) e + 2 * dI s M e ≤ cr M e + atI s e := fun e he => by
    rw [cr_f g he, cr_is]
    unfold dI Nt.atI
    have lt := (g.ok e he).2.1
    cases c : at_st s e with
    | true =>
      rcases at_two c with ⟨h1, h2⟩ | ⟨h1, h2⟩
      · have ne : ¬ e.2 = s := by omega
        rw [← h2, h1]
        by_cases q : e.2 ∈ M <;> simp [hsM, q, ne]
      · have ne : ¬ e.1 = s := by omega
        rw [← h2, h1]
        by_cases q : e.1 ∈ M <;> simp [hsM, q, ne]
    | false =>
      obtain ⟨h1, h2⟩ := at_not c
      simp [h1, h2]
  have sum := sum_le one
  rw [sum_add, sum_add, ← cut_sum, ← cut_sum, hM.2] at sum
  rw [sum_twice] at sum
  omega
/-- a least lot with the station has at least half of its links -/
theorem half_in {t : Int} (ht : t ∈ T) {M : List Int} (hM : tight n E T t M) (hsM : s ∈ M) : (E.map (atI s)).sum ≤ 2 * (E.map (dI s M)).sum := by
  obtain ⟨x1, x2⟩ := ab_is g ht hM.1
  have a := ab_least g ht (p := fun x => decide (x ∈ M) && !decide (x = s)) fun u hu => by
    simp only [Bool.and_eq_true, Bool.not_eq_true', decide_eq_true_eq, decide_eq_false_iff_not, x2 u hu]
    exact ⟨fun h => h.1, fun h => ⟨h, fun z => hT (z ▸ hu)⟩⟩
  have one : ∀ e ∈ E, cr ((rngL n).filter fun x => decide (x ∈ M) && !decide (x = s)) e + atI s e ≤ cr M e + 2 * dI s M e := fun e he => by
    rw [cr_f g he, cr_is]
    unfold dI Nt.atI
    have lt := (g.ok e he).2.1
    cases c : at_st s e with
    | true =>
      rcases at_two c with ⟨h1, h2⟩ | ⟨h1, h2⟩
      · have ne : ¬ e.2 = s := by omega
        rw [← h2, h1]
        by_cases q : e.2 ∈ M <;> simp [hsM, q, ne]
      · have ne : ¬ e.1 = s := by omega
        rw [← h2, h1]
        by_cases q : e.1 ∈ M <;> simp [hsM, q, ne]
    | false =>
      obtain ⟨h1, h2⟩ := at_not c
      simp [h1, h2]
  have sum := sum_le one
  rw [sum_add, sum_add, ← cut_sum, ← cut_sum, hM.2] at sum
  rw [sum_twice] at sum
  omega
end
def isA (n : Int) (E : List (Int × Int)) (T : List Int) (s u : Int) (X : List Int) : Prop := ∃ t ∈ T, tight n E T t X ∧ u ∈ X ∧ s ∉ X
def isB (n : Int) (E : List (Int × Int)) (T : List Int) (s u : Int) (X : List Int) : Prop := ∃ t ∈ T, tight n E T t X ∧ s ∈ X ∧ u ∉ X
def bad (n : Int) (E : List (Int × Int)) (T : List Int) (s u v : Int) : Prop := ∃ X, (isA n E T s u X ∧ v ∈ X) ∨ (isB n E T s u X ∧ v ∉ X)
section
variable {n : Int} {E : List (Int × Int)} {T : List Int} (g : Good n E T) {s : Int} (hs : 0 ≤ s ∧ s < n) (hT : s ∉ T) {e0 : Int × Int} (he0 : e0 ∈ E) (hat : at_st s e0 = true)
include g he0 hat
theorem tA {X Y : List Int} {t t' : Int} (ht : t ∈ T) (ht' : t' ∈ T) (hX : tight n E T t X) (hY : tight n E T t' Y) (h1 : oe s e0 ∈ X ∧ s ∉ X) (h2 : oe s e0 ∈ Y ∧ s ∉ Y) : t = t' := by
  apply Classical.byContradiction
  intro ne
  have := two_t g ht ht' ne hX hY e0 he0
  rcases at_two hat with ⟨a, b⟩ | ⟨a, b⟩
  · exact this.2 ⟨by rw [b]; exact h1.1, by rw [b]; exact h2.1, by rw [a]; exact h1.2, by rw [a]; exact h2.2⟩
  · exact this.1 ⟨by rw [b]; exact h1.1, by rw [b]; exact h2.1, by rw [a]; exact h1.2, by rw [a]; exact h2.2⟩
theorem tB {X Y : List Int} {t t' : Int} (ht : t ∈ T) (ht' : t' ∈ T) (hX : tight n E T t X) (hY : tight n E T t' Y) (h1 : s ∈ X ∧ oe s e0 ∉ X) (h2 : s ∈ Y ∧ oe s e0 ∉ Y) : t = t' := by
  apply Classical.byContradiction
  intro ne
  have := two_t g ht ht' ne hX hY e0 he0
  rcases at_two hat with ⟨a, b⟩ | ⟨a, b⟩
  · exact this.1 ⟨by rw [a]; exact h1.1, by rw [a]; exact h2.1, by rw [b]; exact h1.2, by rw [b]; exact h2.2⟩
  · exact this.2 ⟨by rw [a]; exact h1.1, by rw [a]; exact h2.1, by rw [b]; exact h1.2, by rw [b]; exact h2.2⟩
include hs
theorem topA : ∀ L : List (List Int), (∀ X ∈ L, isA n E T s (oe s e0) X) → L ≠ [] → ∃ M, isA n E T s (oe s e0) M ∧ ∀ X ∈ L, ∀ x ∈ X, x ∈ M
  | [], _, h => absurd rfl h
  | [X], h, _ => ⟨X, h X List.mem_cons_self, fun Y hY x hx => by rw [List.mem_singleton.mp hY] at hx; exact hx⟩
  | X :: Y :: L, h, _ => by
    obtain ⟨M, ⟨t', ht', m1, m2, m3⟩, mM⟩ := topA (Y :: L) (fun Z hZ => h Z (List.mem_cons_of_mem _ hZ)) (by simp)
    obtain ⟨t, ht, x1, x2, x3⟩ := h X List.mem_cons_self
    have e := tA g he0 hat ht ht' x1 m1 ⟨x2, x3⟩ ⟨m2, m3⟩
    subst e
    obtain ⟨_, u, _⟩ := same_t g ht x1 m1
    have inN : ∀ {Z : List Int}, tight n E T t Z → ∀ x ∈ Z, x ∈ rngL n := fun hZ x hx => rngL_mem.mpr ((ab_is g ht hZ.1).1 x hx)
    refine ⟨_, ⟨t, ht, u, List.mem_filter.mpr ⟨inN x1 _ x2, by simp [x2]⟩, fun z => by simpa [x3, m3] using (List.mem_filter.mp z).2⟩, fun Z hZ x hx => ?_⟩
    rcases List.mem_cons.mp hZ with rfl | hZ
    · exact List.mem_filter.mpr ⟨inN x1 x hx, by simp [hx]⟩
    · have := mM Z hZ x hx
      exact List.mem_filter.mpr ⟨inN m1 x this, by simp [this]⟩
theorem topB : ∀ L : List (List Int), (∀ X ∈ L, isB n E T s (oe s e0) X) → L ≠ [] → ∃ M, isB n E T s (oe s e0) M ∧ ∀ X ∈ L, ∀ x ∈ M, x ∈ X
  | [], _, h => absurd rfl h
  | [X], h, _ => ⟨X, h X List.mem_cons_self, fun Y hY x hx => by rw [List.mem_singleton.mp hY]; exact hx⟩
  | X :: Y :: L, h, _ => by
    obtain ⟨M, ⟨t', ht', m1, m2, m3⟩, mM⟩ := topB (Y :: L) (fun Z hZ => h Z (List.mem_cons_of_mem _ hZ)) (by simp)
    obtain ⟨t, ht, x1, x2, x3⟩ := h X List.mem_cons_self
    have e := tB g he0 hat ht ht' x1 m1 ⟨x2, x3⟩ ⟨m2, m3⟩
    subst e
    obtain ⟨u, _, _⟩ := same_t g ht x1 m1
    refine ⟨_, ⟨t, ht, u, List.mem_filter.mpr ⟨rngL_mem.mpr hs, by simp [x2, m2]⟩, fun z => by simpa [x3, m3] using (List.mem_filter.mp z).2⟩, fun Z hZ x hx => ?_⟩
    have hx := (List.mem_filter.mp hx).2
    simp only [Bool.and_eq_true, decide_eq_true_eq] at hx
    rcases List.mem_cons.mp hZ with rfl | hZ
    · exact hx.1
    · exact mM Z hZ x hx.2
end
theorem deg_at {n : Int} {E : List (Int × Int)} (ok : NetOk n E) (s : Int) : (degN E s : Int) = (E.map (Nt.atI s)).sum := by
  unfold degN
  induction E with
  | nil => rfl
  | cons e E ih =>
    rw [List.countP_cons, List.map_cons, List.sum_cons, ← ih fun q hq => ok q (List.mem_cons_of_mem _ hq)]
    unfold Nt.atI at_st
    by_cases c : s = e.1 ∨ s = e.2
    · have a : (decide (s = e.1) || decide (s = e.2)) = true := by simpa using c
      have b : decide (s ∈ [e.1, e.2]) = true := by simpa using c
      rw [if_pos a, if_pos b]
      omega
    · have a : ¬ (decide (s = e.1) || decide (s = e.2)) = true := by simpa using c
      have b : ¬ decide (s ∈ [e.1, e.2]) = true := by simpa using c
      rw [if_neg a, if_neg b]
      omega
theorem sum_perm {α : Type} {f : α → Int} {E E' : List α} (h : E.Perm E') : (E.map f).sum = (E'.map f).sum := by
  induction h with
  | nil => rfl
  | cons x _ ih => rw [List.map_cons, List.map_cons, List.sum_cons, List.sum_cons, ih]
  | swap x y l =>
    rw [List.map_cons, List.map_cons, List.map_cons, List.map_cons, List.sum_cons, List.sum_cons, List.sum_cons, List.sum_cons]
    omega
  | trans _ _ a b => exact a.trans b
theorem partner {n : Int} {E : List (Int × Int)} {T : List Int} (g : Good n E T) {s : Int} (hs : 0 ≤ s ∧ s < n) (hT : s ∉ T) {i : Nat} {e0 : Int × Int} (hx : E[i]? = some e0) (hat : at_st s e0 = true) :
    ∃ (j : Nat) (e1 : Int × Int), j ≠ i ∧ E[j]? = some e1 ∧ at_st s e1 = true ∧ ¬ bad n E T s (oe s e0) (oe s e1) := by
  classical
  apply Classical.byContradiction
  intro none
  have he0 : e0 ∈ E := List.mem_of_getElem? hx
  have p := Nt.idx_perm E i e0 hx
  have all : ∀ e1 ∈ E.eraseIdx i, at_st s e1 = true → bad n E T s (oe s e0) (oe s e1) := fun e1 h1 h2 => by
    obtain ⟨j, hj, hy⟩ := List.mem_eraseIdx_iff_getElem?.mp h1
    apply Classical.byContradiction
    intro z
    exact none ⟨j, e1, hj, hy, h2, z⟩
  have pos : ∀ e ∈ E, 0 ≤ Nt.atI s e := fun e _ => by
    unfold Nt.atI
    split <;> omega
  have deg1 : 1 ≤ (E.map (Nt.atI s)).sum := by
    have := sum_more (d := 1) (f := fun _ => (0 : Int)) (g := Nt.atI s) he0 pos (by unfold Nt.atI; rw [if_pos hat]; omega)
    have z : ∀ L : List (Int × Int), (L.map fun _ => (0 : Int)).sum = 0 := by
      intro L
      induction L with
      | nil => rfl
      | cons a L ih => rw [List.map_cons, List.sum_cons, ih]; rfl
    rw [z] at this
    omega
  have mem : ∀ e ∈ E, e = e0 ∨ e ∈ E.eraseIdx i := fun e he => List.mem_cons.mp (p.mem_iff.mp he)
  have ev := g.ev s hs.1 hs.2 hT
  have dg := deg_at g.ok s
  generalize hLA : (lotsG n).filter (fun X => decide (isA n E T s (oe s e0) X)) = LA
  generalize hLB : (lotsG n).filter (fun X => decide (isB n E T s (oe s e0) X)) = LB
  have inA : ∀ X, isA n E T s (oe s e0) X → X ∈ LA := fun X h => by
    rw [← hLA]
    obtain ⟨t, _, x1, _⟩ := id h
    exact List.mem_filter.mpr ⟨(abL_mem.mp x1.1).1, decide_eq_true h⟩
  have inB : ∀ X, isB n E T s (oe s e0) X → X ∈ LB := fun X h => by
    rw [← hLB]
    obtain ⟨t, _, x1, _⟩ := id h
    exact List.mem_filter.mpr ⟨(abL_mem.mp x1.1).1, decide_eq_true h⟩
  have ofA : ∀ X ∈ LA, isA n E T s (oe s e0) X := fun X h => by
    rw [← hLA] at h
    exact of_decide_eq_true (List.mem_filter.mp h).2
  have ofB : ∀ X ∈ LB, isB n E T s (oe s e0) X := fun X h => by
    rw [← hLB] at h
    exact of_decide_eq_true (List.mem_filter.mp h).2
  by_cases a : LA = []
  · have noA : ∀ X, ¬ isA n E T s (oe s e0) X := fun X h => by
      have := inA X h
      rw [a] at this
      cases this
    by_cases b : LB = []
    · have noB : ∀ X, ¬ isB n E T s (oe s e0) X := fun X h => by
        have := inB X h
        rw [b] at this
        cases this
      have zero : ((E.eraseIdx i).map (Nt.atI s)).sum = 0 := by
        have : ∀ L : List (Int × Int), (∀ e ∈ L, Nt.atI s e = 0) → (L.map (Nt.atI s)).sum = 0 := by
          intro L
          induction L with
          | nil => intro _; rfl
          | cons e L ih =>
            intro h
            rw [List.map_cons, List.sum_cons, ih fun z hz => h z (List.mem_cons_of_mem _ hz), h e List.mem_cons_self]
            rfl
        refine this _ fun e he => ?_
        unfold Nt.atI
        refine if_neg fun c => ?_
        obtain ⟨X, h | h⟩ := all e he c
        · exact noA X h.1
        · exact noB X h.1
      have := sum_perm (f := Nt.atI s) p
      rw [List.map_cons, List.sum_cons, zero] at this
      have one : Nt.atI s e0 = 1 := by
        unfold Nt.atI
        exact if_pos hat
      omega
    · obtain ⟨N, ⟨t, ht, n1, n2, n3⟩, hN⟩ := topB g hs he0 hat LB ofB b
      have h := half_in g hs hT ht n1 n2
      have : (E.map (dI s N)).sum ≤ (E.map fun _ => (0 : Int)).sum := sum_le fun e he => by
        unfold dI
        refine Int.le_of_eq (if_neg fun ⟨c1, c2⟩ => ?_)
        rcases mem e he with rfl | m
        · exact n3 c2
        · obtain ⟨X, h | h⟩ := all e m c1
          · exact noA X h.1
          · exact h.2 (hN X (inB X h.1) _ c2)
      have z : ∀ L : List (Int × Int), (L.map fun _ => (0 : Int)).sum = 0 := by
        intro L
        induction L with
        | nil => rfl
        | cons a L ih => rw [List.map_cons, List.sum_cons, ih]; rfl
      rw [z] at this
      omega
  · obtain ⟨M, ⟨t, ht, m1, m2, m3⟩, hM⟩ := topA g hs he0 hat LA ofA a
    have h := half_out g hs hT ht m1 m3
    by_cases b : LB = []
    · have noB : ∀ X, ¬ isB n E T s (oe s e0) X := fun X h => by
        have := inB X h
        rw [b] at this
        cases this
      have : (E.map (Nt.atI s)).sum ≤ (E.map (dI s M)).sum := sum_le fun e he => by
        unfold dI Nt.atI
        by_cases c : at_st s e = true
        · rw [if_pos c]
          have : oe s e ∈ M := by
            rcases mem e he with rfl | m
            · exact m2
            · obtain ⟨X, h | h⟩ := all e m c
              · exact hM X (inA X h.1) _ h.2
              · exact absurd h.1 (noB X)
          rw [if_pos ⟨c, this⟩]
          omega
        · rw [if_neg c]
          split <;> omega
      omega
    · obtain ⟨N, ⟨t', ht', n1, n2, n3⟩, hN⟩ := topB g hs he0 hat LB ofB b
      have h' := half_in g hs hT ht' n1 n2
      have := sum_more (d := 1) (f := dI s N) (g := dI s M) he0 (fun e he => by
        unfold dI
        by_cases c : at_st s e = true ∧ oe s e ∈ N
        · rw [if_pos c]
          have : oe s e ∈ M := by
            rcases mem e he with rfl | m
            · exact m2
            · obtain ⟨X, h | h⟩ := all e m c.1
              · exact hM X (inA X h.1) _ h.2
              · exact absurd (hN X (inB X h.1) _ c.2) h.2
          rw [if_pos ⟨c.1, this⟩]
          omega
        · rw [if_neg c]
          split <;> omega) (by
        unfold dI
        rw [if_neg fun z => n3 z.2, if_pos ⟨hat, m2⟩]
        omega)
      omega
end T73
end
set_option linter.all false
set_option maxRecDepth 100000
set_option maxHeartbeats 1000000
noncomputable section
namespace T73
open PySem PySem.Spec PyProof.Rows L2 Pd Td PM K70
open Nt (NetOk tie cr cut_sum cut_perm cut_cons cut_app cross_tie fold_tie at_st oe dI endsL ends_mem cr_is sum_more leftL left_perm)
/-! ### links split off -/
def splN (E : List (Int × Int)) (k m : Int) (u v : Int) : List (Int × Int) := srtK (leftL E k m ++ (if u = v then [] else [tie u v]))
theorem end_tie {s : Int} {e : Int × Int} (h : e.1 < e.2) (hs : at_st s e = true) : e = tie s (oe s e) ∧ oe s e ≠ s := by
  rcases at_two hs with ⟨a, b⟩ | ⟨a, b⟩
  · rw [← b]
    refine ⟨?_, by omega⟩
    unfold tie
    refine Prod.ext ?_ ?_ <;> simp only <;> omega
  · rw [← b]
    refine ⟨?_, by omega⟩
    unfold tie
    refine Prod.ext ?_ ?_ <;> simp only <;> omega
theorem left_len (E : List (Int × Int)) (k m : Int) : (leftL E k m).length ≤ E.length := by
  unfold leftL
  rw [List.length_map]
  have := List.length_filter_le (fun q : Int × Int × Int => !decide (q.1 ∈ [k, m])) (enumL E)
  rw [enumL_len] at this
  exact this
def less (s u v : Int) (l : List Int) : Int := if (decide (s ∈ l) != decide (u ∈ l)) && (decide (s ∈ l) != decide (v ∈ l)) then 2 else 0
section
variable {n : Int} {E : List (Int × Int)} {s : Int} {i j : Nat} {e0 e1 : Int × Int} (ok : NetOk n E) (hE : E.length ≤ 100) (hij : i ≠ j) (hx : E[i]? = some e0) (hy : E[j]? = some e1) (h0 : at_st s e0 = true) (h1 : at_st s e1 = true)
include ok hij hx hy h0 h1
theorem spl_perm : E.Perm (tie s (oe s e0) :: tie s (oe s e1) :: leftL E i j) := by
  have a := (end_tie (ok e0 (List.mem_of_getElem? hx)).2.1 h0).1
  have b := (end_tie (ok e1 (List.mem_of_getElem? hy)).2.1 h1).1
  rw [← a, ← b]
  exact left_perm hij hx hy
theorem spl_cut (l : List Int) : cutZ (splN E i j (oe s e0) (oe s e1)) l = cutZ E l - less s (oe s e0) (oe s e1) l := by
  unfold splN
  rw [cut_perm (show (srtK (leftL E i j ++ (if oe s e0 = oe s e1 then [] else [tie (oe s e0) (oe s e1)]))).Perm _ from List.mergeSort_perm _ _), cut_app, cut_perm (spl_perm ok hij hx hy h0 h1), cut_cons, cut_cons]
  unfold cr less
  rw [cross_tie, cross_tie]
  have z : cutZ [] l = 0 := rfl
  by_cases c : oe s e0 = oe s e1
  · rw [if_pos c, z, ← c]
    cases decide (s ∈ l) <;> cases decide (oe s e0 ∈ l) <;> simp <;> omega
  · rw [if_neg c, cut_cons, z]
    unfold cr
    rw [cross_tie]
    cases decide (s ∈ l) <;> cases decide (oe s e0 ∈ l) <;> cases decide (oe s e1 ∈ l) <;> simp <;> omega
theorem spl_len : (splN E i j (oe s e0) (oe s e1)).length ≤ E.length := by
  have p := (spl_perm ok hij hx hy h0 h1).length_eq
  simp only [List.length_cons] at p
  unfold splN srtK
  rw [List.length_mergeSort, List.length_append]
  split <;> simp <;> omega
theorem spl_good {T : List Int} (g : Good n E T) : Good n (splN E i j (oe s e0) (oe s e1)) T := by
  have p := spl_perm ok hij hx hy h0 h1
  have b0 : ∀ e ∈ E, at_st s e = true → (0 ≤ oe s e ∧ oe s e < n) ∧ oe s e ≠ s := fun e he c => by
    obtain ⟨a1, a2, a3⟩ := ok e he
    rcases at_two c with ⟨a, b⟩ | ⟨a, b⟩
    · rw [← b]; omega
    · rw [← b]; omega
  have u0 := b0 e0 (List.mem_of_getElem? hx) h0
  have u1 := b0 e1 (List.mem_of_getElem? hy) h1
  have sp : (splN E i j (oe s e0) (oe s e1)).Perm (leftL E i j ++ (if oe s e0 = oe s e1 then [] else [tie (oe s e0) (oe s e1)])) := List.mergeSort_perm _ _
  refine ⟨g.n1, g.n2, fun q hq => ?_, Nat.le_trans (spl_len ok hij hx hy h0 h1) g.el, g.td, g.len, g.ne, fun v v1 v2 v3 => ?_⟩
  · rcases List.mem_append.mp (sp.mem_iff.mp hq) with z | z
    · exact ok q (p.mem_iff.mpr (List.mem_cons_of_mem _ (List.mem_cons_of_mem _ z)))
    · by_cases c : oe s e0 = oe s e1
      · rw [if_pos c] at z
        cases z
      · rw [if_neg c] at z
        rw [List.mem_singleton.mp z]
        unfold tie
        exact ⟨by simp only; omega, by simp only; omega, by simp only; omega⟩
  · have a := g.ev v v1 v2 v3
    have pq : (tie s (oe s e0) :: tie s (oe s e1) :: leftL E i j).Perm (leftL E i j ++ [tie s (oe s e0)] ++ [tie s (oe s e1)]) := by
      rw [List.append_assoc]
      exact List.perm_append_comm (l₁ := [tie s (oe s e0), tie s (oe s e1)]) (l₂ := leftL E i j)
    have d1 : degN E v = degN (leftL E i j ++ [tie s (oe s e0)] ++ [tie s (oe s e1)]) v := deg_perm (p.trans pq) v
    rw [deg_snoc, deg_snoc] at d1
    rw [deg_perm sp]
    have t : ∀ a b : Int, (v = (tie a b).1 ∨ v = (tie a b).2) ↔ (v = a ∨ v = b) := fun a b => by
      unfold tie
      simp only
      omega
    simp only [t] at d1
    by_cases c : oe s e0 = oe s e1
    · rw [if_pos c, List.append_nil]
      rw [← c] at d1
      split at d1 <;> omega
    · rw [if_neg c, deg_snoc]
      simp only [t]
      have w0 := u0.2
      have w1 := u1.2
      split at d1 <;> split at d1 <;> split <;> omega
/-- where no least lot bars it, all least numbers stay -/
theorem spl_kept {T : List Int} (g : Good n E T) (nb : ¬ bad n E T s (oe s e0) (oe s e1)) {t : Int} (ht : t ∈ T) : leastN n (splN E i j (oe s e0) (oe s e1)) T t = leastN n E T t := by
  have ne : abL n T t ≠ [] := abL_ne g.td ht
  obtain ⟨X, x1, x2⟩ := List.mem_map.mp (leastI_mem (l := (abL n T t).map (cutZ E)) fun z => ne (List.map_eq_nil_iff.mp z))
  have x2 : cutZ E X = leastN n E T t := x2
  obtain ⟨Y, y1, y2⟩ := List.mem_map.mp (leastI_mem (l := (abL n T t).map (cutZ (splN E i j (oe s e0) (oe s e1)))) fun z => ne (List.map_eq_nil_iff.mp z))
  have y2 : cutZ (splN E i j (oe s e0) (oe s e1)) Y = leastN n (splN E i j (oe s e0) (oe s e1)) T t := y2
  have a : leastN n (splN E i j (oe s e0) (oe s e1)) T t ≤ cutZ (splN E i j (oe s e0) (oe s e1)) X := least_le x1
  have b : leastN n E T t ≤ cutZ E Y := least_le y1
  rw [spl_cut ok hij hx hy h0 h1] at a y2
  have l1 : 0 ≤ less s (oe s e0) (oe s e1) X := by unfold less; split <;> omega
  have p1 := parity g ht x1
  have p2 := parity g ht y1
  by_cases c : less s (oe s e0) (oe s e1) Y = 0
  · omega
  · have c2 : less s (oe s e0) (oe s e1) Y = 2 := by
      unfold less at c ⊢
      split
      · rfl
      · rename_i h
        rw [if_neg h] at c
        exact absurd rfl c
    have : cutZ E Y ≠ leastN n E T t := fun z => nb ⟨Y, by
      unfold less at c2
      have cc : ((decide (s ∈ Y) != decide (oe s e0 ∈ Y)) && (decide (s ∈ Y) != decide (oe s e1 ∈ Y))) = true := by
        apply Classical.byContradiction
        intro w
        rw [if_neg w] at c2
        omega
      by_cases q : s ∈ Y
      · have q1 : oe s e0 ∉ Y := fun w => by simp [q, w] at cc
        have q2 : oe s e1 ∉ Y := fun w => by simp [q, w] at cc
        exact .inr ⟨⟨t, ht, ⟨y1, z⟩, q, q1⟩, q2⟩
      · have q1 : oe s e0 ∈ Y := Classical.byContradiction fun w => by simp [q, w] at cc
        have q2 : oe s e1 ∈ Y := Classical.byContradiction fun w => by simp [q, w] at cc
        exact .inl ⟨⟨t, ht, ⟨y1, z⟩, q1, q⟩, q2⟩⟩
    omega
end
end T73
end
set_option linter.all false
set_option maxRecDepth 100000
set_option maxHeartbeats 1000000
noncomputable section
namespace T73
open PySem PySem.Spec PyProof.Rows L2 Pd Td PM K70
open Nt (NetOk tie cr cut_sum cut_perm cut_cons cut_app cross_tie fold_tie at_st oe dI endsL ends_mem cr_is sum_more leftL left_perm)
theorem sort2 (p q : Int) : sortW ltZ [p, q] = [(tie p q).1, (tie p q).2] := by
  rw [sortW_int, srt2]
  unfold tie
  by_cases h : p ≤ q
  · rw [if_pos h, if_pos h, Int.min_eq_left h, Int.max_eq_right h]
  · rw [if_neg h, if_neg h, Int.min_eq_right (by omega), Int.max_eq_left (by omega)]
theorem tie_ne (p q : Int) : (tie p q).1 = (tie p q).2 ↔ p = q := by
  unfold tie
  simp only
  omega
section
variable {n : Int} {E : List (Int × Int)} (hE : E.length ≤ 100)
include hE
theorem at_nat {i : Nat} {x : Int × Int} (hx : E[i]? = some x) : at_ E (i : Int) = some x := by
  have hi := (List.getElem?_eq_some_iff.mp hx).1
  rw [at_pos (by omega) (by omega), Int.toNat_natCast, hx]
theorem left_eq (i j : Nat) : lcM (enumL E) (fun q => some (!decide (q.1 ∈ [(i : Int), (j : Int)]))) (fun q => some q.2) = some (leftL E i j) := by
  rw [lcM_pp (by rw [enumL_len]; omega)]
  rfl
theorem law_split_eq (s : Int) {i j : Nat} {x y : Int × Int} (hx : E[i]? = some x) (hy : E[j]? = some y) : t_law_split (n, E) s i j = some (n, splN E i j (oe s x) (oe s y)) := by
  have ll := left_len E i j
  have o1 : [x.1, x.2].sum - s = oe s x := by unfold oe; simp
  have o2 : [y.1, y.2].sum - s = oe s y := by unfold oe; simp
  unfold t_law_split
  simp only [o_ret, o_bnd, o_out, o_and, o_or, o_bndS, o_bndB, Td.addI, Td.subI, Td.ltI, Td.gtI, Td.leI', Td.geI, Td.negI, Td.absI, Td.intB, Td.min2, Td.max2, Td.eqV, Td.neV, Td.inV, Td.niV, at_nat hE hx, at_nat hE hy, o1, o2]
  rw [lenOk_of (xs := [oe s x, oe s y]) (Nat.le_of_ble_eq_true rfl)]
  simp only [o_ret, o_bnd, o_out, o_and, o_or, o_bndS, o_bndB, Td.addI, Td.subI, Td.ltI, Td.gtI, Td.leI', Td.geI, Td.negI, Td.absI, Td.intB, Td.min2, Td.max2, Td.eqV, Td.neV, Td.inV, Td.niV, sort2]
  have t : two [(tie (oe s x) (oe s y)).1, (tie (oe s x) (oe s y)).2] = some (tie (oe s x) (oe s y)) := rfl
  rw [t]
  simp only [o_ret, o_bnd, o_out, o_and, o_or, o_bndS, o_bndB, Td.addI, Td.subI, Td.ltI, Td.gtI, Td.leI', Td.geI, Td.negI, Td.absI, Td.intB, Td.min2, Td.max2, Td.eqV, Td.neV, Td.inV, Td.niV]
  rw [left_eq hE, lenOk_of (xs := [((tie (oe s x) (oe s y)).1, (tie (oe s x) (oe s y)).2)]) (Nat.le_of_ble_eq_true rfl)]
  simp only [o_ret, o_bnd, o_out, o_and, o_or, o_bndS, o_bndB, Td.addI, Td.subI, Td.ltI, Td.gtI, Td.leI', Td.geI, Td.negI, Td.absI, Td.intB, Td.min2, Td.max2, Td.eqV, Td.neV, Td.inV, Td.niV]
  by_cases c : oe s x = oe s y
  · rw [decide_eq_true ((tie_ne _ _).mpr c), show (if (!true) = true then (1 : Int) else 0) = 0 from rfl, repL_of (by decide) (by decide) (by simp)]
    simp only [o_ret, o_bnd, o_out, o_and, o_or, o_bndS, o_bndB, Td.addI, Td.subI, Td.ltI, Td.gtI, Td.leI', Td.geI, Td.negI, Td.absI, Td.intB, Td.min2, Td.max2, Td.eqV, Td.neV, Td.inV, Td.niV]
    rw [cat_of (by simp; omega)]
    simp only [o_ret, o_bnd, o_out, o_and, o_or, o_bndS, o_bndB, Td.addI, Td.subI, Td.ltI, Td.gtI, Td.leI', Td.geI, Td.negI, Td.absI, Td.intB, Td.min2, Td.max2, Td.eqV, Td.neV, Td.inV, Td.niV, sortW_link]
    unfold splN
    rw [if_pos c]
    rfl
  · rw [decide_eq_false fun z => c ((tie_ne _ _).mp z), show (if (!false) = true then (1 : Int) else 0) = 1 from rfl, repL_of (by decide) (by decide) (by simp)]
    simp only [o_ret, o_bnd, o_out, o_and, o_or, o_bndS, o_bndB, Td.addI, Td.subI, Td.ltI, Td.gtI, Td.leI', Td.geI, Td.negI, Td.absI, Td.intB, Td.min2, Td.max2, Td.eqV, Td.neV, Td.inV, Td.niV]
    rw [cat_of (by simp; omega)]
    simp only [o_ret, o_bnd, o_out, o_and, o_or, o_bndS, o_bndB, Td.addI, Td.subI, Td.ltI, Td.gtI, Td.leI', Td.geI, Td.negI, Td.absI, Td.intB, Td.min2, Td.max2, Td.eqV, Td.neV, Td.inV, Td.niV, sortW_link]
    unfold splN
    rw [if_neg c]
    rfl
theorem split_net_eq (s : Int) {i j : Nat} {x y : Int × Int} (hx : E[i]? = some x) (hy : E[j]? = some y) : t_split_net (n, E) s i j = some (n, splN E i j (oe s x) (oe s y)) := by
  have ll := left_len E i j
  have o1 : [x.1, x.2].sum - s = oe s x := by unfold oe; simp
  have o2 : [y.1, y.2].sum - s = oe s y := by unfold oe; simp
  have jp : t_joined_pair (n, E) s i j = some [(tie (oe s x) (oe s y)).1, (tie (oe s x) (oe s y)).2] := by
    unfold t_joined_pair
    simp only [o_ret, o_bnd, o_out, o_and, o_or, o_bndS, o_bndB, Td.addI, Td.subI, Td.ltI, Td.gtI, Td.leI', Td.geI, Td.negI, Td.absI, Td.intB, Td.min2, Td.max2, Td.eqV, Td.neV, Td.inV, Td.niV, at_nat hE hx, at_nat hE hy, o1, o2]
    rw [lenOk_of (xs := [oe s x, oe s y]) (Nat.le_of_ble_eq_true rfl)]
    simp only [o_ret, o_bnd, o_out, o_and, o_or, o_bndS, o_bndB, Td.addI, Td.subI, Td.ltI, Td.gtI, Td.leI', Td.geI, Td.negI, Td.absI, Td.intB, Td.min2, Td.max2, Td.eqV, Td.neV, Td.inV, Td.niV, sort2]
  unfold t_split_net
  simp only [o_ret, o_bnd, o_out, o_and, o_or, o_bndS, o_bndB, Td.addI, Td.subI, Td.ltI, Td.gtI, Td.leI', Td.geI, Td.negI, Td.absI, Td.intB, Td.min2, Td.max2, Td.eqV, Td.neV, Td.inV, Td.niV, jp]
  rw [left_eq hE]
  have t : two [(tie (oe s x) (oe s y)).1, (tie (oe s x) (oe s y)).2] = some (tie (oe s x) (oe s y)) := rfl
  rw [t]
  simp only [o_ret, o_bnd, o_out, o_and, o_or, o_bndS, o_bndB, Td.addI, Td.subI, Td.ltI, Td.gtI, Td.leI', Td.geI, Td.negI, Td.absI, Td.intB, Td.min2, Td.max2, Td.eqV, Td.neV, Td.inV, Td.niV]
  by_cases c : oe s x = oe s y
  · rw [decide_eq_true ((tie_ne _ _).mpr c)]
    simp only [Bool.not_true, cnd_f, o_ret, o_bnd, o_out, o_and, o_or, o_bndS, o_bndB, Td.addI, Td.subI, Td.ltI, Td.gtI, Td.leI', Td.geI, Td.negI, Td.absI, Td.intB, Td.min2, Td.max2, Td.eqV, Td.neV, Td.inV, Td.niV, sortW_link]
    unfold splN
    rw [if_pos c, List.append_nil]
  · rw [decide_eq_false fun z => c ((tie_ne _ _).mp z), lenOk_of (xs := [((tie (oe s x) (oe s y)).1, (tie (oe s x) (oe s y)).2)]) (Nat.le_of_ble_eq_true rfl)]
    simp only [Bool.not_false, cnd_t, o_ret, o_bnd, o_out, o_and, o_or, o_bndS, o_bndB, Td.addI, Td.subI, Td.ltI, Td.gtI, Td.leI', Td.geI, Td.negI, Td.absI, Td.intB, Td.min2, Td.max2, Td.eqV, Td.neV, Td.inV, Td.niV]
    rw [cat_of (by simp; omega)]
    simp only [o_ret, o_bnd, o_out, o_and, o_or, o_bndS, o_bndB, Td.addI, Td.subI, Td.ltI, Td.gtI, Td.leI', Td.geI, Td.negI, Td.absI, Td.intB, Td.min2, Td.max2, Td.eqV, Td.neV, Td.inV, Td.niV, sortW_link]
    unfold splN
    rw [if_neg c]
/-- the numbers of a station's links -/
def numS (E : List (Int × Int)) (s : Int) : List Int := ((enumL E).filter fun q => at_st s q.2).map (·.1)
theorem links_at_eq {s : Int} (hs : 0 ≤ s ∧ s < n) : t_links_at (n, E) s = some (numS E s) := by
  have e1 : t_is_station (n, E) s = some true := by
    unfold t_is_station
    have : t_is_number s = some true := by
      unfold t_is_number
      simp only [o_ret, o_bnd, o_out, o_and, o_or, o_bndS, o_bndB, Td.addI, Td.subI, Td.ltI, Td.gtI, Td.leI', Td.geI, Td.negI, Td.absI, Td.intB, Td.min2, Td.max2, Td.eqV, Td.neV, Td.inV, Td.niV]
      have := hs.1
      simp [this]
    simp only [o_ret, o_bnd, o_out, o_and, o_or, o_bndS, o_bndB, Td.addI, Td.subI, Td.ltI, Td.gtI, Td.leI', Td.geI, Td.negI, Td.absI, Td.intB, Td.min2, Td.max2, Td.eqV, Td.neV, Td.inV, Td.niV, this]
    have := hs.2
    simp [this]
  unfold t_links_at
  simp only [o_ret, o_bnd, o_out, o_and, o_or, o_bndS, o_bndB, Td.addI, Td.subI, Td.ltI, Td.gtI, Td.leI', Td.geI, Td.negI, Td.absI, Td.intB, Td.min2, Td.max2, Td.eqV, Td.neV, Td.inV, Td.niV, e1, Bool.not_true, cnd_f]
  rw [lcM_pp (by rw [enumL_len]; omega)]
  rfl
end
end T73
end
set_option linter.all false
set_option maxRecDepth 100000
set_option maxHeartbeats 1000000
noncomputable section
namespace T73
open PySem PySem.Spec PyProof.Rows L2 Pd Td PM K70
open Nt (NetOk tie cr cut_sum cut_perm cut_cons cut_app cross_tie fold_tie at_st oe dI endsL ends_mem cr_is sum_more leftL left_perm)
theorem foldM_catB {β γ : Type} {cb : List β → γ → Option (List β)} {f : γ → List β} {xs : List γ} (b0 : List β) (M : Nat) (h0 : b0.length + 100 * xs.length ≤ M) (hf : ∀ x ∈ xs, (f x).length ≤ 100) (hc : ∀ (b : List β) x, x ∈ xs → b.length ≤ M → cb b x = some (b ++ f x)) : foldM cb xs b0 = some (b0 ++ xs.flatMap f) := by
  have key : ∀ (ys : List γ) (b : List β), (∀ y ∈ ys, y ∈ xs) → b.length + 100 * ys.length ≤ M → foldM cb ys b = some (b ++ ys.flatMap f) := by
    intro ys
    induction ys with
    | nil =>
      intro b _ _
      unfold foldM
      simp
      rfl
    | cons y ys ih =>
      intro b hy hb
      rw [List.length_cons] at hb
      have h1 := hf y (hy y List.mem_cons_self)
      unfold foldM
      rw [hc b y (hy y List.mem_cons_self) (by omega), o_bnd, ih _ (fun z hz => hy z (List.mem_cons_of_mem _ hz)) (by rw [List.length_append]; omega), List.flatMap_cons, List.append_assoc]
  exact key xs b0 (fun _ h => h) h0
section
variable {n : Int} {E : List (Int × Int)} {T : List Int} (g : Good n E T)
include g
def lsS (n : Int) (E : List (Int × Int)) (T : List Int) : List Int := T.map (leastN n E T)
theorem leasts_eq : t_law_leasts (n, E) T = some (lsS n E T) := by
  have tl := g.len
  have el := g.el
  have n1 := g.n1
  unfold t_law_leasts
  simp only [o_ret, o_bnd, o_out, o_and, o_or, o_bndS, o_bndB, Td.addI, Td.subI, Td.ltI, Td.gtI, Td.leI', Td.geI, Td.negI, Td.absI, Td.intB, Td.min2, Td.max2, Td.eqV, Td.neV, Td.inV, Td.niV]
  rw [lcM_all (f := leastN n E T) (by omega) fun t ht => ?_]
  · rfl
  · rw [law_about_eq (by omega) g.n2 (by omega) (by omega) t (abL_ne g.td ht)]
    simp only [o_ret, o_bnd, o_out, o_and, o_or, o_bndS, o_bndB, Td.addI, Td.subI, Td.ltI, Td.gtI, Td.leI', Td.geI, Td.negI, Td.absI, Td.intB, Td.min2, Td.max2, Td.eqV, Td.neV, Td.inV, Td.niV]
theorem all_eq : t_all_least (n, E) T = some (lsS n E T) := by
  have tl := g.len
  have el := g.el
  have n1 := g.n1
  exact all_least_eq (by omega) g.n2 (by omega) (by omega) fun t ht => abL_ne g.td ht
theorem even_true : t_is_even_beside (n, E) T = some true := by
  have el := g.el
  have n1 := g.n1
  rw [even_eq (by omega) g.n2 (by omega)]
  congr 1
  rw [List.all_map, List.all_eq_true]
  intro v hv
  obtain ⟨h1, h2⟩ := List.mem_filter.mp hv
  have := rngL_mem.mp h1
  have := g.ev v this.1 this.2 (by simpa using h2)
  simp only [Function.comp, id, decide_eq_true_eq]
  omega
end
def keepS (n : Int) (E : List (Int × Int)) (T : List Int) (s k l : Int) : Bool := decide (k < l) && decide (lsS n (splN E k l (oe s (E.getD k.toNat (0, 0))) (oe s (E.getD l.toNat (0, 0)))) T = lsS n E T)
def rowK (n : Int) (E : List (Int × Int)) (T : List Int) (s k : Int) : List (Int × Int) := ((numS E s).filter (keepS n E T s k)).map fun l => (k, l)
def dueS (n : Int) (E : List (Int × Int)) (T : List Int) (s : Int) : List (Int × Int) := (numS E s).flatMap (rowK n E T s)
theorem num_mem {E : List (Int × Int)} {s k : Int} : k ∈ numS E s ↔ ∃ (i : Nat) (e : Int × Int), k = (i : Int) ∧ E[i]? = some e ∧ at_st s e = true := by
  unfold numS
  rw [List.mem_map]
  constructor
  · rintro ⟨q, hq, rfl⟩
    obtain ⟨h1, h2⟩ := List.mem_filter.mp hq
    obtain ⟨i, e1, e2⟩ := Nt.enum_mem.mp h1
    exact ⟨i, q.2, e1, e2, h2⟩
  · rintro ⟨i, e, rfl, e2, e3⟩
    exact ⟨((i : Int), e), List.mem_filter.mpr ⟨Nt.enum_mem.mpr ⟨i, rfl, e2⟩, e3⟩, rfl⟩
theorem num_len (E : List (Int × Int)) (s : Int) : (numS E s).length ≤ E.length := by
  unfold numS
  rw [List.length_map]
  have := List.length_filter_le (fun q : Int × Int × Int => at_st s q.2) (enumL E)
  rw [enumL_len] at this
  exact this
theorem getD_of {E : List (Int × Int)} {i : Nat} {e : Int × Int} (h : E[i]? = some e) : E.getD ((i : Int)).toNat (0, 0) = e := by
  rw [Int.toNat_natCast, List.getD_eq_getElem?_getD, h]
  rfl
section
variable {n : Int} {E : List (Int × Int)} {T : List Int} (g : Good n E T) {s : Int} (hs : 0 ≤ s ∧ s < n)
include g
theorem law_keep {k l : Int} (hk : k ∈ numS E s) (hl : l ∈ numS E s) : (andB (some (decide (k < l))) (bnd (t_law_split (n, E) s k l) fun a => bnd (t_law_leasts a T) fun a => some (decide (a = lsS n E T))) : Option Bool) = some (keepS n E T s k l) := by
  have el := g.el
  obtain ⟨i, x, rfl, x1, x2⟩ := num_mem.mp hk
  obtain ⟨j, y, rfl, y1, y2⟩ := num_mem.mp hl
  unfold keepS
  rw [getD_of x1, getD_of y1, law_split_eq (by omega) s x1 y1]
  by_cases c : (i : Int) < (j : Int)
  · rw [decide_eq_true c]
    have gg := spl_good g.ok (by omega) x1 y1 x2 y2 g
    simp only [o_ret, o_bnd, o_out, o_and, o_or, o_bndS, o_bndB, Td.addI, Td.subI, Td.ltI, Td.gtI, Td.leI', Td.geI, Td.negI, Td.absI, Td.intB, Td.min2, Td.max2, Td.eqV, Td.neV, Td.inV, Td.niV, leasts_eq gg]
  · rw [decide_eq_false c]
    rfl
theorem prog_keep {k l : Int} (hk : k ∈ numS E s) (hl : l ∈ numS E s) : (andB (some (decide (k < l))) (bnd (t_split_net (n, E) s k l) fun a => bnd (t_all_least a T) fun a => some (decide (a = lsS n E T))) : Option Bool) = some (keepS n E T s k l) := by
  have el := g.el
  obtain ⟨i, x, rfl, x1, x2⟩ := num_mem.mp hk
  obtain ⟨j, y, rfl, y1, y2⟩ := num_mem.mp hl
  unfold keepS
  rw [getD_of x1, getD_of y1, split_net_eq (by omega) s x1 y1]
  by_cases c : (i : Int) < (j : Int)
  · rw [decide_eq_true c]
    have gg := spl_good g.ok (by omega) x1 y1 x2 y2 g
    simp only [o_ret, o_bnd, o_out, o_and, o_or, o_bndS, o_bndB, Td.addI, Td.subI, Td.ltI, Td.gtI, Td.leI', Td.geI, Td.negI, Td.absI, Td.intB, Td.min2, Td.max2, Td.eqV, Td.neV, Td.inV, Td.niV, all_eq gg]
  · rw [decide_eq_false c]
    rfl
include hs
theorem kept_eq : t_kept_splits (n, E) T s = some (dueS n E T s) := by
  have el := g.el
  have nl := num_len E s
  unfold t_kept_splits
  simp only [o_ret, o_bnd, o_out, o_and, o_or, o_bndS, o_bndB, Td.addI, Td.subI, Td.ltI, Td.gtI, Td.leI', Td.geI, Td.negI, Td.absI, Td.intB, Td.min2, Td.max2, Td.eqV, Td.neV, Td.inV, Td.niV, all_eq g, links_at_eq (show E.length ≤ 100 by omega) hs, lenOk_of (α := Int × Int) (xs := []) (by decide)]
  rw [foldM_catB (f := rowK n E T s) [] 3000 (by simp; omega) (fun k hk => by
    unfold rowK
    rw [List.length_map]
    exact Nat.le_trans (List.length_filter_le _ _) (by omega)) fun b k hk hb => ?_]
  · rfl
  · by_cases hb2 : b.length ≤ 3000
    · rw [foldM_catB (f := fun l => if keepS n E T s k l = true then [(k, l)] else []) b 6000 (by omega) (fun l _ => by split <;> simp) fun b l hl hb => ?_]
      · congr 2
        unfold rowK
        generalize numS E s = L
        induction L with
        | nil => rfl
        | cons l L ih =>
          rw [List.flatMap_cons, ih]
          by_cases c : keepS n E T s k l = true
          · rw [if_pos c, List.filter_cons_of_pos c]
            rfl
          · rw [if_neg c, List.filter_cons_of_neg c]
            rfl
      · rw [prog_keep g hk hl]
        cases c : keepS n E T s k l with
        | true =>
          simp only [o_ret, o_bnd, o_out, o_and, o_or, o_bndS, o_bndB, Td.addI, Td.subI, Td.ltI, Td.gtI, Td.leI', Td.geI, Td.negI, Td.absI, Td.intB, Td.min2, Td.max2, Td.eqV, Td.neV, Td.inV, Td.niV, cnd_t]
          rw [appF_of (by omega)]
          simp only [o_ret, o_bnd, o_out, o_and, o_or, o_bndS, o_bndB, Td.addI, Td.subI, Td.ltI, Td.gtI, Td.leI', Td.geI, Td.negI, Td.absI, Td.intB, Td.min2, Td.max2, Td.eqV, Td.neV, Td.inV, Td.niV, if_true]
        | false =>
          simp only [o_ret, o_bnd, o_out, o_and, o_or, o_bndS, o_bndB, Td.addI, Td.subI, Td.ltI, Td.gtI, Td.leI', Td.geI, Td.negI, Td.absI, Td.intB, Td.min2, Td.max2, Td.eqV, Td.neV, Td.inV, Td.niV, cnd_f]
          simp
    · exact absurd hb hb2
end
end T73
end
set_option linter.all false
set_option maxRecDepth 100000
set_option maxHeartbeats 1000000
noncomputable section
namespace T73
open PySem PySem.Spec PyProof.Rows L2 Pd Td PM K70
open Nt (NetOk tie cr cut_sum cut_perm cut_cons cut_app cross_tie fold_tie at_st oe dI endsL ends_mem cr_is sum_more leftL left_perm)
theorem sh_net {n : Int} {E : List (Int × Int)} (h0 : 0 ≤ n) (h8 : n ≤ 8) (ok : NetOk n E) (hE : E.length ≤ 30) : Sh 3 (2 * (30 * 23 + 1)) (eP2 eInt (eTup (eP2 eInt eInt)) (n, E)) :=
  sh_p2 2 (30 * 23) (sh_small h0 (by omega)) (sh_tup (k := 1) (w := 22) 30 (fun q hq => by
    obtain ⟨a, b, c⟩ := ok q hq
    exact sh_p2 0 10 (sh_small a (by omega)) (sh_small (by omega) (by omega)) (by decide) (by decide)) hE) (by decide) (by decide)
theorem of_tri1 {l : List (Int × Int)} (h : l ≠ []) (hl : l.length ≤ 1000) {P : Int × Int → Prop} (hp : ∀ x ∈ l, P x) : Tri (t_law_of_1 l) P := by
  unfold t_law_of_1
  try simp only [d_bnd, d_out, Td.d_and, Td.d_or, d_bndB, d_bndR, Td.addI, Td.subI, Td.ltI, Td.gtI, Td.leI', Td.geI, Td.negI, Td.absI, Td.intB, Td.min2, Td.max2, Td.eqV, Td.neV, Td.inV, Td.niV]
  exact Tri.at_ h hl hp
theorem bad_sym {n : Int} {E : List (Int × Int)} {T : List Int} {s u v : Int} (h : bad n E T s v u) : bad n E T s u v := by
  obtain ⟨X, ⟨⟨t, ht, a, b, c⟩, d⟩ | ⟨⟨t, ht, a, b, c⟩, d⟩⟩ := h
  · exact ⟨X, .inl ⟨⟨t, ht, a, d, c⟩, b⟩⟩
  · exact ⟨X, .inr ⟨⟨t, ht, a, b, d⟩, c⟩⟩
theorem due_mem {n : Int} {E : List (Int × Int)} {T : List Int} {s : Int} {p : Int × Int} : p ∈ dueS n E T s ↔ p.1 ∈ numS E s ∧ p.2 ∈ numS E s ∧ keepS n E T s p.1 p.2 = true := by
  unfold dueS rowK
  rw [List.mem_flatMap]
  constructor
  · rintro ⟨k, hk, h⟩
    obtain ⟨l, hl, rfl⟩ := List.mem_map.mp h
    obtain ⟨l1, l2⟩ := List.mem_filter.mp hl
    exact ⟨hk, l1, l2⟩
  · rintro ⟨a, b, c⟩
    exact ⟨p.1, a, List.mem_map.mpr ⟨p.2, List.mem_filter.mpr ⟨b, c⟩, rfl⟩⟩
theorem due_has {n : Int} {E : List (Int × Int)} {T : List Int} (g : Good n E T) {s : Int} (hs : 0 ≤ s ∧ s < n) (hT : s ∉ T) {k : Int} (hk : k ∈ numS E s) : ∃ p ∈ dueS n E T s, k ∈ [p.1, p.2] := by
  obtain ⟨i, e0, rfl, x1, x2⟩ := num_mem.mp hk
  obtain ⟨j, e1, ne, y1, y2, nb⟩ := partner g hs hT x1 x2
  have hl : (j : Int) ∈ numS E s := num_mem.mpr ⟨j, e1, rfl, y1, y2⟩
  by_cases c : i < j
  · refine ⟨((i : Int), (j : Int)), due_mem.mpr ⟨hk, hl, ?_⟩, by simp⟩
    unfold keepS
    simp only
    rw [getD_of x1, getD_of y1, decide_eq_true (show (i : Int) < (j : Int) by omega), Bool.true_and, decide_eq_true_eq]
    exact List.map_congr_left fun t ht => spl_kept g.ok (by omega) x1 y1 x2 y2 g nb ht
  · refine ⟨((j : Int), (i : Int)), due_mem.mpr ⟨hl, hk, ?_⟩, by simp⟩
    unfold keepS
    simp only
    rw [getD_of x1, getD_of y1, decide_eq_true (show (j : Int) < (i : Int) by omega), Bool.true_and, decide_eq_true_eq]
    exact List.map_congr_left fun t ht => spl_kept g.ok (by omega) y1 x1 y2 x2 g (fun z => nb (bad_sym z)) ht
theorem ls_srt (n : Int) (L : List (Int × Int)) (T : List Int) : lsS n (srtK L) T = lsS n L T := by
  unfold lsS
  refine List.map_congr_left fun t _ => ?_
  unfold leastN
  congr 1
  refine List.map_congr_left fun l _ => ?_
  exact cut_perm (show (srtK L).Perm L from List.mergeSort_perm _ _) l
def keepD (n : Int) (E : List (Int × Int)) (T : List Int) (s k l : Int) : Bool := decide (k < l) && decide (lsS n (leftL E k l ++ (if oe s (E.getD k.toNat (0, 0)) = oe s (E.getD l.toNat (0, 0)) then [] else [tie (oe s (E.getD k.toNat (0, 0))) (oe s (E.getD l.toNat (0, 0)))])) T = lsS n E T)
theorem keep_d (n : Int) (E : List (Int × Int)) (T : List Int) (s k l : Int) : keepS n E T s k l = keepD n E T s k l := by
  unfold keepS keepD splN
  rw [ls_srt]
theorem due_d (n : Int) (E : List (Int × Int)) (T : List Int) (s : Int) : dueS n E T s = (numS E s).flatMap fun k => ((numS E s).filter (keepD n E T s k)).map fun l => (k, l) := by
  have : ∀ k, keepS n E T s k = keepD n E T s k := fun k => funext fun l => keep_d n E T s k l
  unfold dueS rowK
  simp only [this]
theorem due_len {n : Int} {E : List (Int × Int)} {T : List Int} (s : Int) (hE : E.length ≤ 30) : (dueS n E T s).length ≤ 1000 := by
  have nl := num_len E s
  unfold dueS
  have : ∀ L : List Int, (L.flatMap (rowK n E T s)).length ≤ 30 * L.length := by
    intro L
    induction L with
    | nil => simp
    | cons k L ih =>
      have : (rowK n E T s k).length ≤ 30 := by
        unfold rowK
        rw [List.length_map]
        exact Nat.le_trans (List.length_filter_le _ _) (by omega)
      rw [List.flatMap_cons, List.length_append, List.length_cons]
      omega
  have := this (numS E s)
  omega
theorem law_is : Tri t_law fun r => r = true := by
  unfold t_law
  simp only [d_bnd, d_out, Td.d_and, Td.d_or, d_bndB, d_bndR, Td.addI, Td.subI, Td.ltI, Td.gtI, Td.leI', Td.geI, Td.negI, Td.absI, Td.intB, Td.min2, Td.max2, Td.eqV, Td.neV, Td.inV, Td.niV, rngO_0 (n := 3) (by decide) (by decide)]
  refine Tri.bnd (Tri.foldO0 fun q hq => ?_) fun o e => ?_
  · have hq' := rngL_mem.mp hq
    obtain ⟨m, k, e1, e2, hm, hm2, hk, hk2⟩ : ∃ m k : Int, at_ [4, 5, 6] q = some m ∧ at_ [6, 7, 9] q = some k ∧ 2 ≤ m ∧ m ≤ 7 ∧ 0 ≤ k ∧ k ≤ 20 := by
      have : q = 0 ∨ q = 1 ∨ q = 2 := by omega
      rcases this with rfl | rfl | rfl
      · exact ⟨4, 6, rfl, rfl, by omega, by omega, by omega, by omega⟩
      · exact ⟨5, 7, rfl, rfl, by omega, by omega, by omega, by omega⟩
      · exact ⟨6, 9, rfl, rfl, by omega, by omega, by omega, by omega⟩
    rw [lenOk_of (xs := [(4 : Int), 5, 6]) (by decide), lenOk_of (xs := [(6 : Int), 7, 9]) (by decide)]
    simp only [d_bnd, d_out, Td.d_and, Td.d_or, d_bndB, d_bndR, Td.addI, Td.subI, Td.ltI, Td.gtI, Td.leI', Td.geI, Td.negI, Td.absI, Td.intB, Td.min2, Td.max2, Td.eqV, Td.neV, Td.inV, Td.niV, e1, e2]
    refine Tri.bnd (net_tri m k hm hm2 hk hk2) fun r g => ?_
    obtain ⟨⟨n, E⟩, T⟩ := r
    simp only at g
    have n1 := g.n1
    have n2 := g.n2
    have el := g.el
    have tl := g.len
    obtain ⟨s0, hs0⟩ : ∃ s, reprO (eL2 (eP2 eInt (eTup (eP2 eInt eInt))) (eTup eInt)) ((n, E), T) = some s := shown (k := 4) (w := 2 * (2 * (30 * 23 + 1) + 1)) (sh_l2 3 (2 * (30 * 23 + 1)) (sh_net (by omega) n2 g.ok el) (sh_tup (k := 0) (w := 10) 8 (fun x hx => by
      have := g.td.at_ x hx
      exact sh_small this.1 (by omega)) tl) (by decide) (by decide)) (by decide) (by decide)
    simp only [d_bnd, d_out, Td.d_and, Td.d_or, d_bndB, d_bndR, Td.addI, Td.subI, Td.ltI, Td.gtI, Td.leI', Td.geI, Td.negI, Td.absI, Td.intB, Td.min2, Td.max2, Td.eqV, Td.neV, Td.inV, Td.niV, hs0, leasts_eq g]
    rw [rngO_0 (n := n) (by omega) (by omega)]
    simp only [d_bnd, d_out, Td.d_and, Td.d_or, d_bndB, d_bndR, Td.addI, Td.subI, Td.ltI, Td.gtI, Td.leI', Td.geI, Td.negI, Td.absI, Td.intB, Td.min2, Td.max2, Td.eqV, Td.neV, Td.inV, Td.niV]
    rw [d_lcM_p (by rw [rngL_len]; omega)]
    simp only [d_bnd, d_out, Td.d_and, Td.d_or, d_bndB, d_bndR, Td.addI, Td.subI, Td.ltI, Td.gtI, Td.leI', Td.geI, Td.negI, Td.absI, Td.intB, Td.min2, Td.max2, Td.eqV, Td.neV, Td.inV, Td.niV]
    refine Tri.bnd (Tri.foldO0 fun s hs => ?_) fun o e => ?_
    · obtain ⟨hs1, hs2⟩ := List.mem_filter.mp hs
      have hs1 := rngL_mem.mp hs1
      have hT : s ∉ T := by simpa using hs2
      have nl := num_len E s
      have dl := due_len (n := n) (T := T) s el
      rw [d_lcM_pp (by rw [enumL_len]; omega)]
      have e3 : ((enumL E).filter fun q8 => decide (s ∈ [q8.2.1, q8.2.2])).map (fun q8 => q8.1) = numS E s := rfl
      rw [e3, lenOk_of (α := Int × Int) (xs := []) (by decide)]
      simp only [d_bnd, d_out, Td.d_and, Td.d_or, d_bndB, d_bndR, Td.addI, Td.subI, Td.ltI, Td.gtI, Td.leI', Td.geI, Td.negI, Td.absI, Td.intB, Td.min2, Td.max2, Td.eqV, Td.neV, Td.inV, Td.niV]
      rw [Nt.d_foldM_cat (f := rowK n E T s) (by omega) (fun k hk => by
        unfold rowK
        rw [List.length_map]
        exact Nat.le_trans (List.length_filter_le _ _) (by omega)) fun b k hk hb => ?_]
      · have e4 : (numS E s).flatMap (rowK n E T s) = dueS n E T s := rfl
        obtain ⟨s1, hs1'⟩ : ∃ s', reprO (eTup (eP2 eInt eInt)) (dueS n E T s) = some s' := shown (k := 2) (w := 1000 * 23) (sh_tup (k := 1) (w := 22) 1000 (fun p hp => by
          obtain ⟨a, b, _⟩ := due_mem.mp hp
          obtain ⟨i, x, h1, h2, _⟩ := num_mem.mp a
          obtain ⟨j, y, h3, h4, _⟩ := num_mem.mp b
          have i1 := (List.getElem?_eq_some_iff.mp h2).1
          have j1 := (List.getElem?_eq_some_iff.mp h4).1
          obtain ⟨p1, p2⟩ := p
          simp only at h1 h3
          exact sh_p2 0 10 (sh_small (by omega) (by omega)) (sh_small (by omega) (by omega)) (by decide) (by decide)) dl) (by decide) (by decide)
        rw [e4]
        simp only [d_bnd, d_out, Td.d_and, Td.d_or, d_bndB, d_bndR, Td.addI, Td.subI, Td.ltI, Td.gtI, Td.leI', Td.geI, Td.negI, Td.absI, Td.intB, Td.min2, Td.max2, Td.eqV, Td.neV, Td.inV, Td.niV, kept_eq g hs1, hs1', d_ne_self]
        rw [d_lcM (p := fun _ => false) (f := fun k => k) (by omega) (fun k hk => ?_) (fun _ _ h => by cases h)]
        · have e5 : ((numS E s).filter fun _ => false).map (fun k => k) = [] := by simp
          rw [e5, lenOk_of (α := Int) (xs := []) (by decide)]
          simp only [d_bnd, d_out, Td.d_and, Td.d_or, d_bndB, d_bndR, Td.addI, Td.subI, Td.ltI, Td.gtI, Td.leI', Td.geI, Td.negI, Td.absI, Td.intB, Td.min2, Td.max2, Td.eqV, Td.neV, Td.inV, Td.niV, d_ne_self]
          by_cases c : dueS n E T s = []
          · rw [c]
            exact Tri.ret rfl
          · rw [decide_eq_false c]
            simp only [Bool.not_false, cnd_t]
            refine Tri.bnd (of_tri1 c dl fun p hp => hp) fun p hp => ?_
            obtain ⟨a, b, kp⟩ := due_mem.mp hp
            obtain ⟨i, x, h1, h2, h3⟩ := num_mem.mp a
            obtain ⟨j, y, h4, h5, h6⟩ := num_mem.mp b
            rw [h1, h4] at kp ⊢
            unfold keepS at kp
            rw [getD_of h2, getD_of h5, Bool.and_eq_true, decide_eq_true_eq, decide_eq_true_eq] at kp
            have gg := spl_good g.ok (show i ≠ j by omega) h2 h5 h3 h6 g
            obtain ⟨s2, hs2'⟩ := shown (sh_net (show 0 ≤ n by omega) n2 gg.ok gg.el) (by decide) (by decide)
            rw [split_net_eq (show E.length ≤ 100 by omega) s h2 h5, law_split_eq (show E.length ≤ 100 by omega) s h2 h5]
            simp only [d_bnd, d_out, Td.d_and, Td.d_or, d_bndB, d_bndR, Td.addI, Td.subI, Td.ltI, Td.gtI, Td.leI', Td.geI, Td.negI, Td.absI, Td.intB, Td.min2, Td.max2, Td.eqV, Td.neV, Td.inV, Td.niV, hs2', even_true gg]
            rw [show (!decide True || !decide True) = false by decide, cnd_f, d_lcM_all (f := leastN n (splN E i j (oe s x) (oe s y)) T) (by omega) fun t ht => by
              rw [least_eq (show 0 ≤ n by omega) n2 (show (splN E i j (oe s x) (oe s y)).length ≤ 1000 by have := gg.el; omega) (show T.length ≤ 1000 by omega) t (abL_ne g.td ht)]
              rfl]
            simp only [d_bnd, d_out, Td.d_and, Td.d_or, d_bndB, d_bndR, Td.addI, Td.subI, Td.ltI, Td.gtI, Td.leI', Td.geI, Td.negI, Td.absI, Td.intB, Td.min2, Td.max2, Td.eqV, Td.neV, Td.inV, Td.niV]
            have e6 : T.map (leastN n (splN E i j (oe s x) (oe s y)) T) = lsS n E T := kp.2
            rw [e6]
            simp only [d_ne_self]
            exact Tri.ret rfl
        · rw [d_lcM_p (by omega)]
          simp only [d_bnd, d_out, Td.d_and, Td.d_or, d_bndB, d_bndR, Td.addI, Td.subI, Td.ltI, Td.gtI, Td.leI', Td.geI, Td.negI, Td.absI, Td.intB, Td.min2, Td.max2, Td.eqV, Td.neV, Td.inV, Td.niV]
          obtain ⟨p, p1, p2⟩ := due_has g hs1 hT hk
          have : (dueS n E T s).filter (fun q15 => decide (k ∈ [q15.1, q15.2])) ≠ [] := List.ne_nil_of_mem (List.mem_filter.mpr ⟨p1, decide_eq_true p2⟩)
          rw [decide_eq_false this]
      · rw [d_lcM (p := keepS n E T s k) (f := fun l => (k, l)) (by omega) (fun l hl => ?_) fun _ _ _ => rfl]
        · simp only [d_bnd, d_out, Td.d_and, Td.d_or, d_bndB, d_bndR, Td.addI, Td.subI, Td.ltI, Td.gtI, Td.leI', Td.geI, Td.negI, Td.absI, Td.intB, Td.min2, Td.max2, Td.eqV, Td.neV, Td.inV, Td.niV]
          rw [cat_of (by
            rw [List.length_map]
            have := List.length_filter_le (keepS n E T s k) (numS E s)
            omega)]
          rfl
        · have q := law_keep g hk hl
          obtain ⟨i, x, rfl, x1, x2⟩ := num_mem.mp hk
          obtain ⟨j, y, rfl, y1, y2⟩ := num_mem.mp hl
          unfold keepS
          rw [getD_of x1, getD_of y1, law_split_eq (by omega) s x1 y1]
          by_cases c : (i : Int) < (j : Int)
          · rw [decide_eq_true c]
            have gg := spl_good g.ok (by omega) x1 y1 x2 y2 g
            simp only [d_bnd, d_out, Td.d_and, Td.d_or, d_bndB, d_bndR, Td.addI, Td.subI, Td.ltI, Td.gtI, Td.leI', Td.geI, Td.negI, Td.absI, Td.intB, Td.min2, Td.max2, Td.eqV, Td.neV, Td.inV, Td.niV, leasts_eq gg]
          · rw [decide_eq_false c]
            rfl
    · subst e
      simp only [outK_nx, hs0, d_bnd, d_out, Td.d_and, Td.d_or, d_bndB, d_bndR, Td.addI, Td.subI, Td.ltI, Td.gtI, Td.leI', Td.geI, Td.negI, Td.absI, Td.intB, Td.min2, Td.max2, Td.eqV, Td.neV, Td.inV, Td.niV, d_ne_self]
      exact Tri.ret rfl
  · subst e
    simp only [outK_nx]
    rw [lenOk_of (xs := [((0 : Int), (3 : Int)), (0, 3), (1, 3), (2, 3)]) (by decide), lenOk_of (xs := [(0 : Int), 1, 2]) (by decide), lenOk_of (xs := [((0 : Int), (2 : Int)), (0, 3), (1, 2), (1, 3)]) (by decide)]
    simp only [d_bnd, d_out, Td.d_and, Td.d_or, d_bndB, d_bndR, Td.addI, Td.subI, Td.ltI, Td.gtI, Td.leI', Td.geI, Td.negI, Td.absI, Td.intB, Td.min2, Td.max2, Td.eqV, Td.neV, Td.inV, Td.niV]
    have g : Good 4 [(0, 3), (0, 3), (1, 3), (2, 3)] [0, 1, 2] := ⟨by decide, by decide, by unfold NetOk; decide, by decide, ⟨by decide, by decide⟩, by decide, by decide, fun v h1 h2 h3 => by
      have : v = 3 := by
        simp only [List.mem_cons, List.mem_nil_iff, or_false, not_or] at h3
        omega
      subst this
      decide⟩
    rw [kept_eq g (s := 3) (by decide), due_d]
    simp only [d_bnd, d_out, Td.d_and, Td.d_or, d_bndB, d_bndR, Td.addI, Td.subI, Td.ltI, Td.gtI, Td.leI', Td.geI, Td.negI, Td.absI, Td.intB, Td.min2, Td.max2, Td.eqV, Td.neV, Td.inV, Td.niV]
    refine Tri.ret ?_
    decide +kernel
theorem whole : PySem.Challenge.rw_waysandcuts_k73_whole_split_off_kept.Holds := K73.closes (law_good law_is)
end T73
end
theorem PySem.Challenge.cw_waysandcuts_k73_whole_split_off_kept_holds : PySem.Challenge.rw_waysandcuts_k73_whole_split_off_kept.Holds := by
  exact K73.closes (T73.law_good T73.law_is)
