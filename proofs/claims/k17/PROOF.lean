import PyProof.Rows.All
import Wide.All
import OpenK.AllK
import Wide.FinOn
import HandS.ForMost
import HandS.Deep
import HandS.Star
import HandS.SortRule
import HandS.TupLe
import HandS.Defaults
import HandS.TupAny
import HandS.TupMul
import HandS.TupLen
import HandS.Conv
import HandS.More
import HandS.IsInst
import HandS.ExcValue
import HandS.Iter
import HandS.Zip
import HandS.TryOnly
import HandS.Style
import KE.GoesMore
import KE.GoesEnum
import KE.DataEq
import KE.DataCmp
import KE.DataMinMax
import KE.DataAny
import KE.DataFind
import KE.DataIsa
import KE.SortData
import KE.SortKeyHeap
import HandS.Text
import KE.SortCalls
import HandS.Codes
import HandS.Ends
import HandS.HeadEnd
import HandS.Head0
import HandS.Head1
import HandS.Head2
import HandS.HeadHook1
import HandS.HeadHook2
import KE.Datum
import HandS.SetFor
import HandS.DictComp
import KE.GoesEnumKw
import HandS.SortKw
import KE.KDictPairs
import HandS.SetBool
import HandS.Strs
import KE.DatumOrd
import PySem.Challenge.RW_waysandcuts_k17_whole_cuts_and_holds
set_option Elab.async false
section
set_option linter.all false
set_option maxRecDepth 100000
namespace Pd
open PySem PySem.Spec PyProof.Rows L2

def kD : Key → PyData
  | .inl i => .int i
  | .inr x => .str x
def tD (k : List Key) : PyData := .tuple (k.map kD)

mutual
inductive Rp (F : Hp) : V → PyData → Prop
  | non : Rp F .non .none
  | bl (b : Bool) : Rp F (.bl b) (.bool b)
  | int (i : Int) : Rp F (.int i) (.int i)
  | str (x : Str) : Rp F (.str x) (.str x)
  | lst {a : Addr} {xs : List V} {ds : List PyData} : F a = some (.lst xs) → RpL F xs ds → Rp F (.ref a) (.list ds)
  | tup {a : Addr} {xs : List V} {ds : List PyData} : F a = some (.tup xs) → RpL F xs ds → Rp F (.ref a) (.tuple ds)
  | dK {a : Addr} {ps : List (Key × V)} {kvs : List (PyData × PyData)} : F a = some (.dK ps) → RpK F ps kvs → Rp F (.ref a) (.dict kvs)
  | dT {a : Addr} {ps : List (List Key × V)} {kvs : List (PyData × PyData)} : F a = some (.dT ps) → RpT F ps kvs → Rp F (.ref a) (.dict kvs)
inductive RpL (F : Hp) : List V → List PyData → Prop
  | nil : RpL F [] []
  | cons {v : V} {vs : List V} {d : PyData} {ds : List PyData} : Rp F v d → RpL F vs ds → RpL F (v :: vs) (d :: ds)
inductive RpK (F : Hp) : List (Key × V) → List (PyData × PyData) → Prop
  | nil : RpK F [] []
  | cons {k : Key} {v : V} {ps : List (Key × V)} {d : PyData} {kvs : List (PyData × PyData)} : Rp F v d → RpK F ps kvs → RpK F ((k, v) :: ps) ((kD k, d) :: kvs)
inductive RpT (F : Hp) : List (List Key × V) → List (PyData × PyData) → Prop
  | nil : RpT F [] []
  | cons {k : List Key} {v : V} {ps : List (List Key × V)} {d : PyData} {kvs : List (PyData × PyData)} : Rp F v d → RpT F ps kvs → RpT F ((k, v) :: ps) ((tD k, d) :: kvs)
end

/-- one heap within another -/
def Sub (F H : Hp) : Prop := ∀ a o, F a = some o → H a = some o
theorem Sub.refl (F : Hp) : Sub F F := fun _ _ h => h
theorem Sub.trans {F G H : Hp} (a : Sub F G) (b : Sub G H) : Sub F H := fun x o h => b x o (a x o h)
theorem Sub.new {H : Hp} {p : Addr} {o : HO} (h : H p = none) : Sub H (upd H p o) := fun a u e => by
  rw [upd_ne (ne_of_none e h)]
  exact e
/-- both grow by the same -/
theorem Sub.both {F H : Hp} {p : Addr} {o : HO} (s : Sub F H) : Sub (upd F p o) (upd H p o) := fun a u e => by
  by_cases h : a = p
  · subst h
    rw [upd_same] at e ⊢
    exact e
  · rw [upd_ne h] at e ⊢
    exact s a u e
theorem Sub.to {F H : Hp} {p : Addr} {o : HO} (s : Sub F H) (h : H p = some o) : Sub (upd F p o) H := fun a u e => by
  by_cases q : a = p
  · subst q
    rw [upd_same] at e
    rw [h]
    exact e
  · rw [upd_ne q] at e
    exact s a u e
/-- what F does not hold may change -/
theorem Sub.off {F H : Hp} {p : Addr} {o : HO} (s : Sub F H) (h : F p = none) : Sub F (upd H p o) := fun a u e => by
  rw [upd_ne (ne_of_none e h)]
  exact s a u e
theorem Sub.none_of {F H : Hp} {a : Addr} (s : Sub F H) (h : H a = none) : F a = none := by
  cases q : F a with
  | none => rfl
  | some o =>
    rw [s a o q] at h
    cases h

mutual
theorem Rp.mono {F G : Hp} (s : Sub F G) : ∀ {d : PyData} {v : V}, Rp F v d → Rp G v d
  | .none, _, h => by
    cases h
    exact .non
  | .bool _, _, h => by
    cases h
    exact .bl _
  | .int _, _, h => by
    cases h
    exact .int _
  | .str _, _, h => by
    cases h
    exact .str _
  | .list _, _, h => by
    cases h with
    | lst e r => exact .lst (s _ _ e) (RpL.mono s r)
  | .tuple _, _, h => by
    cases h with
    | tup e r => exact .tup (s _ _ e) (RpL.mono s r)
  | .dict _, _, h => by
    cases h with
    | dK e r => exact .dK (s _ _ e) (RpK.mono s r)
    | dT e r => exact .dT (s _ _ e) (RpT.mono s r)
theorem RpL.mono {F G : Hp} (s : Sub F G) : ∀ {ds : List PyData} {vs : List V}, RpL F vs ds → RpL G vs ds
  | [], _, h => by
    cases h
    exact .nil
  | _ :: _, _, h => by
    cases h with
    | cons a b => exact .cons (Rp.mono s a) (RpL.mono s b)
theorem RpK.mono {F G : Hp} (s : Sub F G) : ∀ {ds : List (PyData × PyData)} {vs : List (Key × V)}, RpK F vs ds → RpK G vs ds
  | [], _, h => by
    cases h
    exact .nil
  | (_, _) :: _, _, h => by
    cases h with
    | cons a b => exact .cons (Rp.mono s a) (RpK.mono s b)
theorem RpT.mono {F G : Hp} (s : Sub F G) : ∀ {ds : List (PyData × PyData)} {vs : List (List Key × V)}, RpT F vs ds → RpT G vs ds
  | [], _, h => by
    cases h
    exact .nil
  | (_, _) :: _, _, h => by
    cases h with
    | cons a b => exact .cons (Rp.mono s a) (RpT.mono s b)
end

theorem RpL.length {F : Hp} : ∀ {vs : List V} {ds : List PyData}, RpL F vs ds → vs.length = ds.length
  | [], _, h => by
    cases h
    rfl
  | _ :: _, _, h => by
    cases h with
    | cons _ b => exact congrArg Nat.succ (RpL.length b)
theorem RpL.get {F : Hp} : ∀ {vs : List V} {ds : List PyData} {i : Nat} {d : PyData}, RpL F vs ds → ds[i]? = some d → ∃ v, vs[i]? = some v ∧ Rp F v d
  | _, _, 0, _, .cons a _, e => by
    cases e
    exact ⟨_, rfl, a⟩
  | _, _, i + 1, _, .cons _ b, e => by
    obtain ⟨v, h1, h2⟩ := RpL.get (i := i) b (by simpa using e)
    exact ⟨v, by simpa using h1, h2⟩
  | _, _, _, _, .nil, e => by simp at e
theorem RpL.of_get {F : Hp} : ∀ {vs : List V} {ds : List PyData} {i : Nat} {v : V}, RpL F vs ds → vs[i]? = some v → ∃ d, ds[i]? = some d ∧ Rp F v d
  | _, _, 0, _, .cons a _, e => by
    cases e
    exact ⟨_, rfl, a⟩
  | _, _, i + 1, _, .cons _ b, e => by
    obtain ⟨v, h1, h2⟩ := RpL.of_get (i := i) b (by simpa using e)
    exact ⟨v, by simpa using h1, h2⟩
  | _, _, _, _, .nil, e => by simp at e
theorem RpL.append {F : Hp} : ∀ {vs ws : List V} {ds es : List PyData}, RpL F vs ds → RpL F ws es → RpL F (vs ++ ws) (ds ++ es)
  | _, _, _, _, .nil, h => h
  | _, _, _, _, .cons a b, h => .cons a (RpL.append b h)
theorem RpL.take {F : Hp} : ∀ {vs : List V} {ds : List PyData} (n : Nat), RpL F vs ds → RpL F (vs.take n) (ds.take n)
  | _, _, 0, _ => .nil
  | _, _, _ + 1, .nil => .nil
  | _, _, n + 1, .cons a b => .cons a (RpL.take n b)
theorem RpL.drop {F : Hp} : ∀ {vs : List V} {ds : List PyData} (n : Nat), RpL F vs ds → RpL F (vs.drop n) (ds.drop n)
  | _, _, 0, h => h
  | _, _, _ + 1, .nil => .nil
  | _, _, n + 1, .cons _ b => RpL.drop n b
theorem RpL.set {F : Hp} {v : V} {d : PyData} (r : Rp F v d) : ∀ {vs : List V} {ds : List PyData} (i : Nat), RpL F vs ds → RpL F (vs.set i v) (ds.set i d)
  | _, _, _, .nil => .nil
  | _, _, 0, .cons _ b => .cons r b
  | _, _, i + 1, .cons a b => .cons a (RpL.set r i b)
theorem RpL.erase {F : Hp} : ∀ {vs : List V} {ds : List PyData} (i : Nat), RpL F vs ds → RpL F (vs.eraseIdx i) (ds.eraseIdx i)
  | _, _, _, .nil => .nil
  | _, _, 0, .cons _ b => b
  | _, _, i + 1, .cons a b => .cons a (RpL.erase i b)
theorem RpL.reverse {F : Hp} : ∀ {vs : List V} {ds : List PyData}, RpL F vs ds → RpL F vs.reverse ds.reverse
  | _, _, .nil => .nil
  | _, _, .cons a b => by
    rw [List.reverse_cons, List.reverse_cons]
    exact (RpL.reverse b).append (.cons a .nil)
theorem RpL.dropLast {F : Hp} {vs : List V} {ds : List PyData} (h : RpL F vs ds) : RpL F vs.dropLast ds.dropLast := by
  rw [List.dropLast_eq_take, List.dropLast_eq_take, h.length]
  exact h.take _
theorem RpL.rep {F : Hp} {vs : List V} {ds : List PyData} (h : RpL F vs ds) : ∀ k : Nat, RpL F (List.replicate k vs).flatten (List.replicate k ds).flatten
  | 0 => .nil
  | k + 1 => by
    rw [List.replicate_succ, List.replicate_succ, List.flatten_cons, List.flatten_cons]
    exact h.append (RpL.rep h k)
theorem RpL.snoc {F : Hp} {vs : List V} {ds : List PyData} {v : V} {d : PyData} (h : RpL F vs ds) (r : Rp F v d) : RpL F (vs ++ [v]) (ds ++ [d]) := h.append (.cons r .nil)

/-- an object as data -/
inductive OR (F : Hp) : HO → PyData → Prop
  | lst {xs : List V} {ds : List PyData} : RpL F xs ds → OR F (.lst xs) (.list ds)
  | dK {ps : List (Key × V)} {kvs : List (PyData × PyData)} : RpK F ps kvs → OR F (.dK ps) (.dict kvs)
  | dT {ps : List (List Key × V)} {kvs : List (PyData × PyData)} : RpT F ps kvs → OR F (.dT ps) (.dict kvs)
theorem OR.mono {F G : Hp} (s : Sub F G) {o : HO} {d : PyData} : OR F o d → OR G o d
  | .lst r => .lst (r.mono s)
  | .dK r => .dK (r.mono s)
  | .dT r => .dT (r.mono s)
/-- frozen -/
theorem OR.frz {F : Hp} {o : HO} {d : PyData} {a : Addr} (h : OR F o d) (n : F a = none) : Rp (upd F a o) (.ref a) d := by
  have s : Sub F (upd F a o) := Sub.new n
  cases h with
  | lst r => exact .lst upd_same (r.mono s)
  | dK r => exact .dK upd_same (r.mono s)
  | dT r => exact .dT upd_same (r.mono s)
theorem Rp.obj {F : Hp} {a : Addr} {d : PyData} (h : Rp F (.ref a) d) : (∃ ds, d = .tuple ds) ∨ ∃ o, F a = some o ∧ OR F o d := by
  cases h with
  | lst e r => exact .inr ⟨_, e, .lst r⟩
  | tup e r => exact .inl ⟨_, rfl⟩
  | dK e r => exact .inr ⟨_, e, .dK r⟩
  | dT e r => exact .inr ⟨_, e, .dT r⟩

structure Src where
  cells : List Int
  left : Int
  mixed : Int
  turn : Int
abbrev Sa := Addr × Addr
def SrcR (H : Hp) (sa : Sa) (s : Src) : Prop :=
  H sa.1 = some (.dK [(.inr (Str.ofString "cells"), .ref sa.2), (.inr (Str.ofString "left"), .int s.left), (.inr (Str.ofString "mixed"), .int s.mixed), (.inr (Str.ofString "turn"), .int s.turn)]) ∧
  H sa.2 = some (.lst (s.cells.map V.int))
theorem SrcR.ne {H : Hp} {sa : Sa} {s : Src} (h : SrcR H sa s) : sa.1 ≠ sa.2 := ne_of h.1 h.2 (fun e => nomatch e)

/-- a name's place: nothing, a value (never changed any more), a list or dict that this name alone holds, the source, the source's cells, the script -/
inductive Slot where
  | no | v (d : PyData) | o (d : PyData) | src | cel | scr (ns : List Int)
structure S where
  ss : List Slot
  src : Option Src

structure SR (K : PySem.W.Frag) (sa : Sa) (B F H : Hp) (σ : L2.St) (st : S) : Prop where
  bh : Sub B H
  fh : Sub F H
  len : σ.length = st.ss.length
  sl : ∀ (i : Nat) (d : PyData), st.ss[i]? = some (.v d) → ∃ v, σ[i]? = some (some v) ∧ Rp F v d
  so : ∀ (i : Nat) (d : PyData), st.ss[i]? = some (.o d) → ∃ a o, σ[i]? = some (some (.ref a)) ∧ H a = some o ∧ OR F o d ∧ B a = none ∧ F a = none ∧ (st.src.isSome = true → a ≠ sa.1 ∧ a ≠ sa.2)
  ap : ∀ (i j : Nat) (d e : PyData) (a : Addr), i ≠ j → st.ss[i]? = some (.o d) → st.ss[j]? = some (.o e) → σ[i]? = some (some (.ref a)) → σ[j]? = some (some (.ref a)) → False
  sx : ∀ i : Nat, st.ss[i]? = some .src → st.src.isSome = true ∧ σ[i]? = some (some (.ref sa.1))
  sc : ∀ (i : Nat) (ns : List Int), st.ss[i]? = some (.scr ns) → ∃ a, σ[i]? = some (some (.ref a)) ∧ SqL K F a (ns.map V.int)
  sr : ∀ s : Src, st.src = some s → SrcR H sa s ∧ B sa.1 = none ∧ B sa.2 = none ∧ F sa.1 = none ∧ F sa.2 = none
  sy : ∀ i : Nat, st.ss[i]? = some .cel → st.src.isSome = true ∧ σ[i]? = some (some (.ref sa.2))

/-- not frozen, or but a tuple -/
def NoT (F : Hp) (a : Addr) : Prop := F a = none ∨ ∃ xs, F a = some (.tup xs)
theorem NoT.none {F H : Hp} {a : Addr} {o : HO} (h : NoT F a) (s : Sub F H) (e : H a = some o) (n : ∀ xs, o ≠ .tup xs) : F a = none := by
  rcases h with h | ⟨xs, h⟩
  · exact h
  · have := s _ _ h
    rw [e] at this
    exact absurd (Option.some.inj this) (n xs)
theorem OR.noT {F : Hp} {o : HO} {d : PyData} (h : OR F o d) : ∀ xs, o ≠ .tup xs := fun xs e => by
  subst e
  cases h
/-- F grows, but not within B, but for tuples -/
structure FX (B F F' : Hp) : Prop where
  le : Sub F F'
  out : ∀ a, F a = none → B a ≠ none → NoT F' a
theorem FX.refl {B F : Hp} : FX B F F := ⟨Sub.refl F, fun _ h _ => .inl h⟩
theorem FX.trans {B F G H : Hp} (a : FX B F G) (b : FX B G H) : FX B F H := ⟨a.le.trans b.le, fun x h n => by
  rcases a.out x h n with z | ⟨xs, z⟩
  · exact b.out x z n
  · exact .inr ⟨xs, b.le _ _ z⟩⟩
theorem FX.weak {B C F F' : Hp} (s : Sub B C) (h : FX C F F') : FX B F F' := ⟨h.le, fun a n m => h.out a n fun z => m (by
  cases q : B a with
  | none => rfl
  | some o =>
    rw [s a o q] at z
    cases z)⟩
theorem FX.new {B F H : Hp} {p : Addr} {o : HO} (bh : Sub B H) (h : H p = none) (fh : Sub F H) : FX B F (upd F p o) :=
  ⟨Sub.new (fh.none_of h), fun a n m => by
    by_cases e : a = p
    · subst e
      exact absurd (bh.none_of h) m
    · exact .inl (by rw [upd_ne e]; exact n)⟩
theorem FX.own {B F : Hp} {p : Addr} {o : HO} (b : B p = none) (f : F p = none) : FX B F (upd F p o) :=
  ⟨Sub.new f, fun a n m => by
    by_cases e : a = p
    · subst e
      exact absurd b m
    · exact .inl (by rw [upd_ne e]; exact n)⟩

inductive R (α : Type) where
  | ok (a : α) (s : S)
  | bad
/-- what the source's address may do between two states -/
def SaK (st : S) (sa sa' : Sa) : Prop := st.src.isSome = true → sa' = sa
/-- a result as a value: data, a new object of one's own, the source -/
def RRep (sa : Sa) (B F H : Hp) (σ : L2.St) (st : S) (v : V) : Slot → Prop
  | .v d => Rp F v d
  | .o d => ∃ a o, v = .ref a ∧ H a = some o ∧ OR F o d ∧ B a = none ∧ F a = none ∧ (st.src.isSome = true → a ≠ sa.1 ∧ a ≠ sa.2) ∧ ∀ (i : Nat) (e : PyData), st.ss[i]? = some (.o e) → σ[i]? ≠ some (some (.ref a))
  | .src => st.src.isSome = true ∧ v = .ref sa.1
  | .cel => st.src.isSome = true ∧ v = .ref sa.2
  | .no => False
  | .scr _ => False

/-- from a state to a later one -/
structure Rch (K : PySem.W.Frag) (B : Hp) (σ : L2.St) (sa : Sa) (F : Hp) (st : S) (sa' : Sa) (F' H' : Hp) (st' : S) : Prop where
  r : SR K sa' B F' H' σ st'
  x : FX B F F'
  k : SaK st sa sa'
  s : st.src.isSome = true → st'.src.isSome = true
theorem Rch.refl {K : PySem.W.Frag} {B : Hp} {σ : L2.St} {sa : Sa} {F H : Hp} {st : S} (h : SR K sa B F H σ st) : Rch K B σ sa F st sa F H st := ⟨h, FX.refl, fun _ => rfl, fun z => z⟩
theorem Rch.trans {K : PySem.W.Frag} {B : Hp} {σ σ' : L2.St} {sa sa1 sa2 : Sa} {F F1 F2 H1 H2 : Hp} {st st1 st2 : S} (a : Rch K B σ sa F st sa1 F1 H1 st1) (b : Rch K B σ' sa1 F1 st1 sa2 F2 H2 st2) : Rch K B σ' sa F st sa2 F2 H2 st2 :=
  ⟨b.r, a.x.trans b.x, fun z => (b.k (a.s z)).trans (a.k z), fun z => b.s (a.s z)⟩
/-- the reading of an expression -/
def tM (K : PySem.W.Frag) (m : S → R Slot) : TE := fun σ H Q => ∃ sa B F st r st', SR K sa B F H σ st ∧ m st = .ok r st' ∧
  ∀ sa' F' H' v, Rch K B σ sa F st sa' F' H' st' → RRep sa' B F' H' σ st' v r → Q v H'

/-- an operand: data anywhere, a new object, a name's own object -/
inductive Opd where
  | v (d : PyData) | t (d : PyData) | s (i : Nat) (d : PyData)
def Opd.d : Opd → PyData
  | .v d => d | .t d => d | .s _ d => d
def PRep (sa : Sa) (B F H : Hp) (σ : L2.St) (st : S) (v : V) : Opd → Prop
  | .v d => RRep sa B F H σ st v (.v d)
  | .t d => RRep sa B F H σ st v (.o d)
  | .s i d => st.ss[i]? = some (.o d) ∧ σ[i]? = some (some v)
def tP (K : PySem.W.Frag) (m : S → R Opd) : TE := fun σ H Q => ∃ sa B F st r st', SR K sa B F H σ st ∧ m st = .ok r st' ∧
  ∀ sa' F' H' v, Rch K B σ sa F st sa' F' H' st' → PRep sa' B F' H' σ st' v r → Q v H'

/-- what may be read at v -/
def RdD (F H : Hp) (v : V) (d : PyData) : Prop := Rp F v d ∨ ∃ a o, v = .ref a ∧ H a = some o ∧ OR F o d
theorem PRep.rd {K : PySem.W.Frag} {sa : Sa} {B F H : Hp} {σ : L2.St} {st : S} {v : V} {r : Opd} (h : SR K sa B F H σ st) (p : PRep sa B F H σ st v r) : RdD F H v r.d := by
  cases r with
  | v d => exact .inl p
  | t d =>
    obtain ⟨a, o, e, h1, h2, _⟩ := p
    exact .inr ⟨a, o, e, h1, h2⟩
  | s i d =>
    obtain ⟨a, o, e, h1, h2, _⟩ := h.so i d p.1
    have q := p.2
    rw [e] at q
    exact .inr ⟨a, o, (Option.some.inj (Option.some.inj q)).symm, h1, h2⟩
theorem RdD.mono {F F' H H' : Hp} {v : V} {d : PyData} (s : Sub F F') (k : Sub H H') (h : RdD F H v d) : RdD F' H' v d := by
  rcases h with h | ⟨a, o, e, h1, h2⟩
  · exact .inl (h.mono s)
  · exact .inr ⟨a, o, e, k _ _ h1, h2.mono s⟩
theorem RdD.tup {F H : Hp} {v : V} {ds : List PyData} (s : Sub F H) (h : RdD F H v (.tuple ds)) : ∃ a xs, v = .ref a ∧ F a = some (.tup xs) ∧ RpL F xs ds := by
  rcases h with h | ⟨a, o, e, h1, h2⟩
  · cases h with
    | tup e r => exact ⟨_, _, rfl, e, r⟩
  · cases h2
theorem RdD.lst {F H : Hp} {v : V} {ds : List PyData} (s : Sub F H) (h : RdD F H v (.list ds)) : ∃ a xs, v = .ref a ∧ H a = some (.lst xs) ∧ RpL F xs ds := by
  rcases h with h | ⟨a, o, e, h1, h2⟩
  · cases h with
    | lst e r => exact ⟨_, _, rfl, s _ _ e, r⟩
  · cases h2 with
    | lst r => exact ⟨_, _, e, h1, r⟩
theorem RdD.int {F H : Hp} {v : V} {i : Int} (h : RdD F H v (.int i)) : v = .int i := by
  rcases h with h | ⟨a, o, e, h1, h2⟩
  · cases h
    rfl
  · cases h2
theorem RdD.bl {F H : Hp} {v : V} {i : Bool} (h : RdD F H v (.bool i)) : v = .bl i := by
  rcases h with h | ⟨a, o, e, h1, h2⟩
  · cases h
    rfl
  · cases h2
theorem RdD.str {F H : Hp} {v : V} {i : Str} (h : RdD F H v (.str i)) : v = .str i := by
  rcases h with h | ⟨a, o, e, h1, h2⟩
  · cases h
    rfl
  · cases h2
theorem RdD.non {F H : Hp} {v : V} (h : RdD F H v .none) : v = .non := by
  rcases h with h | ⟨a, o, e, h1, h2⟩
  · cases h
    rfl
  · cases h2

/-- a tracked object that no place of the state holds is protected -/
theorem SR.prot {K : PySem.W.Frag} {sa : Sa} {B F H : Hp} {σ : L2.St} {st : S} {p : Addr} {o : HO} (h : SR K sa B F H σ st) (hp : H p = some o) (hb : B p = none)
    (hs : st.src.isSome = true → p ≠ sa.1 ∧ p ≠ sa.2) (hn : ∀ (i : Nat) (e : PyData), st.ss[i]? = some (.o e) → σ[i]? ≠ some (some (.ref p))) : SR K sa (upd B p o) F H σ st where
  bh := h.bh.to hp
  fh := h.fh
  len := h.len
  sl := h.sl
  so := fun i d e => by
    obtain ⟨a, u, e1, e2, e3, e4, e5, e6⟩ := h.so i d e
    have ne : a ≠ p := fun z => hn i d e (by rw [← z]; exact e1)
    exact ⟨a, u, e1, e2, e3, by rw [upd_ne ne]; exact e4, e5, e6⟩
  ap := h.ap
  sx := h.sx
  sy := h.sy
  sc := h.sc
  sr := fun s e => by
    obtain ⟨e1, e2, e3, e4, e5⟩ := h.sr s e
    obtain ⟨n1, n2⟩ := hs (by rw [e]; rfl)
    exact ⟨e1, by rw [upd_ne (Ne.symm n1)]; exact e2, by rw [upd_ne (Ne.symm n2)]; exact e3, e4, e5⟩
/-- fewer protected -/
theorem SR.less {K : PySem.W.Frag} {sa : Sa} {B C F H : Hp} {σ : L2.St} {st : S} (s : Sub B C) (h : SR K sa C F H σ st) : SR K sa B F H σ st where
  bh := s.trans h.bh
  fh := h.fh
  len := h.len
  sl := h.sl
  so := fun i d e => by
    obtain ⟨a, u, e1, e2, e3, e4, e5, e6⟩ := h.so i d e
    exact ⟨a, u, e1, e2, e3, s.none_of e4, e5, e6⟩
  ap := h.ap
  sx := h.sx
  sy := h.sy
  sc := h.sc
  sr := fun x e => by
    obtain ⟨e1, e2, e3, e4, e5⟩ := h.sr x e
    exact ⟨e1, s.none_of e2, s.none_of e3, e4, e5⟩
theorem sqL_mono {K : PySem.W.Frag} {F G : Hp} {a : Addr} {xs : List V} (s : Sub F G) (h : SqL K F a xs) : SqL K G a xs := by
  rcases h with (z | ⟨u, z⟩) | z
  · exact .inl (.inl (s _ _ z))
  · exact .inl (.inr ⟨u, s _ _ z⟩)
  · exact .inr z
theorem SrcR.off {H : Hp} {sa : Sa} {s : Src} {p : Addr} {o : HO} (h : SrcR H sa s) (h1 : sa.1 ≠ p) (h2 : sa.2 ≠ p) : SrcR (upd H p o) sa s :=
  ⟨by rw [upd_ne h1]; exact h.1, by rw [upd_ne h2]; exact h.2⟩
theorem SrcR.at1 {H : Hp} {sa : Sa} {s : Src} (h : SrcR H sa s) : H sa.1 ≠ none := fun z => by
  rw [h.1] at z
  cases z
theorem SrcR.at2 {H : Hp} {sa : Sa} {s : Src} (h : SrcR H sa s) : H sa.2 ≠ none := fun z => by
  rw [h.2] at z
  cases z
/-- a new object -/
theorem SR.alloc {K : PySem.W.Frag} {sa : Sa} {B F H : Hp} {σ : L2.St} {st : S} {p : Addr} {o : HO} (h : SR K sa B F H σ st) (hp : H p = none) : SR K sa B F (upd H p o) σ st where
  bh := h.bh.trans (Sub.new hp)
  fh := h.fh.trans (Sub.new hp)
  len := h.len
  sl := h.sl
  so := fun i d e => by
    obtain ⟨a, u, e1, e2, e3, e4, e5, e6⟩ := h.so i d e
    exact ⟨a, u, e1, by rw [upd_ne (ne_of_none e2 hp)]; exact e2, e3, e4, e5, e6⟩
  ap := h.ap
  sx := h.sx
  sy := h.sy
  sc := h.sc
  sr := fun x e => by
    obtain ⟨e1, e2, e3, e4, e5⟩ := h.sr x e
    exact ⟨e1.off (fun z => e1.at1 (by rw [z]; exact hp)) (fun z => e1.at2 (by rw [z]; exact hp)), e2, e3, e4, e5⟩
/-- an object that nobody else holds is frozen -/
theorem SR.freeze {K : PySem.W.Frag} {sa : Sa} {B F H : Hp} {σ : L2.St} {st : S} {p : Addr} {o : HO} (h : SR K sa B F H σ st) (hp : H p = some o) (hf : F p = none)
    (hs : st.src.isSome = true → p ≠ sa.1 ∧ p ≠ sa.2) (hn : ∀ (i : Nat) (e : PyData), st.ss[i]? = some (.o e) → σ[i]? ≠ some (some (.ref p))) : SR K sa B (upd F p o) H σ st where
  bh := h.bh
  fh := h.fh.to hp
  len := h.len
  sl := fun i d e => by
    obtain ⟨v, e1, e2⟩ := h.sl i d e
    exact ⟨v, e1, e2.mono (Sub.new hf)⟩
  so := fun i d e => by
    obtain ⟨a, u, e1, e2, e3, e4, e5, e6⟩ := h.so i d e
    have ne : a ≠ p := fun z => hn i d e (by rw [← z]; exact e1)
    exact ⟨a, u, e1, e2, e3.mono (Sub.new hf), e4, by rw [upd_ne ne]; exact e5, e6⟩
  ap := h.ap
  sx := h.sx
  sy := h.sy
  sc := fun i ns e => by
    obtain ⟨a, e1, e2⟩ := h.sc i ns e
    exact ⟨a, e1, sqL_mono (Sub.new hf) e2⟩
  sr := fun x e => by
    obtain ⟨e1, e2, e3, e4, e5⟩ := h.sr x e
    obtain ⟨n1, n2⟩ := hs (by rw [e]; rfl)
    exact ⟨e1, e2, e3, by rw [upd_ne (Ne.symm n1)]; exact e4, by rw [upd_ne (Ne.symm n2)]; exact e5⟩
theorem SR.news {K : PySem.W.Frag} {sa : Sa} {B F H : Hp} {σ : L2.St} {st : S} (h : SR K sa B F H σ st) {p : Addr} (hp : H p = none) :
    (st.src.isSome = true → p ≠ sa.1 ∧ p ≠ sa.2) ∧ ∀ (i : Nat) (e : PyData), st.ss[i]? = some (.o e) → σ[i]? ≠ some (some (.ref p)) := by
  refine ⟨fun z => ?_, fun i e q z => ?_⟩
  · obtain ⟨s, hs⟩ := Option.isSome_iff_exists.mp z
    obtain ⟨e1, _⟩ := h.sr s hs
    exact ⟨fun q => e1.at1 (by rw [← q]; exact hp), fun q => e1.at2 (by rw [← q]; exact hp)⟩
  · obtain ⟨a, u, e1, e2, _⟩ := h.so i e q
    rw [z] at e1
    cases e1
    rw [hp] at e2
    cases e2
end Pd
end
section
set_option linter.all false
set_option maxRecDepth 100000
namespace Pd
open PySem PySem.Spec PyProof.Rows L2

section
variable {X : Cx} {e : Expr} {es : List Expr} {st : Stmt} {sts : List Stmt}
theorem imE {t t' : TE} (h : PE X e t) (i : ∀ σ H Q, t' σ H Q → t σ H Q) : PE X e t' := ⟨fun pins s σ H Q I q => h.run pins s σ H Q I (i σ H Q q)⟩
theorem imT {t t' : TT} (h : PT X e t) (i : ∀ σ H Q, t' σ H Q → t σ H Q) : PT X e t' := ⟨fun pins s σ H Q I q => h.run pins s σ H Q I (i σ H Q q)⟩
theorem imA {t t' : TA} (h : PA X es t) (i : ∀ σ H Q, t' σ H Q → t σ H Q) : PA X es t' := ⟨fun pos pins s σ H Q I q => h.run pos pins s σ H Q I (i σ H Q q)⟩
theorem imS {t t' : TS} (h : PS X st t) (i : ∀ D σ H, t' D σ H → t D σ H) : PS X st t' := ⟨fun pins s σ H D I q => h.run pins s σ H D I (i D σ H q)⟩
theorem imB {t t' : TS} (h : PSs X sts t) (i : ∀ D σ H, t' D σ H → t D σ H) : PSs X sts t' := ⟨fun pins s σ H D I q => h.run pins s σ H D I (i D σ H q)⟩
end

inductive Out (F H : Hp) : Slot → V → Hp → Hp → Prop
  | v {d : PyData} {v : V} : Rp F v d → Out F H (.v d) v F H
  | t {ds : List PyData} {xs : List V} {p : Addr} : RpL F xs ds → H p = none → Out F H (.v (.tuple ds)) (.ref p) (upd F p (.tup xs)) (upd H p (.tup xs))
  | o {d : PyData} {o : HO} {p : Addr} : OR F o d → H p = none → Out F H (.o d) (.ref p) F (upd H p o)
section
variable {K : PySem.W.Frag} {B : Hp} {σ : L2.St} {sa sa1 : Sa} {F F1 F' H H1 H' : Hp} {st st1 : S} {r : Slot} {v : V}
theorem Rch.out (h : Rch K B σ sa F st sa1 F1 H1 st1) (o : Out F1 H1 r v F' H') : Rch K B σ sa F st sa1 F' H' st1 ∧ RRep sa1 B F' H' σ st1 v r := by
  cases o with
  | v q => exact ⟨h, q⟩
  | @t ds xs p q hp =>
    obtain ⟨n1, n2⟩ := h.r.news hp
    have hf := h.r.fh.none_of hp
    exact ⟨⟨(h.r.alloc hp).freeze upd_same hf n1 n2, h.x.trans (FX.new h.r.bh hp h.r.fh), h.k, h.s⟩, .tup upd_same (q.mono (Sub.new hf))⟩
  | @o d o p q hp =>
    obtain ⟨n1, n2⟩ := h.r.news hp
    exact ⟨⟨h.r.alloc hp, h.x, h.k, h.s⟩, p, o, rfl, upd_same, q, h.r.bh.none_of hp, h.r.fh.none_of hp, n1, n2⟩
/-- the place i is frozen -/
theorem SR.frzAt {i : Nat} {d : PyData} (h : SR K sa B F H σ st) (e : st.ss[i]? = some (.o d)) : ∃ a o, σ[i]? = some (some (.ref a)) ∧ Rp (upd F a o) (.ref a) d ∧ FX B F (upd F a o) ∧ SR K sa B (upd F a o) H σ { st with ss := st.ss.set i (.v d) } := by
  obtain ⟨a, o, e1, e2, e3, e4, e5, e6⟩ := h.so i d e
  have hi : i < st.ss.length := (List.getElem?_eq_some_iff.mp e).1
  have hne : ∀ (j : Nat) (x : Slot), (st.ss.set i (.v d))[j]? = some x → (j = i ∧ x = .v d) ∨ (j ≠ i ∧ st.ss[j]? = some x) := fun j x q => by
    by_cases hj : i = j
    · subst hj
      rw [List.getElem?_set_self hi] at q
      exact .inl ⟨rfl, (Option.some.inj q).symm⟩
    · rw [List.getElem?_set_ne hj] at q
      exact .inr ⟨Ne.symm hj, q⟩
  have no : ∀ (j : Nat) (x : PyData), (st.ss.set i (.v d))[j]? = some (.o x) → j ≠ i ∧ st.ss[j]? = some (.o x) := fun j x q => by
    rcases hne j _ q with ⟨_, z⟩ | z
    · cases z
    · exact z
  refine ⟨a, o, e1, e3.frz e5, FX.own e4 e5, ?_⟩
  have h' : SR K sa B F H σ { st with ss := st.ss.set i .no } := by
    have hn' : ∀ (j : Nat) (x : Slot), x ≠ .no → (st.ss.set i .no)[j]? = some x → st.ss[j]? = some x := fun j x hx q => by
      by_cases hj : i = j
      · subst hj
        rw [List.getElem?_set_self hi] at q
        exact absurd (Option.some.inj q).symm hx
      · rwa [List.getElem?_set_ne hj] at q
    exact ⟨h.bh, h.fh, by rw [h.len]; simp, fun j x q => h.sl j x (hn' j _ (fun z => nomatch z) q), fun j x q => h.so j x (hn' j _ (fun z => nomatch z) q),
      fun j k x y b n q1 q2 => h.ap j k x y b n (hn' j _ (fun z => nomatch z) q1) (hn' k _ (fun z => nomatch z) q2), fun j q => h.sx j (hn' j _ (fun z => nomatch z) q), fun j ns q => h.sc j ns (hn' j _ (fun z => nomatch z) q), h.sr, fun j q => h.sy j (hn' j _ (fun z => nomatch z) q)⟩
  have h2 := h'.freeze (p := a) e2 e5 e6 fun j x q z => by
    by_cases hj : i = j
    · subst hj
      have q' : (st.ss.set i .no)[i]? = some (.o x) := q
      rw [List.getElem?_set_self hi] at q'
      cases q'
    · have q' : (st.ss.set i .no)[j]? = some (.o x) := q
      rw [List.getElem?_set_ne hj] at q'
      exact h.ap i j d x a hj e q' e1 z
  have keep : ∀ (j : Nat) (x : Slot), j ≠ i → st.ss[j]? = some x → (st.ss.set i .no)[j]? = some x := fun j x n q => by
    rw [List.getElem?_set_ne (Ne.symm n)]
    exact q
  refine ⟨h2.bh, h2.fh, by rw [h.len]; simp, fun j x q => ?_, fun j x q => ?_, fun j k x y b n q1 q2 => ?_, fun j q => ?_, fun j ns q => ?_, h2.sr, fun j q => ?_⟩
  · rcases hne j _ q with ⟨e7, z⟩ | ⟨n, z⟩
    · cases z
      subst e7
      exact ⟨.ref a, e1, e3.frz e5⟩
    · exact h2.sl j x (keep j _ n z)
  · obtain ⟨n, z⟩ := no j x q
    exact h2.so j x (keep j _ n z)
  · obtain ⟨n1, z1⟩ := no j x q1
    obtain ⟨n2, z2⟩ := no k y q2
    exact h2.ap j k x y b n (keep j _ n1 z1) (keep k _ n2 z2)
  · rcases hne j _ q with ⟨_, z⟩ | ⟨n, z⟩
    · cases z
    · exact h2.sx j (keep j _ n z)
  · rcases hne j _ q with ⟨_, z⟩ | ⟨n, z⟩
    · cases z
    · exact h2.sc j ns (keep j _ n z)
  · rcases hne j _ q with ⟨_, z⟩ | ⟨n, z⟩
    · cases z
    · exact h2.sy j (keep j _ n z)
end

def mC (d : PyData) : S → R Slot := fun st => .ok (.v d) st
def mVar (i : Nat) : S → R Slot := fun st => match st.ss[i]? with
  | some (.v d) => .ok (.v d) st
  | some (.o d) => .ok (.v d) { st with ss := st.ss.set i (.v d) }
  | some .src => .ok .src st
  | some .cel => .ok .cel st
  | _ => .bad
def mPk (i : Nat) : S → R Opd := fun st => match st.ss[i]? with
  | some (.v d) => .ok (.v d) st
  | some (.o d) => .ok (.s i d) st
  | _ => .bad
def mO (m : S → R Slot) : S → R Opd := fun st => match m st with
  | .ok (.v d) st' => .ok (.v d) st'
  | .ok (.o d) st' => .ok (.t d) st'
  | _ => .bad
section
variable {K : PySem.W.Frag} {X : Cx} {e : Expr} {m : S → R Slot}
theorem d_c {v : V} {d : PyData} (h : PE X e (tC v)) (r : ∀ F, Rp F v d) : PE X e (tM K (mC d)) := imE h fun σ H Q ⟨sa, B, F, st, r', st', h0, h1, k⟩ => by
  cases h1
  exact k sa F H v (.refl h0) (r F)
theorem d_int {i : Int} {j pos} : PE X (.Constant (.int i) j pos) (tM K (mC (.int i))) := d_c pe_int fun _ => .int i
theorem d_str {i : Str} {j pos} : PE X (.Constant (.str i) j pos) (tM K (mC (.str i))) := d_c pe_str fun _ => .str i
theorem d_bl {i : Bool} {j pos} : PE X (.Constant (.bool i) j pos) (tM K (mC (.bool i))) := d_c pe_bl fun _ => .bl i
theorem d_non {j pos} : PE X (.Constant .none j pos) (tM K (mC .none)) := d_c pe_non fun _ => .non
theorem d_var {i : Nat} (h : PE X e (tVar i)) : PE X e (tM K (mVar i)) := imE h fun σ H Q ⟨sa, B, F, st, r', st', h0, h1, k⟩ => by
  unfold mVar at h1
  cases q : st.ss[i]? with
  | none =>
    rw [q] at h1
    cases h1
  | some x =>
    rw [q] at h1
    cases x with
    | v d =>
      cases h1
      obtain ⟨v, e1, e2⟩ := h0.sl i d q
      exact ⟨v, e1, k sa F H v (.refl h0) e2⟩
    | o d =>
      cases h1
      obtain ⟨a, o, e1, e2, e3, e4⟩ := h0.frzAt q
      exact ⟨.ref a, e1, k sa _ H _ ⟨e4, e3, fun _ => rfl, fun z => z⟩ e2⟩
    | src =>
      cases h1
      obtain ⟨e1, e2⟩ := h0.sx i q
      exact ⟨_, e2, k sa F H _ (.refl h0) ⟨e1, rfl⟩⟩
    | cel =>
      cases h1
      obtain ⟨e1, e2⟩ := h0.sy i q
      exact ⟨_, e2, k sa F H _ (.refl h0) ⟨e1, rfl⟩⟩
    | no => cases h1
    | scr _ => cases h1
theorem p_var {i : Nat} (h : PE X e (tVar i)) : PE X e (tP K (mPk i)) := imE h fun σ H Q ⟨sa, B, F, st, r', st', h0, h1, k⟩ => by
  unfold mPk at h1
  cases q : st.ss[i]? with
  | none =>
    rw [q] at h1
    cases h1
  | some x =>
    rw [q] at h1
    cases x with
    | v d =>
      cases h1
      obtain ⟨v, e1, e2⟩ := h0.sl i d q
      exact ⟨v, e1, k sa F H v (.refl h0) e2⟩
    | o d =>
      cases h1
      obtain ⟨a, o, e1, _⟩ := h0.so i d q
      exact ⟨.ref a, e1, k sa F H _ (.refl h0) ⟨q, e1⟩⟩
    | src => cases h1
    | cel => cases h1
    | no => cases h1
    | scr _ => cases h1
theorem p_of (h : PE X e (tM K m)) : PE X e (tP K (mO m)) := imE h fun σ H Q ⟨sa, B, F, st, r', st', h0, h1, k⟩ => by
  unfold mO at h1
  cases q : m st with
  | bad =>
    rw [q] at h1
    cases h1
  | ok r st1 =>
    rw [q] at h1
    cases r with
    | v d =>
      cases h1
      exact ⟨sa, B, F, st, _, _, h0, q, fun sa' F' H' v a b => k sa' F' H' v a b⟩
    | o d =>
      cases h1
      exact ⟨sa, B, F, st, _, _, h0, q, fun sa' F' H' v a b => k sa' F' H' v a b⟩
    | no => cases h1
    | src => cases h1
    | cel => cases h1
    | scr _ => cases h1
end

def m1 (g : PyData → Option Slot) (m : S → R Opd) : S → R Slot := fun st => match m st with
  | .ok x st1 => match g x.d with
    | some r => .ok r st1
    | none => .bad
  | .bad => .bad
/-- a name's own object is as it was read -/
def still : Opd → S → Prop
  | .s i d, st => st.ss[i]? = some (.o d) ∨ st.ss[i]? = some (.v d)
  | _, _ => True
open Classical in
noncomputable def m2 (g : PyData → PyData → Option Slot) (m m' : S → R Opd) : S → R Slot := fun st => match m st with
  | .ok x st1 => match m' st1 with
    | .ok y st2 => if still x st2 then (match g x.d y.d with
      | some r => .ok r st2
      | none => .bad) else .bad
    | .bad => .bad
  | .bad => .bad
/-- what an operation is worth: g at the data -/
def Ad1 (g : PyData → Option Slot) (r : V → Hp → VK → Prop) : Prop := ∀ (F H : Hp) (x : V) (dx : PyData) (s : Slot) (Q : VK), Sub F H → RdD F H x dx → g dx = some s → (∀ v F' H', Out F H s v F' H' → Q v H') → r x H Q
def Ad2 (g : PyData → PyData → Option Slot) (r : R2) : Prop := ∀ (F H : Hp) (x y : V) (dx dy : PyData) (s : Slot) (Q : VK), Sub F H → RdD F H x dx → RdD F H y dy → g dx dy = some s → (∀ v F' H', Out F H s v F' H' → Q v H') → r x y H Q
section
variable {K : PySem.W.Frag} {B : Hp} {σ : L2.St} {sa : Sa} {F H : Hp} {st : S}
theorem Ad1.or {g : PyData → Option Slot} {r r' : V → Hp → VK → Prop} {p : PyData → Bool} (a : Ad1 (fun d => if p d then g d else none) r) (b : Ad1 (fun d => if p d then none else g d) r') : Ad1 g fun x H Q => r x H Q ∨ r' x H Q :=
  fun F H x dx s Q sb rx e k => by
    cases h : p dx with
    | true => exact .inl (a F H x dx s Q sb rx (by simp only [h, if_true]; exact e) k)
    | false => exact .inr (b F H x dx s Q sb rx (by simp only [h]; exact e) k)
/-- two operands in a row -/
theorem tP_two (h0 : SR K sa B F H σ st) {m m' : S → R Opd} {x y : Opd} {st1 st2 : S} (e1 : m st = .ok x st1) (e2 : m' st1 = .ok y st2) (hs : still x st2) {RR : V → V → Hp → Prop}
    (k : ∀ sa2 F2 H2 v w, Rch K B σ sa F st sa2 F2 H2 st2 → RdD F2 H2 v x.d → RdD F2 H2 w y.d → RR v w H2) : tP K m σ H fun v H1 => tP K m' σ H1 fun w H2 => RR v w H2 := by
  refine ⟨sa, B, F, st, x, st1, h0, e1, fun sa1 F1 H1 v R1 p1 => ?_⟩
  cases x with
  | v d => exact ⟨sa1, B, F1, st1, y, st2, R1.r, e2, fun sa2 F2 H2 w R2 p2 => k sa2 F2 H2 v w (R1.trans R2) (.inl (Rp.mono R2.x.le p1)) (p2.rd R2.r)⟩
  | t d =>
    obtain ⟨a, o, rfl, h1, h2, h3, h4, h5, h6⟩ := p1
    have sb : Sub B (upd B a o) := Sub.new h3
    refine ⟨sa1, upd B a o, F1, st1, y, st2, R1.r.prot h1 h3 h5 h6, e2, fun sa2 F2 H2 w R2 p2 => ?_⟩
    exact k sa2 F2 H2 (.ref a) w (R1.trans ⟨R2.r.less sb, R2.x.weak sb, R2.k, R2.s⟩) (.inr ⟨a, o, rfl, R2.r.bh _ _ upd_same, h2.mono R2.x.le⟩) (p2.rd R2.r)
  | s i d =>
    refine ⟨sa1, B, F1, st1, y, st2, R1.r, e2, fun sa2 F2 H2 w R2 p2 => ?_⟩
    have q := p1.2
    rcases hs with hs | hs
    · obtain ⟨a, o, q1, q2, q3, _⟩ := R2.r.so i d hs
      rw [q1] at q
      have q' : V.ref a = v := Option.some.inj (Option.some.inj q)
      exact k sa2 F2 H2 v w (R1.trans R2) (.inr ⟨a, o, q'.symm, q2, q3⟩) (p2.rd R2.r)
    · obtain ⟨u, q1, q2⟩ := R2.r.sl i d hs
      rw [q1] at q
      have q' : u = v := Option.some.inj (Option.some.inj q)
      rw [q'] at q2
      exact k sa2 F2 H2 v w (R1.trans R2) (.inl q2) (p2.rd R2.r)
end
section
variable {K : PySem.W.Frag} {X : Cx} {e : Expr} {m m' : S → R Opd}
theorem r_1 {g : PyData → Option Slot} {r : V → Hp → VK → Prop} (ad : Ad1 g r) : ∀ σ H Q, tM K (m1 g m) σ H Q → tP K m σ H fun x H1 => r x H1 Q := fun σ H Q ⟨sa, B, F, st, r', st', h0, h1, k⟩ => by
  unfold m1 at h1
  cases q : m st with
  | bad =>
    rw [q] at h1
    cases h1
  | ok x st1 =>
    rw [q] at h1
    cases q2 : g x.d with
    | none =>
      simp only [q2] at h1
      cases h1
    | some s =>
      simp only [q2] at h1
      cases h1
      refine ⟨sa, B, F, st, x, _, h0, q, fun sa1 F1 H1 v R1 p1 => ad F1 H1 v x.d _ Q R1.r.fh (p1.rd R1.r) q2 fun w F' H' o => ?_⟩
      obtain ⟨a, b⟩ := R1.out o
      exact k sa1 F' H' w a b
theorem r_2 {g : PyData → PyData → Option Slot} {r : R2} (ad : Ad2 g r) : ∀ σ H Q, tM K (m2 g m m') σ H Q → tOp r (tP K m) (tP K m') σ H Q := fun σ H Q ⟨sa, B, F, st, r', st', h0, h1, k⟩ => by
  unfold m2 at h1
  cases q : m st with
  | bad =>
    rw [q] at h1
    cases h1
  | ok x st1 =>
    rw [q] at h1
    cases q2 : m' st1 with
    | bad =>
      simp only [q2] at h1
      cases h1
    | ok y st2 =>
      simp only [q2] at h1
      by_cases hs : still x st2
      · rw [if_pos hs] at h1
        cases q3 : g x.d y.d with
        | none =>
          simp only [q3] at h1
          cases h1
        | some s =>
          simp only [q3] at h1
          cases h1
          refine tP_two h0 q q2 hs fun sa2 F2 H2 v w R p1 p2 => ad F2 H2 v w _ _ _ Q R.r.fh p1 p2 q3 fun u F' H' o => ?_
          obtain ⟨a, b⟩ := R.out o
          exact k sa2 F' H' u a b
      · rw [if_neg hs] at h1
        cases h1
end
end Pd
end
section
set_option linter.all false
set_option maxRecDepth 100000
namespace Pd
open PySem PySem.Spec PyProof.Rows L2

def tMT (K : PySem.W.Frag) (m : S → R Bool) : TT := fun σ H Q => ∃ sa B F st b st', SR K sa B F H σ st ∧ m st = .ok b st' ∧ ∀ sa' F' H', Rch K B σ sa F st sa' F' H' st' → Q b H'
def mB (m : S → R Slot) : S → R Bool := fun st => match m st with
  | .ok (.v (.bool b)) st' => .ok b st'
  | _ => .bad
def mAnd (m m' : S → R Bool) : S → R Bool := fun st => match m st with
  | .ok true st1 => m' st1
  | .ok false st1 => .ok false st1
  | .bad => .bad
def mOr (m m' : S → R Bool) : S → R Bool := fun st => match m st with
  | .ok true st1 => .ok true st1
  | .ok false st1 => m' st1
  | .bad => .bad
def mNot (m : S → R Bool) : S → R Bool := fun st => match m st with
  | .ok b st1 => .ok (!b) st1
  | .bad => .bad
def mIf (c : S → R Bool) (m m' : S → R Slot) : S → R Slot := fun st => match c st with
  | .ok true st1 => m st1
  | .ok false st1 => m' st1
  | .bad => .bad
/-- and, or as values, the first ones bools -/
def mAndV (m m' : S → R Slot) : S → R Slot := fun st => match m st with
  | .ok (.v (.bool true)) st1 => m' st1
  | .ok (.v (.bool false)) st1 => .ok (.v (.bool false)) st1
  | _ => .bad
def mOrV (m m' : S → R Slot) : S → R Slot := fun st => match m st with
  | .ok (.v (.bool false)) st1 => m' st1
  | .ok (.v (.bool true)) st1 => .ok (.v (.bool true)) st1
  | _ => .bad
section
variable {K : PySem.W.Frag} {X : Cx} {e a b : Expr} {es : List Expr} {m m' : S → R Slot} {c c' : S → R Bool} {pos : Pos}
theorem r_B {t : TE} (h : ∀ σ H Q, tM K m σ H Q → t σ H Q) : ∀ σ H Q, tMT K (mB m) σ H Q → t σ H fun x H1 => ∃ k, x = .bl k ∧ Q k H1 := fun σ H Q ⟨sa, B, F, st, b', st', h0, h1, k⟩ => by
  unfold mB at h1
  cases q : m st with
  | bad =>
    rw [q] at h1
    cases h1
  | ok r st1 =>
    rw [q] at h1
    cases r with
    | v d =>
      cases d with
      | bool b =>
        cases h1
        exact h σ H _ ⟨sa, B, F, st, _, _, h0, q, fun sa' F' H' v R r => by
          cases (show Rp F' v (.bool b') from r)
          exact ⟨_, rfl, k sa' F' H' R⟩⟩
      | _ => cases h1
    | _ => cases h1
theorem t_val (h : PE X e (tM K m)) (he : ∀ whole, isTrue e X.env whole = (do let v ← whole; standAt e.pos; holding [v] (truthy v)) := by intro _; rfl) : PT X e (tMT K (mB m)) :=
  imT (pt_val h he) (r_B fun _ _ _ q => q)
theorem r_and : ∀ σ H Q, tMT K (mAnd c c') σ H Q → tAnd (tMT K c) (tMT K c') σ H Q := fun σ H Q ⟨sa, B, F, st, b', st', h0, h1, k⟩ => by
  unfold mAnd at h1
  cases q : c st with
  | bad =>
    rw [q] at h1
    cases h1
  | ok b1 st1 =>
    rw [q] at h1
    cases b1 with
    | true => exact ⟨sa, B, F, st, _, _, h0, q, fun sa1 F1 H1 R1 => by
        try dsimp only
        rw [if_pos rfl]
        exact ⟨sa1, B, F1, st1, _, _, R1.r, h1, fun sa' F' H' R2 => k sa' F' H' (R1.trans R2)⟩⟩
    | false =>
      cases h1
      exact ⟨sa, B, F, st, _, _, h0, q, fun sa1 F1 H1 R1 => by
        try dsimp only
        rw [if_neg Bool.false_ne_true]
        exact k sa1 F1 H1 R1⟩
theorem r_or : ∀ σ H Q, tMT K (mOr c c') σ H Q → tOr (tMT K c) (tMT K c') σ H Q := fun σ H Q ⟨sa, B, F, st, b', st', h0, h1, k⟩ => by
  unfold mOr at h1
  cases q : c st with
  | bad =>
    rw [q] at h1
    cases h1
  | ok b1 st1 =>
    rw [q] at h1
    cases b1 with
    | false => exact ⟨sa, B, F, st, _, _, h0, q, fun sa1 F1 H1 R1 => by
        try dsimp only
        rw [if_neg Bool.false_ne_true]
        exact ⟨sa1, B, F1, st1, _, _, R1.r, h1, fun sa' F' H' R2 => k sa' F' H' (R1.trans R2)⟩⟩
    | true =>
      cases h1
      exact ⟨sa, B, F, st, _, _, h0, q, fun sa1 F1 H1 R1 => by
        try dsimp only
        rw [if_pos rfl]
        exact k sa1 F1 H1 R1⟩
theorem r_not : ∀ σ H Q, tMT K (mNot c) σ H Q → tNot (tMT K c) σ H Q := fun σ H Q ⟨sa, B, F, st, b', st', h0, h1, k⟩ => by
  unfold mNot at h1
  cases q : c st with
  | bad =>
    rw [q] at h1
    cases h1
  | ok b1 st1 =>
    rw [q] at h1
    cases h1
    exact ⟨sa, B, F, st, _, _, h0, q, k⟩
theorem r_if : ∀ σ H Q, tM K (mIf c m m') σ H Q → tIf (tMT K c) (tM K m) (tM K m') σ H Q := fun σ H Q ⟨sa, B, F, st, b', st', h0, h1, k⟩ => by
  unfold mIf at h1
  cases q : c st with
  | bad =>
    rw [q] at h1
    cases h1
  | ok b1 st1 =>
    rw [q] at h1
    refine ⟨sa, B, F, st, _, _, h0, q, fun sa1 F1 H1 R1 => ?_⟩
    cases b1 with
    | true =>
      try dsimp only
      rw [if_pos rfl]
      exact ⟨sa1, B, F1, st1, _, _, R1.r, h1, fun sa' F' H' v R2 => k sa' F' H' v (R1.trans R2)⟩
    | false =>
      try dsimp only
      rw [if_neg Bool.false_ne_true]
      exact ⟨sa1, B, F1, st1, _, _, R1.r, h1, fun sa' F' H' v R2 => k sa' F' H' v (R1.trans R2)⟩
theorem r_andV : ∀ σ H Q, tM K (mAndV m m') σ H Q → tAndV (tM K m) (tM K m') σ H Q := fun σ H Q ⟨sa, B, F, st, r', st', h0, h1, k⟩ => by
  unfold mAndV at h1
  cases q : m st with
  | bad =>
    rw [q] at h1
    cases h1
  | ok r st1 =>
    rw [q] at h1
    cases r with
    | v d =>
      cases d with
      | bool b =>
        refine ⟨sa, B, F, st, _, _, h0, q, fun sa1 F1 H1 v R1 p1 => ?_⟩
        cases (show Rp F1 v (.bool b) from p1)
        refine ⟨b, rfl, ?_⟩
        cases b with
        | true =>
          try dsimp only
          rw [if_pos rfl]
          exact ⟨sa1, B, F1, st1, _, _, R1.r, h1, fun sa' F' H' v R2 => k sa' F' H' v (R1.trans R2)⟩
        | false =>
          try dsimp only
          rw [if_neg Bool.false_ne_true]
          cases h1
          exact k sa1 F1 H1 _ R1 (Rp.bl false)
      | _ => cases h1
    | _ => cases h1
theorem r_orV : ∀ σ H Q, tM K (mOrV m m') σ H Q → tOrV (tM K m) (tM K m') σ H Q := fun σ H Q ⟨sa, B, F, st, r', st', h0, h1, k⟩ => by
  unfold mOrV at h1
  cases q : m st with
  | bad =>
    rw [q] at h1
    cases h1
  | ok r st1 =>
    rw [q] at h1
    cases r with
    | v d =>
      cases d with
      | bool b =>
        refine ⟨sa, B, F, st, _, _, h0, q, fun sa1 F1 H1 v R1 p1 => ?_⟩
        cases (show Rp F1 v (.bool b) from p1)
        refine ⟨b, rfl, ?_⟩
        cases b with
        | false =>
          try dsimp only
          rw [if_neg Bool.false_ne_true]
          exact ⟨sa1, B, F1, st1, _, _, R1.r, h1, fun sa' F' H' v R2 => k sa' F' H' v (R1.trans R2)⟩
        | true =>
          try dsimp only
          rw [if_pos rfl]
          cases h1
          exact k sa1 F1 H1 _ R1 (Rp.bl true)
      | _ => cases h1
    | _ => cases h1
/-- the rules -/
theorem w_and1 (h : PT X a (tMT K c)) : PW X (.BoolOp .And [a] pos) (tMT K c) := pw_and1 h
theorem w_or1 (h : PT X a (tMT K c)) : PW X (.BoolOp .Or [a] pos) (tMT K c) := pw_or1 h
theorem imW {t t' : TT} (h : PW X e t) (i : ∀ σ H Q, t' σ H Q → t σ H Q) : PW X e t' := ⟨fun wh pins s σ H Q I q => h.run wh pins s σ H Q I (i σ H Q q)⟩
theorem w_and (h : PT X a (tMT K c)) (h' : PW X (.BoolOp .And (b :: es) pos) (tMT K c')) : PW X (.BoolOp .And (a :: b :: es) pos) (tMT K (mAnd c c')) := imW (pw_and h h') r_and
theorem w_or (h : PT X a (tMT K c)) (h' : PW X (.BoolOp .Or (b :: es) pos) (tMT K c')) : PW X (.BoolOp .Or (a :: b :: es) pos) (tMT K (mOr c c')) := imW (pw_or h h') r_or
theorem t_not (h : PT X a (tMT K c)) : PT X (.UnaryOp .Not a pos) (tMT K (mNot c)) := imT (pt_not h) r_not
theorem d_if {t : Expr} (hc : PT X t (tMT K c)) (ha : PE X a (tM K m)) (hb : PE X b (tM K m')) : PE X (.IfExp t a b pos) (tM K (mIf c m m')) := imE (pe_ifExp hc ha hb) r_if
theorem d_and (h : PE X a (tM K m)) (h' : PE X (.BoolOp .And (b :: es) pos) (tM K m')) : PE X (.BoolOp .And (a :: b :: es) pos) (tM K (mAndV m m')) := imE (pe_and h h') r_andV
theorem d_or (h : PE X a (tM K m)) (h' : PE X (.BoolOp .Or (b :: es) pos) (tM K m')) : PE X (.BoolOp .Or (a :: b :: es) pos) (tM K (mOrV m m')) := imE (pe_or h h') r_orV
end

/-- operators by a set of rules -/
def OpD (X : Cx) (f : Value → Value → Sem Value) (g : PyData → PyData → Option Slot) : Prop := ∃ r, OpR X f r ∧ Ad2 g r
def RdAll (g : PyData → PyData → Option Slot) : R2 := fun x y H Q => ∃ F dx dy s, Sub F H ∧ RdD F H x dx ∧ RdD F H y dy ∧ g dx dy = some s ∧ ∀ v F' H', Out F H s v F' H' → Q v H'
theorem OpD.of {X : Cx} {f : Value → Value → Sem Value} {g : PyData → PyData → Option Slot} (h : OpR X f (RdAll g)) : OpD X f g := ⟨_, h, fun F H x y dx dy s Q sb rx ry e k => ⟨F, dx, dy, s, sb, rx, ry, e, k⟩⟩
section
variable {K : PySem.W.Frag} {X : Cx} {a b c : Expr} {m m' : S → R Opd} {pos : Pos} {g : PyData → PyData → Option Slot}
theorem d_bin {op : Operator} (o : OpD X (binaryOp op) g) (ha : PE X a (tP K m)) (hb : PE X b (tP K m')) : PE X (.BinOp a op b pos) (tM K (m2 g m m')) := by
  obtain ⟨r, h1, h2⟩ := o
  exact imE (pe_op h1 ha hb) (r_2 h2)
theorem d_cmp {op : CmpOp} (o : OpD X (compareOp op) g) (ha : PE X a (tP K m)) (hb : PE X b (tP K m')) (hm : behindInMarks op b = false) : PE X (.Compare a [op] [b] pos) (tM K (m2 g m m')) := by
  obtain ⟨r, h1, h2⟩ := o
  exact imE (pe_cmpR h1 ha hb hm) (r_2 h2)
theorem t_cmp {op : CmpOp} (o : OpD X (compareOp op) g) (ha : PE X a (tP K m)) (hb : PE X b (tP K m')) (hm : behindInMarks op b = false) : PT X (.Compare a [op] [b] pos) (tMT K (mB (m2 g m m'))) := by
  obtain ⟨r, h1, h2⟩ := o
  exact imT (pt_cmpR h1 ha hb hm) (r_B (r_2 h2))
end

def gI (f : Int → Int → Option PyData) : PyData → PyData → Option Slot
  | .int i, .int j => (f i j).map .v
  | _, _ => none
def okLen (n : Nat) : Bool := decide (n ≤ 16777216)
theorem okLen_le {n : Nat} (h : okLen n = true) : n ≤ sizeLine := by
  have e : sizeLine = 16777216 := by decide
  rw [e]
  exact of_decide_eq_true h
def gAdd : PyData → PyData → Option Slot
  | .int i, .int j => some (.v (.int (i + j)))
  | .tuple a, .tuple b => if okLen (a.length + b.length) then some (.v (.tuple (a ++ b))) else none
  | .list a, .list b => if okLen (a.length + b.length) then some (.o (.list (a ++ b))) else none
  | .str a, .str b => if okLen (a.length + b.length) then some (.v (.str (a ++ b))) else none
  | _, _ => none
def gSub : PyData → PyData → Option Slot
  | .int i, .int j => some (.v (.int (i - j)))
  | _, _ => none
def mulOk (i j : Int) : Bool := (decide (-(2 ^ 64) < i) && decide (i < 2 ^ 64)) || (decide (-(2 ^ 64) < j) && decide (j < 2 ^ 64))
def gMul : PyData → PyData → Option Slot
  | .int i, .int j => if mulOk i j then some (.v (.int (i * j))) else none
  | .list a, .int k => if decide (-(2 ^ 63) ≤ k) && decide (k < 2 ^ 63) && okLen (a.length * k.toNat) then some (.o (.list (List.replicate k.toNat a).flatten)) else none
  | .tuple a, .int k => if decide (2 ≤ k) && decide (k ≤ 1000) && decide (a.length ≤ 1000) && !a.isEmpty then some (.v (.tuple (List.replicate k.toNat a).flatten)) else none
  | _, _ => none
def gDiv : PyData → PyData → Option Slot
  | .int i, .int j => if decide (0 < j) && decide (j < 1073741824) then some (.v (.int (i / j))) else none
  | _, _ => none
def gMod : PyData → PyData → Option Slot
  | .int i, .int j => if decide (0 < j) then some (.v (.int (i % j))) else none
  | _, _ => none
section
variable {X : Cx}
theorem RpL.nil_iff {F : Hp} {vs : List V} {ds : List PyData} (h : RpL F vs ds) : vs = [] ↔ ds = [] := by
  cases h <;> simp
theorem o_add : OpD X (binaryOp .Add) gAdd := .of fun pins s σ H x y v u Q I rx ry ⟨F, dx, dy, sl, sb, hx, hy, e, k⟩ => by
  unfold gAdd at e
  split at e
  · cases e
    rw [hx.int] at rx
    rw [hy.int] at ry
    exact op_add pins s σ H _ _ v u Q I rx ry ⟨_, _, rfl, rfl, k _ _ _ (.v (.int _))⟩
  · split at e
    · rename_i hz
      cases e
      obtain ⟨a, xs, rfl, e1, r1⟩ := hx.tup sb
      obtain ⟨b, ys, rfl, e2, r2⟩ := hy.tup sb
      refine op_catA pins s σ H _ _ v u Q I rx ry ⟨a, b, xs, ys, rfl, rfl, .inl (.inl (sb _ _ e1)), .inl (.inl (sb _ _ e2)), by rw [r1.length, r2.length]; exact okLen_le hz, fun z => ?_, fun _ z => ?_, fun _ _ p hp => ?_⟩
      · cases r1.nil_iff.mp z
        exact k _ _ _ (.v (.tup e2 (by simpa using r2)))
      · cases r2.nil_iff.mp z
        exact k _ _ _ (.v (.tup e1 (by simpa using r1)))
      · exact k _ _ _ (.t (r1.append r2) hp)
    · cases e
  · split at e
    · rename_i hz
      cases e
      obtain ⟨a, xs, rfl, e1, r1⟩ := hx.lst sb
      obtain ⟨b, ys, rfl, e2, r2⟩ := hy.lst sb
      exact op_cat pins s σ H _ _ v u Q I rx ry ⟨a, b, xs, ys, rfl, rfl, e1, e2, by rw [r1.length, r2.length]; exact okLen_le hz, fun p hp => k _ _ _ (.o (.lst (r1.append r2)) hp)⟩
    · cases e
  · split at e
    · rename_i hz
      cases e
      rw [hx.str] at rx
      rw [hy.str] at ry
      exact op_add_str pins s σ H _ _ v u Q I rx ry ⟨_, _, rfl, rfl, okLen_le hz, k _ _ _ (.v (.str _))⟩
    · cases e
  · cases e
theorem o_sub : OpD X (binaryOp .Sub) gSub := .of fun pins s σ H x y v u Q I rx ry ⟨F, dx, dy, sl, sb, hx, hy, e, k⟩ => by
  unfold gSub at e
  split at e
  · cases e
    rw [hx.int] at rx
    rw [hy.int] at ry
    exact op_sub pins s σ H _ _ v u Q I rx ry ⟨_, _, rfl, rfl, k _ _ _ (.v (.int _))⟩
  · cases e
theorem o_div : OpD X (binaryOp .FloorDiv) gDiv := .of fun pins s σ H x y v u Q I rx ry ⟨F, dx, dy, sl, sb, hx, hy, e, k⟩ => by
  unfold gDiv at e
  split at e
  · split at e
    · rename_i hz
      cases e
      rw [hx.int] at rx
      rw [hy.int] at ry
      simp only [Bool.and_eq_true, decide_eq_true_eq] at hz
      exact op_fdiv pins s σ H _ _ v u Q I rx ry ⟨_, _, rfl, rfl, hz, k _ _ _ (.v (.int _))⟩
    · cases e
  · cases e
theorem o_mod : OpD X (binaryOp .Mod) gMod := .of fun pins s σ H x y v u Q I rx ry ⟨F, dx, dy, sl, sb, hx, hy, e, k⟩ => by
  unfold gMod at e
  split at e
  · split at e
    · rename_i hz
      cases e
      rw [hx.int] at rx
      rw [hy.int] at ry
      exact op_mod pins s σ H _ _ v u Q I rx ry ⟨_, _, rfl, rfl, of_decide_eq_true hz, k _ _ _ (.v (.int _))⟩
    · cases e
  · cases e
theorem o_mul : OpD X (binaryOp .Mult) gMul := .of fun pins s σ H x y v u Q I rx ry ⟨F, dx, dy, sl, sb, hx, hy, e, k⟩ => by
  unfold gMul at e
  split at e
  · split at e
    · rename_i hz
      cases e
      rw [hx.int] at rx
      rw [hy.int] at ry
      unfold mulOk at hz
      simp only [Bool.or_eq_true, Bool.and_eq_true, decide_eq_true_eq] at hz
      exact op_mul pins s σ H _ _ v u Q I rx ry ⟨_, _, rfl, rfl, hz, k _ _ _ (.v (.int _))⟩
    · cases e
  · split at e
    · rename_i hz
      cases e
      obtain ⟨a, xs, rfl, e1, r1⟩ := hx.lst sb
      rw [hy.int] at ry
      simp only [Bool.and_eq_true, decide_eq_true_eq] at hz
      exact op_rep pins s σ H _ _ v u Q I rx ry ⟨a, _, xs, rfl, rfl, e1, hz.1.1, hz.1.2, by rw [r1.length]; exact okLen_le hz.2, fun p hp => k _ _ _ (.o (.lst (r1.rep _)) hp)⟩
    · cases e
  · split at e
    · rename_i hz
      cases e
      obtain ⟨a, xs, rfl, e1, r1⟩ := hx.tup sb
      rw [hy.int] at ry
      simp only [Bool.and_eq_true, decide_eq_true_eq, Bool.not_eq_true', List.isEmpty_eq_false_iff] at hz
      exact op_repT pins s σ H _ _ v u Q I rx ry ⟨a, _, xs, rfl, rfl, .inl (.inl (sb _ _ e1)), fun z => hz.2 (r1.nil_iff.mp z), hz.1.1.1, hz.1.1.2, by rw [r1.length]; exact hz.1.2, fun p hp => k _ _ _ (.t (r1.rep _) hp)⟩
    · cases e
  · cases e
end
end Pd
end
section
set_option linter.all false
set_option maxRecDepth 100000
namespace Pd
open PySem PySem.Spec PyProof.Rows L2

mutual
def noList : PyData → Bool
  | .list _ => false
  | .tuple ds => noListAll ds
  | .dict kvs => noListKv kvs
  | _ => true
def noListAll : List PyData → Bool
  | [] => true
  | d :: ds => noList d && noListAll ds
def noListKv : List (PyData × PyData) → Bool
  | [] => true
  | (_, d) :: ds => noList d && noListKv ds
end
section
variable {X : Cx} {pins : List (Addr × Obj)} {σ : L2.St} {H F : Hp} {s : Shared}
/-- the keys of a dict read -/
theorem keys_read {knd : KeyKind X.prog X.w Key} (hk : ∀ k v, knd.is k v = keyIs k v) : ∀ {es : List DictEntry} {kvs : List (Key × Value)}, Pairs knd es kvs → ReadsAll s.heap (es.map (·.key)) (kvs.map fun p => kD p.1) [] := by
  intro es kvs h
  induction h with
  | nil => exact .nil
  | @cons e kv es kvs h1 h2 h3 ih =>
    rw [hk] at h1
    obtain ⟨k, v⟩ := kv
    have one : Reads s.heap e.key (kD k) [] := by
      rcases keyIs_shape h1 with ⟨i, t, e1, e2⟩ | ⟨x, t, e1, e2⟩
      · have e1' : k = .inl i := e1
        rw [e2, e1']
        exact Reads.int i t
      · have e1' : k = .inr x := e1
        rw [e2, e1']
        exact Reads.str x t
    exact (ReadsAll.cons one ih : ReadsAll s.heap _ _ ([] ++ []))
theorem pairs_vals {knd : KeyKind X.prog X.w Key} : ∀ {es : List DictEntry} {kvs : List (Key × Value)}, Pairs knd es kvs → es.map (·.val) = kvs.map (·.2)
  | _, _, .nil => rfl
  | _, _, .cons _ h2 h3 => by rw [List.map_cons, List.map_cons, pairs_vals h3, h2]
theorem key1_reads {k : Key} {u : Value} (r : RelV (kV k) u) : Reads s.heap u (kD k) [] := by
  cases k with
  | inl i =>
    obtain ⟨t, rfl⟩ := r
    exact Reads.int i t
  | inr x =>
    obtain ⟨t, rfl⟩ := r
    exact Reads.str x t
theorem keyl_reads : ∀ {ks : List Key} {us : List Value}, Vals (ks.map kV) us → ReadsAll s.heap us (ks.map kD) []
  | [], _, h => by
    cases h
    exact .nil
  | k :: ks, _, h => by
    cases h with
    | cons a b => exact (ReadsAll.cons (key1_reads a) (keyl_reads b) : ReadsAll s.heap _ _ ([] ++ []))
theorem tkeys_read (I : Inv X pins σ H s) : ∀ {kvs : List (List Key × V)} {xs : List (List Key × Addr × Value)}, Paired (fun (p : List Key × V) (q : List Key × Addr × Value) => p.1 = q.1 ∧ H q.2.1 = some (.tup (p.1.map kV)) ∧ RelV p.2 q.2.2) kvs xs →
    ReadsAll s.heap (xs.map fun x => Value.ref x.2.1) (kvs.map fun p => tD p.1) []
  | _, _, .nil => .nil
  | _, _, .cons ⟨_, h, _⟩ t => by
    obtain ⟨its, rv, ⟨o, ho, hc, n, hd⟩, _⟩ := I.tuple (.inl (.inl h))
    exact (ReadsAll.cons (Reads.tuple ho hc hd (keyl_reads (by simpa using rv))) (tkeys_read I t) : ReadsAll s.heap _ _ ([] ++ []))
theorem RpK.keys {F : Hp} : ∀ {ps : List (Key × V)} {kvs : List (PyData × PyData)}, RpK F ps kvs → kvs.map (·.1) = ps.map fun p => kD p.1
  | _, _, .nil => rfl
  | _, _, .cons _ t => by rw [List.map_cons, List.map_cons, RpK.keys t]
theorem RpT.keys {F : Hp} : ∀ {ps : List (List Key × V)} {kvs : List (PyData × PyData)}, RpT F ps kvs → kvs.map (·.1) = ps.map fun p => tD p.1
  | _, _, .nil => rfl
  | _, _, .cons _ t => by rw [List.map_cons, List.map_cons, RpT.keys t]
theorem RpK.valsL {F : Hp} : ∀ {ps : List (Key × V)} {kvs : List (PyData × PyData)}, RpK F ps kvs → RpL F (ps.map (·.2)) (kvs.map (·.2))
  | _, _, .nil => .nil
  | _, _, .cons a t => .cons a (RpK.valsL t)
theorem RpT.valsL {F : Hp} : ∀ {ps : List (List Key × V)} {kvs : List (PyData × PyData)}, RpT F ps kvs → RpL F (ps.map (·.2)) (kvs.map (·.2))
  | _, _, .nil => .nil
  | _, _, .cons a t => .cons a (RpT.valsL t)
theorem noList_kv : ∀ (kvs : List (PyData × PyData)), noListKv kvs = true → noListAll (kvs.map (·.2)) = true
  | [], _ => rfl
  | (p1, p2) :: kvs, h => by
    have h' : noList p2 = true ∧ noListKv kvs = true := by simpa [noListKv] using h
    show noListAll (p2 :: kvs.map (·.2)) = true
    rw [noListAll, h'.1, noList_kv kvs h'.2]
    rfl
theorem kv_keys {κ : Type} : ∀ {ps : List (κ × V)} {qs : List (κ × Value)}, KV ps qs → ps.map (·.1) = qs.map (·.1)
  | _, _, .nil => rfl
  | _, _, .cons h t => by rw [List.map_cons, List.map_cons, h.1, kv_keys t]
theorem kv_vals {κ : Type} : ∀ {ps : List (κ × V)} {qs : List (κ × Value)}, KV ps qs → Vals (ps.map (·.2)) (qs.map (·.2))
  | _, _, .nil => .nil
  | _, _, .cons h t => .cons h.2 (kv_vals t)
theorem kt_vals : ∀ {kvs : List (List Key × V)} {xs : List (List Key × Addr × Value)}, Paired (fun (p : List Key × V) (q : List Key × Addr × Value) => p.1 = q.1 ∧ H q.2.1 = some (.tup (p.1.map kV)) ∧ RelV p.2 q.2.2) kvs xs → Vals (kvs.map (·.2)) (xs.map fun x => x.2.2)
  | _, _, .nil => .nil
  | _, _, .cons h t => .cons h.2.2 (kt_vals t)
/-- an object reads, if its items do -/
theorem OR.reads' (I : Inv X pins σ H s) {a : Addr} {o : HO} {d : PyData} (e : H a = some o) (r : OR F o d)
    (all : ∀ (ds : List PyData) (vs : List V) (us : List Value), (∀ d' ∈ ds, sizeOf d' < sizeOf d) → RpL F vs ds → Vals vs us → ∃ as, ReadsAll s.heap us ds as ∧ (noListAll ds = true → sysModules ∉ as)) :
    ∃ as, Reads s.heap (.ref a) d as ∧ (noList d = true → sysModules ∉ as) := by
  cases r with
  | @lst xs ds q =>
    obtain ⟨its, rv, ⟨o, n, ho, hc, _, hd⟩, _⟩ := I.list (.inl (.inl e))
    obtain ⟨as, hr, _⟩ := all ds _ its (fun d' m => by
      have := List.sizeOf_lt_of_mem m
      simp only [PyData.list.sizeOf_spec]
      omega) q rv
    exact ⟨_, Reads.list ho hc hd hr, fun z => by simp [noList] at z⟩
  | @dK ps kvs q =>
    obtain ⟨_, hm, vs, r1, o, es, ep, ho, hx, hd, _, hp, _⟩ := (show ObjOk X.prog X.w H s.heap a (.dK ps) from I.hok a _ e)
    have hv : Vals (ps.map (·.2)) (es.toList.map (·.val)) := by
      rw [pairs_vals hp]
      exact kv_vals r1
    have rl : RpL F (ps.map (·.2)) (kvs.map (·.2)) := q.valsL
    obtain ⟨as, hr, hn⟩ := all (kvs.map (·.2)) _ _ (fun d' m => by
      obtain ⟨p, hp, rfl⟩ := List.mem_map.mp m
      have h1 := List.sizeOf_lt_of_mem hp
      obtain ⟨p1, p2⟩ := p
      simp only [PyData.dict.sizeOf_spec, Prod.mk.sizeOf_spec] at *
      omega) rl hv
    have hk : ReadsAll s.heap (es.toList.map (·.key)) (kvs.map (·.1)) [] := by
      rw [q.keys]
      have := keys_read (X := X) (s := s) (fun _ _ => rfl) hp
      rw [show vs.map (fun p => kD p.1) = (vs.map (·.1)).map kD by rw [List.map_map]; rfl, ← kv_keys r1, List.map_map] at this
      exact this
    refine ⟨_, Reads.dict ho hx.1 hd hk hr, fun z => ?_⟩
    have hz : noListAll (kvs.map (·.2)) = true := noList_kv kvs (by simpa [noList] using z)
    have h1 := hn hz
    have h2 : a ≠ sysModules := fun z => by
      rw [z] at hm
      simp at hm
    simp only [List.append_nil, List.cons_append, List.nil_append, List.mem_cons, not_or]
    exact ⟨Ne.symm h2, h1⟩
  | @dT ps kvs q =>
    obtain ⟨_, hm, xs, r1, o, es, ep, ho, hx, hd, he, _⟩ := (show ObjOk X.prog X.w H s.heap a (.dT ps) from I.hok a _ e)
    have hv : Vals (ps.map (·.2)) (es.toList.map (·.val)) := by
      rw [he, List.map_map]
      exact kt_vals r1
    have rl : RpL F (ps.map (·.2)) (kvs.map (·.2)) := q.valsL
    obtain ⟨as, hr, hn⟩ := all (kvs.map (·.2)) _ _ (fun d' m => by
      obtain ⟨p, hp, rfl⟩ := List.mem_map.mp m
      have h1 := List.sizeOf_lt_of_mem hp
      obtain ⟨p1, p2⟩ := p
      simp only [PyData.dict.sizeOf_spec, Prod.mk.sizeOf_spec] at *
      omega) rl hv
    have hk : ReadsAll s.heap (es.toList.map (·.key)) (kvs.map (·.1)) [] := by
      rw [q.keys, he, List.map_map]
      exact tkeys_read I r1
    refine ⟨_, Reads.dict ho hx.1 hd hk hr, fun z => ?_⟩
    have hz : noListAll (kvs.map (·.2)) = true := noList_kv kvs (by simpa [noList] using z)
    have h1 := hn hz
    have h2 : a ≠ sysModules := fun z => by
      rw [z] at hm
      simp at hm
    simp only [List.append_nil, List.cons_append, List.nil_append, List.mem_cons, not_or]
    exact ⟨Ne.symm h2, h1⟩
theorem Rp.readsN (I : Inv X pins σ H s) (sb : Sub F H) : ∀ (n : Nat) (d : PyData) (v : V) (u : Value), sizeOf d < n → Rp F v d → RelV v u → ∃ as, Reads s.heap u d as ∧ (noList d = true → sysModules ∉ as)
  | 0, _, _, _, hn, _, _ => absurd hn (by omega)
  | n + 1, d, v, u, hn, h, r => by
    have all : ∀ (ds : List PyData) (vs : List V) (us : List Value), (∀ d' ∈ ds, sizeOf d' < n) → RpL F vs ds → Vals vs us → ∃ as, ReadsAll s.heap us ds as ∧ (noListAll ds = true → sysModules ∉ as) := by
      intro ds
      induction ds with
      | nil =>
        intro vs us _ a b
        cases a
        cases b
        exact ⟨[], .nil, fun _ => by simp⟩
      | cons d ds ih =>
        intro vs us hs a b
        cases a with
        | cons a1 a2 =>
          cases b with
          | cons b1 b2 =>
            obtain ⟨as, q1, z1⟩ := Rp.readsN I sb n d _ _ (hs d (by simp)) a1 b1
            obtain ⟨bs, q2, z2⟩ := ih _ _ (fun d' m => hs d' (by simp [m])) a2 b2
            refine ⟨_, .cons q1 q2, fun z => ?_⟩
            have z' : noList d = true ∧ noListAll ds = true := by simpa [noListAll] using z
            intro m
            rcases List.mem_append.mp m with m | m
            · exact z1 z'.1 m
            · exact z2 z'.2 m
    cases h with
    | non =>
      cases r
      exact ⟨_, Reads.none, fun _ => by simp⟩
    | bl b =>
      cases r
      exact ⟨_, Reads.bool b, fun _ => by simp⟩
    | int i =>
      obtain ⟨t, rfl⟩ := r
      exact ⟨_, Reads.int i t, fun _ => by simp⟩
    | str x =>
      obtain ⟨t, rfl⟩ := r
      exact ⟨_, Reads.str x t, fun _ => by simp⟩
    | @tup a xs ds e ha =>
      cases r
      obtain ⟨its, rv, ⟨o, ho, hc, n', hd⟩, _⟩ := I.tuple (.inl (.inl (sb _ _ e)))
      obtain ⟨as, hr, hz⟩ := all ds _ its (fun d' m => by
        have := List.sizeOf_lt_of_mem m
        simp only [PyData.tuple.sizeOf_spec] at hn
        omega) ha rv
      exact ⟨_, Reads.tuple ho hc hd hr, fun z => hz (by simpa [noList] using z)⟩
    | @lst a xs ds e ha =>
      cases r
      exact OR.reads' I (sb _ _ e) (.lst ha) fun ds vs us hs => all ds vs us fun d' m => by
        have := hs d' m
        omega
    | @dK a ps kvs e ha =>
      cases r
      exact OR.reads' I (sb _ _ e) (.dK ha) fun ds vs us hs => all ds vs us fun d' m => by
        have := hs d' m
        omega
    | @dT a ps kvs e ha =>
      cases r
      exact OR.reads' I (sb _ _ e) (.dT ha) fun ds vs us hs => all ds vs us fun d' m => by
        have := hs d' m
        omega
theorem RpL.reads (I : Inv X pins σ H s) (sb : Sub F H) : ∀ (ds : List PyData) (vs : List V) (us : List Value), RpL F vs ds → Vals vs us → ∃ as, ReadsAll s.heap us ds as ∧ (noListAll ds = true → sysModules ∉ as)
  | [], _, _, h, r => by
    cases h
    cases r
    exact ⟨_, ReadsAll.nil, fun _ => by simp⟩
  | d :: ds, _, _, h, r => by
    cases h with
    | cons h1 h2 =>
      cases r with
      | cons r1 r2 =>
        obtain ⟨as, q1, z1⟩ := Rp.readsN I sb _ d _ _ (Nat.lt_succ_self _) h1 r1
        obtain ⟨bs, q2, z2⟩ := RpL.reads I sb ds _ _ h2 r2
        refine ⟨_, ReadsAll.cons q1 q2, fun z => ?_⟩
        have z' : noList d = true ∧ noListAll ds = true := by simpa [noListAll] using z
        intro m
        rcases List.mem_append.mp m with m | m
        · exact z1 z'.1 m
        · exact z2 z'.2 m
theorem RdD.readsZ (I : Inv X pins σ H s) (sb : Sub F H) {d : PyData} {v : V} {u : Value} (h : RdD F H v d) (r : RelV v u) : ∃ as, Reads s.heap u d as ∧ (noList d = true → sysModules ∉ as) := by
  rcases h with h | ⟨a, o, rfl, h1, h2⟩
  · exact h.readsN I sb _ d v u (Nat.lt_succ_self _) r
  · cases r
    exact OR.reads' I h1 h2 fun ds vs us _ => RpL.reads I sb ds vs us
theorem RdD.reads (I : Inv X pins σ H s) (sb : Sub F H) {d : PyData} {v : V} {u : Value} (h : RdD F H v d) (r : RelV v u) : ∃ as, Reads s.heap u d as :=
  let ⟨as, h1, _⟩ := h.readsZ I sb r
  ⟨as, h1⟩
end

/-- data without dicts, not too deep -/
def shp (d : PyData) : Bool := d.plain && decide (d.depth ≤ 60)
theorem shp.plain {d : PyData} (h : shp d = true) : d.plain = true := (Bool.and_eq_true_iff.mp h).1
theorem shp.deep {d : PyData} (h : shp d = true) : d.depth ≤ 60 := of_decide_eq_true (Bool.and_eq_true_iff.mp h).2
def gEq : PyData → PyData → Option Slot := fun d e => if shp d && shp e then some (.v (.bool (PyData.eqv d e))) else none
def gNe : PyData → PyData → Option Slot := fun d e => if shp d && shp e then some (.v (.bool (!PyData.eqv d e))) else none
def gIn (neg : Bool) : PyData → PyData → Option Slot
  | d, .list ds => if shp d && PyData.plainAll ds then some (.v (.bool (neg.xor (ds.any fun z => PyData.eqv z d)))) else none
  | d, .tuple ds => if shp d && PyData.plainAll ds then some (.v (.bool (neg.xor (ds.any fun z => PyData.eqv z d)))) else none
  | _, _ => none
def isNone : PyData → Bool
  | .none => true
  | _ => false
def gIs (neg : Bool) : PyData → PyData → Option Slot
  | d, .none => some (.v (.bool (neg.xor (isNone d))))
  | _, _ => none
/-- order: ints; other alike data -/
def gOrd (p : Int → Int → Bool) (q : PyData → PyData → Bool) : PyData → PyData → Option Slot
  | .int i, .int j => some (.v (.bool (p i j)))
  | .tuple a, .tuple b => if PySem.W.alike (.tuple a) (.tuple b) && shp (.tuple a) then some (.v (.bool (q (.tuple a) (.tuple b)))) else none
  | _, _ => none
section
variable {X : Cx}
theorem RdD.none_iff {F H : Hp} {v : V} {d : PyData} (h : RdD F H v d) : decide (v = .non) = isNone d := by
  rcases h with h | ⟨a, o, rfl, h1, h2⟩
  · cases h <;> rfl
  · cases h2 <;> rfl
theorem deepR {A : Around} {d e : PyData} (h : shp d = true) (hu : A.units + 64 < cLine) : A.units + min d.depth e.depth < cLine := by
  have h1 := shp.deep h
  have h2 : min d.depth e.depth ≤ d.depth := Nat.min_le_left _ _
  omega
theorem o_eq (hu : X.A.units + 64 < cLine) : OpD X (compareOp .Eq) gEq := .of fun pins s σ H x y v u Q I rx ry ⟨F, dx, dy, sl, sb, hx, hy, e, k⟩ => by
  unfold gEq at e
  split at e
  · rename_i hz
    cases e
    obtain ⟨h1, h2⟩ := Bool.and_eq_true_iff.mp hz
    obtain ⟨as, r1⟩ := hx.reads I sb rx
    obtain ⟨bs, r2⟩ := hy.reads I sb ry
    exact PySem.SeqAt.eq_plain r1 r2 (shp.plain h1) (shp.plain h2) (deepR h1 hu) ⟨.bl _, H, I, rfl, k _ _ _ (.v (.bl _))⟩
  · cases e
theorem o_ne (hu : X.A.units + 64 < cLine) : OpD X (compareOp .NotEq) gNe := .of fun pins s σ H x y v u Q I rx ry ⟨F, dx, dy, sl, sb, hx, hy, e, k⟩ => by
  unfold gNe at e
  split at e
  · rename_i hz
    cases e
    obtain ⟨h1, h2⟩ := Bool.and_eq_true_iff.mp hz
    obtain ⟨as, r1⟩ := hx.reads I sb rx
    obtain ⟨bs, r2⟩ := hy.reads I sb ry
    exact PySem.SeqAt.ne_plain r1 r2 (shp.plain h1) (shp.plain h2) (deepR h1 hu) ⟨.bl _, H, I, rfl, k _ _ _ (.v (.bl _))⟩
  · cases e
theorem room_in {A : Around} {d : PyData} {ds : List PyData} (h : shp d = true) (hu : A.units + 66 < cLine) : A.units + 1 + min (PyData.depthAll ds) d.depth < cLine := by
  have h1 := shp.deep h
  have h2 : min (PyData.depthAll ds) d.depth ≤ d.depth := Nat.min_le_right _ _
  omega
theorem o_in (hu : X.A.units + 66 < cLine) : OpD X (compareOp .In) (gIn false) := .of fun pins s σ H x y v u Q I rx ry ⟨F, dx, dy, sl, sb, hx, hy, e, k⟩ => by
  unfold gIn at e
  split at e
  · split at e
    · rename_i hz
      cases e
      obtain ⟨h1, h2⟩ := Bool.and_eq_true_iff.mp hz
      obtain ⟨as, r1⟩ := hx.reads I sb rx
      obtain ⟨bs, r2⟩ := hy.reads I sb ry
      exact PySem.SeqAt.in_list_data r2 r1 h2 (shp.plain h1) (room_in h1 hu) ⟨.bl _, H, I, rfl, by simpa using k _ _ _ (.v (.bl _))⟩
    · cases e
  · split at e
    · rename_i hz
      cases e
      obtain ⟨h1, h2⟩ := Bool.and_eq_true_iff.mp hz
      obtain ⟨as, r1⟩ := hx.reads I sb rx
      obtain ⟨bs, r2⟩ := hy.reads I sb ry
      exact PySem.SeqAt.in_tuple_data r2 r1 h2 (shp.plain h1) (room_in h1 hu) ⟨.bl _, H, I, rfl, by simpa using k _ _ _ (.v (.bl _))⟩
    · cases e
  · cases e
theorem o_notIn (hu : X.A.units + 66 < cLine) : OpD X (compareOp .NotIn) (gIn true) := .of fun pins s σ H x y v u Q I rx ry ⟨F, dx, dy, sl, sb, hx, hy, e, k⟩ => by
  unfold gIn at e
  split at e
  · split at e
    · rename_i hz
      cases e
      obtain ⟨h1, h2⟩ := Bool.and_eq_true_iff.mp hz
      obtain ⟨as, r1⟩ := hx.reads I sb rx
      obtain ⟨bs, r2⟩ := hy.reads I sb ry
      exact PySem.SeqAt.notIn_list_data r2 r1 h2 (shp.plain h1) (room_in h1 hu) ⟨.bl _, H, I, rfl, by simpa using k _ _ _ (.v (.bl _))⟩
    · cases e
  · split at e
    · rename_i hz
      cases e
      obtain ⟨h1, h2⟩ := Bool.and_eq_true_iff.mp hz
      obtain ⟨as, r1⟩ := hx.reads I sb rx
      obtain ⟨bs, r2⟩ := hy.reads I sb ry
      exact PySem.SeqAt.notIn_tuple_data r2 r1 h2 (shp.plain h1) (room_in h1 hu) ⟨.bl _, H, I, rfl, by simpa using k _ _ _ (.v (.bl _))⟩
    · cases e
  · cases e
theorem o_is : OpD X (compareOp .Is) (gIs false) := .of fun pins s σ H x y v u Q I rx ry ⟨F, dx, dy, sl, sb, hx, hy, e, k⟩ => by
  unfold gIs at e
  split at e
  · cases e
    rw [hy.non] at ry
    exact op_isN pins s σ H _ _ v u Q I rx ry ⟨rfl, by rw [hx.none_iff]; simpa using k _ _ _ (.v (.bl _))⟩
  · cases e
/-- an order's rule: on ints, on alike data -/
theorem o_ord {op : CmpOp} {p : Int → Int → Bool} {q : PyData → PyData → Bool} (hu : X.A.units + 64 < cLine) (h : OpR X (compareOp op) (rI0 fun i j => .bl (p i j)))
    (hd : ∀ (s : Shared) (a b : Value) (da db : PyData) (as bs : List Addr) (Q : Value → Shared → Prop), Reads s.heap a da as → Reads s.heap b db bs → PySem.W.alike da db = true → da ≠ .none → X.A.units + min da.depth db.depth < cLine → Q (.bool (q da db)) s → wpAny (model X.prog X.w) X.A (compareOp op a b) Q X.xe s) :
    OpD X (compareOp op) (gOrd p q) := .of fun pins s σ H x y v u Q I rx ry ⟨F, dx, dy, sl, sb, hx, hy, e, k⟩ => by
  unfold gOrd at e
  split at e
  · cases e
    rw [hx.int] at rx
    rw [hy.int] at ry
    exact h pins s σ H _ _ v u Q I rx ry ⟨_, _, rfl, rfl, k _ _ _ (.v (.bl _))⟩
  · split at e
    · rename_i hz
      cases e
      obtain ⟨h1, h2⟩ := Bool.and_eq_true_iff.mp hz
      obtain ⟨as, r1⟩ := hx.reads I sb rx
      obtain ⟨bs, r2⟩ := hy.reads I sb ry
      exact hd s v u _ _ as bs _ r1 r2 h1 (fun z => nomatch z) (deepR h2 hu) ⟨.bl _, H, I, rfl, k _ _ _ (.v (.bl _))⟩
    · cases e
  · cases e
theorem o_lt (hu : X.A.units + 64 < cLine) : OpD X (compareOp .Lt) (gOrd (fun i j => decide (i < j)) PySem.W.dataLt) := o_ord hu op_lt fun _ _ _ _ _ _ _ _ a b c d e f => PySem.W.lt_data a b c d e f
theorem o_gt (hu : X.A.units + 64 < cLine) : OpD X (compareOp .Gt) (gOrd (fun i j => decide (j < i)) fun a b => PySem.W.dataLt b a) := o_ord hu op_gt fun _ _ _ _ _ _ _ _ a b c d e f => PySem.W.gt_data a b c d e f
end

def gIx : PyData → PyData → Option Slot
  | .list ds, .int i => (atI ds i).map .v
  | .tuple ds, .int i => (atI ds i).map .v
  | _, _ => none
theorem RpL.atI {F : Hp} {vs : List V} {ds : List PyData} {i : Int} {d : PyData} (h : RpL F vs ds) (e : L2.atI ds i = some d) : ∃ v, L2.atI vs i = some v ∧ Rp F v d := by
  unfold L2.atI at e ⊢
  rw [h.length]
  cases q : ixN ds.length i with
  | none =>
    rw [q] at e
    cases e
  | some j =>
    rw [q] at e
    obtain ⟨v, h1, h2⟩ := h.get (i := j) e
    exact ⟨v, h1, h2⟩
section
variable {K : PySem.W.Frag} {X : Cx} {a b : Expr} {m m' : S → R Opd} {pos : Pos}
theorem ad_ix : Ad2 gIx (rIx K) := fun F H x y dx dy s Q sb hx hy e k => by
  unfold gIx at e
  split at e
  · obtain ⟨p, xs, rfl, e1, r1⟩ := hx.lst sb
    obtain ⟨d, h1, rfl⟩ := Option.map_eq_some_iff.mp e
    obtain ⟨v, h2, h3⟩ := r1.atI h1
    exact .inl ⟨p, xs, _, v, rfl, hy.int, .inl (.inl e1), h2, k _ _ _ (.v h3)⟩
  · obtain ⟨p, xs, rfl, e1, r1⟩ := hx.tup sb
    obtain ⟨d, h1, rfl⟩ := Option.map_eq_some_iff.mp e
    obtain ⟨v, h2, h3⟩ := r1.atI h1
    exact .inr (.inl ⟨p, xs, _, v, rfl, hy.int, .inl (.inl (sb _ _ e1)), h2, k _ _ _ (.v h3)⟩)
  · cases e
theorem d_ix (ha : PE X a (tP X.K m)) (hb : PE X b (tP X.K m')) (hs : PlainIx b) : PE X (.Subscript a b pos) (tM X.K (m2 gIx m m')) := imE (pe_ix ix_seq ha hb hs) (r_2 ad_ix)
end
/-- a slice's parts -/
def mNoP : S → R (Option Int) := fun st => .ok none st
def mP (m : S → R Slot) : S → R (Option Int) := fun st => match m st with
  | .ok (.v (.int i)) st1 => .ok (some i) st1
  | _ => .bad
def tPO (K : PySem.W.Frag) (m : S → R (Option Int)) : TO := fun σ H Q => ∃ sa B F st b st', SR K sa B F H σ st ∧ m st = .ok b st' ∧ ∀ sa' F' H', Rch K B σ sa F st sa' F' H' st' → Q b H'
def cutD (ds : List PyData) (lo hi : Option Int) : List PyData := (ds.drop (HT.sIx ds.length 0 lo)).take (HT.sIx ds.length ds.length hi - HT.sIx ds.length 0 lo)
def gSl : PyData → Option Int → Option Int → Option Slot
  | .list ds, lo, hi => some (.o (.list (cutD ds lo hi)))
  | .tuple ds, lo, hi => some (.v (.tuple (cutD ds lo hi)))
  | _, _, _ => none
open Classical in
noncomputable def mSl (m : S → R Opd) (l h : S → R (Option Int)) : S → R Slot := fun st => match m st with
  | .ok x st1 => match l st1 with
    | .ok lo st2 => match h st2 with
      | .ok hi st3 => if still x st3 ∧ still x st2 then (match gSl x.d lo hi with
        | some r => .ok r st3
        | none => .bad) else .bad
      | .bad => .bad
    | .bad => .bad
  | .bad => .bad
theorem imO {X : Cx} {e : Option Expr} {t t' : TO} (h : PO X e t) (i : ∀ σ H Q, t' σ H Q → t σ H Q) : PO X e t' := by
  obtain ⟨r⟩ := h
  exact ⟨fun pins s σ H Q I q => r pins s σ H Q I (i σ H Q q)⟩
theorem RpL.cut {F : Hp} {vs : List V} {ds : List PyData} (h : RpL F vs ds) (lo hi : Option Int) : RpL F (cutV vs lo hi) (cutD ds lo hi) := by
  unfold cutV cutD
  rw [h.length]
  exact (h.drop _).take _
section
variable {K : PySem.W.Frag} {X : Cx} {a : Expr} {lo hi : Option Expr} {e : Expr} {m : S → R Opd} {mv : S → R Slot} {l h : S → R (Option Int)} {pos p2 : Pos}
theorem o_none : PO X none (tPO K mNoP) := imO po_none fun σ H Q ⟨sa, B, F, st, b, st', h0, h1, k⟩ => by
  cases h1
  exact k sa F H (.refl h0)
theorem o_some (he : PE X e (tM K mv)) : PO X (some e) (tPO K (mP mv)) := imO (po_some he) fun σ H Q ⟨sa, B, F, st, b, st', h0, h1, k⟩ => by
  unfold mP at h1
  cases q : mv st with
  | bad =>
    rw [q] at h1
    cases h1
  | ok r st1 =>
    rw [q] at h1
    cases r with
    | v d =>
      cases d with
      | int i =>
        cases h1
        exact ⟨sa, B, F, st, _, _, h0, q, fun sa' F' H' v R r => by
          cases (show Rp F' v (.int i) from r)
          exact ⟨_, rfl, k sa' F' H' R⟩⟩
      | _ => cases h1
    | _ => cases h1
theorem sl_any : SlR X fun x lo hi H Q => rSlL X.K x lo hi H Q ∨ rSlA X.K x lo hi H Q := sl_list.or sl_tupA
theorem cut_all {α : Type} {ds : List α} {lo hi : Option Int} (h : HT.sIx ds.length 0 lo = 0 ∧ HT.sIx ds.length ds.length hi = ds.length) : (ds.drop (HT.sIx ds.length 0 lo)).take (HT.sIx ds.length ds.length hi - HT.sIx ds.length 0 lo) = ds := by
  rw [h.1, h.2]
  simp
theorem d_sl (ha : PE X a (tP X.K m)) (hl : PO X lo (tPO X.K l)) (hh : PO X hi (tPO X.K h)) : PE X (.Subscript a (.Slice lo hi none p2) pos) (tM X.K (mSl m l h)) := imE (pe_slice sl_any ha hl hh) fun σ H Q ⟨sa, B, F, st, r', st', h0, h1, k⟩ => by
  unfold mSl at h1
  cases q1 : m st with
  | bad =>
    simp only [q1] at h1
    cases h1
  | ok x st1 =>
    cases q2 : l st1 with
    | bad =>
      simp only [q1, q2] at h1
      cases h1
    | ok lv st2 =>
      cases q3 : h st2 with
      | bad =>
        simp only [q1, q2, q3] at h1
        cases h1
      | ok hv st3 =>
        simp only [q1, q2, q3] at h1
        by_cases hs : still x st3 ∧ still x st2
        · rw [if_pos hs] at h1
          cases q4 : gSl x.d lv hv with
          | none =>
            simp only [q4] at h1
            cases h1
          | some s =>
            simp only [q4] at h1
            cases h1
            -- the operand, protected while the parts are reckoned
            have fin : ∀ sa3 F3 H3 v, Rch X.K B σ sa F st sa3 F3 H3 st' → RdD F3 H3 v x.d → (rSlL X.K v lv hv H3 Q ∨ rSlA X.K v lv hv H3 Q) := fun sa3 F3 H3 v R3 p => by
              have fo : ∀ w F' H', Out F3 H3 r' w F' H' → Q w H' := fun w F' H' o => by
                obtain ⟨a, b⟩ := R3.out o
                exact k sa3 F' H' w a b
              cases hx : x.d with
              | list ds =>
                rw [hx] at q4 p
                cases q4
                obtain ⟨a, xs, rfl, e1, r1⟩ := p.lst R3.r.fh
                exact .inl ⟨a, xs, rfl, .inl (.inl e1), fun p hp => fo _ _ _ (.o (.lst (r1.cut _ _)) hp)⟩
              | tuple ds =>
                rw [hx] at q4 p
                cases q4
                obtain ⟨a, xs, rfl, e1, r1⟩ := p.tup R3.r.fh
                refine .inr ⟨a, xs, rfl, .inl (.inl (R3.r.fh _ _ e1)), fun z => ?_, fun _ p hp => fo _ _ _ (.t (r1.cut _ _) hp)⟩
                have e2 : cutD ds lv hv = ds := cut_all (by rw [← r1.length]; exact z)
                rw [e2] at fo
                exact fo _ _ _ (.v (.tup e1 r1))
              | _ =>
                rw [hx] at q4
                cases q4
            refine ⟨sa, B, F, st, x, st1, h0, q1, fun sa1 F1 H1 v R1 p1 => ?_⟩
            cases x with
            | v d => exact ⟨sa1, B, F1, st1, lv, st2, R1.r, q2, fun sa2 F2 H2 R2 => ⟨sa2, B, F2, st2, hv, st', R2.r, q3, fun sa3 F3 H3 R3 => fin sa3 F3 H3 v ((R1.trans R2).trans R3) (.inl (Rp.mono (R2.x.le.trans R3.x.le) p1))⟩⟩
            | t d =>
              obtain ⟨a, o, rfl, t1, t2, t3, t4, t5, t6⟩ := p1
              have sb : Sub B (upd B a o) := Sub.new t3
              refine ⟨sa1, upd B a o, F1, st1, lv, st2, R1.r.prot t1 t3 t5 t6, q2, fun sa2 F2 H2 R2 => ⟨sa2, upd B a o, F2, st2, hv, st', R2.r, q3, fun sa3 F3 H3 R3 => ?_⟩⟩
              have R := R2.trans R3
              exact fin sa3 F3 H3 _ (R1.trans ⟨R.r.less sb, R.x.weak sb, R.k, R.s⟩) (.inr ⟨a, o, rfl, R.r.bh _ _ upd_same, t2.mono R.x.le⟩)
            | s i d =>
              refine ⟨sa1, B, F1, st1, lv, st2, R1.r, q2, fun sa2 F2 H2 R2 => ⟨sa2, B, F2, st2, hv, st', R2.r, q3, fun sa3 F3 H3 R3 => ?_⟩⟩
              have q := p1.2
              rcases hs.1 with hs | hs
              · obtain ⟨a, o, z1, z2, z3, _⟩ := R3.r.so i d hs
                rw [z1] at q
                exact fin sa3 F3 H3 v ((R1.trans R2).trans R3) (.inr ⟨a, o, (Option.some.inj (Option.some.inj q)).symm, z2, z3⟩)
              · obtain ⟨u, z1, z2⟩ := R3.r.sl i d hs
                rw [z1] at q
                have q' : u = v := Option.some.inj (Option.some.inj q)
                rw [q'] at z2
                exact fin sa3 F3 H3 v ((R1.trans R2).trans R3) (.inl z2)
        · rw [if_neg hs] at h1
          cases h1
end
end Pd
end
section
set_option linter.all false
set_option maxRecDepth 100000
namespace Pd
open PySem PySem.Spec PyProof.Rows L2

def tF (K : PySem.W.Frag) (m : S → R PyData) : TE := fun σ H Q => ∃ sa B F st d st', SR K sa B F H σ st ∧ m st = .ok d st' ∧ ∀ sa' F' H' v, Rch K B σ sa F st sa' F' H' st' → Rp F' v d → Q v H'
def tAL (K : PySem.W.Frag) (m : S → R (List PyData)) : TA := fun σ H Q => ∃ sa B F st ds st', SR K sa B F H σ st ∧ m st = .ok ds st' ∧ ∀ sa' F' H' vs, Rch K B σ sa F st sa' F' H' st' → RpL F' vs ds → Q vs H'
def mF (m : S → R Slot) : S → R PyData := fun st => match m st with
  | .ok (.v d) st' => .ok d st'
  | .ok (.o d) st' => .ok d st'
  | _ => .bad
def mNil : S → R (List PyData) := fun st => .ok [] st
def mCons (m : S → R PyData) (ms : S → R (List PyData)) : S → R (List PyData) := fun st => match m st with
  | .ok d st1 => match ms st1 with
    | .ok ds st2 => .ok (d :: ds) st2
    | .bad => .bad
  | .bad => .bad
def seqD : PyData → Option (List PyData)
  | .list ds => some ds
  | .tuple ds => some ds
  | _ => none
def mTup (ms : S → R (List PyData)) : S → R Slot := fun st => match ms st with
  | .ok ds st1 => if okLen ds.length then .ok (.v (.tuple ds)) st1 else .bad
  | .bad => .bad
def mLst (ms : S → R (List PyData)) : S → R Slot := fun st => match ms st with
  | .ok ds st1 => if okLen ds.length then .ok (.o (.list ds)) st1 else .bad
  | .bad => .bad
section
variable {K : PySem.W.Frag} {X : Cx} {e : Expr} {es : List Expr} {m : S → R Slot} {mf : S → R PyData} {ms : S → R (List PyData)} {mp : S → R Opd} {pos p : Pos}
/-- a result is frozen -/
theorem Rch.frz {B : Hp} {σ : L2.St} {sa sa' : Sa} {F F' H' : Hp} {st st' : S} {v : V} {d : PyData} (R : Rch K B σ sa F st sa' F' H' st') (r : RRep sa' B F' H' σ st' v (.o d)) : ∃ F2, Rch K B σ sa F st sa' F2 H' st' ∧ Rp F2 v d := by
  obtain ⟨a, o, rfl, h1, h2, h3, h4, h5, h6⟩ := r
  exact ⟨upd F' a o, ⟨R.r.freeze h1 h4 h5 h6, R.x.trans (FX.own h3 h4), R.k, R.s⟩, h2.frz h4⟩
theorem r_F : ∀ σ H Q, tF K (mF m) σ H Q → tM K m σ H Q := fun σ H Q ⟨sa, B, F, st, d, st', h0, h1, k⟩ => by
  unfold mF at h1
  cases q : m st with
  | bad =>
    rw [q] at h1
    cases h1
  | ok r st1 =>
    rw [q] at h1
    cases r with
    | v d' =>
      cases h1
      exact ⟨sa, B, F, st, _, _, h0, q, fun sa' F' H' v R r => k sa' F' H' v R r⟩
    | o d' =>
      cases h1
      refine ⟨sa, B, F, st, _, _, h0, q, fun sa' F' H' v R r => ?_⟩
      obtain ⟨F2, R2, r2⟩ := R.frz r
      exact k sa' F2 H' v R2 r2
    | _ => cases h1
theorem f_of (h : PE X e (tM K m)) : PE X e (tF K (mF m)) := imE h r_F
theorem a_nil : PA X [] (tAL K mNil) := imA pa_nil fun σ H Q ⟨sa, B, F, st, d, st', h0, h1, k⟩ => by
  cases h1
  exact k sa F H [] (.refl h0) .nil
theorem a_cons (h : PE X e (tF K mf)) (h' : PA X es (tAL K ms)) (hs : starEach (e :: es) X.env = (false, eval e X.env) :: starEach es X.env := by rfl) : PA X (e :: es) (tAL K (mCons mf ms)) := imA (pa_cons h h' hs) fun σ H Q ⟨sa, B, F, st, d, st', h0, h1, k⟩ => by
  unfold mCons at h1
  cases q : mf st with
  | bad =>
    simp only [q] at h1
    cases h1
  | ok x st1 =>
    cases q2 : ms st1 with
    | bad =>
      simp only [q, q2] at h1
      cases h1
    | ok xs st2 =>
      simp only [q, q2] at h1
      cases h1
      exact ⟨sa, B, F, st, x, st1, h0, q, fun sa1 F1 H1 v R1 r1 => ⟨sa1, B, F1, st1, xs, _, R1.r, q2, fun sa2 F2 H2 vs R2 r2 => k sa2 F2 H2 (v :: vs) (R1.trans R2) (.cons (r1.mono R2.x.le) r2)⟩⟩
theorem d_tup {x1} (h : PA X es (tAL K ms)) : PE X (.Tuple es x1 pos) (tM K (mTup ms)) := imE (pe_tup h) fun σ H Q ⟨sa, B, F, st, d, st', h0, h1, k⟩ => by
  unfold mTup at h1
  cases q : ms st with
  | bad =>
    simp only [q] at h1
    cases h1
  | ok ds st1 =>
    simp only [q] at h1
    split at h1
    · rename_i hz
      cases h1
      refine ⟨sa, B, F, st, ds, _, h0, q, fun sa1 F1 H1 vs R1 r1 => ⟨by rw [r1.length]; exact okLen_le hz, fun p hp => ?_⟩⟩
      obtain ⟨a, b⟩ := R1.out (.t r1 hp)
      exact k _ _ _ _ a b
    · cases h1
theorem d_lst (h : PA X es (tAL K ms)) : PE X (.List es pos) (tM K (mLst ms)) := imE (pe_lst h) fun σ H Q ⟨sa, B, F, st, d, st', h0, h1, k⟩ => by
  unfold mLst at h1
  cases q : ms st with
  | bad =>
    simp only [q] at h1
    cases h1
  | ok ds st1 =>
    simp only [q] at h1
    split at h1
    · rename_i hz
      cases h1
      refine ⟨sa, B, F, st, ds, _, h0, q, fun sa1 F1 H1 vs R1 r1 => ⟨by rw [r1.length]; exact okLen_le hz, fun p hp => ?_⟩⟩
      obtain ⟨a, b⟩ := R1.out (.o (.lst r1) hp)
      exact k _ _ _ _ a b
    · cases h1
end

/-- f(x) is worth g -/
def CD1 (X : Cx) (f : Value) (g : PyData → Option Slot) : Prop := CallR X f fun vs H Q => ∃ F x dx s, vs = [x] ∧ Sub F H ∧ RdD F H x dx ∧ g dx = some s ∧ ∀ v F' H', Out F H s v F' H' → Q v H'
def CD2 (X : Cx) (f : Value) (g : PyData → PyData → Option Slot) : Prop := CallR X f fun vs H Q => ∃ F x y dx dy s, vs = [x, y] ∧ Sub F H ∧ RdD F H x dx ∧ RdD F H y dy ∧ g dx dy = some s ∧ ∀ v F' H', Out F H s v F' H' → Q v H'
/-- isinstance(x, T) -/
def CDT (X : Cx) (T : String) (g : PyData → Option Slot) : Prop := CallR X (.builtin "isinstance") fun vs H Q => ∃ F x dx s, vs = [x, .ty T] ∧ Sub F H ∧ RdD F H x dx ∧ g dx = some s ∧ ∀ v F' H', Out F H s v F' H' → Q v H'
section
variable {X : Cx} {x : Str} {p p' pos : Pos} {e e' : Expr} {m m' : S → R Opd} {id T : String} {g : PyData → Option Slot} {g' : PyData → PyData → Option Slot} {tT : Str}
theorem d_b1 (hc : CD1 X (.builtin id) g) (hg : Gl X x) (hm : X.mg x = none) (hv : bootBuiltins x = some (.builtin id)) (he : PE X e (tP X.K m)) (hn : x ≠ "__name__" := by decide) (hdb : (x == ("__debug__" : Str)) = false := by decide)
    (hs : starEach (e :: []) X.env = (false, eval e X.env) :: starEach [] X.env := by rfl) (hpl : (backTo pos (starEach [] X.env)).any (·.1) = false := by rfl) : PE X (.Call (.Name x p) [e] [] pos) (tM X.K (m1 g m)) :=
  imE (pe_callB hc hg hm hv (pa_cons he pa_nil hs) hn hdb hs hpl) (r_1 fun F H x dx s Q sb rx q k => ⟨F, x, dx, s, rfl, sb, rx, q, k⟩)
theorem d_t1 (hc : CD1 X (.type T) g) (hg : Gl X x) (hm : X.mg x = none) (hv : bootBuiltins x = some (.type T)) (he : PE X e (tP X.K m)) (hn : x ≠ "__name__" := by decide) (hdb : (x == ("__debug__" : Str)) = false := by decide)
    (hs : starEach (e :: []) X.env = (false, eval e X.env) :: starEach [] X.env := by rfl) (hpl : (backTo pos (starEach [] X.env)).any (·.1) = false := by rfl) : PE X (.Call (.Name x p) [e] [] pos) (tM X.K (m1 g m)) :=
  imE (pe_callTy hc hg hm hv (pa_cons he pa_nil hs) hn hdb hs hpl) (r_1 fun F H x dx s Q sb rx q k => ⟨F, x, dx, s, rfl, sb, rx, q, k⟩)
theorem d_b2 (hc : CD2 X (.builtin id) g') (hg : Gl X x) (hm : X.mg x = none) (hv : bootBuiltins x = some (.builtin id)) (he : PE X e (tP X.K m)) (he' : PE X e' (tP X.K m')) (hn : x ≠ "__name__" := by decide) (hdb : (x == ("__debug__" : Str)) = false := by decide)
    (hs : starEach (e :: [e']) X.env = (false, eval e X.env) :: starEach [e'] X.env := by rfl) (hs2 : starEach (e' :: []) X.env = (false, eval e' X.env) :: starEach [] X.env := by rfl) (hpl : (backTo pos (starEach [e'] X.env)).any (·.1) = false := by rfl) : PE X (.Call (.Name x p) [e, e'] [] pos) (tM X.K (m2 g' m m')) :=
  imE (pe_callB hc hg hm hv (pa_cons he (pa_cons he' pa_nil hs2) hs) hn hdb hs hpl) (r_2 (r := fun x y H Q => (fun vs H Q => ∃ F x y dx dy s, vs = [x, y] ∧ Sub F H ∧ RdD F H x dx ∧ RdD F H y dy ∧ g' dx dy = some s ∧ ∀ v F' H', Out F H s v F' H' → Q v H') [x, y] H Q) fun F H x y dx dy s Q sb rx ry q k => ⟨F, x, y, dx, dy, s, rfl, sb, rx, ry, q, k⟩)
end

def gLen : PyData → Option Slot
  | .list ds => some (.v (.int ds.length))
  | .tuple ds => some (.v (.int ds.length))
  | .dict ds => some (.v (.int ds.length))
  | .str z => if okLen z.length then some (.v (.int z.length)) else none
  | _ => none
def gTuple : PyData → Option Slot
  | .list ds => some (.v (.tuple ds))
  | .tuple ds => some (.v (.tuple ds))
  | _ => none
def gList : PyData → Option Slot
  | .list ds => some (.o (.list ds))
  | .tuple ds => some (.o (.list ds))
  | _ => none
def gInt : PyData → Option Slot
  | .int i => some (.v (.int i))
  | .bool b => some (.v (.int (if b then 1 else 0)))
  | _ => none
def gAbs : PyData → Option Slot
  | .int i => some (.v (.int (if i < 0 then -i else i)))
  | _ => none
def reprOk (d : PyData) : Bool := d.showable && (!d.hasDict || noList d) && decide (d.depth ≤ 60) && okLen d.shown.length
def gRepr (d : PyData) : Option Slot := if reprOk d then some (.v (.str d.shown)) else none
def intsD : List PyData → Option (List Int)
  | [] => some []
  | .int i :: ds => (intsD ds).map (i :: ·)
  | _ => none
def alikeB (ds : List PyData) : Bool := ds.all (fun d => ds.all fun e => PySem.W.alike d e) && ds.all (fun d => !isNone d) && decide (PyData.depthAll ds ≤ 60)
def gMin : PyData → Option Slot
  | .list (d :: ds) => if alikeB (d :: ds) then some (.v (PySem.W.minD d ds)) else none
  | .tuple (d :: ds) => if alikeB (d :: ds) then some (.v (PySem.W.minD d ds)) else none
  | _ => none
def gMin2 : PyData → PyData → Option Slot
  | .int i, .int j => some (.v (.int (if j < i then j else i)))
  | _, _ => none
def gMax2 : PyData → PyData → Option Slot
  | .int i, .int j => some (.v (.int (if j > i then j else i)))
  | _, _ => none
def sortB (ds : List PyData) : Bool := ds.all (fun d => ds.all fun e => PySem.W.alike d e) && (ds.all (fun d => match d with | .tuple _ => true | _ => false) || ds.all (fun d => match d with | .none => false | .tuple _ => false | _ => true)) && ds.all (fun d => decide (d.depth ≤ 60))
def sortD (ds : List PyData) : List PyData := ds.mergeSort (PySem.W.dataLe false id)
def gSorted : PyData → Option Slot
  | .list ds => if sortB ds then some (.o (.list (sortD ds))) else none
  | .tuple ds => if sortB ds then some (.o (.list (sortD ds))) else none
  | _ => none
section
variable {X : Cx}
theorem cd_of1 {f : Value} {g : PyData → Option Slot} (h : ∀ (pins : List (Addr × Obj)) (s : Shared) (σ : L2.St) (H F : Hp) (x : V) (u : Value) (dx : PyData) (sl : Slot) (Q : VK), Inv X pins σ H s → RelV x u → Sub F H → RdD F H x dx → g dx = some sl → (∀ v F' H', Out F H sl v F' H' → Q v H') →
    wpAny (model X.prog X.w) X.A (call f [u]) (EP X pins σ Q) X.xe s) : CD1 X f g := fun pins s σ H xs us Q I r ⟨F, x, dx, sl, e, sb, rx, q, k⟩ => by
  subst e
  cases r with
  | cons r1 r2 =>
    cases r2
    exact h pins s σ H F x _ dx sl Q I r1 sb rx q k
/-- by a rule over values -/
theorem cd_ofR {f : Value} {g : PyData → Option Slot} {r : List V → Hp → VK → Prop} (h : CallR X f r) (i : ∀ (F H : Hp) (x : V) (dx : PyData) (sl : Slot) (Q : VK), Sub F H → RdD F H x dx → g dx = some sl → (∀ v F' H', Out F H sl v F' H' → Q v H') → r [x] H Q) : CD1 X f g :=
  fun pins s σ H xs us Q I rr ⟨F, x, dx, sl, e, sb, rx, q, k⟩ => by
    subst e
    exact h pins s σ H [x] us Q I rr (i F H x dx sl Q sb rx q k)
theorem RdD.dct {F H : Hp} {v : V} {kvs : List (PyData × PyData)} (s : Sub F H) (h : RdD F H v (.dict kvs)) : ∃ a, v = .ref a ∧ ((∃ ps, H a = some (.dK ps) ∧ RpK F ps kvs) ∨ ∃ ps, H a = some (.dT ps) ∧ RpT F ps kvs) := by
  rcases h with h | ⟨a, o, e, h1, h2⟩
  · cases h with
    | dK e r => exact ⟨_, rfl, .inl ⟨_, s _ _ e, r⟩⟩
    | dT e r => exact ⟨_, rfl, .inr ⟨_, s _ _ e, r⟩⟩
  · cases h2 with
    | dK r => exact ⟨_, e, .inl ⟨_, h1, r⟩⟩
    | dT r => exact ⟨_, e, .inr ⟨_, h1, r⟩⟩
theorem RpK.len {F : Hp} {ps : List (Key × V)} {kvs : List (PyData × PyData)} (h : RpK F ps kvs) : ps.length = kvs.length := by
  have := congrArg List.length h.keys
  simpa using this.symm
theorem RpT.len {F : Hp} {ps : List (List Key × V)} {kvs : List (PyData × PyData)} (h : RpT F ps kvs) : ps.length = kvs.length := by
  have := congrArg List.length h.keys
  simpa using this.symm
theorem c_len : CD1 X (.builtin "len") gLen := by
  refine cd_of1 fun pins s σ H F x u dx sl Q I r sb rx q k => ?_
  unfold gLen at q
  split at q
  · cases q
    obtain ⟨a, xs, rfl, e1, r1⟩ := rx.lst sb
    exact call_len_seq pins s σ H [.ref a] [u] Q I (.cons r .nil) ⟨a, xs, rfl, .inl (.inl (.inl e1)), by rw [r1.length]; exact k _ _ _ (.v (.int _))⟩
  · cases q
    obtain ⟨a, xs, rfl, e1, r1⟩ := rx.tup sb
    exact call_len_seq pins s σ H [.ref a] [u] Q I (.cons r .nil) ⟨a, xs, rfl, .inr (.inl (.inl (sb _ _ e1))), by rw [r1.length]; exact k _ _ _ (.v (.int _))⟩
  · cases q
    obtain ⟨a, rfl, ⟨ps, e1, r1⟩ | ⟨ps, e1, r1⟩⟩ := rx.dct sb
    · exact call_lenD pins s σ H [.ref a] [u] Q I (.cons r .nil) ⟨a, ps, rfl, e1, by rw [r1.len]; exact k _ _ _ (.v (.int _))⟩
    · exact call_len_dT pins s σ H [.ref a] [u] Q I (.cons r .nil) ⟨a, ps, rfl, e1, by rw [r1.len]; exact k _ _ _ (.v (.int _))⟩
  · split at q
    · rename_i hz
      cases q
      rw [rx.str] at r
      exact call_len_str pins s σ H [_] [u] Q I (.cons r .nil) ⟨_, rfl, okLen_le hz, k _ _ _ (.v (.int _))⟩
    · cases q
  · cases q
theorem c_tuple : CD1 X (.type "tuple") gTuple := cd_ofR call_tuple_of fun F H x dx sl Q sb rx q k => by
  unfold gTuple at q
  split at q
  · cases q
    obtain ⟨a, xs, rfl, e1, r1⟩ := rx.lst sb
    exact ⟨a, xs, rfl, .inl ⟨.inl (.inl e1), fun l hl => k _ _ _ (.t r1 hl)⟩⟩
  · cases q
    obtain ⟨a, xs, rfl, e1, r1⟩ := rx.tup sb
    exact ⟨a, xs, rfl, .inr ⟨.inl (.inl (sb _ _ e1)), k _ _ _ (.v (.tup e1 r1))⟩⟩
  · cases q
theorem c_list : CD1 X (.type "list") gList := cd_ofR call_list_of fun F H x dx sl Q sb rx q k => by
  unfold gList at q
  split at q
  · cases q
    obtain ⟨a, xs, rfl, e1, r1⟩ := rx.lst sb
    exact ⟨a, xs, rfl, .inl (.inl (.inl e1)), fun l hl => k _ _ _ (.o (.lst r1) hl)⟩
  · cases q
    obtain ⟨a, xs, rfl, e1, r1⟩ := rx.tup sb
    exact ⟨a, xs, rfl, .inr (.inl (.inl (sb _ _ e1))), fun l hl => k _ _ _ (.o (.lst r1) hl)⟩
  · cases q
theorem c_int : CD1 X (.type "int") gInt := cd_ofR call_int1 fun F H x dx sl Q sb rx q k => by
  unfold gInt at q
  split at q
  · cases q
    rw [rx.int]
    exact .inl ⟨_, rfl, k _ _ _ (.v (.int _))⟩
  · cases q
    rw [rx.bl]
    exact .inr ⟨_, rfl, k _ _ _ (.v (.int _))⟩
  · cases q
theorem c_abs : CD1 X (.builtin "abs") gAbs := cd_ofR call_abs fun F H x dx sl Q sb rx q k => by
  unfold gAbs at q
  split at q
  · cases q
    rw [rx.int]
    exact ⟨_, rfl, k _ _ _ (.v (.int _))⟩
  · cases q
theorem c_repr (hg : X.A.guards = some []) (hu : X.A.units + 64 < cLine) : CD1 X (.builtin "repr") gRepr := by
  refine cd_of1 fun pins s σ H F x u dx sl Q I r sb rx q k => ?_
  unfold gRepr at q
  split at q
  · rename_i hz
    cases q
    unfold reprOk at hz
    simp only [Bool.and_eq_true, decide_eq_true_eq] at hz
    obtain ⟨⟨⟨h1, h2⟩, h3⟩, h4⟩ := hz
    have fin : ∀ h' tk t', (∀ b o, s.heap.get? b = some o → h'.get? b = some o) → EP X pins σ Q (.str dx.shown t') { s with heap := h', toks := tk } := fun h' tk t' hk => ⟨.str dx.shown, H, I.kept hk, ⟨_, rfl⟩, k _ _ _ (.v (.str _))⟩
    have obj : ∀ a, x = .ref a → wpAny (model X.prog X.w) X.A (call (.builtin "repr") [u]) (EP X pins σ Q) X.xe s := fun a e => by
      obtain ⟨as, hr, hn⟩ := rx.readsZ I sb r
      rw [e] at r
      cases r
      refine repr_of_reads' hr h1 (fun hd => hn (by
        rw [hd] at h2
        simpa using h2)) hg (by omega) (fun _ _ q => q) (fun h' u' tk hk => fin h' tk u' hk) (okLen_le h4)
    rcases rx with rx | ⟨a, o, e, _⟩
    · cases rx with
      | non =>
        cases r
        exact PySem.P.repr_of_none (fin s.heap (s.toks + 1) s.toks fun _ _ q => q)
      | bl b =>
        cases r
        exact PySem.P.repr_of_bool (fin s.heap (s.toks + 1) s.toks fun _ _ q => q)
      | int i =>
        obtain ⟨t, rfl⟩ := r
        exact PySem.P.repr_of_int (by simpa [PyData.showable] using h1) (fin s.heap (s.toks + 1) s.toks fun _ _ q => q)
      | str z =>
        obtain ⟨t, rfl⟩ := r
        exact PySem.P.repr_of_str (fin s.heap (s.toks + 1) s.toks fun _ _ q => q) (okLen_le h4)
      | lst _ _ => exact obj _ rfl
      | tup _ _ => exact obj _ rfl
      | dK _ _ => exact obj _ rfl
      | dT _ _ => exact obj _ rfl
    · exact obj a e
  · cases q
end
end Pd
end
section
set_option linter.all false
set_option maxRecDepth 100000
namespace Pd
open PySem PySem.Spec PyProof.Rows L2

section
variable {X : Cx}
theorem ints_rp {F : Hp} : ∀ {ds : List PyData} {ns : List Int} {vs : List V}, intsD ds = some ns → RpL F vs ds → vs = ns.map V.int
  | [], ns, vs, h, r => by
    cases h
    cases r
    rfl
  | d :: ds, ns, vs, h, r => by
    cases r with
    | cons a b =>
      cases d with
      | int i =>
        obtain ⟨ms, h1, rfl⟩ := Option.map_eq_some_iff.mp (show (intsD ds).map (i :: ·) = some ns from h)
        cases a
        rw [ints_rp h1 b]
        rfl
      | _ => cases h
/-- sum of a tuple of ints -/
theorem sum_tup {P : Program} {w : World} {A : Around} {E : Value → Shared → Prop} {s : Shared} {l : Addr} {its : Array Value} {ns : List Int} {Q : Value → Shared → Prop} (hh : A.handled = none) (hl : s.heap.IsTuple l its) (hi : IntsAre its.toList ns)
    (h : ∀ h' tk t', (∀ b o, s.heap.get? b = some o → h'.get? b = some o) → Q (.int ns.sum t') { s with heap := h', toks := tk }) : wpAny (model P w) A (call (.builtin "sum") [.ref l]) Q E s := by
  obtain ⟨xs, e⟩ := hi.allInts.items
  have e' : its = intItems xs := by simpa using e
  subst e'
  have hn : numsOf (intItems xs).toList = ns := hi.numsOf
  rw [nums_intItems] at hn
  have hlt : l < s.heap.objs.size := by
    obtain ⟨_, z, _⟩ := hl
    exact Heap.lt_size z
  refine call_sum_walkG (wpAny_pyIter_tuple hl ?_)
  refine ⟨_, _, _, _, _, _, numAt xs, rfl, Walks.tuple (A := A.in1) hh _ l (Nat.ne_of_lt hlt) (intItems xs), ⟨⟨_, Heap.get?_push_size _ rfl, rfl, rfl⟩, hl.push _⟩, fun b hb => ?_, fun _ _ => intItems_at, fun h' tk t' hk => ?_⟩
  · show b < (s.heap.push _).objs.size
    rw [Heap.size_push]
    rcases List.mem_cons.mp hb with rfl | hb
    · exact Nat.lt_succ_self _
    · rcases List.mem_cons.mp hb with rfl | hb
      · exact Nat.lt_succ_of_lt hlt
      · cases hb
  · have q := h h' tk t' fun b o z => hk b o (fun m => absurd (Heap.lt_size z) (by
      rw [List.mem_singleton.mp m]
      exact Nat.lt_irrefl _)) (Heap.get?_push_of_some _ z)
    have e2 : preSum (numAt xs) (intItems xs).size = ns.sum := by
      rw [preSum_eq, hn, List.take_of_length_le]
      rw [← hn]
      simp [intItems]
    rw [e2]
    exact q
/-- a value that reads the same as a member stands for it -/
theorem alikeB_ok {ds : List PyData} (h : alikeB ds = true) : PySem.W.AlikeAll ds ∧ PyData.depthAll ds ≤ 60 := by
  unfold alikeB at h
  simp only [Bool.and_eq_true, List.all_eq_true, decide_eq_true_eq] at h
  refine ⟨⟨fun x hx y hy => h.1.1 x hx y hy, fun x hx z => ?_⟩, h.2⟩
  have := h.1.2 x hx
  rw [z] at this
  cases this
theorem alike_self_plain : ∀ d : PyData, PySem.W.alike d d = true → d.plain = true
  | .none, _ => rfl
  | .bool _, _ => rfl
  | .int _, _ => rfl
  | .str _, _ => rfl
  | .list xs, h => by
    rw [PyData.plain]
    exact alike_selfs xs (by simpa [PySem.W.alike] using h)
  | .tuple xs, h => by
    rw [PyData.plain]
    exact alike_selfs xs (by simpa [PySem.W.alike] using h)
  | .dict _, h => by simp [PySem.W.alike] at h
where alike_selfs : ∀ ds : List PyData, PySem.W.alikeAll ds ds = true → PyData.plainAll ds = true
  | [], _ => rfl
  | d :: ds, h => by
    rw [PySem.W.alikeAll, Bool.and_eq_true] at h
    rw [PyData.plainAll, alike_self_plain d h.1, alike_selfs ds h.2]
    rfl
/-- an item's data by what it reads -/
theorem item_is {pins : List (Addr × Obj)} {s : Shared} {σ : L2.St} {H F : Hp} (I : Inv X pins σ H s) (sb : Sub F H) {vs : List V} {ds : List PyData} {us : List Value} {i : Nat} {v : Value} {d : PyData} {as : List Addr} {h' : Heap} (r : RpL F vs ds) (rv : Vals vs us) (hv : us[i]? = some v)
    (hr : Reads h' v d as) (hk : ∀ b o, s.heap.get? b = some o → h'.get? b = some o) (hp : d.plain = true) : ∃ x, vs[i]? = some x ∧ RelV x v ∧ Rp F x d := by
  have hi : i < us.length := (List.getElem?_eq_some_iff.mp hv).1
  have hi' : i < vs.length := by
    rw [rv.length]
    exact hi
  obtain ⟨u, h1, h2⟩ := rv.get (List.getElem?_eq_getElem hi')
  rw [hv] at h1
  cases h1
  obtain ⟨e, h3, h4⟩ := r.of_get (List.getElem?_eq_getElem hi')
  obtain ⟨bs, hr2, _⟩ := h4.readsN I sb _ e _ v (Nat.lt_succ_self _) h2
  have := PySem.SeqAt.plain_unique d e v as bs hp hr (PyProof.Rows.Reads.keeps hk hr2)
  subst this
  exact ⟨_, List.getElem?_eq_getElem hi', h2, h4⟩
theorem minD_mem (x : PyData) : ∀ xs : List PyData, PySem.W.minD x xs ∈ x :: xs := by
  intro xs
  unfold PySem.W.minD
  have : ∀ (l : List PyData) (a : PyData), l.foldl (fun a y => if PySem.W.dataLt y a then y else a) a = a ∨ l.foldl (fun a y => if PySem.W.dataLt y a then y else a) a ∈ l := by
    intro l
    induction l with
    | nil => exact fun a => .inl rfl
    | cons y l ih =>
      intro a
      rw [List.foldl_cons]
      rcases ih (if PySem.W.dataLt y a then y else a) with h | h
      · rw [h]
        split
        · exact .inr (by simp)
        · exact .inl rfl
      · exact .inr (by simp [h])
  rcases this xs x with h | h
  · rw [h]
    simp
  · simp [h]
theorem alike_plain {ds : List PyData} (h : PySem.W.AlikeAll ds) {d : PyData} (m : d ∈ ds) : d.plain = true := alike_self_plain d (h.1 d m d m)
theorem c_min (hc : X.calm = true) (hu : X.A.units + 64 < cLine) : CD1 X (.builtin "min") gMin := by
  refine cd_of1 fun pins s σ H F x u dx sl Q I r sb rx q k => ?_
  unfold gMin at q
  split at q
  · rename_i d ds
    split at q
    · rename_i hz
      cases q
      obtain ⟨h1, h2⟩ := alikeB_ok hz
      obtain ⟨a, xs, rfl, e1, r1⟩ := rx.lst sb
      obtain ⟨its, rv, hl, _⟩ := I.list (.inl (.inl e1))
      obtain ⟨as, hr, _⟩ := RpL.reads I sb _ _ its r1 rv
      cases r
      refine PySem.W.min_list_data (I.ok.hd hc) hl.isList (by simpa using hr) h1 (by omega) fun i v h' tk bs hv hr' hk => ?_
      obtain ⟨y, _, h4, h5⟩ := item_is I sb r1 rv (by simpa using hv) hr' hk (alike_plain h1 (minD_mem d ds))
      exact ⟨y, H, I.kept hk, h4, k _ _ _ (.v h5)⟩
    · cases q
  · rename_i d ds
    split at q
    · rename_i hz
      cases q
      obtain ⟨h1, h2⟩ := alikeB_ok hz
      obtain ⟨a, xs, rfl, e1, r1⟩ := rx.tup sb
      obtain ⟨its, rv, hl, _⟩ := I.tuple (.inl (.inl (sb _ _ e1)))
      obtain ⟨as, hr, _⟩ := RpL.reads I sb _ _ its r1 rv
      cases r
      refine PySem.W.min_tuple_data (I.ok.hd hc) (show s.heap.IsTuple a its.toArray from hl) (by simpa using hr) h1 (by omega) fun i v h' tk bs hv hr' hk => ?_
      obtain ⟨y, _, h4, h5⟩ := item_is I sb r1 rv (by simpa using hv) hr' hk (alike_plain h1 (minD_mem d ds))
      exact ⟨y, H, I.kept hk, h4, k _ _ _ (.v h5)⟩
    · cases q
  · cases q
theorem c_min2 (hc : X.calm = true) : CD2 X (.builtin "min") gMin2 := fun pins s σ H xs us Q I rr ⟨F, x, y, dx, dy, sl, e, sb, rx, ry, q, k⟩ => by
  subst e
  unfold gMin2 at q
  split at q
  · cases q
    rw [rx.int, ry.int] at rr
    exact call_min2 hc pins s σ H _ us Q I rr ⟨_, _, rfl, k _ _ _ (.v (.int _))⟩
  · cases q
end
end Pd
end
section
set_option linter.all false
set_option maxRecDepth 100000
namespace PySem.SeqAt
open PySem PySem.Calls PyProof.Rows
section
variable {A : Around} {s : Shared}
theorem call_tuple_lt {prog : Program} {w : World} {E : Value → Shared → Prop} {Q : Value → Shared → Prop} {l b : Addr} {items items2 : Array Value} {e r : Nat → Bool} (hl : s.heap.IsTuple l items) (hb : s.heap.IsTuple b items2)
    (he : ∀ j (h1 : j < items.size) (h2 : j < items2.size), EqAt A.in1 s items[j] items2[j] (e j)) (hr : ∀ j (h1 : j < items.size) (h2 : j < items2.size), e j = false → RcLt A.in1 s items[j] items2[j] (r j))
    (h : Q (.bool (firstLt e r (decide (items.size < items2.size)) (List.range (min items.size items2.size)))) s) : wpAny (model prog w) A (call (.builtin "tuple.__lt__") [.ref l, .ref b]) Q E s := by
  obtain ⟨⟨cls, dd, data, sl⟩, ho, hc, n, hd⟩ := id hl
  obtain ⟨⟨cls2, dd2, data2, sl2⟩, ho2, hc2, n2, hd2⟩ := id hb
  simp only at hc hd hc2 hd2
  subst hc hd hc2 hd2
  exact call_meets F.slot_tuple_lt ⟨_, ho, rfl⟩ F.entry_tuple_lt (F.args_tuple_lt_2 _ _) (tuple_ltAt l b items items2 n n2 dd dd2 sl sl2 e r) ⟨ho, ho2, he, hr, h⟩
end
end PySem.SeqAt
namespace PySem.W
open PySem PySem.Calls PyProof.Rows PySem.SeqAt
section
variable {prog : Program} {w : World} {A : Around} {E : Value → Shared → Prop} {s : Shared}
theorem oneLt_tuples {xs ys : List PyData} {a b : Value} {as bs : List Addr} {Q : Bool → Shared → Prop} (ra : Reads s.heap a (.tuple xs) as) (rb : Reads s.heap b (.tuple ys) bs) (h : alike (.tuple xs) (.tuple ys) = true)
    (hu : A.units + min (PyData.tuple xs).depth (PyData.tuple ys).depth < cLine) (hq : Q (dataLt (.tuple xs) (.tuple ys)) s) : wpAny (model prog w) A (oneLt' true a b) Q E s := by
  have hal : alikeAll xs ys = true := by simpa [alike] using h
  cases ra with
  | @tuple l o vs n _ as₁ h1 h2 h3 h4 =>
    cases rb with
    | @tuple l' o' vs' n' _ bs₁ k1 k2 k3 k4 =>
      have n1 : vs.size = xs.length := by simpa using ReadsAll.length _ _ _ h4
      have n2 : vs'.size = ys.length := by simpa using ReadsAll.length _ _ _ k4
      rw [dataLt_tuple, ← firstLt_toks xs ys hal, ← n1, ← n2] at hq
      rw [oneLt'_eq]
      simp only [if_true]
      refine wpAny_bind (wpAny_cRoomFor (room_here hu) ?_)
      refine wpAny_bind (wpAny_callSpecialIfBound?_slot (T := "tuple") ⟨_, h1, h2⟩ F.slot_tuple_lt (call_tuple_lt (e := pairEq xs ys) (r := fun j => dataLt (xs.getD j .none) (ys.getD j .none)) ⟨_, h1, h2, _, h3⟩ ⟨_, k1, k2, _, k3⟩ (fun j j1 j2 => ?_) (fun j j1 j2 hj => ?_) ?_))
      · have := eqAt_alikeAll xs ys A.in1 s vs.toList vs'.toList _ _ h4 k4 hal (room_in hu) j (by simpa using j1) (by simpa using j2)
        simpa using this
      · have := rcLt_alikeAll xs ys A.in1 s vs.toList vs'.toList _ _ h4 k4 hal (room_in hu) j (by simpa using j1) (by simpa using j2) hj
        simpa using this
      · exact wpAny_truthy_bool hq
theorem firsts_any : ∀ {vs : List Value} {ds : List PyData}, EachIs (fun v d => ∃ as, Reads s.heap v d as) vs ds → (∀ d, d ∈ ds → ∃ xs, d = .tuple xs) →
    ∃ fo : List (Option Value), fo.length = vs.length ∧ (∀ (E : Value → Shared → Prop) (Q : List (Option Value) → Shared → Prop), Q fo s → wpAny (model prog w) A (vs.mapM firstOfTuple') Q E s) ∧ ((∀ f ∈ fo, f.isSome = true) → ∀ d, d ∈ ds → ∃ x r, d = .tuple (x :: r))
  | _, _, .nil, _ => ⟨[], rfl, fun E Q h => by rw [List.mapM_nil]; exact wpAny_pure h, fun _ d hd => absurd hd (by simp)⟩
  | _, _, .cons (a := v) (b := d) ⟨as, r⟩ t, ht => by
    obtain ⟨fo, h1, h2, h3⟩ := firsts_any t fun d hd => ht d (List.mem_cons_of_mem _ hd)
    obtain ⟨xs, rfl⟩ := ht d (List.mem_cons_self ..)
    cases r with
    | @tuple a o us n _ _ ho hc hd hr =>
      refine ⟨us[0]? :: fo, by rw [List.length_cons, List.length_cons, h1], fun E Q h => ?_, fun hs d hd' => ?_⟩
      · rw [List.mapM_cons]
        refine wpAny_bind ?_
        rw [kas_first_eq]
        refine wpAny_bind (Looks.here (show Looks (model prog w) s.heap (typeOf (.ref a)) o.cls from (Looks.ld ho).andThen .now) ?_)
        rw [hc, if_neg (by first | decide | simp)]
        refine wpAny_bind (listItems_at ho hd (wpAny_pure ?_))
        exact wpAny_bind (h2 E (fun bs s' => wpAny (model prog w) A (pure (us[0]? :: bs)) Q E s') (wpAny_pure h))
      · rcases List.mem_cons.mp hd' with rfl | hd'
        · have := hs _ List.mem_cons_self
          cases xs with
          | cons x r => exact ⟨x, r, rfl⟩
          | nil =>
            exfalso
            have n1 : us.size = ([] : List PyData).length := by simpa using ReadsAll.length _ _ _ hr
            have : us[0]? = none := by simp; simpa using n1
            rw [this] at *
            simp_all
        · exact h3 (fun f hf => hs f (List.mem_cons_of_mem _ hf)) d hd'
/-- tuples that read as alike data can be sorted -/
theorem SortsAt.tuples {vs : List Value} {ds : List PyData} (e : EachIs (fun v d => ∃ as, Reads s.heap v d as) vs ds) (hal : AllAlike ds) (ht : ∀ d, d ∈ ds → ∃ xs, d = .tuple xs) (hu : ∀ d, d ∈ ds → A.units + d.depth < cLine) : SortsAt prog w A s (dataKind s.heap ds) vs := by
  by_cases all : ∀ d, d ∈ ds → ∃ x r, d = .tuple (x :: r)
  · exact SortsAt.data e hal (.inl all) hu
  obtain ⟨fo, h1, h2, h3⟩ := firsts_any (prog := prog) (w := w) (A := A) e ht
  have nall : ¬ ∀ f ∈ fo, f.isSome = true := fun z => all (h3 z)
  have room : ∀ {d d' : PyData}, d ∈ ds → A.units + min d.depth d'.depth < cLine := fun {d d'} hd => Nat.lt_of_le_of_lt (Nat.add_le_add_left (Nat.min_le_left _ _) _) (hu d hd)
  refine ⟨fun v hv => ?_, ?_⟩
  · obtain ⟨d, hd, as, r⟩ := e.left v hv
    exact ⟨_, dataKind_some hal hd r⟩
  · have na : ¬ (fo.toArray.all (·.isSome)) = true := by
      simp only [List.all_toArray, List.all_eq_true]
      exact nall
    by_cases c : (fo.toArray[0]?.bind id).isSome = true
    · refine ⟨general', ?_, fun _ E Q hq => ?_⟩
      · intro E x y a b Q ha hb hq
        obtain ⟨d, as, hd, ra, rfl⟩ := dataKind_inv ha
        obtain ⟨d', as', hd', rb, rfl⟩ := dataKind_inv hb
        show wpAny (model prog w) A (oneLt' false x y) Q E s
        obtain ⟨xs, e1⟩ := ht d hd
        exact oneLt_alike (fun z => by cases z) ra rb (hal d hd d' hd') (fun z => by rw [e1] at z; cases z) (room hd) hq
      · rw [keyKind'_eq, List.mapM_toArray, map_eq_pure_bind]
        refine wpAny_bind (wpAny_bind (h2 E _ (wpAny_pure ?_)))
        rw [if_neg na, if_pos c]
        exact wpAny_pure hq
    · refine ⟨oneType', ?_, fun h2' E Q hq => ?_⟩
      · intro E x y a b Q ha hb hq
        obtain ⟨d, as, hd, ra, rfl⟩ := dataKind_inv ha
        obtain ⟨d', as', hd', rb, rfl⟩ := dataKind_inv hb
        rw [keyLt'_oneType]
        obtain ⟨xs, rfl⟩ := ht d hd
        obtain ⟨ys, rfl⟩ := ht d' hd'
        exact oneLt_tuples ra rb (hal _ hd _ hd') (room hd) hq
      · rw [keyKind'_eq, List.mapM_toArray, map_eq_pure_bind]
        refine wpAny_bind (wpAny_bind (h2 E _ (wpAny_pure ?_)))
        rw [if_neg na, if_neg c]
        rw [oneTypeOnly'_eq, List.mapM_toArray, map_eq_pure_bind]
        refine wpAny_bind (wpAny_bind (wpAny_bind (kas_mapM (r := Value.type "tuple") _ (fun v hv Q' hq => ?_) (wpAny_pure ?_))))
        · obtain ⟨d, hd, as, r⟩ := e.left v hv
          obtain ⟨xs, rfl⟩ := ht d hd
          exact (looks_reads (M := model prog w) r).here hq
        · obtain ⟨v, rest, rfl⟩ : ∃ v rest, vs = v :: rest := by
            match vs, h2' with
            | [], h2' => simp at h2'
            | v :: rest, _ => exact ⟨v, rest, rfl⟩
          have hall : ((List.map (fun _ => Value.type "tuple") (v :: rest)).toArray.all fun x => x == Value.type "tuple") = true := by
            simp only [List.all_toArray, List.all_map, List.all_eq_true]
            intro _ _
            rfl
          have h0 : (List.map (fun _ => Value.type "tuple") (v :: rest)).toArray[0]? = some (Value.type "tuple") := by simp
          rw [h0]
          simp only [hall, if_true]
          exact wpAny_pure (wpAny_pure hq)
end
end PySem.W
end
section
set_option linter.all false
set_option maxRecDepth 100000
namespace Pd
open PySem PySem.Spec PyProof.Rows L2

section
variable {P : Program} {w : World} {A : Around} {E : Value → Shared → Prop} {s : Shared}
/-- sorted(x), x a list or a tuple: list.sort on a new list of its items -/
theorem sorted_seq {it : Addr} {T : String} {o : Obj} {vs : List Value} {n : Nat} {ds : List PyData} {Q : Value → Shared → Prop} (hT : T = "list" ∨ T = "tuple") (ho : s.heap.get? it = some o) (hc : o.cls = .type T) (hd : o.data = .seq vs.toArray n)
    (er : PySem.W.EachIs (fun v d => ∃ as, Reads s.heap v d as) vs ds) (hal : PySem.W.AllAlike ds) (hk : PySem.W.Sortable ds ∨ ∀ d, d ∈ ds → ∃ xs, d = .tuple xs) (hL : vs.length ≤ sizeLine) (hu : ∀ d, d ∈ ds → A.units + 2 + d.depth < cLine)
    (h : ∀ h' a out e, (∀ b u, s.heap.get? b = some u → h'.get? b = some u) → s.heap.get? a = none → h'.get? a = some (seqObj "list" (List.toArray out) e) →
      (∀ (β : Type) (R : Value → β → Prop) (bs : List β) (enc : β → PyData), bs.map enc = ds → PySem.W.EachIs R vs bs → out.length = bs.length ∧ PySem.W.EachIs R out (bs.mergeSort (PySem.W.dataLe false enc))) → Q (.ref a) { s with heap := h' }) :
    wpAny (model P w) A (call (.builtin "sorted") [.ref it]) Q E s := by
  refine call_function_entry_kw (kw := []) kind_sorted plain_sorted
    entry_sorted (args_sorted1 _) ?_
  unfold Builtin.«sorted»
  refine wpAny_bind (m := checkCount "sorted" 1 1 _)
    (wpAny_pure (wpAny_bind (wpAny_collect_seq it hT ho hc hd (fun h1 k1 => ?_) (by simpa using hL))))
  have ev : vs.toArray.toList = vs := by simp
  rw [ev]
  refine wpAny_bind (wpAny_newList ?_ hL)
  have at1 : (h1.push (seqObj "list" vs.toArray 0)).get? h1.objs.size = some (seqObj "list" vs.toArray 0) := Heap.get?_push_size _ rfl
  have old : ∀ b u, s.heap.get? b = some u → b ≠ h1.objs.size ∧ (h1.push (seqObj "list" vs.toArray 0)).get? b = some u := fun b u q =>
    ⟨Nat.ne_of_lt (Heap.lt_size (k1 b u q)), Heap.get?_push_of_some _ (k1 b u q)⟩
  have old2 : ∀ b u, s.heap.get? b = some u → (PySem.W.sortingHeap (h1.push (seqObj "list" vs.toArray 0)) h1.objs.size vs).get? b = some u := fun b u q => PySem.W.sortingHeap_old (old b u q).1 (old b u q).2
  have er2 : PySem.W.EachIs (fun v d => ∃ as, Reads (PySem.W.sortingHeap (h1.push (seqObj "list" vs.toArray 0)) h1.objs.size vs) v d as) vs ds := er.mono fun _ _ ⟨as, r⟩ => ⟨as, PyProof.Rows.Reads.keeps old2 r⟩
  refine wpAny_bind (wpAny_holding (wpAny_call_entry_kw slot_list_sort
    ⟨_, at1, rfl⟩ entry_list_sort ?body (args_list_sort _)))
  case body =>
    have hu' : ∀ d, d ∈ ds → A.units + 1 + 1 + d.depth < cLine := fun d hd => by
      have := hu d hd
      omega
    refine PySem.W.list_sort_vals (s := { s with heap := h1.push (seqObj "list" vs.toArray 0) }) at1 (hk.elim (fun hk => PySem.W.SortsAt.data (s := { s with heap := PySem.W.sortingHeap (h1.push (seqObj "list" vs.toArray 0)) h1.objs.size vs }) er2 hal hk hu') fun ht => PySem.W.SortsAt.tuples (s := { s with heap := PySem.W.sortingHeap (h1.push (seqObj "list" vs.toArray 0)) h1.objs.size vs }) er2 hal ht hu') hL ⟨_, rfl, wpAny_pure ⟨_, rfl, ?_⟩⟩
    obtain ⟨e, he⟩ := sortedHeap_at (out := (PySem.W.sortVals (PySem.W.dataKind (PySem.W.sortingHeap (h1.push (seqObj "list" vs.toArray 0)) h1.objs.size vs) ds) false vs vs).toArray) at1
    refine h _ h1.objs.size _ e (fun b u q => ?_) ?_ he fun β R bs enc eb eR => ?_
    · obtain ⟨n1, n2⟩ := old b u q
      rw [sortedHeap_old n1 (Heap.lt_size n2)]
      exact n2
    · cases z : s.heap.get? h1.objs.size with
      | none => rfl
      | some u => exact absurd rfl (old _ _ z).1
    · subst eb
      refine ⟨by rw [PySem.W.sortVals_length false rfl]; exact eR.length, ?_⟩
      have er3 : PySem.W.EachIs (fun v b => ∃ as, Reads (PySem.W.sortingHeap (h1.push (seqObj "list" vs.toArray 0)) h1.objs.size vs) v (enc b) as) vs bs := by
        clear h er he hal hk hu eR at1 old old2
        have : ∀ {vs : List Value} {bs : List β} {h0 : Heap}, PySem.W.EachIs (fun v d => ∃ as, Reads h0 v d as) vs (bs.map enc) → PySem.W.EachIs (fun v b => ∃ as, Reads h0 v (enc b) as) vs bs := by
          intro vs bs h0 q
          induction bs generalizing vs with
          | nil =>
            cases q
            exact .nil
          | cons b bs ih =>
            cases q with
            | cons q1 q2 => exact .cons q1 (ih q2)
        exact this er2
      exact PySem.W.sortVals_data false eR er3 hal
end
theorem obj_is {P : Program} {w : World} {H : Hp} {h : Heap} {a : Addr} : ∀ {o : HO}, ObjOk P w H h a o → ∃ u, h.get? a = some u
  | .lst _, ⟨_, _, _, _, e⟩ => ⟨_, e⟩
  | .tup _, ⟨_, _, _, ⟨_, e, _⟩⟩ => ⟨_, e⟩
  | .dK _, ⟨_, _, _, _, _, _, _, e, _⟩ => ⟨_, e⟩
  | .dT _, ⟨_, _, _, _, _, _, _, e, _⟩ => ⟨_, e⟩
  | .set _ _, ⟨_, _, _, _, e, _⟩ => ⟨_, e⟩
  | .ins _ _ _, ⟨_, _, _, e, _⟩ => ⟨_, e⟩
  | .own _, ⟨_, e⟩ => ⟨_, e⟩
  | .xd _, ⟨_, ⟨_, _, _, e, _⟩, _⟩ => ⟨_, e⟩
  | .rng _ _, ⟨_, _, _, e⟩ => ⟨_, e⟩
  | .frz _ _, ⟨e, _⟩ => ⟨_, e⟩
  | .tbl _, e => ⟨_, e⟩
  | .met _ _, e => ⟨_, e⟩
  | .ext _, ⟨_, ⟨_, e⟩, _⟩ => ⟨_, e⟩
theorem free_of {X : Cx} {pins : List (Addr × Obj)} {s : Shared} {σ : L2.St} {H : Hp} {a : Addr} (I : Inv X pins σ H s) (h : s.heap.get? a = none) : H a = none := by
  cases q : H a with
  | none => rfl
  | some o =>
    obtain ⟨u, e⟩ := obj_is (I.hok a o q)
    rw [h] at e
    cases e
section
variable {X : Cx}
theorem sortB_ok {ds : List PyData} (h : sortB ds = true) : PySem.W.AllAlike ds ∧ (PySem.W.Sortable ds ∨ ∀ d, d ∈ ds → ∃ xs, d = .tuple xs) ∧ ∀ d ∈ ds, d.depth ≤ 60 := by
  unfold sortB at h
  simp only [Bool.and_eq_true, Bool.or_eq_true, List.all_eq_true, decide_eq_true_eq] at h
  refine ⟨fun d hd e he => h.1.1 d hd e he, ?_, h.2⟩
  rcases h.1.2 with q | q
  · refine .inr fun d hd => ?_
    have := q d hd
    split at this
    · exact ⟨_, rfl⟩
    · cases this
  · refine .inl <| .inr fun d hd => ⟨fun z => ?_, fun xs z => ?_⟩
    · have := q d hd
      rw [z] at this
      cases this
    · have := q d hd
      rw [z] at this
      cases this
theorem each_zip {F : Hp} : ∀ {us : List Value} {vs : List V} {ds : List PyData}, Vals vs us → RpL F vs ds → PySem.W.EachIs (fun (u : Value) (p : V × PyData) => RelV p.1 u ∧ Rp F p.1 p.2) us (vs.zip ds)
  | _, _, _, .nil, .nil => .nil
  | _, _, _, .cons a b, .cons c d => .cons ⟨a, c⟩ (each_zip b d)
theorem each_unzip {F : Hp} : ∀ {us : List Value} {ps : List (V × PyData)}, PySem.W.EachIs (fun (u : Value) (p : V × PyData) => RelV p.1 u ∧ Rp F p.1 p.2) us ps → Vals (ps.map (·.1)) us ∧ RpL F (ps.map (·.1)) (ps.map (·.2))
  | _, _, .nil => ⟨.nil, .nil⟩
  | _, _, .cons a b => ⟨.cons a.1 (each_unzip b).1, .cons a.2 (each_unzip b).2⟩
theorem zip_snd : ∀ {vs : List V} {ds : List PyData}, vs.length = ds.length → (vs.zip ds).map (·.2) = ds
  | [], [], _ => rfl
  | _ :: vs, _ :: ds, h => by
    rw [List.zip_cons_cons, List.map_cons, zip_snd (Nat.succ.inj h)]
theorem each_reads {pins : List (Addr × Obj)} {s : Shared} {σ : L2.St} {H F : Hp} (I : Inv X pins σ H s) (sb : Sub F H) : ∀ {us : List Value} {vs : List V} {ds : List PyData}, Vals vs us → RpL F vs ds → PySem.W.EachIs (fun v d => ∃ as, Reads s.heap v d as) us ds
  | _, _, _, .nil, .nil => .nil
  | _, _, _, .cons a b, .cons c d => .cons (let ⟨as, h, _⟩ := c.readsN I sb _ _ _ _ (Nat.lt_succ_self _) a; ⟨as, h⟩) (each_reads I sb b d)
theorem sortD_zip (vs : List V) (ds : List PyData) (h : vs.length = ds.length) : ((vs.zip ds).mergeSort (PySem.W.dataLe false (·.2))).map (·.2) = sortD ds := by
  unfold sortD
  have e := PySem.W.sort_maps (r := PySem.W.dataLe false (·.2)) (s := PySem.W.dataLe false id) (fun p : V × PyData => p.2) (l := vs.zip ds) fun _ _ _ _ => rfl
  rw [zip_snd h] at e
  exact e
theorem c_sorted (hu : X.A.units + 66 < cLine) : CD1 X (.builtin "sorted") gSorted := by
  refine cd_of1 fun pins s σ H F x u dx sl Q I r sb rx q k => ?_
  have fin : ∀ {a : Addr} {T : String} {ob : Obj} {its : List Value} {n : Nat} {xs : List V} {ds : List PyData}, (T = "list" ∨ T = "tuple") → s.heap.get? a = some ob → ob.cls = .type T → ob.data = .seq its.toArray n → Vals xs its → RpL F xs ds → sortB ds = true → xs.length ≤ sizeLine →
      (∀ v F' H', Out F H (.o (.list (sortD ds))) v F' H' → Q v H') → wpAny (model X.prog X.w) X.A (call (.builtin "sorted") [.ref a]) (EP X pins σ Q) X.xe s := fun {a T ob its n xs ds} hT h1 h2 h3 rv r1 hz hl kk => by
    obtain ⟨a1, a2, a3⟩ := sortB_ok hz
    refine sorted_seq (A := X.A) hT h1 h2 h3 (each_reads I sb rv r1) a1 a2 (by rw [← rv.length]; exact hl) (fun d hd => by
      have := a3 d hd
      omega) fun h' p out e hk hp hat all => ?_
    obtain ⟨l1, l2⟩ := all _ _ (xs.zip ds) (·.2) (zip_snd r1.length) (each_zip rv r1)
    obtain ⟨v1, v2⟩ := each_unzip l2
    rw [sortD_zip xs ds r1.length] at v2
    have hz2 : (((xs.zip ds).mergeSort (PySem.W.dataLe false (·.2))).map (·.1)).length ≤ sizeLine := by
      rw [List.length_map, List.length_mergeSort, List.length_zip, r1.length, Nat.min_self, ← r1.length]
      exact hl
    exact ⟨.ref p, _, I.laidN (o := .lst (((xs.zip ds).mergeSort (PySem.W.dataLe false (·.2))).map (·.1))) (t' := s.toks) hk hp (free_of I hp) ⟨hz2, out, e, v1, hat⟩, rfl, kk _ _ _ (.o (.lst v2) (free_of I hp))⟩
  unfold gSorted at q
  split at q
  · split at q
    · rename_i hz
      cases q
      obtain ⟨a, xs, rfl, e1, r1⟩ := rx.lst sb
      obtain ⟨hl, its, n, rv, h1⟩ := (show ObjOk X.prog X.w H s.heap a (.lst xs) from I.hok a _ e1)
      cases r
      exact fin (.inl rfl) h1 rfl rfl rv r1 hz hl k
    · cases q
  · split at q
    · rename_i hz
      cases q
      obtain ⟨a, xs, rfl, e1, r1⟩ := rx.tup sb
      obtain ⟨its, rv, ⟨ob, h1, h2, n, h3⟩, hl⟩ := I.tuple (.inl (.inl (sb _ _ e1)))
      cases r
      exact fin (.inr rfl) h1 h2 h3 rv r1 hz hl k
    · cases q
  · cases q
end

def mRg1 (m : S → R Slot) : S → R (Int × Int) := fun st => match m st with
  | .ok (.v (.int n)) st1 => .ok (0, n) st1
  | _ => .bad
def rgOk (a b : Int) : Bool := decide (-16777216 ≤ a) && decide (a ≤ 16777216) && decide (-16777216 ≤ b) && decide (b ≤ 16777216) && decide (b - a ≤ 16777216)
def rgD (a b : Int) : List PyData := (List.range (b - a).toNat).map fun i => .int (a + (i : Nat))
def mLRg (m : S → R (Int × Int)) : S → R Slot := fun st => match m st with
  | .ok (a, b) st1 => if rgOk a b then .ok (.o (.list (rgD a b))) st1 else .bad
  | .bad => .bad
abbrev TRg := L2.St → Hp → (Int → Int → Hp → Prop) → Prop
def tRg (K : PySem.W.Frag) (m : S → R (Int × Int)) : TRg := fun σ H Q => ∃ sa B F st r st', SR K sa B F H σ st ∧ m st = .ok r st' ∧ ∀ sa' F' H', Rch K B σ sa F st sa' F' H' st' → Q r.1 r.2 H'
theorem rgV_rp (F : Hp) (a b : Int) : RpL F (rgV a b) (rgD a b) := by
  unfold rgV rgD
  generalize List.range (b - a).toNat = l
  induction l with
  | nil => exact .nil
  | cons i l ih => exact .cons (.int _) ih
theorem rgOk_ok {a b : Int} (h : rgOk a b = true) : RgOk a b := by
  unfold rgOk at h
  simp only [Bool.and_eq_true, decide_eq_true_eq] at h
  refine ⟨by omega, by omega, by omega, by omega, ?_⟩
  have : (2 : Nat) ^ 24 = 16777216 := by decide
  omega
section
variable {K : PySem.W.Frag} {X : Cx} {e a b : Expr} {m m' : S → R Slot} {mr : S → R (Int × Int)} {p pos : Pos}
theorem imR {t t' : TRg} (h : PRg X e t) (i : ∀ σ H Q, t' σ H Q → t σ H Q) : PRg X e t' := fun pins s σ H Q I q => h pins s σ H Q I (i σ H _ q)
theorem g_1 (hg : Gl X "range") (hm : X.mg "range" = none) (ha : PE X a (tM K m)) (na : starEach [a] X.env = (false, eval a X.env) :: starEach [] X.env := by rfl) : PRg X (.Call (.Name "range" p) [a] [] pos) (tRg K (mRg1 m)) :=
  imR (prg_1 hg hm ha na) fun σ H Q ⟨sa, B, F, st, r', st', h0, h1, k⟩ => by
    unfold mRg1 at h1
    cases q : m st with
    | bad =>
      rw [q] at h1
      cases h1
    | ok r st1 =>
      rw [q] at h1
      cases r with
      | v d =>
        cases d with
        | int i =>
          cases h1
          exact ⟨sa, B, F, st, _, _, h0, q, fun sa' F' H' v R r => by
            cases (show Rp F' v (.int i) from r)
            exact ⟨_, rfl, k sa' F' H' R⟩⟩
        | _ => cases h1
      | _ => cases h1
theorem d_lrg (hc : X.calm = true) (hg : Gl X "list") (hm : X.mg "list" = none) (h : PRg X e (tRg K mr)) (na : starEach [e] X.env = (false, eval e X.env) :: starEach [] X.env := by rfl) : PE X (.Call (.Name "list" p) [e] [] pos) (tM K (mLRg mr)) :=
  imE (pe_listRg hc hg hm h na) fun σ H Q ⟨sa, B, F, st, r', st', h0, h1, k⟩ => by
    unfold mLRg at h1
    cases q : mr st with
    | bad =>
      rw [q] at h1
      cases h1
    | ok r st1 =>
      obtain ⟨i, j⟩ := r
      simp only [q] at h1
      split at h1
      · rename_i hz
        cases h1
        refine ⟨sa, B, F, st, _, _, h0, q, fun sa1 F1 H1 R1 => ⟨rgOk_ok hz, fun p hp => ?_⟩⟩
        obtain ⟨a, b⟩ := R1.out (.o (.lst (rgV_rp _ i j)) hp)
        exact k _ _ _ _ a b
      · cases h1
end
end Pd
end
section
set_option linter.all false
set_option maxRecDepth 100000
namespace Pd
open PySem PySem.Spec PyProof.Rows L2

section
variable {prog : Program} {w : World} {A : Around} {E : Value → Shared → Prop} {s : Shared}
end

/-- the tuple at a, each item in a new pair -/
def ItE (K : PySem.W.Frag) (a : Addr) : It :=
  ⟨fun i H => ∃ (xs : List V) (x : V), SqT K H a xs ∧ xs[i]? = some x, fun i H v H' => ∃ T x, v = .ref T ∧ H T = none ∧ H' = upd H T (.tup [.int (i : Nat), x]) ∧ ∀ xs, SqT K H a xs → xs[i]? = some x,
    fun i H => ∃ xs : List V, SqT K H a xs ∧ xs.length = i⟩
end Pd
end
section
set_option linter.all false
set_option maxRecDepth 100000
namespace Pd
open PySem PySem.Spec PyProof.Rows L2

section
variable {K : PySem.W.Frag} {B : Hp} {σ : L2.St} {sa : Sa} {F H : Hp} {st : S}
/-- some places are forgotten -/
theorem SR.forget (h : SR K sa B F H σ st) {σ' : L2.St} {ss' : List Slot} (hl : σ'.length = ss'.length) (k : ∀ (i : Nat) (x : Slot), ss'[i]? = some x → x ≠ .no → st.ss[i]? = some x ∧ σ'[i]? = σ[i]?) : SR K sa B F H σ' { st with ss := ss' } where
  bh := h.bh
  fh := h.fh
  len := hl
  sl := fun i d e => by
    obtain ⟨e1, e2⟩ := k i _ e (fun z => nomatch z)
    rw [e2]
    exact h.sl i d e1
  so := fun i d e => by
    obtain ⟨e1, e2⟩ := k i _ e (fun z => nomatch z)
    rw [e2]
    exact h.so i d e1
  ap := fun i j d e a n q1 q2 q3 q4 => by
    obtain ⟨e1, e2⟩ := k i _ q1 (fun z => nomatch z)
    obtain ⟨e3, e4⟩ := k j _ q2 (fun z => nomatch z)
    rw [e2] at q3
    rw [e4] at q4
    exact h.ap i j d e a n e1 e3 q3 q4
  sx := fun i e => by
    obtain ⟨e1, e2⟩ := k i _ e (fun z => nomatch z)
    rw [e2]
    exact h.sx i e1
  sc := fun i ns e => by
    obtain ⟨e1, e2⟩ := k i _ e (fun z => nomatch z)
    rw [e2]
    exact h.sc i ns e1
  sr := h.sr
  sy := fun i e => by
    obtain ⟨e1, e2⟩ := k i _ e (fun z => nomatch z)
    rw [e2]
    exact h.sy i e1
theorem get_set {α : Type} {l : List α} {i j : Nat} {x y : α} (h : (l.set i x)[j]? = some y) : (j = i ∧ y = x) ∨ (j ≠ i ∧ l[j]? = some y) := by
  by_cases e : i = j
  · subst e
    have hl : i < (l.set i x).length := (List.getElem?_eq_some_iff.mp h).1
    rw [List.getElem?_set_self (by simpa using hl)] at h
    exact .inl ⟨rfl, (Option.some.inj h).symm⟩
  · rw [List.getElem?_set_ne e] at h
    exact .inr ⟨Ne.symm e, h⟩
/-- a result goes to place i -/
theorem SR.put (h : SR K sa B F H σ st) {i : Nat} {v : V} {r : Slot} (rr : RRep sa B F H σ st v r) : SR K sa B F H (σ.set i (some v)) { st with ss := st.ss.set i r } := by
  have len : (σ.set i (some v)).length = (st.ss.set i r).length := by simp [h.len]
  have at' : ∀ (j : Nat) (x : Slot), (st.ss.set i r)[j]? = some x → (j = i ∧ x = r ∧ (σ.set i (some v))[i]? = some (some v)) ∨ (j ≠ i ∧ st.ss[j]? = some x ∧ (σ.set i (some v))[j]? = σ[j]?) := fun j x q => by
    rcases get_set q with ⟨e1, e2⟩ | ⟨e1, e2⟩
    · subst e1
      have hl : j < (st.ss.set j r).length := (List.getElem?_eq_some_iff.mp q).1
      exact .inl ⟨rfl, e2, List.getElem?_set_self (by rw [h.len]; simpa using hl)⟩
    · exact .inr ⟨e1, e2, List.getElem?_set_ne (Ne.symm e1)⟩
  refine ⟨h.bh, h.fh, len, fun j d q => ?_, fun j d q => ?_, fun j k d e a n q1 q2 q3 q4 => ?_, fun j q => ?_, fun j ns q => ?_, h.sr, fun j q => ?_⟩
  · rcases at' j _ q with ⟨e1, e2, e3⟩ | ⟨e1, e2, e3⟩
    · subst e1
      subst e2
      exact ⟨v, e3, rr⟩
    · rw [e3]
      exact h.sl j d e2
  · rcases at' j _ q with ⟨e1, e2, e3⟩ | ⟨e1, e2, e3⟩
    · subst e1
      subst e2
      obtain ⟨a, o, rfl, h1, h2, h3, h4, h5, _⟩ := rr
      exact ⟨a, o, e3, h1, h2, h3, h4, h5⟩
    · rw [e3]
      exact h.so j d e2
  · rcases at' j _ q1 with ⟨e1, e2, e3⟩ | ⟨e1, e2, e3⟩
    · rcases at' k _ q2 with ⟨f1, f2, f3⟩ | ⟨f1, f2, f3⟩
      · exact n (e1.trans f1.symm)
      · subst e1
        subst e2
        obtain ⟨a', o, rfl, h1, h2, h3, h4, h5, h6⟩ := rr
        rw [e3] at q3
        cases q3
        rw [f3] at q4
        exact h6 k e f2 q4
    · rcases at' k _ q2 with ⟨f1, f2, f3⟩ | ⟨f1, f2, f3⟩
      · subst f1
        subst f2
        obtain ⟨a', o, rfl, h1, h2, h3, h4, h5, h6⟩ := rr
        rw [f3] at q4
        cases q4
        rw [e3] at q3
        exact h6 j d e2 q3
      · rw [e3] at q3
        rw [f3] at q4
        exact h.ap j k d e a n e2 f2 q3 q4
  · rcases at' j _ q with ⟨e1, e2, e3⟩ | ⟨e1, e2, e3⟩
    · subst e1
      subst e2
      exact ⟨rr.1, by rw [e3, rr.2]⟩
    · rw [e3]
      exact h.sx j e2
  · rcases at' j _ q with ⟨e1, e2, e3⟩ | ⟨e1, e2, e3⟩
    · subst e2
      exact False.elim rr
    · rw [e3]
      exact h.sc j ns e2
  · rcases at' j _ q with ⟨e1, e2, e3⟩ | ⟨e1, e2, e3⟩
    · subst e1
      subst e2
      exact ⟨rr.1, by rw [e3, rr.2]⟩
    · rw [e3]
      exact h.sy j e2
/-- the object that place i holds alone is changed -/
theorem SR.mut (h : SR K sa B F H σ st) {i : Nat} {d d' : PyData} {a : Addr} {o' : HO} (e : st.ss[i]? = some (.o d)) (ea : σ[i]? = some (some (.ref a))) (r : OR F o' d') : SR K sa B F (upd H a o') σ { st with ss := st.ss.set i (.o d') } := by
  obtain ⟨a', o, e1, e2, e3, e4, e5, e6⟩ := h.so i d e
  rw [ea] at e1
  cases e1
  have hi : i < st.ss.length := (List.getElem?_eq_some_iff.mp e).1
  have at' : ∀ (j : Nat) (x : Slot), (st.ss.set i (.o d'))[j]? = some x → (j = i ∧ x = .o d') ∨ (j ≠ i ∧ st.ss[j]? = some x) := fun j x q => get_set q
  refine ⟨h.bh.off e4, h.fh.off e5, by simp [h.len], fun j x q => ?_, fun j x q => ?_, fun j k x y b n q1 q2 q3 q4 => ?_, fun j q => ?_, fun j ns q => ?_, fun s q => ?_, fun j q => ?_⟩
  · rcases at' j _ q with ⟨_, z⟩ | ⟨n, z⟩
    · cases z
    · exact h.sl j x z
  · rcases at' j _ q with ⟨n, z⟩ | ⟨n, z⟩
    · subst n
      cases z
      exact ⟨a, o', ea, upd_same, r, e4, e5, e6⟩
    · obtain ⟨b, u, f1, f2, f3, f4, f5, f6⟩ := h.so j x z
      have nb : b ≠ a := fun w => h.ap j i x d b n z e f1 (by rw [w]; exact ea)
      exact ⟨b, u, f1, by rw [upd_ne nb]; exact f2, f3, f4, f5, f6⟩
  · have g : ∀ (l : Nat) (x : PyData), (st.ss.set i (.o d'))[l]? = some (.o x) → ∃ y, st.ss[l]? = some (.o y) := fun l x q => by
      rcases at' l _ q with ⟨n, z⟩ | ⟨n, z⟩
      · exact ⟨d, by rw [n]; exact e⟩
      · exact ⟨x, z⟩
    obtain ⟨x', z1⟩ := g j x q1
    obtain ⟨y', z2⟩ := g k y q2
    exact h.ap j k x' y' b n z1 z2 q3 q4
  · rcases at' j _ q with ⟨_, z⟩ | ⟨n, z⟩
    · cases z
    · exact h.sx j z
  · rcases at' j _ q with ⟨_, z⟩ | ⟨n, z⟩
    · cases z
    · exact h.sc j ns z
  · obtain ⟨f1, f2, f3, f4, f5⟩ := h.sr s q
    obtain ⟨n1, n2⟩ := e6 (by rw [q]; rfl)
    exact ⟨f1.off (Ne.symm n1) (Ne.symm n2), f2, f3, f4, f5⟩
  · rcases at' j _ q with ⟨_, z⟩ | ⟨n, z⟩
    · cases z
    · exact h.sy j z
end

/-- a target stores d; idx: the places that it may change -/
def tG (K : PySem.W.Frag) (idx : List Nat) (g : PyData → S → Option S) : TG := fun v σ H Q => ∃ sa B F st d st', SR K sa B F H σ st ∧ Rp F v d ∧ g d st = some st' ∧ ∀ σ', SR K sa B F H σ' st' → st'.src = st.src → wipe σ' idx = wipe σ idx → Q σ' H
def tGs (K : PySem.W.Frag) (idx : List Nat) (g : List PyData → S → Option S) : TGs := fun vs σ H Q => ∃ sa B F st ds st', SR K sa B F H σ st ∧ RpL F vs ds ∧ g ds st = some st' ∧ ∀ σ', SR K sa B F H σ' st' → st'.src = st.src → wipe σ' idx = wipe σ idx → Q σ' H
def gN (i : Nat) : PyData → S → Option S := fun d st => some { st with ss := st.ss.set i (.v d) }
def gNl : List PyData → S → Option S := fun ds st => match ds with
  | [] => some st
  | _ => none
def gCn (g : PyData → S → Option S) (gs : List PyData → S → Option S) : List PyData → S → Option S := fun ds st => match ds with
  | d :: r => match g d st with
    | some st1 => gs r st1
    | none => none
  | [] => none
def gTp (gs : List PyData → S → Option S) : PyData → S → Option S := fun d st => match d with
  | .tuple ds => gs ds st
  | .list ds => gs ds st
  | _ => none
theorem wipe_at {σ : L2.St} {i : Nat} {idx : List Nat} (h : i ∈ idx) (hi : i < σ.length) : (wipe σ idx)[i]? = some none := by
  induction idx with
  | nil => cases h
  | cons k idx ih =>
    unfold wipe
    by_cases e : k = i
    · subst e
      exact List.getElem?_set_self (by rw [wipe_length]; exact hi)
    · rw [List.getElem?_set_ne e]
      rcases List.mem_cons.mp h with z | z
      · exact absurd z.symm e
      · exact ih z
theorem wipe_set {σ : L2.St} {i : Nat} {x : Option V} {idx : List Nat} (h : i ∈ idx) : wipe (σ.set i x) idx = wipe σ idx := by
  apply List.ext_getElem?
  intro j
  by_cases m : j ∈ idx
  · by_cases hj : j < σ.length
    · rw [wipe_at m hj, wipe_at m (by simpa using hj)]
    · rw [List.getElem?_eq_none (by rw [wipe_length]; simpa using hj), List.getElem?_eq_none (by rw [wipe_length]; simpa using hj)]
  · rw [wipe_out m, wipe_out m, List.getElem?_set_ne]
    exact fun e => m (by rw [← e]; exact h)
section
variable {K : PySem.W.Frag} {X : Cx} {e : Expr} {es : List Expr} {idx : List Nat} {g : PyData → S → Option S} {gs : List PyData → S → Option S} {pos : Pos}
theorem imG {t t' : TG} (h : PG X e t) (i : ∀ v σ H Q, t' v σ H Q → t v σ H Q) : PG X e t' := ⟨fun pins s σ H v u Q I r q => h.run pins s σ H v u Q I r (i v σ H Q q)⟩
theorem imGs {t t' : TGs} (h : PGs X es t) (i : ∀ v σ H Q, t' v σ H Q → t v σ H Q) : PGs X es t' := ⟨fun pins s σ H v u Q I r q => h.run pins s σ H v u Q I r (i v σ H Q q)⟩
theorem q_name {i : Nat} (h : PG X e (gName i)) (hi : i ∈ idx) : PG X e (tG K idx (gN i)) := imG h fun v σ H Q ⟨sa, B, F, st, d, st', h0, r, e, k⟩ => by
  cases e
  exact k _ (h0.put (v := v) (r := .v d) r) rfl (wipe_set hi)
theorem q_nil : PGs X [] (tGs K idx gNl) := imGs pgs_nil fun v σ H Q ⟨sa, B, F, st, d, st', h0, r, e, k⟩ => by
  unfold gNl at e
  cases r with
  | nil =>
    cases e
    exact ⟨rfl, k σ h0 rfl rfl⟩
  | cons _ _ => cases e
theorem q_cons (h : PG X e (tG K idx g)) (h' : PGs X es (tGs K idx gs)) (hs : (assignEach (e :: es) X.env).map (·.2) = assign e X.env :: (assignEach es X.env).map (·.2) := by rfl) : PGs X (e :: es) (tGs K idx (gCn g gs)) := imGs (pgs_cons h h' hs) fun v σ H Q ⟨sa, B, F, st, d, st', h0, r, e, k⟩ => by
  unfold gCn at e
  cases r with
  | nil => cases e
  | @cons v vs d ds r1 r2 =>
    simp only at e
    cases q : g d st with
    | none =>
      rw [q] at e
      cases e
    | some st1 =>
      rw [q] at e
      exact ⟨v, vs, rfl, sa, B, F, st, d, st1, h0, r1, q, fun σ1 S1 e1 w1 => ⟨sa, B, F, st1, ds, st', S1, r2, e, fun σ2 S2 e2 w2 => k σ2 S2 (e2.trans e1) (w2.trans w1)⟩⟩
theorem pg_seq {k : Nat} {t : TGs} {n : Nat} (hc : X.calm = true) (h : PGs X es t) (hn : (assignEach es X.env).length = n := by rfl) (hst : (assignEach es X.env).findIdx? (·.1) = none := by rfl) :
    PG X (.Tuple es k pos) fun v σ H Q => gTup X.K n t v σ H Q ∨ gLst X.K n t v σ H Q := ⟨fun pins s σ H v u Q I r hw => by
  rcases hw with hw | hw
  · exact (pg_tup hc h hn hst).run pins s σ H v u Q I r hw
  · exact (pg_lst hc h hn hst).run pins s σ H v u Q I r hw⟩
/-- the number of items -/
theorem q_tup {k n : Nat} (hc : X.calm = true) (h : PGs X es (tGs X.K idx gs)) (hg : ∀ ds st st', gs ds st = some st' → ds.length = n) (hn : (assignEach es X.env).length = n := by rfl) (hst : (assignEach es X.env).findIdx? (·.1) = none := by rfl) : PG X (.Tuple es k pos) (tG X.K idx (gTp gs)) := imG (pg_seq hc h hn hst) fun v σ H Q ⟨sa, B, F, st, d, st', h0, r, e, k⟩ => by
  unfold gTp at e
  split at e
  · cases r with
    | tup e1 r1 => exact .inl ⟨_, _, rfl, .inl (.inl (h0.fh _ _ e1)), by rw [r1.length]; exact hg _ _ _ e, sa, B, F, st, _, st', h0, r1, e, k⟩
  · cases r with
    | lst e1 r1 => exact .inr ⟨_, _, rfl, .inl (.inl (h0.fh _ _ e1)), by rw [r1.length]; exact hg _ _ _ e, sa, B, F, st, _, st', h0, r1, e, k⟩
  · cases e
theorem gl_nil : ∀ ds st st', gNl ds st = some st' → ds.length = 0 := fun ds st st' h => by
  cases ds with
  | nil => rfl
  | cons _ _ => cases h
theorem gl_cons {n : Nat} (h : ∀ ds st st', gs ds st = some st' → ds.length = n) : ∀ ds st st', gCn g gs ds st = some st' → ds.length = n + 1 := fun ds st st' e => by
  cases ds with
  | nil => cases e
  | cons d ds =>
    unfold gCn at e
    simp only at e
    cases q : g d st with
    | none =>
      rw [q] at e
      cases e
    | some st1 =>
      rw [q] at e
      rw [List.length_cons, h _ _ _ e]
end

inductive RS where
  | nx (s : S) | ret (r : Slot) (s : S) | bk (s : S) | ct (s : S) | bad
/-- what is wanted of a statement's outcome -/
def rsK (K : PySem.W.Frag) (B : Hp) (sa : Sa) (F : Hp) (st : S) (D : Ends) : RS → Prop
  | .nx st' => ∀ sa' F' H' σ', Rch K B σ' sa F st sa' F' H' st' → D.nx σ' H'
  | .ret r st' => ∀ sa' F' H' σ' v, Rch K B σ' sa F st sa' F' H' st' → RRep sa' B F' H' σ' st' v r → D.rt v H'
  | .bk st' => ∀ sa' F' H' σ', Rch K B σ' sa F st sa' F' H' st' → D.bk σ' H'
  | .ct st' => ∀ sa' F' H' σ', Rch K B σ' sa F st sa' F' H' st' → D.ct σ' H'
  | .bad => False
def tMS (K : PySem.W.Frag) (m : S → RS) : TS := fun D σ H => ∃ sa B F st, SR K sa B F H σ st ∧ rsK K B sa F st D (m st)
theorem rsK.step {K : PySem.W.Frag} {B : Hp} {sa sa1 : Sa} {F F1 H1 : Hp} {σ1 : L2.St} {st st1 : S} {D : Ends} {r : RS} (R : Rch K B σ1 sa F st sa1 F1 H1 st1) (h : rsK K B sa F st D r) : rsK K B sa1 F1 st1 D r := by
  cases r with
  | nx st' => exact fun sa' F' H' σ' R2 => h sa' F' H' σ' (R.trans R2)
  | ret r st' => exact fun sa' F' H' σ' v R2 => h sa' F' H' σ' v (R.trans R2)
  | bk st' => exact fun sa' F' H' σ' R2 => h sa' F' H' σ' (R.trans R2)
  | ct st' => exact fun sa' F' H' σ' R2 => h sa' F' H' σ' (R.trans R2)
  | bad => exact h
/-- other ends -/
theorem rsK.ends {K : PySem.W.Frag} {B : Hp} {sa : Sa} {F : Hp} {st : S} {D D' : Ends} {r : RS} (h : rsK K B sa F st D r) (hr : ∀ v H, D.rt v H → D'.rt v H)
    (hn : ∀ st', r = .nx st' → (∀ sa' F' H' σ', Rch K B σ' sa F st sa' F' H' st' → D.nx σ' H') → ∀ sa' F' H' σ', Rch K B σ' sa F st sa' F' H' st' → D'.nx σ' H')
    (hb : ∀ st', r = .bk st' → (∀ sa' F' H' σ', Rch K B σ' sa F st sa' F' H' st' → D.bk σ' H') → ∀ sa' F' H' σ', Rch K B σ' sa F st sa' F' H' st' → D'.bk σ' H')
    (hc : ∀ st', r = .ct st' → (∀ sa' F' H' σ', Rch K B σ' sa F st sa' F' H' st' → D.ct σ' H') → ∀ sa' F' H' σ', Rch K B σ' sa F st sa' F' H' st' → D'.ct σ' H') : rsK K B sa F st D' r := by
  cases r with
  | nx st' => exact hn st' rfl h
  | ret r st' => exact fun sa' F' H' σ' v R q => hr v H' (h sa' F' H' σ' v R q)
  | bk st' => exact hb st' rfl h
  | ct st' => exact hc st' rfl h
  | bad => exact h

def sNil : S → RS := fun st => .nx st
def sSeq (m m' : S → RS) : S → RS := fun st => match m st with
  | .nx st1 => m' st1
  | r => r
def sIf (c : S → R Bool) (m m' : S → RS) : S → RS := fun st => match c st with
  | .ok true st1 => m st1
  | .ok false st1 => m' st1
  | .bad => .bad
def sSet (i : Nat) (m : S → R Slot) : S → RS := fun st => match m st with
  | .ok r st1 => .nx { st1 with ss := st1.ss.set i r }
  | .bad => .bad
def sAsg (m : S → R PyData) (g : PyData → S → Option S) : S → RS := fun st => match m st with
  | .ok d st1 => match g d st1 with
    | some st2 => .nx st2
    | none => .bad
  | .bad => .bad
def sRet (m : S → R Slot) : S → RS := fun st => match m st with
  | .ok r st1 => .ret r st1
  | .bad => .bad
def sDrop (m : S → R Slot) : S → RS := fun st => match m st with
  | .ok _ st1 => .nx st1
  | .bad => .bad
/-- a name's value, moved out of it -/
def mMv (i : Nat) : S → R Slot := fun st => match st.ss[i]? with
  | some (.v d) => .ok (.v d) st
  | some (.o d) => .ok (.o d) { st with ss := st.ss.set i .no }
  | some .src => .ok .src st
  | some .cel => .ok .cel st
  | _ => .bad
section
variable {K : PySem.W.Frag} {X : Cx} {e a b : Expr} {st : Stmt} {sts : List Stmt} {m : S → R Slot} {mf : S → R PyData} {c : S → R Bool} {s1 s2 : S → RS} {g : PyData → S → Option S} {idx : List Nat} {pos : Pos}
theorem b_nil : PSs X [] (tMS K sNil) := imB pss_nil fun D σ H ⟨sa, B, F, st, h0, h1⟩ => h1 sa F H σ (.refl h0)
theorem r_seq : ∀ D σ H, tMS K (sSeq s1 s2) D σ H → tSeq (tMS K s1) (tMS K s2) D σ H := fun D σ H ⟨sa, B, F, st, h0, h1⟩ => by
  refine ⟨sa, B, F, st, h0, ?_⟩
  unfold sSeq at h1
  cases q : s1 st with
  | nx st1 =>
    rw [q] at h1
    exact fun sa' F' H' σ' R => ⟨sa', B, F', st1, R.r, h1.step R⟩
  | ret r st1 =>
    rw [q] at h1
    exact h1
  | bk st1 =>
    rw [q] at h1
    exact h1
  | ct st1 =>
    rw [q] at h1
    exact h1
  | bad =>
    rw [q] at h1
    exact h1
theorem b_cons (h : PS X st (tMS K s1)) (h' : PSs X sts (tMS K s2)) : PSs X (st :: sts) (tMS K (sSeq s1 s2)) := imB (pss_cons h h') r_seq
theorem b_one (h : PS X st (tMS K s1)) : PSs X [st] (tMS K s1) := pss_one h
theorem s_if {sa sb : List Stmt} (hc : PT X e (tMT K c)) (ha : PSs X sa (tMS K s1)) (hb : PSs X sb (tMS K s2)) : PS X (.If e sa sb pos) (tMS K (sIf c s1 s2)) := imS (ps_if hc ha hb) fun D σ H ⟨sa, B, F, st, h0, h1⟩ => by
  unfold sIf at h1
  cases q : c st with
  | bad =>
    rw [q] at h1
    exact h1.elim
  | ok b st1 =>
    rw [q] at h1
    refine ⟨sa, B, F, st, _, _, h0, q, fun sa1 F1 H1 R => ?_⟩
    cases b with
    | true =>
      try dsimp only
      rw [if_pos rfl]
      exact ⟨sa1, B, F1, st1, R.r, h1.step R⟩
    | false =>
      try dsimp only
      rw [if_neg Bool.false_ne_true]
      exact ⟨sa1, B, F1, st1, R.r, h1.step R⟩
/-- name = e, by an assignment's rule -/
theorem s_set {i : Nat} (h : PS X st (tAsg (tM K m) (gName i))) : PS X st (tMS K (sSet i m)) := imS h fun D σ H ⟨sa, B, F, st, h0, h1⟩ => by
  unfold sSet at h1
  cases q : m st with
  | bad =>
    rw [q] at h1
    exact h1.elim
  | ok r st1 =>
    rw [q] at h1
    refine ⟨sa, B, F, st, _, _, h0, q, fun sa1 F1 H1 v R rr => ?_⟩
    exact h1 sa1 F1 H1 _ ⟨R.r.put rr, R.x, R.k, R.s⟩
theorem s_ret (h : PE X e (tM K m)) : PS X (.Return (some e) pos) (tMS K (sRet m)) := imS (ps_ret h) fun D σ H ⟨sa, B, F, st, h0, h1⟩ => by
  unfold sRet at h1
  cases q : m st with
  | bad =>
    rw [q] at h1
    exact h1.elim
  | ok r st1 =>
    rw [q] at h1
    exact ⟨sa, B, F, st, _, _, h0, q, fun sa1 F1 H1 v R rr => h1 sa1 F1 H1 σ v R rr⟩
def sPar2 (i j : Nat) (m m' : S → R Slot) : S → RS := fun st => match m st with
  | .ok r st1 => match m' st1 with
    | .ok r' st2 => .nx { st2 with ss := (st2.ss.set i r).set j r' }
    | .bad => .bad
  | .bad => .bad
def sPar3 (i j l : Nat) (m m' m'' : S → R Slot) : S → RS := fun st => match m st with
  | .ok r st1 => match m' st1 with
    | .ok r' st2 => match m'' st2 with
      | .ok r'' st3 => .nx { st3 with ss := ((st3.ss.set i r).set j r').set l r'' }
      | .bad => .bad
    | .bad => .bad
  | .bad => .bad
/-- a result that waits is protected -/
theorem RRep.wait {B : Hp} {σ : L2.St} {sa : Sa} {F H : Hp} {st : S} {v : V} {r : Slot} (h : SR K sa B F H σ st) (rr : RRep sa B F H σ st v r) : ∃ B', Sub B B' ∧ SR K sa B' F H σ st ∧
    ∀ sa' F' H' st', Rch K B' σ sa F st sa' F' H' st' → RRep sa' B F' H' σ st' v r ∧ (∀ d, r = .o d → ∃ a, v = .ref a ∧ B' a ≠ none) := by
  cases r with
  | v d => exact ⟨B, Sub.refl B, h, fun sa' F' H' st' R => ⟨Rp.mono R.x.le rr, fun d e => nomatch e⟩⟩
  | src => exact ⟨B, Sub.refl B, h, fun sa' F' H' st' R => ⟨⟨R.s rr.1, by rw [R.k rr.1]; exact rr.2⟩, fun d e => nomatch e⟩⟩
  | cel => exact ⟨B, Sub.refl B, h, fun sa' F' H' st' R => ⟨⟨R.s rr.1, by rw [R.k rr.1]; exact rr.2⟩, fun d e => nomatch e⟩⟩
  | no => exact rr.elim
  | scr _ => exact rr.elim
  | o d =>
    obtain ⟨a, o, rfl, h1, h2, h3, h4, h5, h6⟩ := rr
    refine ⟨upd B a o, Sub.new h3, h.prot h1 h3 h5 h6, fun sa' F' H' st' R => ?_⟩
    have hB : (upd B a o) a ≠ none := by
      rw [upd_same]
      exact fun z => nomatch z
    refine ⟨⟨a, o, rfl, R.r.bh _ _ upd_same, h2.mono R.x.le, h3, (R.x.out a h4 hB).none R.r.fh (R.r.bh _ _ upd_same) h2.noT, fun z => ?_, fun j e q z => ?_⟩, fun d' _ => ⟨a, rfl, hB⟩⟩
    · obtain ⟨s, hs⟩ := Option.isSome_iff_exists.mp z
      obtain ⟨_, e2, e3, _⟩ := R.r.sr s hs
      exact ⟨fun w => hB (by
        rw [← w] at e2
        exact e2), fun w => hB (by
        rw [← w] at e3
        exact e3)⟩
    · obtain ⟨b, u, f1, f2, f3, f4, _⟩ := R.r.so j e q
      rw [z] at f1
      cases f1
      exact hB f4
/-- where another object is put, a result still is one -/
theorem RRep.beside {B : Hp} {σ : L2.St} {sa : Sa} {F H : Hp} {st : S} {v v' : V} {r r' : Slot} {i : Nat} (h : RRep sa B F H σ st v r) (hd : ∀ d d', r = .o d → r' = .o d' → v ≠ v') : RRep sa B F H (σ.set i (some v')) { st with ss := st.ss.set i r' } v r := by
  cases r with
  | v d => exact h
  | src => exact h
  | cel => exact h
  | no => exact h.elim
  | scr _ => exact h.elim
  | o d =>
    obtain ⟨a, o, rfl, h1, h2, h3, h4, h5, h6⟩ := h
    refine ⟨a, o, rfl, h1, h2, h3, h4, h5, fun j e q z => ?_⟩
    rcases get_set q with ⟨e1, e2⟩ | ⟨e1, e2⟩
    · subst e1
      rcases get_set z with ⟨_, w⟩ | ⟨w, _⟩
      · exact hd d e rfl e2.symm (Option.some.inj w)
      · exact w rfl
    · rw [List.getElem?_set_ne (Ne.symm e1)] at z
      exact h6 j e e2 z
theorem s_par2 {i j : Nat} {m' : S → R Slot} (hij : i ≠ j) (h : PS X st (tPar i j (tCons (tM K m) (tCons (tM K m') tNil)))) : PS X st (tMS K (sPar2 i j m m')) := imS h fun D σ H ⟨sa, B, F, st, h0, h1⟩ => by
  unfold sPar2 at h1
  cases q : m st with
  | bad =>
    simp only [q] at h1
    exact h1.elim
  | ok r st1 =>
    cases q2 : m' st1 with
    | bad =>
      simp only [q, q2] at h1
      exact h1.elim
    | ok r' st2 =>
      simp only [q, q2] at h1
      refine ⟨sa, B, F, st, r, st1, h0, q, fun sa1 F1 H1 v R1 rr1 => ?_⟩
      obtain ⟨B', sb, S1, kp⟩ := rr1.wait R1.r
      refine ⟨sa1, B', F1, st1, r', st2, S1, q2, fun sa2 F2 H2 w R2 rr2 => ⟨v, w, rfl, ?_⟩⟩
      obtain ⟨k1, k2⟩ := kp sa2 F2 H2 st2 R2
      have R : Rch K B σ sa F st sa2 F2 H2 st2 := R1.trans ⟨R2.r.less sb, R2.x.weak sb, R2.k, R2.s⟩
      have rr2' : RRep sa2 B F2 H2 σ st2 w r' := by
        cases r' with
        | v d => exact rr2
        | src => exact rr2
        | cel => exact rr2
        | no => exact rr2.elim
        | scr _ => exact rr2.elim
        | o d =>
          obtain ⟨a, o, e, t1, t2, t3, t4⟩ := rr2
          exact ⟨a, o, e, t1, t2, sb.none_of t3, t4⟩
      have ne : ∀ d d', r' = .o d → r = .o d' → w ≠ v := fun d d' e1 e2 z => by
        subst e1
        obtain ⟨a, ea, ha⟩ := k2 d' e2
        obtain ⟨a2, o, e, t1, t2, t3, t4⟩ := rr2
        rw [e, ea] at z
        cases z
        exact ha t3
      have S2 := (R.r.put k1).put (i := j) (rr2'.beside (i := i) ne)
      exact h1 sa2 F2 H2 _ ⟨S2, R.x, R.k, R.s⟩
end
end Pd
end
section
set_option linter.all false
set_option maxRecDepth 100000
namespace Pd
open PySem PySem.Spec PyProof.Rows L2

def SrcAt (σ0 σ : L2.St) (st : S) : Opd → Prop
  | .s j d => st.ss[j]? = some (.o d) ∧ σ[j]? = σ0[j]?
  | _ => True
/-- the iterator yields the items ds -/
structure Drv (K : PySem.W.Frag) (J : It) (σ0 : L2.St) (o : Opd) (F0 : Hp) (ds : List PyData) : Prop where
  go : ∀ (i : Nat) (sa : Sa) (B F H : Hp) (σ : L2.St) (st : S), SR K sa B F H σ st → Sub F0 F → SrcAt σ0 σ st o → i < ds.length → J.go i H
  stop : ∀ (sa : Sa) (B F H : Hp) (σ : L2.St) (st : S), SR K sa B F H σ st → Sub F0 F → SrcAt σ0 σ st o → J.stop ds.length H
  yld : ∀ (i : Nat) (sa : Sa) (B F H : Hp) (σ : L2.St) (st : S) (x : V) (H' : Hp) (d : PyData), SR K sa B F H σ st → Sub F0 F → SrcAt σ0 σ st o → ds[i]? = some d → J.yld i H x H' → ∃ F', SR K sa B F' H' σ st ∧ FX B F F' ∧ Rp F' x d
def tI (K : PySem.W.Frag) (m : S → R (Opd × List PyData)) : TI := fun σ H R => ∃ sa B F st o ds st', SR K sa B F H σ st ∧ m st = .ok (o, ds) st' ∧
  ∀ sa' F' H' J, Rch K B σ sa F st sa' F' H' st' → SrcAt σ σ st' o → Drv K J σ o F' ds → R J H'
def frzO : Opd → Opd
  | .t d => .v d
  | x => x
def mSeq (m : S → R Opd) : S → R (Opd × List PyData) := fun st => match m st with
  | .ok x st1 => match seqD x.d with
    | some ds => .ok (frzO x, ds) st1
    | none => .bad
  | .bad => .bad
def enumD (ds : List PyData) : List PyData := ds.zipIdx.map fun p => .tuple [.int (p.2 : Nat), p.1]
def mRgI (m : S → R (List PyData)) : S → R (Opd × List PyData) := fun st => match m st with
  | .ok [.int n] st1 => if rgOk 0 n then .ok (.v .none, rgD 0 n) st1 else .bad
  | _ => .bad
def mRgI2 (m : S → R (List PyData)) : S → R (Opd × List PyData) := fun st => match m st with
  | .ok [.int a, .int b] st1 => if rgOk a b then .ok (.v .none, rgD a b) st1 else .bad
  | _ => .bad
def zipD (xs ys : List PyData) : List PyData := (xs.zip ys).map fun p => .tuple [p.1, p.2]
open Classical in
section
variable {K : PySem.W.Frag}
/-- a list or tuple at a holds the items -/
def HoldsL (K : PySem.W.Frag) (σ0 : L2.St) (o : Opd) (F0 : Hp) (a : Addr) (ds : List PyData) : Prop := ∀ (sa : Sa) (B F H : Hp) (σ : L2.St) (st : S), SR K sa B F H σ st → Sub F0 F → SrcAt σ0 σ st o → ∃ xs, H a = some (.lst xs) ∧ RpL F xs ds
theorem seq_src {B : Hp} {σ : L2.St} {sa sa' : Sa} {F F' H' : Hp} {st st' : S} {x : Opd} {v : V} {ds : List PyData} (R : Rch K B σ sa F st sa' F' H' st') (p : PRep sa' B F' H' σ st' v x) (e : seqD x.d = some ds) :
    ∃ F2 a, v = .ref a ∧ Rch K B σ sa F st sa' F2 H' st' ∧ SrcAt σ σ st' (frzO x) ∧ (((∃ xs, H' a = some (.lst xs)) ∧ HoldsL K σ (frzO x) F2 a ds) ∨ ∃ xs, F2 a = some (.tup xs) ∧ RpL F2 xs ds) := by
  have val : ∀ {F2 : Hp} {d : PyData}, Rch K B σ sa F st sa' F2 H' st' → Rp F2 v d → seqD d = some ds → ∃ F2 a, v = .ref a ∧ Rch K B σ sa F st sa' F2 H' st' ∧ SrcAt σ σ st' (.v d) ∧ (((∃ xs, H' a = some (.lst xs)) ∧ HoldsL K σ (.v d) F2 a ds) ∨ ∃ xs, F2 a = some (.tup xs) ∧ RpL F2 xs ds) := by
    intro F2 d R2 r e
    cases r with
    | lst e1 r1 =>
      cases e
      exact ⟨F2, _, rfl, R2, True.intro, .inl ⟨⟨_, R2.r.fh _ _ e1⟩, fun sa3 B3 F3 H3 σ3 st3 S3 s3 _ => ⟨_, S3.fh _ _ (s3 _ _ e1), r1.mono s3⟩⟩⟩
    | tup e1 r1 =>
      cases e
      exact ⟨F2, _, rfl, R2, True.intro, .inr ⟨_, e1, r1⟩⟩
    | _ => cases e
  cases x with
  | v d => exact val R p e
  | t d =>
    obtain ⟨F2, R2, r2⟩ := R.frz p
    exact val R2 r2 e
  | s j d =>
    obtain ⟨a, o, e1, e2, e3, _⟩ := R.r.so j d p.1
    have q := p.2
    rw [e1] at q
    have q' : V.ref a = v := Option.some.inj (Option.some.inj q)
    cases e3 with
    | lst r1 =>
      cases e
      refine ⟨F', a, q'.symm, R, ⟨p.1, rfl⟩, .inl ⟨⟨_, e2⟩, fun sa3 B3 F3 H3 σ3 st3 S3 s3 z => ?_⟩⟩
      obtain ⟨b, u, f1, f2, f3, _⟩ := S3.so j _ z.1
      rw [z.2, e1] at f1
      cases f1
      cases f3 with
      | lst r3 => exact ⟨_, f2, r3⟩
    | dK _ => cases e
    | dT _ => cases e
theorem drv_list {σ0 : L2.St} {o : Opd} {F0 : Hp} {a : Addr} {ds : List PyData} (h : HoldsL K σ0 o F0 a ds) : Drv K (Itl K a) σ0 o F0 ds where
  go := fun i sa B F H σ st S1 s1 z hi => by
    obtain ⟨xs, e, r⟩ := h sa B F H σ st S1 s1 z
    exact ⟨xs, _, .inl (.inl e), List.getElem?_eq_getElem (by rw [r.length]; exact hi)⟩
  stop := fun sa B F H σ st S1 s1 z => by
    obtain ⟨xs, e, r⟩ := h sa B F H σ st S1 s1 z
    exact ⟨xs, .inl (.inl e), Nat.le_of_eq r.length⟩
  yld := fun i sa B F H σ st x H' d S1 s1 z hd y => by
    obtain ⟨xs, e, r⟩ := h sa B F H σ st S1 s1 z
    obtain ⟨rfl, y2⟩ := y
    obtain ⟨v, h1, h2⟩ := r.get hd
    rw [y2 xs (.inl (.inl e))] at h1
    cases h1
    exact ⟨F, S1, FX.refl, h2⟩
theorem drv_tup {σ0 : L2.St} {o : Opd} {F0 : Hp} {a : Addr} {xs : List V} {ds : List PyData} (e : F0 a = some (.tup xs)) (r : RpL F0 xs ds) : Drv K (Itt K a) σ0 o F0 ds where
  go := fun i sa B F H σ st S1 s1 _ hi => ⟨xs, _, .inl (.inl (S1.fh _ _ (s1 _ _ e))), List.getElem?_eq_getElem (by rw [r.length]; exact hi)⟩
  stop := fun sa B F H σ st S1 s1 _ => ⟨xs, .inl (.inl (S1.fh _ _ (s1 _ _ e))), Nat.le_of_eq r.length⟩
  yld := fun i sa B F H σ st x H' d S1 s1 _ hd y => by
    obtain ⟨rfl, y2⟩ := y
    obtain ⟨v, h1, h2⟩ := r.get hd
    rw [y2 xs (.inl (.inl (S1.fh _ _ (s1 _ _ e))))] at h1
    cases h1
    exact ⟨F, S1, FX.refl, h2.mono s1⟩
/-- a new pair of what is held -/
theorem pair_new {sa : Sa} {B F H : Hp} {σ : L2.St} {st : S} {T : Addr} {x y : V} {dx dy : PyData} (S1 : SR K sa B F H σ st) (hT : H T = none) (rx : Rp F x dx) (ry : Rp F y dy) :
    ∃ F', SR K sa B F' (upd H T (.tup [x, y])) σ st ∧ FX B F F' ∧ Rp F' (.ref T) (.tuple [dx, dy]) := by
  obtain ⟨n1, n2⟩ := S1.news hT
  have hf := S1.fh.none_of hT
  exact ⟨upd F T (.tup [x, y]), (S1.alloc hT).freeze upd_same hf n1 n2, FX.new S1.bh hT S1.fh, .tup upd_same (.cons (rx.mono (Sub.new hf)) (.cons (ry.mono (Sub.new hf)) .nil))⟩
theorem drv_rng {σ0 : L2.St} {o : Opd} {F0 : Hp} {a b : Int} : Drv K (Itr a (b - a).toNat) σ0 o F0 (rgD a b) where
  go := fun i sa B F H σ st S1 s1 _ hi => by
    have e : (rgD a b).length = (b - a).toNat := by simp [rgD]
    rw [e] at hi
    exact hi
  stop := fun sa B F H σ st S1 s1 _ => by
    have e : (rgD a b).length = (b - a).toNat := by simp [rgD]
    rw [e]
    exact Nat.le_refl _
  yld := fun i sa B F H σ st x H' d S1 s1 _ hd y => by
    obtain ⟨rfl, rfl⟩ := y
    unfold rgD at hd
    rw [List.getElem?_map] at hd
    obtain ⟨j, h1, rfl⟩ := Option.map_eq_some_iff.mp hd
    have hj : j = i := by
      rw [List.getElem?_eq_some_iff] at h1
      obtain ⟨h2, h3⟩ := h1
      rw [List.getElem_range] at h3
      exact h3.symm
    subst hj
    exact ⟨F, S1, FX.refl, .int _⟩
end
section
variable {X : Cx} {tg e e' : Expr} {es : List Expr} {m m' : S → R Opd} {ma : S → R (List PyData)} {p pos tpos : Pos} {elts : List Expr} {kk : Nat}
theorem imI {wi wi' : TI} (h : PI X tg e wi) (i : ∀ σ H R, wi' σ H R → wi σ H R) : PI X tg e wi' := ⟨fun pins s σ H R I q => h.run pins s σ H R I (i σ H R q)⟩
/-- a list or a tuple is walked -/
theorem pi_any {tl : TE} (hl : PE X e tl) : PI X tg e fun σ H R => tl σ H fun x H1 => ∃ a, x = .ref a ∧ (((∃ xs, SqL X.K H1 a xs) ∧ R (Itl X.K a) H1) ∨ ((∃ xs, SqT X.K H1 a xs) ∧ R (Itt X.K a) H1)) := by
  refine ⟨fun pins s σ H R I h => thn (hl.run pins s σ H _ I h) fun v s1 ⟨x, H1, I1, r1, a, ex, q1⟩ => ?_⟩
  subst ex
  cases r1
  have one : ∀ b, b ∈ [s1.heap.objs.size] → FpOk X pins H1 b := fun b hb => by
    rw [show b = s1.heap.objs.size by simpa using hb]
    exact I1.fpOk (Nat.le_refl _) (I1.hok.fresh (Nat.le_refl _))
  rcases q1 with ⟨⟨xs, hq⟩, q⟩ | ⟨⟨xs, hq⟩, q⟩
  · obtain ⟨its, rv, pl, _⟩ := I1.list hq
    exact wpAny_pyIter_list pl.isList ⟨s1.heap.objs.size, [s1.heap.objs.size], _, _, H1, rfl, I1.kept (t' := s1.toks) fun b o z => Heap.get?_push_of_some _ z,
      turn_list a _, ⟨_, Heap.get?_push_size _ rfl, rfl, rfl⟩, one, q⟩
  · obtain ⟨its, rv, pl, _⟩ := I1.tuple hq
    exact wpAny_pyIter_tuple (show s1.heap.IsTuple a its.toArray from pl) ⟨s1.heap.objs.size, [s1.heap.objs.size], _, _, H1, rfl, I1.kept (t' := s1.toks) fun b o z => Heap.get?_push_of_some _ z,
      turn_tuple a _, ⟨_, Heap.get?_push_size _ rfl, rfl, rfl⟩, one, q⟩
theorem i_seq (h : PE X e (tP X.K m)) : PI X tg e (tI X.K (mSeq m)) := imI (pi_any h) fun σ H R ⟨sa, B, F, st, o, ds, st', h0, h1, k⟩ => by
  unfold mSeq at h1
  cases q : m st with
  | bad =>
    simp only [q] at h1
    cases h1
  | ok x st1 =>
    cases q2 : seqD x.d with
    | none =>
      simp only [q, q2] at h1
      cases h1
    | some ys =>
      simp only [q, q2] at h1
      cases h1
      refine ⟨sa, B, F, st, x, _, h0, q, fun sa1 F1 H1 v R1 p1 => ?_⟩
      obtain ⟨F2, a, rfl, R2, sc, ⟨⟨xs, e1⟩, hl⟩ | ⟨xs, e1, r1⟩⟩ := seq_src R1 p1 q2
      · exact ⟨a, rfl, .inl ⟨⟨xs, .inl (.inl e1)⟩, k sa1 F2 H1 _ R2 sc (drv_list hl)⟩⟩
      · exact ⟨a, rfl, .inr ⟨⟨xs, .inl (.inl (R2.r.fh _ _ e1))⟩, k sa1 F2 H1 _ R2 sc (drv_tup e1 r1)⟩⟩
theorem i_rng1 {a : Expr} (hg : Gl X "range") (hm : X.mg "range" = none) (h : PA X [a] (tAL X.K ma)) (hs : starEach [a] X.env = [(false, eval a X.env)] := by rfl) : PI X tg (.Call (.Name "range" p) [a] [] pos) (tI X.K (mRgI ma)) :=
  imI (pi_range1 hg hm h hs) fun σ H R ⟨sa, B, F, st, o, ds, st', h0, h1, k⟩ => by
    unfold mRgI at h1
    split at h1
    · rename_i n st1 q
      split at h1
      · rename_i hz
        cases h1
        refine ⟨sa, B, F, st, _, _, h0, q, fun sa1 F1 H1 vs R1 r1 => ?_⟩
        cases r1 with
        | cons r1 r2 =>
          cases r2
          cases r1
          obtain ⟨_, _, h3, h4, _⟩ := rgOk_ok hz
          refine ⟨n, rfl, h3, h4, ?_⟩
          have := k sa1 F1 H1 _ R1 True.intro (drv_rng (a := 0) (b := n))
          rw [Int.sub_zero] at this
          exact this
      · cases h1
    · cases h1
theorem i_rng2 {a b : Expr} (hg : Gl X "range") (hm : X.mg "range" = none) (h : PA X [a, b] (tAL X.K ma)) (hs : starEach [a, b] X.env = [(false, eval a X.env), (false, eval b X.env)] := by rfl) (hs2 : starEach [b] X.env = [(false, eval b X.env)] := by rfl) : PI X tg (.Call (.Name "range" p) [a, b] [] pos) (tI X.K (mRgI2 ma)) :=
  imI (pi_range2 hg hm h hs hs2) fun σ H R ⟨sa, B, F, st, o, ds, st', h0, h1, k⟩ => by
    unfold mRgI2 at h1
    split at h1
    · rename_i a' b' st1 q
      split at h1
      · rename_i hz
        cases h1
        refine ⟨sa, B, F, st, _, _, h0, q, fun sa1 F1 H1 vs R1 r1 => ?_⟩
        cases r1 with
        | cons r1 r2 =>
          cases r2 with
          | cons r2 r3 =>
            cases r3
            cases r1
            cases r2
            obtain ⟨h1, h2, h3, h4, _⟩ := rgOk_ok hz
            exact ⟨a', b', rfl, ⟨h1, h2, h3, h4⟩, k sa1 F1 H1 _ R1 True.intro (drv_rng (a := a') (b := b'))⟩
      · cases h1
    · cases h1
end
end Pd
end
section
set_option linter.all false
set_option maxRecDepth 100000
namespace Pd
open PySem PySem.Spec PyProof.Rows L2

def tL (K : PySem.W.Frag) (m : S → R (List PyData)) : TI := fun σ H R => ∃ sa B F st ds st', SR K sa B F H σ st ∧ m st = .ok ds st' ∧
  ∀ sa' F' H' J, Rch K B σ sa F st sa' F' H' st' → Drv K J σ (.v .none) F' ds → R J H'
def mV (m : S → R PyData) : S → R Opd := fun st => match m st with
  | .ok d st1 => .ok (.v d) st1
  | .bad => .bad
def jSeq (m : S → R PyData) : S → R (List PyData) := fun st => match m st with
  | .ok (.list ds) st1 => .ok ds st1
  | .ok (.tuple ds) st1 => .ok ds st1
  | _ => .bad
def jEnum (m : S → R PyData) : S → R (List PyData) := fun st => match m st with
  | .ok (.list ds) st1 => .ok (enumD ds) st1
  | .ok (.tuple ds) st1 => .ok (enumD ds) st1
  | _ => .bad
def jRg (m : S → R (List PyData)) : S → R (List PyData) := fun st => match m st with
  | .ok [.int n] st1 => if rgOk 0 n then .ok (rgD 0 n) st1 else .bad
  | _ => .bad
def jRg2 (m : S → R (List PyData)) : S → R (List PyData) := fun st => match m st with
  | .ok [.int a, .int b] st1 => if rgOk a b then .ok (rgD a b) st1 else .bad
  | _ => .bad
section
variable {K : PySem.W.Frag} {X : Cx} {tg e e' : Expr} {mf mf' : S → R PyData} {ma : S → R (List PyData)} {p pos tpos : Pos} {elts : List Expr} {kk : Nat}
theorem r_v : ∀ σ H Q, tP K (mV mf) σ H Q → tF K mf σ H Q := fun σ H Q ⟨sa, B, F, st, r, st', h0, h1, k⟩ => by
  unfold mV at h1
  cases q : mf st with
  | bad =>
    rw [q] at h1
    cases h1
  | ok d st1 =>
    rw [q] at h1
    cases h1
    exact ⟨sa, B, F, st, d, _, h0, q, k⟩
theorem p_frz (h : PE X e (tF K mf)) : PE X e (tP K (mV mf)) := imE h r_v
theorem drv_v {J : It} {σ0 : L2.St} {d : PyData} {F0 : Hp} {ds : List PyData} (h : Drv K J σ0 (.v d) F0 ds) : Drv K J σ0 (.v .none) F0 ds := ⟨h.go, h.stop, h.yld⟩
theorem j_seq (h : PE X e (tF X.K mf)) : PI X tg e (tL X.K (jSeq mf)) := imI (i_seq (p_frz h)) fun σ H R ⟨sa, B, F, st, ds, st', h0, h1, k⟩ => by
  unfold jSeq at h1
  split at h1
  · rename_i q
    cases h1
    exact ⟨sa, B, F, st, _, _, _, h0, by simp only [mSeq, mV, q]; rfl, fun sa' F' H' J R1 _ D => k sa' F' H' J R1 (drv_v D)⟩
  · rename_i q
    cases h1
    exact ⟨sa, B, F, st, _, _, _, h0, by simp only [mSeq, mV, q]; rfl, fun sa' F' H' J R1 _ D => k sa' F' H' J R1 (drv_v D)⟩
  · cases h1
theorem j_rng1 {a : Expr} (hg : Gl X "range") (hm : X.mg "range" = none) (h : PA X [a] (tAL X.K ma)) (hs : starEach [a] X.env = [(false, eval a X.env)] := by rfl) : PI X tg (.Call (.Name "range" p) [a] [] pos) (tL X.K (jRg ma)) :=
  imI (i_rng1 hg hm h hs) fun σ H R ⟨sa, B, F, st, ds, st', h0, h1, k⟩ => by
    unfold jRg at h1
    split at h1
    · rename_i q
      split at h1
      · rename_i hz
        cases h1
        exact ⟨sa, B, F, st, _, _, _, h0, by simp only [mRgI, q, hz, if_true]; rfl, fun sa' F' H' J R1 _ D => k sa' F' H' J R1 (drv_v D)⟩
      · cases h1
    · cases h1
theorem j_rng2 {a b : Expr} (hg : Gl X "range") (hm : X.mg "range" = none) (h : PA X [a, b] (tAL X.K ma)) (hs : starEach [a, b] X.env = [(false, eval a X.env), (false, eval b X.env)] := by rfl) (hs2 : starEach [b] X.env = [(false, eval b X.env)] := by rfl) : PI X tg (.Call (.Name "range" p) [a, b] [] pos) (tL X.K (jRg2 ma)) :=
  imI (i_rng2 hg hm h hs hs2) fun σ H R ⟨sa, B, F, st, ds, st', h0, h1, k⟩ => by
    unfold jRg2 at h1
    split at h1
    · rename_i q
      split at h1
      · rename_i hz
        cases h1
        exact ⟨sa, B, F, st, _, _, _, h0, by simp only [mRgI2, q, hz, if_true]; rfl, fun sa' F' H' J R1 _ D => k sa' F' H' J R1 (drv_v D)⟩
      · cases h1
    · cases h1
end

def forGo (g : PyData → S → Option S) (m : S → RS) : List PyData → S → RS
  | [], st => .nx st
  | d :: ds, st => match g d st with
    | some st1 => match m st1 with
      | .nx st2 => forGo g m ds st2
      | .ct st2 => forGo g m ds st2
      | .bk st2 => .nx st2
      | .ret r st2 => .ret r st2
      | .bad => .bad
    | none => .bad
def sFor (mi : S → R (List PyData)) (g : PyData → S → Option S) (m : S → RS) : S → RS := fun st => match mi st with
  | .ok ds st1 => forGo g m ds st1
  | .bad => .bad
section
variable {K : PySem.W.Frag} {X : Cx} {tg e : Expr} {body : List Stmt} {mi : S → R (List PyData)} {g : PyData → S → Option S} {mb : S → RS} {c : S → R Bool} {idx : List Nat} {pos : Pos}
theorem s_for (hp : PassesOwn (model X.prog X.w) X.A X.env X.xe) (hc : X.calm = true) (hi : PI X tg e (tL K mi)) (hg : PG X tg (tG K idx g)) (hb : PSs X body (tMS K mb)) (hs : ∀ x, foldedSetIterable e X.env x = pure x := by intro _; rfl) :
    PS X (.For tg e body [] pos) (tMS K (sFor mi g mb)) := imS (ps_for hp hc hi hg hb hs) fun D σ H ⟨sa, B, F, st, h0, h1⟩ => by
  unfold sFor at h1
  cases q : mi st with
  | bad =>
    simp only [q] at h1
    exact h1.elim
  | ok ds st1 =>
    simp only [q] at h1
    refine ⟨sa, B, F, st, ds, st1, h0, q, fun sa1 F1 H1 J R1 dr => ?_⟩
    refine ⟨fun i n σ' H' => ∃ sa2 F2 st2, SR K sa2 B F2 H' σ' st2 ∧ Sub F1 F2 ∧ (n = ds.length - i ∧ i ≤ ds.length) ∧ rsK K B sa2 F2 st2 D (forGo g mb (ds.drop i) st2), ⟨_, sa1, F1, st1, R1.r, Sub.refl _, ⟨rfl, Nat.zero_le _⟩, h1.step R1⟩, fun i n σ' H' ⟨sa2, F2, st2, S2, s2, e2, h2⟩ => ?_⟩
    by_cases hi : i < ds.length
    · rw [List.drop_eq_getElem_cons hi] at h2
      unfold forGo at h2
      cases q2 : g ds[i] st2 with
      | none =>
        simp only [q2] at h2
        exact h2.elim
      | some st3 =>
        simp only [q2] at h2
        refine .inr ⟨dr.go i sa2 B F2 H' σ' st2 S2 s2 True.intro hi, fun σ'' H'' => ∃ sa3 F3 st3, SR K sa3 B F3 H'' σ'' st3 ∧ Sub F1 F3 ∧ rsK K B sa3 F3 st3 D (forGo g mb (ds.drop (i + 1)) st3), fun σ'' H'' ⟨sa3, F3, st3, S3, s3, h3⟩ => ⟨ds.length - (i + 1), by omega, sa3, F3, st3, S3, s3, ⟨rfl, hi⟩, h3⟩, fun x H3 y => ?_⟩
        obtain ⟨F3, S3, x3, r3⟩ := dr.yld i sa2 B F2 H' σ' st2 x H3 ds[i] S2 s2 True.intro (List.getElem?_eq_getElem hi) y
        refine ⟨sa2, B, F3, st2, ds[i], st3, S3, r3, q2, fun σ4 S4 e4 _ => ⟨sa2, B, F3, st3, S4, ?_⟩⟩
        have h3 : rsK K B sa2 F3 st3 D (match mb st3 with
          | .nx st2 => forGo g mb (ds.drop (i + 1)) st2
          | .ct st2 => forGo g mb (ds.drop (i + 1)) st2
          | .bk st2 => .nx st2
          | .ret r st2 => .ret r st2
          | .bad => .bad) := h2.step (σ1 := σ4) (H1 := H3) ⟨S4, x3, fun _ => rfl, fun z => by rw [e4]; exact z⟩
        have s3 := s2.trans x3.le
        cases q3 : mb st3 with
        | nx st4 =>
          simp only [q3] at h3
          exact fun sa5 F5 H5 σ5 R5 => ⟨sa5, F5, st4, R5.r, s3.trans R5.x.le, h3.step R5⟩
        | ct st4 =>
          simp only [q3] at h3
          exact fun sa5 F5 H5 σ5 R5 => ⟨sa5, F5, st4, R5.r, s3.trans R5.x.le, h3.step R5⟩
        | bk st4 =>
          simp only [q3] at h3
          exact h3
        | ret r st4 =>
          simp only [q3] at h3
          exact h3
        | bad =>
          simp only [q3] at h3
          exact h3
    · have hl : i = ds.length := by omega
      subst hl
      rw [List.drop_length] at h2
      exact .inl ⟨dr.stop sa2 B F2 H' σ' st2 S2 s2 True.intro, h2 sa2 F2 H' σ' (.refl S2)⟩

def whGo (c : S → R Bool) (m : S → RS) : Nat → S → RS
  | 0, _ => .bad
  | k + 1, st => match c st with
    | .ok true st1 => match m st1 with
      | .nx st2 => whGo c m k st2
      | .ct st2 => whGo c m k st2
      | .bk st2 => .nx st2
      | .ret r st2 => .ret r st2
      | .bad => .bad
    | .ok false st1 => .nx st1
    | .bad => .bad
open Classical in
noncomputable def sWhile (c : S → R Bool) (m : S → RS) : S → RS := fun st => if h : ∃ k, whGo c m k st ≠ .bad then whGo c m h.choose st else .bad
theorem whGo_more {c : S → R Bool} {m : S → RS} : ∀ {k l : Nat} {st : S}, whGo c m k st ≠ .bad → k ≤ l → whGo c m l st = whGo c m k st
  | 0, _, _, h, _ => absurd rfl h
  | k + 1, 0, _, _, h => by omega
  | k + 1, l + 1, st, h, hl => by
    have hl' : k ≤ l := by omega
    unfold whGo at h ⊢
    cases q : c st with
    | bad => rfl
    | ok b st1 =>
      cases b with
      | false => rfl
      | true =>
        simp only [q] at h ⊢
        cases q2 : m st1 with
        | nx st2 =>
          simp only [q2] at h ⊢
          exact whGo_more h hl'
        | ct st2 =>
          simp only [q2] at h ⊢
          exact whGo_more h hl'
        | bk st2 => rfl
        | ret r st2 => rfl
        | bad => rfl
theorem sWhile_of {c : S → R Bool} {m : S → RS} {k : Nat} {st : S} (h : whGo c m k st ≠ .bad) : sWhile c m st = whGo c m k st := by
  unfold sWhile
  have hx : ∃ k, whGo c m k st ≠ .bad := ⟨k, h⟩
  rw [dif_pos hx]
  rcases Nat.le_total k hx.choose with z | z
  · exact whGo_more h z
  · exact (whGo_more hx.choose_spec z).symm
theorem sWhile_fuel {c : S → R Bool} {m : S → RS} {st : S} : ∃ k, sWhile c m st = whGo c m k st := by
  by_cases h : ∃ k, whGo c m k st ≠ .bad
  · obtain ⟨k, hk⟩ := h
    exact ⟨k, sWhile_of hk⟩
  · exact ⟨0, by
      unfold sWhile
      rw [dif_neg h]
      rfl⟩
/-- a turn of while -/
theorem sWhile_turn {c : S → R Bool} {m : S → RS} {st : S} : sWhile c m st = match c st with
    | .ok true st1 => match m st1 with
      | .nx st2 => sWhile c m st2
      | .ct st2 => sWhile c m st2
      | .bk st2 => .nx st2
      | .ret r st2 => .ret r st2
      | .bad => .bad
    | .ok false st1 => .nx st1
    | .bad => .bad := by
  have one : ∀ k, whGo c m (k + 1) st = match c st with
    | .ok true st1 => match m st1 with
      | .nx st2 => whGo c m k st2
      | .ct st2 => whGo c m k st2
      | .bk st2 => .nx st2
      | .ret r st2 => .ret r st2
      | .bad => .bad
    | .ok false st1 => .nx st1
    | .bad => .bad := fun k => rfl
  have none_ : (∀ k, whGo c m (k + 1) st = .bad) → sWhile c m st = .bad := fun h => by
    unfold sWhile
    rw [dif_neg]
    rintro ⟨k, hk⟩
    cases k with
    | zero => exact hk rfl
    | succ k => exact hk (h k)
  cases q : c st with
  | bad => exact none_ fun k => by rw [one, q]
  | ok b st1 =>
    cases b with
    | false =>
      have : whGo c m 1 st = .nx st1 := by rw [one, q]
      rw [sWhile_of (k := 1) (by rw [this]; exact fun z => nomatch z), this]
    | true =>
      dsimp only
      cases q2 : m st1 with
      | nx st2 =>
        dsimp only
        have e : ∀ k, whGo c m (k + 1) st = whGo c m k st2 := fun k => by rw [one, q]; dsimp only; rw [q2]
        obtain ⟨k, hk⟩ := sWhile_fuel (c := c) (m := m) (st := st2)
        rw [hk]
        by_cases z : whGo c m k st2 = .bad
        · rw [z]
          refine none_ fun l => ?_
          rw [e]
          cases w : whGo c m l st2 with
          | bad => rfl
          | _ =>
            have := sWhile_of (k := l) (c := c) (m := m) (st := st2) (by rw [w]; exact fun z => nomatch z)
            rw [hk, z, w] at this
            cases this
        · rw [sWhile_of (k := k + 1) (by rw [e]; exact z), e]
      | ct st2 =>
        dsimp only
        have e : ∀ k, whGo c m (k + 1) st = whGo c m k st2 := fun k => by rw [one, q]; dsimp only; rw [q2]
        obtain ⟨k, hk⟩ := sWhile_fuel (c := c) (m := m) (st := st2)
        rw [hk]
        by_cases z : whGo c m k st2 = .bad
        · rw [z]
          refine none_ fun l => ?_
          rw [e]
          cases w : whGo c m l st2 with
          | bad => rfl
          | _ =>
            have := sWhile_of (k := l) (c := c) (m := m) (st := st2) (by rw [w]; exact fun z => nomatch z)
            rw [hk, z, w] at this
            cases this
        · rw [sWhile_of (k := k + 1) (by rw [e]; exact z), e]
      | bk st2 =>
        have : whGo c m 1 st = .nx st2 := by rw [one, q]; dsimp only; rw [q2]
        rw [sWhile_of (k := 1) (by rw [this]; exact fun z => nomatch z), this]
      | ret r st2 =>
        have : whGo c m 1 st = .ret r st2 := by rw [one, q]; dsimp only; rw [q2]
        rw [sWhile_of (k := 1) (by rw [this]; exact fun z => nomatch z), this]
      | bad => exact none_ fun k => by rw [one, q]; dsimp only; rw [q2]
theorem s_while (hp : PassesOwn (model X.prog X.w) X.A X.env X.xe) (hc : PT X e (tMT K c)) (hb : PSs X body (tMS K mb)) : PS X (.While e body [] pos) (tMS K (sWhile c mb)) := imS (ps_while hp hc hb) fun D σ H ⟨sa, B, F, st, h0, h1⟩ => by
  obtain ⟨k, hk⟩ := sWhile_fuel (c := c) (m := mb) (st := st)
  rw [hk] at h1
  refine ⟨fun n σ' H' => ∃ sa2 F2 st2, SR K sa2 B F2 H' σ' st2 ∧ rsK K B sa2 F2 st2 D (whGo c mb n st2), ⟨k, sa, F, st, h0, h1⟩, fun n σ' H' ⟨sa2, F2, st2, S2, h2⟩ => ?_⟩
  cases n with
  | zero => exact h2.elim
  | succ n =>
    unfold whGo at h2
    cases q : c st2 with
    | bad =>
      simp only [q] at h2
      exact h2.elim
    | ok b st3 =>
      refine ⟨sa2, B, F2, st2, b, st3, S2, q, fun sa3 F3 H3 R3 => ?_⟩
      cases b with
      | false =>
        simp only [q] at h2
        rw [if_neg Bool.false_ne_true]
        exact h2 sa3 F3 H3 σ' R3
      | true =>
        simp only [q] at h2
        rw [if_pos rfl]
        refine ⟨fun σ'' H'' => ∃ sa4 F4 st4, SR K sa4 B F4 H'' σ'' st4 ∧ rsK K B sa4 F4 st4 D (whGo c mb n st4), fun σ'' H'' z => ⟨n, Nat.lt_succ_self n, z⟩, sa3, B, F3, st3, R3.r, ?_⟩
        cases q3 : mb st3 with
        | nx st4 =>
          simp only [q3] at h2
          exact fun sa5 F5 H5 σ5 R5 => ⟨sa5, F5, st4, R5.r, (h2.step R3).step R5⟩
        | ct st4 =>
          simp only [q3] at h2
          exact fun sa5 F5 H5 σ5 R5 => ⟨sa5, F5, st4, R5.r, (h2.step R3).step R5⟩
        | bk st4 =>
          simp only [q3] at h2
          exact h2.step R3
        | ret r st4 =>
          simp only [q3] at h2
          exact h2.step R3
        | bad =>
          simp only [q3] at h2
          exact h2.step R3
end
end Pd
end
section
set_option linter.all false
set_option maxRecDepth 100000
namespace Pd
open PySem PySem.Spec PyProof.Rows L2

def wipeS (ss : List Slot) : List Nat → List Slot
  | [] => ss
  | v :: vs => (wipeS ss vs).set v .no
def backS : Option Slot → Slot
  | some (.v d) => .v d
  | some .src => .src
  | some .cel => .cel
  | some (.scr ns) => .scr ns
  | _ => .no
def restS (ss0 ss1 : List Slot) : List Nat → List Slot
  | [] => ss1
  | v :: vs => (restS ss0 ss1 vs).set v (backS ss0[v]?)
def S.wipe (st : S) (vs : List Nat) : S := { st with ss := wipeS st.ss vs }
def S.rest (st st0 : S) (vs : List Nat) : S := { st with ss := restS st0.ss st.ss vs }
theorem wipeS_length (ss : List Slot) : ∀ vs : List Nat, (wipeS ss vs).length = ss.length
  | [] => rfl
  | v :: vs => by
    unfold wipeS
    rw [List.length_set, wipeS_length ss vs]
theorem restS_length (ss0 ss : List Slot) : ∀ vs : List Nat, (restS ss0 ss vs).length = ss.length
  | [] => rfl
  | v :: vs => by
    unfold restS
    rw [List.length_set, restS_length ss0 ss vs]
theorem wipeS_at {ss : List Slot} {i : Nat} {x : Slot} : ∀ {vs : List Nat}, (wipeS ss vs)[i]? = some x → x ≠ .no → ss[i]? = some x ∧ i ∉ vs
  | [], h, _ => ⟨h, List.not_mem_nil⟩
  | v :: vs, h, n => by
    unfold wipeS at h
    rcases get_set h with ⟨_, z⟩ | ⟨z, w⟩
    · exact absurd z n
    · obtain ⟨h1, h2⟩ := wipeS_at w n
      exact ⟨h1, fun m => (List.mem_cons.mp m).elim z h2⟩
theorem restS_at {ss0 ss : List Slot} {i : Nat} {x : Slot} : ∀ {vs : List Nat}, (restS ss0 ss vs)[i]? = some x → (i ∈ vs ∧ x = backS ss0[i]?) ∨ (i ∉ vs ∧ ss[i]? = some x)
  | [], h => .inr ⟨List.not_mem_nil, h⟩
  | v :: vs, h => by
    unfold restS at h
    rcases get_set h with ⟨z, w⟩ | ⟨z, w⟩
    · subst z
      exact .inl ⟨List.mem_cons_self, w⟩
    · rcases restS_at w with ⟨h1, h2⟩ | ⟨h1, h2⟩
      · exact .inl ⟨List.mem_cons_of_mem _ h1, h2⟩
      · exact .inr ⟨fun m => (List.mem_cons.mp m).elim z h1, h2⟩
theorem wipe_wipe {σ : L2.St} {vs ws : List Nat} (h : ∀ i ∈ ws, i ∈ vs) : wipe (wipe σ ws) vs = wipe σ vs := by
  apply List.ext_getElem?
  intro j
  by_cases m : j ∈ vs
  · by_cases hj : j < σ.length
    · rw [wipe_at m hj, wipe_at m (by rw [wipe_length]; exact hj)]
    · rw [List.getElem?_eq_none (by rw [wipe_length, wipe_length]; omega), List.getElem?_eq_none (by rw [wipe_length]; omega)]
  · rw [wipe_out m, wipe_out m, wipe_out fun z => m (h j z)]
section
variable {K : PySem.W.Frag} {B : Hp} {σ : L2.St} {sa : Sa} {F H : Hp} {st : S}
theorem SR.wipes (h : SR K sa B F H σ st) (vs : List Nat) : SR K sa B F H (wipe σ vs) (st.wipe vs) := h.forget (by rw [wipe_length, wipeS_length, h.len]) fun i x e n => by
  obtain ⟨h1, h2⟩ := wipeS_at e n
  exact ⟨h1, wipe_out h2⟩
theorem SR.rests {sa1 : Sa} {B1 F1 H1 : Hp} {st1 : S} {vs : List Nat} (h1 : SR K sa1 B1 F1 H1 σ st1) (h : SR K sa B F H (wipe σ vs) st) (s : Sub F1 F) (k : SaK st1 sa1 sa) (z : st1.src.isSome = true → st.src.isSome = true) : SR K sa B F H σ (st.rest st1 vs) := by
  have old : ∀ (i : Nat) (x : Slot), x = backS st1.ss[i]? → (∃ d, st1.ss[i]? = some (.v d) ∧ x = .v d) ∨ (st1.ss[i]? = some .src ∧ x = .src) ∨ (∃ ns, st1.ss[i]? = some (.scr ns) ∧ x = .scr ns) ∨ x = .no ∨ (st1.ss[i]? = some .cel ∧ x = .cel) := fun i x e => by
    cases q : st1.ss[i]? with
    | none =>
      rw [q] at e
      exact .inr (.inr (.inr (.inl e)))
    | some y =>
      rw [q] at e
      cases y with
      | v d => exact .inl ⟨d, rfl, e⟩
      | src => exact .inr (.inl ⟨rfl, e⟩)
      | scr ns => exact .inr (.inr (.inl ⟨ns, rfl, e⟩))
      | o d => exact .inr (.inr (.inr (.inl e)))
      | no => exact .inr (.inr (.inr (.inl e)))
      | cel => exact .inr (.inr (.inr (.inr ⟨rfl, e⟩)))
  have own : ∀ (i : Nat) (d : PyData), (restS st1.ss st.ss vs)[i]? = some (.o d) → i ∉ vs ∧ st.ss[i]? = some (.o d) ∧ (wipe σ vs)[i]? = σ[i]? := fun i d e => by
    rcases restS_at e with ⟨e1, e2⟩ | ⟨e1, e2⟩
    · rcases old i _ e2 with ⟨d, _, w⟩ | ⟨_, w⟩ | ⟨ns, _, w⟩ | w | ⟨_, w⟩ <;> cases w
    · exact ⟨e1, e2, wipe_out e1⟩
  refine ⟨h.bh, h.fh, by show σ.length = (restS st1.ss st.ss vs).length; rw [restS_length, ← h.len, wipe_length], fun i d e => ?_, fun i d e => ?_, fun i j d e a n q1 q2 q3 q4 => ?_, fun i e => ?_, fun i ns e => ?_, h.sr, fun i e => ?_⟩
  · rcases restS_at e with ⟨e1, e2⟩ | ⟨e1, e2⟩
    · rcases old i _ e2 with ⟨d', h', w⟩ | ⟨_, w⟩ | ⟨ns, _, w⟩ | w | ⟨_, w⟩
      · cases w
        obtain ⟨v, f1, f2⟩ := h1.sl i d h'
        exact ⟨v, f1, f2.mono s⟩
      all_goals cases w
    · obtain ⟨v, f1, f2⟩ := h.sl i d e2
      rw [wipe_out e1] at f1
      exact ⟨v, f1, f2⟩
  · obtain ⟨e1, e2, e3⟩ := own i d e
    rw [← e3]
    exact h.so i d e2
  · obtain ⟨_, e2, e3⟩ := own i d q1
    obtain ⟨_, f2, f3⟩ := own j e q2
    rw [← e3] at q3
    rw [← f3] at q4
    exact h.ap i j d e a n e2 f2 q3 q4
  · rcases restS_at e with ⟨e1, e2⟩ | ⟨e1, e2⟩
    · rcases old i _ e2 with ⟨d', _, w⟩ | ⟨h', w⟩ | ⟨ns, _, w⟩ | w | ⟨_, w⟩
      · cases w
      · obtain ⟨f1, f2⟩ := h1.sx i h'
        exact ⟨z f1, by rw [f2, k f1]⟩
      all_goals cases w
    · obtain ⟨f1, f2⟩ := h.sx i e2
      rw [wipe_out e1] at f2
      exact ⟨f1, f2⟩
  · rcases restS_at e with ⟨e1, e2⟩ | ⟨e1, e2⟩
    · rcases old i _ e2 with ⟨d', _, w⟩ | ⟨_, w⟩ | ⟨ns', h', w⟩ | w | ⟨_, w⟩
      · cases w
      · cases w
      · cases w
        obtain ⟨a, f1, f2⟩ := h1.sc i ns h'
        exact ⟨a, f1, sqL_mono s f2⟩
      · cases w
      · cases w
    · obtain ⟨a, f1, f2⟩ := h.sc i ns e2
      rw [wipe_out e1] at f1
      exact ⟨a, f1, f2⟩
  · rcases restS_at e with ⟨e1, e2⟩ | ⟨e1, e2⟩
    · rcases old i _ e2 with ⟨d', _, w⟩ | ⟨_, w⟩ | ⟨ns', _, w⟩ | w | ⟨h', w⟩
      · cases w
      · cases w
      · cases w
      · cases w
      · obtain ⟨f1, f2⟩ := h1.sy i h'
        exact ⟨z f1, by rw [f2, k f1]⟩
    · obtain ⟨f1, f2⟩ := h.sy i e2
      rw [wipe_out e1] at f2
      exact ⟨f1, f2⟩
/-- a protected object is changed -/
theorem SR.bump {D : Addr} {o o' : HO} (h : SR K sa (upd B D o) F H σ st) (hf : F D = none) : SR K sa (upd B D o') F (upd H D o') σ st where
  bh := fun a u e => by
    by_cases q : a = D
    · subst q
      rw [upd_same] at e ⊢
      exact e
    · rw [upd_ne q] at e ⊢
      exact h.bh a u (by rw [upd_ne q]; exact e)
  fh := h.fh.off hf
  len := h.len
  sl := h.sl
  so := fun i d e => by
    obtain ⟨a, u, e1, e2, e3, e4, e5, e6⟩ := h.so i d e
    have n : a ≠ D := fun z => by
      rw [z, upd_same] at e4
      cases e4
    rw [upd_ne n] at e4
    exact ⟨a, u, e1, by rw [upd_ne n]; exact e2, e3, by rw [upd_ne n]; exact e4, e5, e6⟩
  ap := h.ap
  sx := h.sx
  sy := h.sy
  sc := h.sc
  sr := fun x e => by
    obtain ⟨e1, e2, e3, e4, e5⟩ := h.sr x e
    have n1 : sa.1 ≠ D := fun z => by
      rw [z, upd_same] at e2
      cases e2
    have n2 : sa.2 ≠ D := fun z => by
      rw [z, upd_same] at e3
      cases e3
    rw [upd_ne n1] at e2
    rw [upd_ne n2] at e3
    exact ⟨e1.off n1 n2, by rw [upd_ne n1]; exact e2, by rw [upd_ne n2]; exact e3, e4, e5⟩
/-- what is protected apart -/
theorem SR.apart {D : Addr} {o : HO} (h : SR K sa (upd B D o) F H σ st) : (st.src.isSome = true → D ≠ sa.1 ∧ D ≠ sa.2) ∧ ∀ (i : Nat) (e : PyData), st.ss[i]? = some (.o e) → σ[i]? ≠ some (some (.ref D)) := by
  refine ⟨fun z => ?_, fun i e q z => ?_⟩
  · obtain ⟨s, hs⟩ := Option.isSome_iff_exists.mp z
    obtain ⟨_, e2, e3, _⟩ := h.sr s hs
    refine ⟨fun w => ?_, fun w => ?_⟩
    · rw [← w, upd_same] at e2
      cases e2
    · rw [← w, upd_same] at e3
      cases e3
  · obtain ⟨b, u, f1, f2, f3, f4, _⟩ := h.so i e q
    rw [z] at f1
    cases f1
    rw [upd_same] at f4
    cases f4
theorem FX.at {D : Addr} {o : HO} {F' H' : Hp} (h : FX (upd B D o) F F') (hf : F D = none) (bh : Sub (upd B D o) H') (fh : Sub F' H') (no : ∀ xs, o ≠ .tup xs) : F' D = none := (h.out D hf (by
  rw [upd_same]
  exact fun z => nomatch z)).none fh (bh _ _ upd_same) no
end

def lcGo (vs : List Nat) (g : PyData → S → Option S) (t : S → R Bool) (e : S → R PyData) : List PyData → List PyData → S → R (List PyData)
  | [], acc, st => .ok acc st
  | d :: ds, acc, st => match g d st with
    | none => .bad
    | some st1 => match t st1 with
      | .bad => .bad
      | .ok false st2 => lcGo vs g t e ds acc (st2.wipe vs)
      | .ok true st2 => match e st2 with
        | .bad => .bad
        | .ok x st3 => lcGo vs g t e ds (acc ++ [x]) (st3.wipe vs)
def mLc (mi : S → R (List PyData)) (vs : List Nat) (g : PyData → S → Option S) (t : S → R Bool) (e : S → R PyData) : S → R Slot := fun st => match mi st with
  | .bad => .bad
  | .ok ds st1 => if okLen ds.length then match lcGo vs g t e ds [] (st1.wipe vs) with
      | .ok acc st2 => .ok (.o (.list acc)) (st2.rest st1 vs)
      | .bad => .bad
    else .bad
def tYesM : S → R Bool := fun st => .ok true st
section
variable {K : PySem.W.Frag} {X : Cx} {mi : S → R (List PyData)} {vs : List Nat} {g : PyData → S → Option S} {t : S → R Bool} {me : S → R PyData}
/-- where a comprehension's list is at D -/
structure LcI (K : PySem.W.Frag) (B : Hp) (σw : L2.St) (sa1 : Sa) (F1 : Hp) (st1 : S) (D : Addr) (H : Hp) (sa : Sa) (F : Hp) (st : S) (vacc : List V) (acc : List PyData) : Prop where
  r : SR K sa (upd B D (.lst vacc)) F H σw st
  x : FX B F1 F
  n : F D = none
  a : RpL F vacc acc
  k : SaK st1 sa1 sa
  s : st1.src.isSome = true → st.src.isSome = true
theorem LcI.at {B : Hp} {σw : L2.St} {sa1 : Sa} {F1 : Hp} {st1 : S} {D : Addr} {H : Hp} {sa : Sa} {F : Hp} {st : S} {vacc : List V} {acc : List PyData} (h : LcI K B σw sa1 F1 st1 D H sa F st vacc acc) : H D = some (.lst vacc) := h.r.bh _ _ upd_same
theorem LcI.go {B : Hp} {σw σ' : L2.St} {sa1 : Sa} {F1 : Hp} {st1 : S} {D : Addr} {H : Hp} {sa : Sa} {F : Hp} {st : S} {vacc : List V} {acc : List PyData} (hb : B D = none) (h : LcI K B σw sa1 F1 st1 D H sa F st vacc acc)
    {sa2 : Sa} {F2 H2 : Hp} {st2 : S} (R : Rch K (upd B D (.lst vacc)) σ' sa F st sa2 F2 H2 st2) : LcI K B σ' sa1 F1 st1 D H2 sa2 F2 st2 vacc acc :=
  ⟨R.r, h.x.trans (R.x.weak (Sub.new hb)), R.x.at h.n R.r.bh R.r.fh (fun xs z => nomatch z), h.a.mono R.x.le, fun z => (R.k (h.s z)).trans (h.k z), fun z => R.s (h.s z)⟩
theorem LcI.wip {B : Hp} {σ' : L2.St} {sa1 : Sa} {F1 : Hp} {st1 : S} {D : Addr} {H : Hp} {sa : Sa} {F : Hp} {st : S} {vacc : List V} {acc : List PyData} (vs : List Nat) (h : LcI K B σ' sa1 F1 st1 D H sa F st vacc acc) : LcI K B (wipe σ' vs) sa1 F1 st1 D H sa F (st.wipe vs) vacc acc :=
  ⟨h.r.wipes vs, h.x, h.n, h.a, h.k, h.s⟩
theorem LcI.more {B : Hp} {σ' : L2.St} {sa1 : Sa} {F1 : Hp} {st1 : S} {D : Addr} {H : Hp} {sa : Sa} {F : Hp} {st : S} {vacc : List V} {acc : List PyData} (h : LcI K B σ' sa1 F1 st1 D H sa F st vacc acc) {y : V} {d : PyData} (r : Rp F y d) :
    LcI K B σ' sa1 F1 st1 D (upd H D (.lst (vacc ++ [y]))) sa F st (vacc ++ [y]) (acc ++ [d]) :=
  ⟨h.r.bump h.n, h.x, h.n, h.a.snoc r, h.k, h.s⟩
theorem LcI.done {B : Hp} {σ : L2.St} {sa sa0 sa1 : Sa} {F0 F1 H1 : Hp} {st0 st1 st : S} {D : Addr} {H F : Hp} {vacc : List V} {acc : List PyData} {Q : VK} (R1 : Rch K B σ sa0 F0 st0 sa1 F1 H1 st1) (hb : B D = none) (h : LcI K B (wipe σ vs) sa1 F1 st1 D H sa F st vacc acc)
    (k : ∀ sa' F' H' v, Rch K B σ sa0 F0 st0 sa' F' H' (st.rest st1 vs) → RRep sa' B F' H' σ (st.rest st1 vs) v (.o (.list acc)) → Q v H') : Q (.ref D) H := by
  have S2 := R1.r.rests h.r h.x.le h.k h.s
  obtain ⟨p1, p2⟩ := S2.apart
  exact k sa F H _ ⟨S2.less (Sub.new hb), R1.x.trans h.x, fun z => (h.k (R1.s z)).trans (R1.k z), fun z => h.s (R1.s z)⟩ ⟨D, _, rfl, h.at, .lst h.a, hb, h.n, p1, p2⟩
theorem LcI.start {B : Hp} {σ : L2.St} {sa1 : Sa} {F1 H1 : Hp} {st1 : S} {D : Addr} (vs : List Nat) (h : SR K sa1 B F1 H1 σ st1) (hD : H1 D = none) : LcI K B (wipe σ vs) sa1 F1 st1 D (upd H1 D (.lst [])) sa1 F1 (st1.wipe vs) [] [] := by
  have S1 := h.wipes vs
  obtain ⟨n1, n2⟩ := S1.news hD
  exact ⟨(S1.alloc hD).prot upd_same (h.bh.none_of hD) n1 n2, FX.refl, h.fh.none_of hD, .nil, fun _ => rfl, fun z => z⟩
theorem r_lc {wi : TI} {gg : TG} {tt : TT} {te : TE} (hi : wi = tL K mi) (hg : gg = tG K vs g) (ht : tt = tMT K t) (he : te = tF K me) : ∀ σ H Q, tM K (mLc mi vs g t me) σ H Q → tLc wi gg tt te vs σ H Q := fun σ H Q ⟨sa, B, F, st, r, st', h0, h1, k⟩ => by
  subst hi hg ht he
  unfold mLc at h1
  cases q : mi st with
  | bad =>
    simp only [q] at h1
    cases h1
  | ok ds st1 =>
    simp only [q] at h1
    split at h1
    · rename_i hz
      cases q2 : lcGo vs g t me ds [] (st1.wipe vs) with
      | bad =>
        simp only [q2] at h1
        cases h1
      | ok res st2 =>
        simp only [q2] at h1
        cases h1
        refine ⟨sa, B, F, st, ds, st1, h0, q, fun sa1 F1 H1 J R1 dr D hD => ?_⟩
        have hb : B D = none := R1.r.bh.none_of hD
        refine ⟨fun i n H' => ∃ sa2 F2 st2' vacc acc, LcI K B (wipe σ vs) sa1 F1 st1 D H' sa2 F2 st2' vacc acc ∧ (n = ds.length - i ∧ i ≤ ds.length) ∧ acc.length ≤ i ∧ lcGo vs g t me (ds.drop i) acc st2' = .ok res st2,
          ⟨_, sa1, F1, _, [], [], LcI.start vs R1.r hD, ⟨rfl, Nat.zero_le _⟩, Nat.le_refl _, q2⟩, fun i n H' ⟨sa2, F2, st2', vacc, acc, L, ⟨hn, hi⟩, hl, q3⟩ => ?_⟩
        by_cases hi' : i < ds.length
        · rw [List.drop_eq_getElem_cons hi'] at q3
          unfold lcGo at q3
          cases q4 : g ds[i] st2' with
          | none =>
            simp only [q4] at q3
            cases q3
          | some st3 =>
            simp only [q4] at q3
            refine .inr ⟨dr.go i sa2 _ F2 H' _ st2' L.r L.x.le True.intro hi', fun H'' => ∃ sa3 F3 st3' vacc' acc', LcI K B (wipe σ vs) sa1 F1 st1 D H'' sa3 F3 st3' vacc' acc' ∧ acc'.length ≤ i + 1 ∧ lcGo vs g t me (ds.drop (i + 1)) acc' st3' = .ok res st2,
              fun H'' ⟨sa3, F3, st3', vacc', acc', L', hl', q'⟩ => ⟨ds.length - (i + 1), by omega, sa3, F3, st3', vacc', acc', L', ⟨rfl, hi'⟩, hl', q'⟩, fun x H3 y => ?_⟩
            obtain ⟨F3, S3, x3, r3⟩ := dr.yld i sa2 _ F2 H' _ st2' x H3 ds[i] L.r L.x.le True.intro (List.getElem?_eq_getElem hi') y
            have L3 := L.go hb ⟨S3, x3, fun _ => rfl, fun z => z⟩
            refine ⟨sa2, _, F3, st2', ds[i], st3, S3, r3, q4, fun σ4 S4 e4 w4 => ?_⟩
            have L4 := L3.go hb (σ' := σ4) ⟨S4, FX.refl, fun _ => rfl, fun z => by rw [e4]; exact z⟩
            have w4' : wipe σ4 vs = wipe σ vs := w4.trans (wipe_wipe fun i h => h)
            refine ⟨w4', ?_⟩
            cases q5 : t st3 with
            | bad =>
              simp only [q5] at q3
              cases q3
            | ok b st5 =>
              refine ⟨sa2, _, F3, st3, b, st5, S4, q5, fun sa5 F5 H5 R5 => ?_⟩
              have L5 := L4.go hb R5
              cases b with
              | false =>
                simp only [q5] at q3
                try dsimp only
                rw [if_neg Bool.false_ne_true]
                have L6 := L5.wip vs
                rw [w4'] at L6
                exact ⟨sa5, F5, _, vacc, acc, L6, by omega, q3⟩
              | true =>
                simp only [q5] at q3
                try dsimp only
                rw [if_pos rfl]
                cases q6 : me st5 with
                | bad =>
                  simp only [q6] at q3
                  cases q3
                | ok d st7 =>
                  simp only [q6] at q3
                  refine ⟨sa5, _, F5, st5, d, st7, L5.r, q6, fun sa7 F7 H7 y7 R7 r7 => ?_⟩
                  have L7 := L5.go hb R7
                  have L8 := (L7.more r7).wip vs
                  rw [w4'] at L8
                  have hlen : vacc.length = acc.length := L.a.length
                  exact ⟨vacc, L7.at, by have := okLen_le hz; omega, sa7, F7, _, _, _, L8, by simp; omega, q3⟩
        · have hl' : i = ds.length := by omega
          subst hl'
          rw [List.drop_length] at q3
          cases q3
          exact .inl ⟨dr.stop sa2 _ F2 H' _ _ L.r L.x.le True.intro, L.done R1 hb k⟩
    · cases h1
variable {elt tg iter : Expr} {ifs : List Expr} {scope : Scope} {own : List (Str × Nat)} {pos : Pos}
theorem d_lc (hc : X.calm = true) (hN : X.N.Nodup) (hi : PI X tg iter (tL K mi)) (ok : BlkOk X.N X.env.scope scope own) (hvs : own.map (·.2) = vs)
    (hg : ∀ (s : Shared) (H : Hp) (C : Addr) (cl : List (Str × Addr)) (fp : List Addr), PG (X.blk s H scope (compEnvC scope cl C X.env) fp) tg (tG K vs g)) (ht : ∀ (s : Shared) (H : Hp) (C : Addr) (cl : List (Str × Addr)) (fp : List Addr), PTs (X.blk s H scope (compEnvC scope cl C X.env) fp) ifs (tMT K t))
    (he : ∀ (s : Shared) (H : Hp) (C : Addr) (cl : List (Str × Addr)) (fp : List Addr), PE (X.blk s H scope (compEnvC scope cl C X.env) fp) elt (tF K me)) (hs : ∀ x, foldedSetIterable iter X.env x = pure x := by intro _; rfl) :
    PE X (.ListComp elt [⟨tg, iter, ifs, 0⟩] scope pos) (tM K (mLc mi vs g t me)) := by
  subst hvs
  exact imE (pe_lc hc hN hi ok hg ht he hs) (r_lc rfl rfl rfl rfl)
theorem s_lc {i : Nat} {y : Str} {py spos : Pos} (hc : X.calm = true) (hN : X.N.Nodup) (hy : X.N[i]? = some y) (hyl : X.env.scope.names.lookup y = some .local)
    (hsw : swapsWith (.ListComp elt [⟨tg, iter, ifs, 0⟩] scope pos) (some (.Name y py)) spos.line X.env = pure true) (hi : PI X tg iter (tL K mi)) (ok : BlkOk X.N X.env.scope scope own) (hvs : own.map (·.2) = vs)
    (hg : ∀ (s : Shared) (H : Hp) (C : Addr) (cl : List (Str × Addr)) (fp : List Addr), PG (X.blk s H scope (compEnvC scope cl C X.env) fp) tg (tG K vs g)) (ht : ∀ (s : Shared) (H : Hp) (C : Addr) (cl : List (Str × Addr)) (fp : List Addr), PTs (X.blk s H scope (compEnvC scope cl C X.env) fp) ifs (tMT K t))
    (he : ∀ (s : Shared) (H : Hp) (C : Addr) (cl : List (Str × Addr)) (fp : List Addr), PE (X.blk s H scope (compEnvC scope cl C X.env) fp) elt (tF K me)) (hs : ∀ x, foldedSetIterable iter X.env x = pure x := by intro _; rfl) :
    PS X (.Assign [.Name y py] (.ListComp elt [⟨tg, iter, ifs, 0⟩] scope pos) spos) (tMS K (sSet i (mLc mi vs g t me))) := by
  subst hvs
  exact s_set (imS (ps_setLc hc hN hy hyl hsw hi ok hg ht he hs) fun D σ H h => r_lc rfl rfl rfl rfl σ H _ h)
theorem t_yes : PTs X [] (tMT K tYesM) := ⟨fun pins s σ H Q I ⟨sa, B, F, st, b, st', h0, h1, k⟩ => pts_nil.run pins s σ H Q I (by
  cases h1
  exact k sa F H (.refl h0))⟩
theorem t_one {c : Expr} {m : S → R Bool} (h : PT X c (tMT K m)) : PTs X [c] (tMT K m) := pts_one h

theorem lcGo_grow : ∀ {ds acc : List PyData} {st st' : S} {r : List PyData}, lcGo vs g t me ds acc st = .ok r st' → acc.length ≤ r.length
  | [], acc, st, st', r, h => by
    cases h
    exact Nat.le_refl _
  | d :: ds, acc, st, st', r, h => by
    unfold lcGo at h
    cases q : g d st with
    | none =>
      simp only [q] at h
      cases h
    | some st1 =>
      simp only [q] at h
      cases q2 : t st1 with
      | bad =>
        simp only [q2] at h
        cases h
      | ok b st2 =>
        cases b with
        | false =>
          simp only [q2] at h
          exact lcGo_grow h
        | true =>
          simp only [q2] at h
          cases q3 : me st2 with
          | bad =>
            simp only [q3] at h
            cases h
          | ok x st3 =>
            simp only [q3] at h
            have := lcGo_grow h
            simp at this
            omega
end
def lcGo2 (vs : List Nat) (g : PyData → S → Option S) (t : S → R Bool) (mi1 : S → R (List PyData)) (vs1 : List Nat) (g1 : PyData → S → Option S) (t1 : S → R Bool) (e : S → R PyData) : List PyData → List PyData → S → R (List PyData)
  | [], acc, st => .ok acc st
  | d :: ds, acc, st => match g d st with
    | none => .bad
    | some st1 => match t st1 with
      | .bad => .bad
      | .ok false st2 => lcGo2 vs g t mi1 vs1 g1 t1 e ds acc (st2.wipe vs)
      | .ok true st2 => match mi1 st2 with
        | .bad => .bad
        | .ok ds1 st3 => match lcGo vs1 g1 t1 e ds1 acc (st3.wipe vs1) with
          | .bad => .bad
          | .ok acc' st4 => lcGo2 vs g t mi1 vs1 g1 t1 e ds acc' (st4.wipe vs)
def mLc2 (mi : S → R (List PyData)) (vs : List Nat) (g : PyData → S → Option S) (t : S → R Bool) (mi1 : S → R (List PyData)) (vs1 : List Nat) (g1 : PyData → S → Option S) (t1 : S → R Bool) (e : S → R PyData) : S → R Slot := fun st => match mi st with
  | .bad => .bad
  | .ok ds st1 => match lcGo2 vs g t mi1 vs1 g1 t1 e ds [] (st1.wipe vs) with
      | .ok acc st2 => if okLen acc.length then .ok (.o (.list acc)) (st2.rest st1 vs) else .bad
      | .bad => .bad
section
variable {K : PySem.W.Frag} {X : Cx} {mi mi1 : S → R (List PyData)} {vs vs1 : List Nat} {g g1 : PyData → S → Option S} {t t1 : S → R Bool} {me : S → R PyData}
theorem lcGo2_grow : ∀ {ds acc : List PyData} {st st' : S} {r : List PyData}, lcGo2 vs g t mi1 vs1 g1 t1 me ds acc st = .ok r st' → acc.length ≤ r.length
  | [], acc, st, st', r, h => by
    cases h
    exact Nat.le_refl _
  | d :: ds, acc, st, st', r, h => by
    unfold lcGo2 at h
    cases q : g d st with
    | none =>
      simp only [q] at h
      cases h
    | some st1 =>
      simp only [q] at h
      cases q2 : t st1 with
      | bad =>
        simp only [q2] at h
        cases h
      | ok b st2 =>
        cases b with
        | false =>
          simp only [q2] at h
          exact lcGo2_grow h
        | true =>
          simp only [q2] at h
          cases q3 : mi1 st2 with
          | bad =>
            simp only [q3] at h
            cases h
          | ok ds1 st3 =>
            simp only [q3] at h
            cases q4 : lcGo vs1 g1 t1 me ds1 acc (st3.wipe vs1) with
            | bad =>
              simp only [q4] at h
              cases h
            | ok acc' st4 =>
              simp only [q4] at h
              exact Nat.le_trans (lcGo_grow q4) (lcGo2_grow h)
theorem r_lc2 {wi wi1 : TI} {gg gg1 : TG} {tt tt1 : TT} {te : TE} (hv : ∀ i ∈ vs1, i ∈ vs) (hi : wi = tL K mi) (hg : gg = tG K vs g) (ht : tt = tMT K t) (hi1 : wi1 = tL K mi1) (hg1 : gg1 = tG K vs1 g1) (ht1 : tt1 = tMT K t1) (he : te = tF K me) :
    ∀ σ H Q, tM K (mLc2 mi vs g t mi1 vs1 g1 t1 me) σ H Q → tLc2 wi gg tt wi1 gg1 tt1 te vs vs1 σ H Q := fun σ H Q ⟨sa, B, F, st, r, st', h0, h1, k⟩ => by
  subst hi hg ht hi1 hg1 ht1 he
  unfold mLc2 at h1
  cases q : mi st with
  | bad =>
    simp only [q] at h1
    cases h1
  | ok ds st1 =>
    simp only [q] at h1
    cases q2 : lcGo2 vs g t mi1 vs1 g1 t1 me ds [] (st1.wipe vs) with
    | bad =>
      simp only [q2] at h1
      cases h1
    | ok res st2 =>
      simp only [q2] at h1
      split at h1
      · rename_i hz
        have hz := okLen_le hz
        cases h1
        refine ⟨sa, B, F, st, ds, st1, h0, q, fun sa1 F1 H1 J R1 dr D hD => ?_⟩
        have hb : B D = none := R1.r.bh.none_of hD
        refine ⟨fun i n H' => ∃ sa2 F2 st2' vacc acc, LcI K B (wipe σ vs) sa1 F1 st1 D H' sa2 F2 st2' vacc acc ∧ (n = ds.length - i ∧ i ≤ ds.length) ∧ lcGo2 vs g t mi1 vs1 g1 t1 me (ds.drop i) acc st2' = .ok res st2,
          ⟨_, sa1, F1, _, [], [], LcI.start vs R1.r hD, ⟨rfl, Nat.zero_le _⟩, q2⟩, fun i n H' ⟨sa2, F2, st2', vacc, acc, L, ⟨hn, hi⟩, q3⟩ => ?_⟩
        by_cases hi' : i < ds.length
        · rw [List.drop_eq_getElem_cons hi'] at q3
          unfold lcGo2 at q3
          cases q4 : g ds[i] st2' with
          | none =>
            simp only [q4] at q3
            cases q3
          | some st3 =>
            simp only [q4] at q3
            refine .inr ⟨dr.go i sa2 _ F2 H' _ st2' L.r L.x.le True.intro hi', fun H'' => ∃ sa3 F3 st3' vacc' acc', LcI K B (wipe σ vs) sa1 F1 st1 D H'' sa3 F3 st3' vacc' acc' ∧ lcGo2 vs g t mi1 vs1 g1 t1 me (ds.drop (i + 1)) acc' st3' = .ok res st2,
              fun H'' ⟨sa3, F3, st3', vacc', acc', L', q'⟩ => ⟨ds.length - (i + 1), by omega, sa3, F3, st3', vacc', acc', L', ⟨rfl, hi'⟩, q'⟩, fun x H3 y => ?_⟩
            obtain ⟨F3, S3, x3, r3⟩ := dr.yld i sa2 _ F2 H' _ st2' x H3 ds[i] L.r L.x.le True.intro (List.getElem?_eq_getElem hi') y
            have L3 := L.go hb ⟨S3, x3, fun _ => rfl, fun z => z⟩
            refine ⟨sa2, _, F3, st2', ds[i], st3, S3, r3, q4, fun σ4 S4 e4 w4 => ?_⟩
            have L4 := L3.go hb (σ' := σ4) ⟨S4, FX.refl, fun _ => rfl, fun z => by rw [e4]; exact z⟩
            have w4' : wipe σ4 vs = wipe σ vs := w4.trans (wipe_wipe fun i h => h)
            refine ⟨w4', ?_⟩
            cases q5 : t st3 with
            | bad =>
              simp only [q5] at q3
              cases q3
            | ok b st5 =>
              refine ⟨sa2, _, F3, st3, b, st5, S4, q5, fun sa5 F5 H5 R5 => ?_⟩
              have L5 := L4.go hb R5
              cases b with
              | false =>
                simp only [q5] at q3
                try dsimp only
                rw [if_neg Bool.false_ne_true]
                have L6 := L5.wip vs
                rw [w4'] at L6
                exact ⟨sa5, F5, _, vacc, acc, L6, q3⟩
              | true =>
                simp only [q5] at q3
                try dsimp only
                rw [if_pos rfl]
                cases q6 : mi1 st5 with
                | bad =>
                  simp only [q6] at q3
                  cases q3
                | ok ds1 st6 =>
                  simp only [q6] at q3
                  cases q7 : lcGo vs1 g1 t1 me ds1 acc (st6.wipe vs1) with
                  | bad =>
                    simp only [q7] at q3
                    cases q3
                  | ok acc7 st7 =>
                    simp only [q7] at q3
                    have top : acc7.length ≤ res.length := lcGo2_grow q3
                    refine ⟨sa5, _, F5, st5, ds1, st6, L5.r, q6, fun sa6 F6 H6 J1 R6 dr1 => ?_⟩
                    have L6 := (L5.go hb R6).wip vs1
                    refine ⟨fun j n H' => ∃ sa2 F2 st2' vacc acc, LcI K B (wipe σ4 vs1) sa1 F1 st1 D H' sa2 F2 st2' vacc acc ∧ Sub F6 F2 ∧ (n = ds1.length - j ∧ j ≤ ds1.length) ∧ lcGo vs1 g1 t1 me (ds1.drop j) acc st2' = .ok acc7 st7,
                      ⟨_, sa6, F6, _, vacc, acc, L6, Sub.refl _, ⟨rfl, Nat.zero_le _⟩, q7⟩, fun j n1 H' ⟨sa2, F2, st2', vacc, acc, L, s2, ⟨hn1, hj⟩, q8⟩ => ?_⟩
                    by_cases hj' : j < ds1.length
                    · rw [List.drop_eq_getElem_cons hj'] at q8
                      unfold lcGo at q8
                      cases q9 : g1 ds1[j] st2' with
                      | none =>
                        simp only [q9] at q8
                        cases q8
                      | some st9 =>
                        simp only [q9] at q8
                        refine .inr ⟨dr1.go j sa2 _ F2 H' _ st2' L.r s2 True.intro hj', fun H'' => ∃ sa3 F3 st3' vacc' acc', LcI K B (wipe σ4 vs1) sa1 F1 st1 D H'' sa3 F3 st3' vacc' acc' ∧ Sub F6 F3 ∧ lcGo vs1 g1 t1 me (ds1.drop (j + 1)) acc' st3' = .ok acc7 st7,
                          fun H'' ⟨sa3, F3, st3', vacc', acc', L', s3, q'⟩ => ⟨ds1.length - (j + 1), by omega, sa3, F3, st3', vacc', acc', L', s3, ⟨rfl, hj'⟩, q'⟩, fun x H9 y => ?_⟩
                        obtain ⟨F9, S9, x9, r9⟩ := dr1.yld j sa2 _ F2 H' _ st2' x H9 ds1[j] L.r s2 True.intro (List.getElem?_eq_getElem hj') y
                        have L9 := L.go hb ⟨S9, x9, fun _ => rfl, fun z => z⟩
                        refine ⟨sa2, _, F9, st2', ds1[j], st9, S9, r9, q9, fun σ10 S10 e10 w10 => ?_⟩
                        have L10 := L9.go hb (σ' := σ10) ⟨S10, FX.refl, fun _ => rfl, fun z => by rw [e10]; exact z⟩
                        have w10' : wipe σ10 vs1 = wipe σ4 vs1 := w10.trans (wipe_wipe fun i h => h)
                        refine ⟨w10', ?_⟩
                        have s9 := s2.trans x9.le
                        cases q11 : t1 st9 with
                        | bad =>
                          simp only [q11] at q8
                          cases q8
                        | ok b st11 =>
                          refine ⟨sa2, _, F9, st9, b, st11, S10, q11, fun sa11 F11 H11 R11 => ?_⟩
                          have L11 := L10.go hb R11
                          cases b with
                          | false =>
                            simp only [q11] at q8
                            try dsimp only
                            rw [if_neg Bool.false_ne_true]
                            have L12 := L11.wip vs1
                            rw [w10'] at L12
                            exact ⟨sa11, F11, _, vacc, acc, L12, s9.trans R11.x.le, q8⟩
                          | true =>
                            simp only [q11] at q8
                            try dsimp only
                            rw [if_pos rfl]
                            cases q12 : me st11 with
                            | bad =>
                              simp only [q12] at q8
                              cases q8
                            | ok d st13 =>
                              simp only [q12] at q8
                              refine ⟨sa11, _, F11, st11, d, st13, L11.r, q12, fun sa13 F13 H13 y13 R13 r13 => ?_⟩
                              have L13 := L11.go hb R13
                              have L14 := (L13.more r13).wip vs1
                              rw [w10'] at L14
                              have hlen : vacc.length = acc.length := L.a.length
                              have hgr := lcGo_grow q8
                              simp only [List.length_append, List.length_singleton] at hgr
                              exact ⟨vacc, L13.at, by omega, sa13, F13, _, _, _, L14, (s9.trans R11.x.le).trans R13.x.le, q8⟩
                    · have hl' : j = ds1.length := by omega
                      subst hl'
                      rw [List.drop_length] at q8
                      cases q8
                      have L15 := L.wip vs
                      rw [wipe_wipe hv, w4'] at L15
                      exact .inl ⟨dr1.stop sa2 _ F2 H' _ _ L.r s2 True.intro, sa2, F2, _, vacc, _, L15, q3⟩
        · have hl' : i = ds.length := by omega
          subst hl'
          rw [List.drop_length] at q3
          cases q3
          exact .inl ⟨dr.stop sa2 _ F2 H' _ _ L.r L.x.le True.intro, L.done R1 hb k⟩
      · cases h1
variable {elt tg iter tg1 iter1 : Expr} {ifs ifs1 : List Expr} {scope : Scope} {own : List (Str × Nat)} {pos : Pos}
theorem d_lc2 (hc : X.calm = true) (hN : X.N.Nodup) (hi : PI X tg iter (tL K mi)) (ok : BlkOk X.N X.env.scope scope own) (hvs : own.map (·.2) = vs) (hv : ∀ i ∈ vs1, i ∈ vs)
    (hg : ∀ (s : Shared) (H : Hp) (C : Addr) (cl : List (Str × Addr)) (fp : List Addr), PG (X.blk s H scope (compEnvC scope cl C X.env) fp) tg (tG K vs g)) (ht : ∀ (s : Shared) (H : Hp) (C : Addr) (cl : List (Str × Addr)) (fp : List Addr), PTs (X.blk s H scope (compEnvC scope cl C X.env) fp) ifs (tMT K t))
    (hi1 : ∀ (s : Shared) (H : Hp) (C : Addr) (cl : List (Str × Addr)) (fp : List Addr), PI (X.blk s H scope (compEnvC scope cl C X.env) fp) tg1 iter1 (tL K mi1))
    (hg1 : ∀ (s : Shared) (H : Hp) (C : Addr) (cl : List (Str × Addr)) (fp : List Addr), PG (X.blk s H scope (compEnvC scope cl C X.env) fp) tg1 (tG K vs1 g1)) (ht1 : ∀ (s : Shared) (H : Hp) (C : Addr) (cl : List (Str × Addr)) (fp : List Addr), PTs (X.blk s H scope (compEnvC scope cl C X.env) fp) ifs1 (tMT K t1))
    (he : ∀ (s : Shared) (H : Hp) (C : Addr) (cl : List (Str × Addr)) (fp : List Addr), PE (X.blk s H scope (compEnvC scope cl C X.env) fp) elt (tF K me)) (hs : ∀ x, foldedSetIterable iter X.env x = pure x := by intro _; rfl) (hs1 : ∀ env x, foldedSetIterable iter1 env x = pure x := by intro _ _; rfl) :
    PE X (.ListComp elt [⟨tg, iter, ifs, 0⟩, ⟨tg1, iter1, ifs1, 0⟩] scope pos) (tM K (mLc2 mi vs g t mi1 vs1 g1 t1 me)) := by
  subst hvs
  exact imE (pe_lc2 hc hN hi ok hv hg ht hi1 hg1 ht1 he hs hs1) (r_lc2 hv rfl rfl rfl rfl rfl rfl rfl)
end
end Pd
end
section
set_option linter.all false
set_option maxRecDepth 100000
namespace Pd
open PySem PySem.Spec PyProof.Rows L2

def mMut (g : List PyData → List PyData → Option (PyData × List PyData)) (i : Nat) (ma : S → R (List PyData)) : S → R Slot := fun st => match st.ss[i]? with
  | some (.o (.list _)) => match ma st with
    | .ok as st1 => match st1.ss[i]? with
      | some (.o (.list ds)) => match g ds as with
        | some (d, ds') => .ok (.v d) { st1 with ss := st1.ss.set i (.o (.list ds')) }
        | none => .bad
      | _ => .bad
    | .bad => .bad
  | _ => .bad
/-- the heap rule does what g tells -/
def MutOk (r : V → List V → Hp → VK → Prop) (g : List PyData → List PyData → Option (PyData × List PyData)) : Prop :=
  ∀ (F H : Hp) (a : Addr) (xs vs : List V) (ds as : List PyData) (d : PyData) (ds' : List PyData) (Q : VK), Sub F H → H a = some (.lst xs) → F a = none → RpL F xs ds → RpL F vs as → g ds as = some (d, ds') →
    (∀ v xs', Rp F v d → RpL F xs' ds' → Q v (upd H a (.lst xs'))) → r (.ref a) vs H Q
def gPopAt : List PyData → List PyData → Option (PyData × List PyData) := fun ds as => match as with
  | [.int i] => if okLen ds.length then match ixN ds.length i with
      | some k => match ds[k]? with
        | some d => some (d, ds.eraseIdx k)
        | none => none
      | none => none
    else none
  | _ => none
theorem RpL.one {F : Hp} {vs : List V} {d : PyData} (h : RpL F vs [d]) : ∃ v, vs = [v] ∧ Rp F v d := by
  cases h with
  | cons r r2 =>
    cases r2
    exact ⟨_, rfl, r⟩
theorem RpL.two {F : Hp} {vs : List V} {d e : PyData} (h : RpL F vs [d, e]) : ∃ v w, vs = [v, w] ∧ Rp F v d ∧ Rp F w e := by
  cases h with
  | cons r r2 =>
    cases r2 with
    | cons r' r3 =>
      cases r3
      exact ⟨_, _, rfl, r, r'⟩
theorem mo_popAt : MutOk rPopAt gPopAt := fun F H a xs vs ds as d ds' Q s hH hF r ra e k => by
  unfold gPopAt at e
  split at e
  · rename_i i
    split at e
    · rename_i hz
      have hz := okLen_le hz
      have hs : sizeLine = 16777216 := rfl
      cases q : ixN ds.length i with
      | none =>
        simp only [q] at e
        cases e
      | some j =>
        simp only [q] at e
        cases q2 : ds[j]? with
        | none =>
          simp only [q2] at e
          cases e
        | some d' =>
          simp only [q2] at e
          cases e
          obtain ⟨v, rfl, rv⟩ := ra.one
          cases rv
          rw [← r.length] at q hz
          obtain ⟨h1, h2, h3, h4⟩ := ixN_seq q
          obtain ⟨v, f1, f2⟩ := r.get q2
          exact ⟨a, xs, i, j, v, rfl, rfl, hH, by omega, by omega, h1, f1, k _ _ f2 (r.erase j)⟩
    · cases e
  · cases e
section
variable {X : Cx} {o e e' : Expr} {es : List Expr} {ma : S → R (List PyData)} {i : Nat} {name : Str} {apos cpos : Pos} {id : String} {r : V → List V → Hp → VK → Prop} {g : List PyData → List PyData → Option (PyData × List PyData)}
theorem m_mut (slot : PySem.Slot "list" name id) (hty : typeOf (.builtin id) = pure (.type "method_descriptor")) (hm : MtR X id r) (mo : MutOk r g) (ho : PE X o (tVar i)) (ha : PA X (e :: es) (tAL X.K ma))
    (hbase : attributeBase o name X.env (eval o X.env) = eval o X.env := by rfl)
    (hfew : ((backTo cpos (starEach (e :: es) X.env)).all (fun x => !x.1) && (backToKw cpos (keywordEach [] X.env)).all (fun x => x.1.isSome)
      && decide ((e :: es).length + ([] : List Keyword).length + (if ([] : List Keyword).isEmpty then 0 else 1) < 30)) = true := by rfl)
    (hline : (apos.endLine == cpos.line) = true := by rfl) (hs : starEach (e :: es) X.env = (false, eval e X.env) :: starEach es X.env := by rfl) (hplain : (backTo cpos (starEach es X.env)).any (·.1) = false := by rfl) :
    PE X (.Call (.Attribute o name apos) (e :: es) [] cpos) (tM X.K (mMut g i ma)) := imE (pe_bm PySem.F.plainAttrs_list slot hty hm ho ha hbase hfew hline hs hplain) fun σ H Q ⟨sa, B, F, st, r', st', h0, h1, k⟩ => by
  unfold mMut at h1
  split at h1
  · rename_i dd q
    cases q2 : ma st with
    | bad =>
      simp only [q2] at h1
      cases h1
    | ok as st1 =>
      simp only [q2] at h1
      split at h1
      · rename_i ds q3
        split at h1
        · rename_i d ds' q4
          cases h1
          obtain ⟨a, o, e1, e2, e3, _⟩ := h0.so i _ q
          cases e3 with
          | lst rr =>
            refine ⟨.ref a, e1, .inl ⟨rfl, _, .inl (.inl e2)⟩, sa, B, F, st, as, st1, h0, q2, fun sa1 F1 H1 vs R1 r1 => ?_⟩
            obtain ⟨b, u, f1, f2, f3, f4, f5, f6⟩ := R1.r.so i _ q3
            rw [e1] at f1
            cases f1
            cases f3 with
            | lst r3 =>
              refine mo F1 H1 a _ vs ds as d ds' Q R1.r.fh f2 f5 r3 r1 q4 fun v xs' rv rx => ?_
              exact k sa1 F1 _ v ⟨R1.r.mut q3 e1 (.lst rx), R1.x, R1.k, R1.s⟩ rv
        · cases h1
      · cases h1
  · cases h1
theorem m_popAt (ho : PE X o (tVar i)) (ha : PA X [e] (tAL X.K ma)) (hbase : attributeBase o "pop" X.env (eval o X.env) = eval o X.env := by rfl)
    (hfew : ((backTo cpos (starEach (e :: []) X.env)).all (fun x => !x.1) && (backToKw cpos (keywordEach [] X.env)).all (fun x => x.1.isSome)
      && decide ((e :: []).length + ([] : List Keyword).length + (if ([] : List Keyword).isEmpty then 0 else 1) < 30)) = true := by rfl)
    (hline : (apos.endLine == cpos.line) = true := by rfl) (hs : starEach (e :: []) X.env = (false, eval e X.env) :: starEach [] X.env := by rfl) (hplain : (backTo cpos (starEach [] X.env)).any (·.1) = false := by rfl) :
    PE X (.Call (.Attribute o "pop" apos) [e] [] cpos) (tM X.K (mMut gPopAt i ma)) := m_mut PySem.F.slot_list_pop PySem.F.type_list_pop mt_popAt mo_popAt ho ha hbase hfew hline hs hplain
end
end Pd
end
section
set_option linter.all false
set_option maxRecDepth 100000
namespace Pd
open PySem PySem.Spec PyProof.Rows L2

inductive SlR (K : PySem.W.Frag) (sa : Sa) (F : Hp) (src : Option Src) : V → Slot → Prop
  | v {x : V} {d : PyData} : Rp F x d → SlR K sa F src x (.v d)
  | src : src.isSome = true → SlR K sa F src (.ref sa.1) .src
  | scr {a : Addr} {ns : List Int} : SqL K F a (ns.map V.int) → SlR K sa F src (.ref a) (.scr ns)
inductive SlRs (K : PySem.W.Frag) (sa : Sa) (F : Hp) (src : Option Src) : List V → List Slot → Prop
  | nil : SlRs K sa F src [] []
  | cons {x : V} {xs : List V} {r : Slot} {rs : List Slot} : SlR K sa F src x r → SlRs K sa F src xs rs → SlRs K sa F src (x :: xs) (r :: rs)
def Slot.isSrc : Slot → Bool
  | .src => true
  | _ => false
theorem SlRs.length {K : PySem.W.Frag} {sa : Sa} {F : Hp} {src : Option Src} : ∀ {xs : List V} {rs : List Slot}, SlRs K sa F src xs rs → xs.length = rs.length
  | _, _, .nil => rfl
  | _, _, .cons _ t => congrArg Nat.succ (SlRs.length t)
theorem SlR.mono {K : PySem.W.Frag} {sa : Sa} {F G : Hp} {src : Option Src} {x : V} {r : Slot} (s : Sub F G) (h : SlR K sa F src x r) : SlR K sa G src x r := by
  cases h with
  | v r => exact .v (r.mono s)
  | src z => exact .src z
  | scr q => exact .scr (sqL_mono s q)
theorem SlRs.mono {K : PySem.W.Frag} {sa : Sa} {F G : Hp} {src : Option Src} (s : Sub F G) : ∀ {xs : List V} {rs : List Slot}, SlRs K sa F src xs rs → SlRs K sa G src xs rs
  | _, _, .nil => .nil
  | _, _, .cons h t => .cons (h.mono s) (SlRs.mono s t)
theorem SlRs.off {K : PySem.W.Frag} {sa : Sa} {F : Hp} {src : Option Src} : ∀ {xs : List V} {rs : List Slot}, SlRs K sa F src xs rs → rs.any Slot.isSrc = false → SlRs K sa F none xs rs
  | _, _, .nil, _ => .nil
  | _, _, .cons h t, e => by
    rw [List.any_cons, Bool.or_eq_false_iff] at e
    refine .cons ?_ (SlRs.off t e.2)
    cases h with
    | v r => exact .v r
    | src z => cases e.1
    | scr q => exact .scr q
theorem SlRs.on {K : PySem.W.Frag} {sa : Sa} {F : Hp} {src : Option Src} : ∀ {xs : List V} {rs : List Slot}, SlRs K sa F src xs rs → rs.any Slot.isSrc = true → src.isSome = true
  | _, _, .nil, e => by cases e
  | _, _, .cons h t, e => by
    rw [List.any_cons, Bool.or_eq_true_iff] at e
    rcases e with e | e
    · cases h with
      | v r => cases e
      | src z => exact z
      | scr q => cases e
    · exact SlRs.on t e
theorem SlRs.get {K : PySem.W.Frag} {sa : Sa} {F : Hp} {src : Option Src} : ∀ {xs : List V} {rs : List Slot} {i : Nat} {r : Slot}, SlRs K sa F src xs rs → rs[i]? = some r → ∃ x, xs[i]? = some x ∧ SlR K sa F src x r
  | _, _, 0, _, .cons a _, e => by
    cases e
    exact ⟨_, rfl, a⟩
  | _, _, i + 1, _, .cons _ b, e => by
    obtain ⟨v, h1, h2⟩ := SlRs.get (i := i) b (by simpa using e)
    exact ⟨v, by simpa using h1, h2⟩
  | _, _, _, _, .nil, e => by simp at e
/-- a call's end -/
structure CallEnd (sa : Sa) (F H : Hp) (src : Option Src) (sa' : Sa) (F' H' : Hp) (src' : Option Src) (v : V) (r : Slot) : Prop where
  fx : Sub F F'
  fh : Sub F' H'
  new : ∀ a, F a = none → H a ≠ none → NoT F' a
  keep : ∀ a o, H a = some o → (src.isSome = true → a ≠ sa.1 ∧ a ≠ sa.2) → H' a = some o
  ks : src.isSome = true → sa' = sa ∧ src'.isSome = true
  sr : ∀ s, src' = some s → SrcR H' sa' s ∧ F' sa'.1 = none ∧ F' sa'.2 = none ∧ (src = none → H sa'.1 = none ∧ H sa'.2 = none)
  rr : match r with
    | .v d => Rp F' v d
    | .o d => ∃ a o, v = .ref a ∧ H' a = some o ∧ OR F' o d ∧ H a = none ∧ F' a = none ∧ (src'.isSome = true → a ≠ sa'.1 ∧ a ≠ sa'.2)
    | .src => src'.isSome = true ∧ v = .ref sa'.1
    | _ => False
abbrev GFn := List Slot → Option Src → Option (Slot × Option Src)
def spG (K : PySem.W.Frag) (n : Nat) (g : GFn) : Sp := fun vs H Q _ => ∃ (sa : Sa) (F : Hp) (src : Option Src) (as : List Slot) (r : Slot) (src' : Option Src),
  as.length = n ∧ Sub F H ∧ SlRs K sa F src vs as ∧ (∀ s, src = some s → SrcR H sa s ∧ F sa.1 = none ∧ F sa.2 = none) ∧ g as src = some (r, src') ∧
  ∀ sa' F' H' v, CallEnd sa F H src sa' F' H' src' v r → Q v H'

def tSL (K : PySem.W.Frag) (m : S → R (List Slot)) : TA := fun σ H Q => ∃ sa B F st as st', SR K sa B F H σ st ∧ m st = .ok as st' ∧ ∀ sa' F' H' vs, Rch K B σ sa F st sa' F' H' st' → SlRs K sa' F' st'.src vs as → Q vs H'
def xNil : S → R (List Slot) := fun st => .ok [] st
def xCons (m : S → R PyData) (ms : S → R (List Slot)) : S → R (List Slot) := fun st => match m st with
  | .ok d st1 => match ms st1 with
    | .ok as st2 => .ok (.v d :: as) st2
    | .bad => .bad
  | .bad => .bad
def xSrc (i : Nat) (ms : S → R (List Slot)) : S → R (List Slot) := fun st => match st.ss[i]? with
  | some .src => match ms st with
    | .ok as st2 => .ok (.src :: as) st2
    | .bad => .bad
  | some (.scr ns) => match ms st with
    | .ok as st2 => .ok (.scr ns :: as) st2
    | .bad => .bad
  | _ => .bad
section
variable {K : PySem.W.Frag} {X : Cx} {e : Expr} {es : List Expr} {mf : S → R PyData} {ms : S → R (List Slot)}
theorem x_nil : PA X [] (tSL K xNil) := imA pa_nil fun σ H Q ⟨sa, B, F, st, d, st', h0, h1, k⟩ => by
  cases h1
  exact k sa F H [] (.refl h0) .nil
theorem x_cons (h : PE X e (tF K mf)) (h' : PA X es (tSL K ms)) (hs : starEach (e :: es) X.env = (false, eval e X.env) :: starEach es X.env := by rfl) : PA X (e :: es) (tSL K (xCons mf ms)) := imA (pa_cons h h' hs) fun σ H Q ⟨sa, B, F, st, as, st', h0, h1, k⟩ => by
  unfold xCons at h1
  cases q : mf st with
  | bad =>
    simp only [q] at h1
    cases h1
  | ok d st1 =>
    cases q2 : ms st1 with
    | bad =>
      simp only [q, q2] at h1
      cases h1
    | ok as st2 =>
      simp only [q, q2] at h1
      cases h1
      exact ⟨sa, B, F, st, d, st1, h0, q, fun sa1 F1 H1 v R1 r1 => ⟨sa1, B, F1, st1, as, _, R1.r, q2, fun sa2 F2 H2 vs R2 r2 => k sa2 F2 H2 _ (R1.trans R2) (.cons (.v (r1.mono R2.x.le)) r2)⟩⟩
theorem x_src {i : Nat} (h : PE X e (tVar i)) (h' : PA X es (tSL K ms)) (hs : starEach (e :: es) X.env = (false, eval e X.env) :: starEach es X.env := by rfl) : PA X (e :: es) (tSL K (xSrc i ms)) := imA (pa_cons h h' hs) fun σ H Q ⟨sa, B, F, st, as, st', h0, h1, k⟩ => by
  unfold xSrc at h1
  split at h1
  · rename_i q
    cases q2 : ms st with
    | bad =>
      simp only [q2] at h1
      cases h1
    | ok as st2 =>
      simp only [q2] at h1
      cases h1
      obtain ⟨e1, e2⟩ := h0.sx i q
      refine ⟨_, e2, sa, B, F, st, as, _, h0, q2, fun sa2 F2 H2 vs R2 r2 => k sa2 F2 H2 _ R2 (.cons ?_ r2)⟩
      rw [← R2.k e1]
      exact .src (R2.s e1)
  · rename_i ns q
    cases q2 : ms st with
    | bad =>
      simp only [q2] at h1
      cases h1
    | ok as st2 =>
      simp only [q2] at h1
      cases h1
      obtain ⟨a, e1, e2⟩ := h0.sc i ns q
      exact ⟨_, e1, sa, B, F, st, as, _, h0, q2, fun sa2 F2 H2 vs R2 r2 => k sa2 F2 H2 _ R2 (.cons (.scr (sqL_mono R2.x.le e2)) r2)⟩
  · cases h1
end

def mCall (g : GFn) (ms : S → R (List Slot)) : S → R Slot := fun st => match ms st with
  | .bad => .bad
  | .ok as st1 => if as.any Slot.isSrc then match g as st1.src with
      | some (r, some s) => .ok r { st1 with src := some s }
      | _ => .bad
    else match g as none with
      | some (r, none) => .ok r st1
      | some (r, some s) => match st1.src with
        | none => .ok r { st1 with src := some s }
        | some _ => .bad
      | none => .bad
theorem CallEnd.rch {K : PySem.W.Frag} {B F H F' H' : Hp} {σ : L2.St} {sa sa' : Sa} {st : S} {src' : Option Src} {v : V} {r : Slot} (S1 : SR K sa B F H σ st) (c : CallEnd sa F H st.src sa' F' H' src' v r) :
    Rch K B σ sa F st sa' F' H' { st with src := src' } ∧ RRep sa' B F' H' σ { st with src := src' } v r := by
  have sp : ∀ {s}, st.src = some s → st.src.isSome = true := fun e => by
    rw [e]
    rfl
  have nsrc : ∀ a o, H a = some o → (st.src.isSome = true → a ≠ sa.1 ∧ a ≠ sa.2) → (src'.isSome = true → a ≠ sa'.1 ∧ a ≠ sa'.2) := fun a o ha hn z => by
    cases q : st.src with
    | some s =>
      have w := sp q
      rw [(c.ks w).1]
      exact hn w
    | none =>
      obtain ⟨s', hs'⟩ := Option.isSome_iff_exists.mp z
      obtain ⟨_, _, _, f⟩ := c.sr s' hs'
      obtain ⟨f1, f2⟩ := f q
      refine ⟨fun w => ?_, fun w => ?_⟩
      · rw [← w, ha] at f1
        cases f1
      · rw [← w, ha] at f2
        cases f2
  have bsrc : ∀ a, B a ≠ none → st.src.isSome = true → a ≠ sa.1 ∧ a ≠ sa.2 := fun a hb z => by
    obtain ⟨s, hs⟩ := Option.isSome_iff_exists.mp z
    obtain ⟨_, e2, e3, _⟩ := S1.sr s hs
    exact ⟨fun w => hb (by rw [w]; exact e2), fun w => hb (by rw [w]; exact e3)⟩
  have SR' : SR K sa' B F' H' σ { st with src := src' } := by
    refine ⟨fun a o e => ?_, c.fh, S1.len, fun i d e => ?_, fun i d e => ?_, S1.ap, fun i e => ?_, fun i ns e => ?_, fun s e => ?_, fun i e => ?_⟩
    · exact c.keep a o (S1.bh a o e) (bsrc a (by
        rw [e]
        exact fun z => nomatch z))
    · obtain ⟨x, e1, e2⟩ := S1.sl i d e
      exact ⟨x, e1, e2.mono c.fx⟩
    · obtain ⟨a, o, e1, e2, e3, e4, e5, e6⟩ := S1.so i d e
      exact ⟨a, o, e1, c.keep a o e2 e6, e3.mono c.fx, e4, (c.new a e5 (by
        rw [e2]
        exact fun z => nomatch z)).none c.fh (c.keep a o e2 e6) e3.noT, nsrc a o e2 e6⟩
    · obtain ⟨e1, e2⟩ := S1.sx i e
      obtain ⟨e3, e4⟩ := c.ks e1
      exact ⟨e4, by rw [e3]; exact e2⟩
    · obtain ⟨a, e1, e2⟩ := S1.sc i ns e
      exact ⟨a, e1, sqL_mono c.fx e2⟩
    · obtain ⟨f1, f2, f3, f4⟩ := c.sr s e
      refine ⟨f1, ?_, ?_, f2, f3⟩
      · cases q : st.src with
        | some s0 =>
          rw [(c.ks (sp q)).1]
          exact (S1.sr s0 q).2.1
        | none => exact S1.bh.none_of (f4 q).1
      · cases q : st.src with
        | some s0 =>
          rw [(c.ks (sp q)).1]
          exact (S1.sr s0 q).2.2.1
        | none => exact S1.bh.none_of (f4 q).2
    · obtain ⟨e1, e2⟩ := S1.sy i e
      obtain ⟨e3, e4⟩ := c.ks e1
      exact ⟨e4, by rw [e3]; exact e2⟩
  refine ⟨⟨SR', ⟨c.fx, fun a n b => c.new a n fun z => b (S1.bh.none_of z)⟩, fun z => (c.ks z).1, fun z => (c.ks z).2⟩, ?_⟩
  have rr := c.rr
  cases r with
  | v d => exact rr
  | src => exact rr
  | no => exact rr
  | cel => exact rr.elim
  | scr _ => exact rr
  | o d =>
    obtain ⟨a, o, e1, e2, e3, e4, e5, e6⟩ := rr
    refine ⟨a, o, e1, e2, e3, S1.bh.none_of e4, e5, e6, fun i e q w => ?_⟩
    obtain ⟨b, u, f1, f2, _⟩ := S1.so i e q
    rw [w] at f1
    cases f1
    rw [e4] at f2
    cases f2
/-- without the source: it stays -/
theorem CallEnd.more {K : PySem.W.Frag} {B F H F' H' : Hp} {σ : L2.St} {sa sa' : Sa} {st : S} {v : V} {r : Slot} (S1 : SR K sa B F H σ st) (c : CallEnd sa F H none sa' F' H' none v r) : CallEnd sa F H st.src sa F' H' st.src v r := by
  have kp : ∀ a o, H a = some o → H' a = some o := fun a o e => c.keep a o e fun z => nomatch z
  have out : ∀ s, st.src = some s → SrcR H sa s := fun s e => (S1.sr s e).1
  refine ⟨c.fx, c.fh, c.new, fun a o e _ => kp a o e, fun z => ⟨rfl, z⟩, fun s e => ?_, ?_⟩
  · obtain ⟨e1, _, _, e4, e5⟩ := S1.sr s e
    refine ⟨⟨kp _ _ e1.1, kp _ _ e1.2⟩, (c.new _ e4 e1.at1).none c.fh (kp _ _ e1.1) (fun xs z => nomatch z), (c.new _ e5 e1.at2).none c.fh (kp _ _ e1.2) (fun xs z => nomatch z), fun z => ?_⟩
    rw [z] at e
    cases e
  · have rr := c.rr
    cases r with
    | v d => exact rr
    | no => exact rr
    | cel => exact rr
    | scr _ => exact rr
    | src => cases rr.1
    | o d =>
      obtain ⟨a, o, e1, e2, e3, e4, e5, e6⟩ := rr
      refine ⟨a, o, e1, e2, e3, e4, e5, fun z => ?_⟩
      obtain ⟨s, hs⟩ := Option.isSome_iff_exists.mp z
      have q := out s hs
      exact ⟨fun w => q.at1 (by rw [← w]; exact e4), fun w => q.at2 (by rw [← w]; exact e4)⟩
/-- a call's reading -/
theorem r_call {K : PySem.W.Frag} {n : Nat} {g : GFn} {ms : S → R (List Slot)} {E : XK} (hn : ∀ st as st', ms st = .ok as st' → as.length = n) : ∀ σ H Q, tM K (mCall g ms) σ H Q → tCall (spG K n g) [] E (tSL K ms) σ H Q := fun σ H Q ⟨sa, B, F, st, r, st', h0, h1, k⟩ => by
  unfold mCall at h1
  cases q : ms st with
  | bad =>
    simp only [q] at h1
    cases h1
  | ok as st1 =>
    simp only [q] at h1
    refine ⟨sa, B, F, st, as, st1, h0, q, fun sa1 F1 H1 vs R1 r1 => ?_⟩
    show spG K n g (vs ++ []) H1 Q E
    rw [List.append_nil]
    have S1 := R1.r
    split at h1
    · split at h1
      · rename_i r s q3
        cases h1
        refine ⟨sa1, F1, st1.src, as, _, some s, hn _ _ _ q, S1.fh, r1, fun s e => ?_, q3, fun sa2 F2 H2 v c => ?_⟩
        · obtain ⟨e1, _, _, e4, e5⟩ := S1.sr s e
          exact ⟨e1, e4, e5⟩
        · obtain ⟨R2, rr⟩ := c.rch S1
          exact k sa2 F2 H2 v (R1.trans R2) rr
      · cases h1
    · rename_i hno
      have r1' : SlRs K sa1 F1 none vs as := r1.off (by simpa using hno)
      split at h1
      · rename_i r q3
        cases h1
        refine ⟨sa1, F1, none, as, _, none, hn _ _ _ q, S1.fh, r1', fun s e => (nomatch e), q3, fun sa2 F2 H2 v c => ?_⟩
        obtain ⟨R2, rr⟩ := (c.more S1).rch S1
        exact k sa1 F2 H2 v (R1.trans R2) rr
      · rename_i r s q3
        cases q4 : st1.src with
        | some _ =>
          simp only [q4] at h1
          cases h1
        | none =>
          simp only [q4] at h1
          cases h1
          refine ⟨sa1, F1, none, as, _, some s, hn _ _ _ q, S1.fh, r1', fun s e => (nomatch e), q3, fun sa2 F2 H2 v c => ?_⟩
          have c' : CallEnd sa1 F1 H1 st1.src sa2 F2 H2 (some s) v r := by
            rw [q4]
            exact c
          obtain ⟨R2, rr⟩ := c'.rch S1
          exact k sa2 F2 H2 v (R1.trans R2) rr
      · cases h1

def startS (n : Nat) (as : List Slot) : List Slot := as ++ List.replicate (n - as.length) .no
def gOf (n : Nat) (m : S → RS) : GFn := fun as src => match m ⟨startS n as, src⟩ with
  | .ret .cel _ => none
  | .ret r st' => some (r, st'.src)
  | .nx st' => some (.v .none, st'.src)
  | _ => none
/-- what stands at the entry, beside the source -/
def besides (sa : Sa) (src : Option Src) (H : Hp) : Hp := fun a => if src.isSome = true ∧ (a = sa.1 ∨ a = sa.2) then none else H a
theorem besides_sub {sa : Sa} {src : Option Src} {H : Hp} : Sub (besides sa src H) H := fun a o e => by
  unfold besides at e
  split at e
  · cases e
  · exact e
theorem body_start {K : PySem.W.Frag} {sa : Sa} {F H : Hp} {src : Option Src} {vs : List V} {as : List Slot} {N : List Str} (s : Sub F H) (r : SlRs K sa F src vs as) (hs : ∀ s, src = some s → SrcR H sa s ∧ F sa.1 = none ∧ F sa.2 = none) :
    SR K sa (besides sa src H) F H (L2.start N vs) ⟨startS N.length as, src⟩ := by
  have hl := r.length
  have at' : ∀ (i : Nat) (x : Slot), (startS N.length as)[i]? = some x → x ≠ .no → as[i]? = some x ∧ ∃ v, (L2.start N vs)[i]? = some (some v) ∧ SlR K sa F src v x := fun i x e n => by
    unfold startS at e
    by_cases hi : i < as.length
    · rw [List.getElem?_append_left hi] at e
      obtain ⟨v, e1, e2⟩ := r.get e
      refine ⟨e, v, ?_, e2⟩
      unfold L2.start
      rw [List.getElem?_append_left (by rw [List.length_map, hl]; exact hi), List.getElem?_map, e1]
      rfl
    · rw [List.getElem?_append_right (by omega), List.getElem?_replicate] at e
      split at e
      · cases e
        exact absurd rfl n
      · cases e
  have noO : ∀ (i : Nat) (d : PyData), (startS N.length as)[i]? = some (.o d) → False := fun i d e => by
    obtain ⟨_, v, _, z⟩ := at' i _ e (fun z => nomatch z)
    cases z
  refine ⟨besides_sub, s, ?_, fun i d e => ?_, fun i d e => (noO i d e).elim, fun i j d e a n q1 q2 q3 q4 => (noO i d q1).elim, fun i e => ?_, fun i ns e => ?_, fun x e => ?_, fun i e => ?_⟩
  · show (L2.start N vs).length = (startS N.length as).length
    unfold L2.start startS
    simp [hl]
  · obtain ⟨_, v, e1, z⟩ := at' i _ e (fun z => nomatch z)
    cases z with
    | v r => exact ⟨v, e1, r⟩
  · obtain ⟨_, v, e1, z⟩ := at' i _ e (fun z => nomatch z)
    cases z with
    | src w => exact ⟨w, e1⟩
  · obtain ⟨_, v, e1, z⟩ := at' i _ e (fun z => nomatch z)
    cases z with
    | scr w => exact ⟨_, e1, w⟩
  · have e' : src = some x := e
    obtain ⟨e1, e2, e3⟩ := hs x e'
    exact ⟨e1, by unfold besides; rw [e', if_pos ⟨rfl, .inl rfl⟩], by unfold besides; rw [e', if_pos ⟨rfl, .inr rfl⟩], e2, e3⟩
  · obtain ⟨_, v, e1, z⟩ := at' i _ e (fun z => nomatch z)
    cases z
theorem body_end {K : PySem.W.Frag} {sa sa' : Sa} {F H F' H' : Hp} {src : Option Src} {st st' : S} {σ : L2.St} {v : V} {r : Slot} (hr : r ≠ .cel) (e : st.src = src) (hs : ∀ s, src = some s → SrcR H sa s ∧ F sa.1 = none ∧ F sa.2 = none)
    (R : Rch K (besides sa src H) σ sa F st sa' F' H' st') (rr : RRep sa' (besides sa src H) F' H' σ st' v r) : CallEnd sa F H src sa' F' H' st'.src v r := by
  subst e
  have bs : ∀ a, (st.src.isSome = true → a ≠ sa.1 ∧ a ≠ sa.2) → besides sa st.src H a = H a := fun a n => by
    unfold besides
    rw [if_neg]
    rintro ⟨z, w⟩
    obtain ⟨n1, n2⟩ := n z
    exact w.elim n1 n2
  have sub : ∀ a, (st'.src.isSome = true → a ≠ sa'.1 ∧ a ≠ sa'.2) → st.src.isSome = true → a ≠ sa.1 ∧ a ≠ sa.2 := fun a h z => by
    rw [← R.k z]
    exact h (R.s z)
  refine ⟨R.x.le, R.r.fh, fun a n h => ?_, fun a o e n => R.r.bh a o (by rw [bs a n]; exact e), fun z => ⟨R.k z, R.s z⟩, fun s e => ?_, ?_⟩
  · by_cases z : st.src.isSome = true ∧ (a = sa.1 ∨ a = sa.2)
    · obtain ⟨z1, z2⟩ := z
      obtain ⟨s', hs'⟩ := Option.isSome_iff_exists.mp (R.s z1)
      obtain ⟨_, _, _, e4, e5⟩ := R.r.sr s' hs'
      rw [R.k z1] at e4 e5
      rcases z2 with z2 | z2
      · rw [z2]
        exact .inl e4
      · rw [z2]
        exact .inl e5
    · refine R.x.out a n ?_
      unfold besides
      rw [if_neg z]
      exact h
  · obtain ⟨e1, e2, e3, e4, e5⟩ := R.r.sr s e
    refine ⟨e1, e4, e5, fun z => ?_⟩
    have nz : ∀ a, besides sa st.src H a = H a := fun a => bs a fun w => by
      rw [z] at w
      cases w
    rw [nz] at e2 e3
    exact ⟨e2, e3⟩
  · cases r with
    | v d => exact rr
    | src => exact rr
    | cel => exact absurd rfl hr
    | no => exact rr
    | scr _ => exact rr
    | o d =>
      obtain ⟨a, o, e1, e2, e3, e4, e5, e6, _⟩ := rr
      exact ⟨a, o, e1, e2, e3, by rw [← bs a (sub a e6)]; exact e4, e5, e6⟩
/-- the body's reading at the promise -/
theorem body_reads {K : PySem.W.Frag} {n : Nat} {N : List Str} {m : S → RS} {vs : List V} {H : Hp} {Q : VK} {E : XK} (h : spG K n (gOf N.length m) vs H Q E) : tMS K m { nx := fun _ H' => Q .non H', rt := Q } (L2.start N vs) H := by
  obtain ⟨sa, F, src, as, r0, src', hn, s, rs, hs, hg, k⟩ := h
  refine ⟨sa, _, F, _, body_start s rs hs, ?_⟩
  unfold gOf at hg
  cases q : m ⟨startS N.length as, src⟩ with
  | ret r st' =>
    rw [q] at hg
    have nc : r ≠ .cel := fun z => by
      rw [z] at hg
      cases hg
    have hg' : some (r, st'.src) = some (r0, src') := by
      cases r with
      | cel => exact absurd rfl nc
      | _ => exact hg
    cases hg'
    exact fun sa' F' H' σ' v R rr => k sa' F' H' v (body_end (st := ⟨startS N.length as, src⟩) nc rfl hs R rr)
  | nx st' =>
    rw [q] at hg
    cases hg
    exact fun sa' F' H' σ' R => k sa' F' H' .non (body_end (st := ⟨startS N.length as, src⟩) (σ := σ') (fun z => nomatch z) rfl hs R Rp.non)
  | bk st' =>
    rw [q] at hg
    cases hg
  | ct st' =>
    rw [q] at hg
    cases hg
  | bad =>
    rw [q] at hg
    cases hg
end Pd
end
section
set_option linter.all false
set_option maxRecDepth 100000
namespace Pd
open PySem PySem.Spec PyProof.Rows L2

abbrev CXZ : CXT := fun _ _ _ _ _ _ => False
/-- a def, run where no guard is held -/
structure FnG (P : Program) (w : World) (K : PySem.W.Frag) (mg : Str → Option Value) (base : Heap) (k : Nat) (f : Addr) (fd : FuncData) (ps : List Str) (sp : Sp) : Prop where
  many : ∀ as H Q E, sp as H Q E → as.length = ps.length
  go : ∀ (A : Around) (fr : List Env) (s : Shared) (H : Hp) (ar : Args) (us : List Value) (as : List V) (Q : VK) (E : XK), A.guards = some [] → Room k A → Env0 P w K mg base A fr s H → BindsTo s fd ar (ps.zip us) → Vals as us → sp as H Q E →
    codeAny (model P w) A (.call (.ref f) ar) (CR CXZ fr P w H s Q E) s
theorem FnG.up {P : Program} {w : World} {K : PySem.W.Frag} {mg : Str → Option Value} {base : Heap} {j k : Nat} {f : Addr} {fd : FuncData} {ps : List Str} {sp : Sp} (F : FnG P w K mg base j f fd ps sp) (h : j ≤ k) : FnG P w K mg base k f fd ps sp :=
  ⟨F.many, fun A fr s H ar us as Q E hg hr => F.go A fr s H ar us as Q E hg (hr.mono h)⟩
/-- the context of a body -/
abbrev bodyX (P : Program) (w : World) (K : PySem.W.Frag) (mg : Str → Option Value) (base : Heap) (N : List Str) (qual : Str) (sc : Scope) (f : Addr) (cd : Value) (A : Around) (fr : List Env) (s : Shared) (H : Hp) (E : XK) : Cx := (cxOf CXZ P w K mg base N qual sc f cd A fr s H E).nox
theorem fn_okG {P : Program} {w : World} {K : PySem.W.Frag} {mg : Str → Option Value} {base : Heap} {x qual : Str} {params : Arguments} {body : List Stmt} {sc : Scope} {dvs : List V} {kws : List (Str × V)} {f : Addr} {fd : FuncData} {N ps : List Str} {k : Nat} {sp : Sp}
    (F : FunD K x qual params body sc dvs kws f fd) (S : FnScope N ps sc) (len : ∀ as H Q E, sp as H Q E → as.length = ps.length)
    (hb : ∀ (cd : Value) (A : Around) (fr : List Env) (s : Shared) (H : Hp) (as : List V) (Q : VK) (E : XK), A.guards = some [] → Room k (A.deeper (envOfC qual sc s.heap.objs.size f cd)) → sp as H Q E →
      ∃ t, PSs (bodyX P w K mg base N qual sc f cd A fr s H E) body t ∧ t { nx := fun _ H' => Q .non H', rt := Q } (L2.start N as) H) : FnG P w K mg base (k + 1) f fd ps sp := by
  obtain ⟨oc, od, dV, kV, doc, pm, an, cd, ct, osl, rfl, lk, hcd, _, _⟩ := F.ex
  refine ⟨len, fun A fr s H ar us as Q E hg hr e0 hbd r hsp => ?_⟩
  have inK : K.In s.heap := e0.mod.kin.keeps fun b o e => (e0.bs b o e).1
  have nl : s.heap.NoLimit := e0.mod.nolimit.keeps fun b o e => (e0.bs b o e).1
  refine codeAny_call_function hr.depth (inK _ _ lk) rfl S.co S.gen rfl (PySem.W.codeRec_of inK hcd) (hbd _ _ _ _ (wpAny_newFunctionEnv_cells S.kind (fun ⟨n, v⟩ hy => ?_) fun env he s1 x => ?_))
  · rcases S.par n (List.of_mem_zip hy).1 with q | q
    · exact .inl q
    · exact .inr ⟨q, PySem.W.cellsFrom_some _ _ _ (.inl q)⟩
  · subst he
    refine ⟨nl.keeps x.toInCall.keep, codeAny_func ?_⟩
    obtain ⟨t, ht, hq⟩ := hb cd A fr s H as Q E hg (hr.deeper _) hsp
    have I := inv_start (CX := CXZ) (E := E) S hr.hd e0 (len _ _ _ _ hsp) r x
    refine wpAny_mono (ht.nox.run [] s1 (L2.start N as) H _ I hq) (fun fl s' hs => ?_) fun e s' hs => hs
    cases fl with
    | ret u =>
      obtain ⟨v, σ', H', J, rv, q⟩ := hs
      exact ⟨v, H', J.os, J.bare, J.base, J.hok, rv, q⟩
    | next =>
      obtain ⟨σ', H', J, q⟩ := hs
      exact ⟨.non, H', J.os, J.bare, J.base, J.hok, rfl, q⟩
    | brk =>
      obtain ⟨σ', H', J, q⟩ := hs
      exact q.elim
    | cont =>
      obtain ⟨σ', H', J, q⟩ := hs
      exact q.elim
/-- the rule for a def, by its state function -/
theorem fn_okM {P : Program} {w : World} {K : PySem.W.Frag} {mg : Str → Option Value} {base : Heap} {x qual : Str} {params : Arguments} {body : List Stmt} {sc : Scope} {dvs : List V} {kws : List (Str × V)} {f : Addr} {fd : FuncData} {N ps : List Str} {k : Nat} {m : S → RS}
    (F : FunD K x qual params body sc dvs kws f fd) (S : FnScope N ps sc)
    (hb : ∀ (cd : Value) (A : Around) (fr : List Env) (s : Shared) (H : Hp) (E : XK), A.guards = some [] → Room k (A.deeper (envOfC qual sc s.heap.objs.size f cd)) → PSs (bodyX P w K mg base N qual sc f cd A fr s H E) body (tMS K m)) :
    FnG P w K mg base (k + 1) f fd ps (spG K ps.length (gOf N.length m)) :=
  fn_okG F S (fun as H Q E ⟨_, _, _, _, _, _, e, _, r, _⟩ => r.length.trans e) fun cd A fr s H as Q E hg hr h => ⟨_, hb cd A fr s H E hg hr, body_reads h⟩
section
variable {X : Cx} {k n : Nat} {f : Addr} {fd : FuncData} {ps : List Str} {sp : Sp} {E : XK} {x : Str} {p pos : Pos} {e : Expr} {es : List Expr} {t : TA} {g : GFn} {ms : S → R (List Slot)}
theorem run_g {pins : List (Addr × Obj)} {σ : L2.St} {H : Hp} {s : Shared} {Q : VK} {us : List Value} {as : List V} (F : FnG X.prog X.w X.K X.mg X.base k f fd ps sp) (hg : X.A.guards = some []) (hr : Room k X.A) (hb : Binds X.K fd ps []) (I : Inv X pins σ H s) (r : Vals as us) (h : sp (as ++ []) H Q E) :
    wpAny (model X.prog X.w) X.A (call (.ref f) us) (EP X pins σ Q) X.xe s := by
  rw [List.append_nil] at h
  have hl : (us ++ []).length = ps.length := by rw [List.append_nil, ← r.length]; exact F.many _ _ _ _ h
  have b := hb s us I.kIn hl
  rw [List.append_nil] at b
  refine wpAny_call (codeAny_mono (F.go X.A X.stack s H ⟨us, []⟩ us as Q E hg hr I.env0 b r h) fun o s' hq => ?_)
  cases o with
  | error e => exact hq.elim
  | ok fl =>
    cases fl with
    | ret u => exact I.after hq
    | next => exact hq.elim
    | brk => exact hq.elim
    | cont => exact hq.elim
theorem pe_g (F : FnG X.prog X.w X.K X.mg X.base k f fd ps sp) (hgd : X.A.guards = some []) (hr : Room k X.A) (hg : Gl X x) (hm : X.mg x = some (.ref f)) (hk : PySem.W.keepIn X.K (.ref f) = true) (hb : Binds X.K fd ps []) (ha : PA X (e :: es) t)
    (hdb : (x == ("__debug__" : Str)) = false := by decide) (he : starEach (e :: es) X.env = (false, eval e X.env) :: starEach es X.env := by rfl) (hpl : (backTo pos (starEach es X.env)).any (·.1) = false := by rfl) :
    PE X (.Call (.Name x p) (e :: es) [] pos) (tCall sp [] E t) := by
  refine ⟨fun pins s σ H Q I h => wpAny_Call_Name_kw (ld_glob I hg hm ?_ hdb)⟩
  exact PySem.W.callWith_K (h₀ := X.base) I.ok.mod.kin hk (thn (ha.run pos pins s σ H _ I h) fun us s1 ⟨vs, H1, I1, r, q⟩ => ⟨I1.kIn, run_g F hgd hr hb I1 r q⟩) he hpl
/-- a call of a def -/
structure Def (P : Program) (w : World) (K : PySem.W.Frag) (mg : Str → Option Value) (base : Heap) (k n : Nat) (x : Str) (g : GFn) : Prop where
  ex : ∃ (f : Addr) (fd : FuncData) (ps : List Str), ps.length = n ∧ FnG P w K mg base k f fd ps (spG K n g) ∧ mg x = some (.ref f) ∧ PySem.W.keepIn K (.ref f) = true ∧ Binds K fd ps []
theorem d_call (F : Def X.prog X.w X.K X.mg X.base k n x g) (hgd : X.A.guards = some []) (hr : Room k X.A) (hg : Gl X x) (ha : PA X (e :: es) (tSL X.K ms)) (hn : ∀ st as st', ms st = .ok as st' → as.length = n)
    (hdb : (x == ("__debug__" : Str)) = false := by decide) (he : starEach (e :: es) X.env = (false, eval e X.env) :: starEach es X.env := by rfl) (hpl : (backTo pos (starEach es X.env)).any (·.1) = false := by rfl) :
    PE X (.Call (.Name x p) (e :: es) [] pos) (tM X.K (mCall g ms)) := by
  obtain ⟨f, fd, ps, hl, F, hm, hk, hb⟩ := F.ex
  exact imE (pe_g (E := fun _ _ _ => False) F hgd hr hg hm hk hb ha hdb he hpl) (r_call hn)
theorem xn_nil : ∀ st as st', xNil st = .ok as st' → as.length = 0 := fun st as st' h => by
  cases h
  rfl
theorem xn_cons {mf : S → R PyData} {ms : S → R (List Slot)} {n : Nat} (h : ∀ st as st', ms st = .ok as st' → as.length = n) : ∀ st as st', xCons mf ms st = .ok as st' → as.length = n + 1 := fun st as st' e => by
  unfold xCons at e
  cases q : mf st with
  | bad =>
    simp only [q] at e
    cases e
  | ok d st1 =>
    cases q2 : ms st1 with
    | bad =>
      simp only [q, q2] at e
      cases e
    | ok as st2 =>
      simp only [q, q2] at e
      cases e
      rw [List.length_cons, h _ _ _ q2]
theorem xn_src {i : Nat} {ms : S → R (List Slot)} {n : Nat} (h : ∀ st as st', ms st = .ok as st' → as.length = n) : ∀ st as st', xSrc i ms st = .ok as st' → as.length = n + 1 := fun st as st' e => by
  unfold xSrc at e
  split at e
  · cases q2 : ms st with
    | bad =>
      simp only [q2] at e
      cases e
    | ok as st2 =>
      simp only [q2] at e
      cases e
      rw [List.length_cons, h _ _ _ q2]
  · cases q2 : ms st with
    | bad =>
      simp only [q2] at e
      cases e
    | ok as st2 =>
      simp only [q2] at e
      cases e
      rw [List.length_cons, h _ _ _ q2]
  · cases e
end

/-- the law's promise: it answers True -/
def spLaw (K : PySem.W.Frag) (n : Nat) : Sp := fun as H Q _ => ∃ (a : Addr) (ns : List Int), as = [.ref a] ∧ ns.length ≤ n ∧ Only H ∧ SqL K H a (ns.map V.int) ∧ ∀ H', Q (.bl true) H'
theorem spLaw_of {K : PySem.W.Frag} {n : Nat} {g : GFn} (h : ∀ ns : List Int, ns.length ≤ n → ∃ s, g [.scr ns] none = some (.v (.bool true), s)) : ∀ as H Q E, spLaw K n as H Q E → spG K 1 g as H Q E := fun as H Q E ⟨a, ns, e, hl, _, hq, k⟩ => by
  subst e
  obtain ⟨s, hs⟩ := h ns hl
  refine ⟨(0, 0), H, none, [.scr ns], _, s, rfl, Sub.refl H, .cons (.scr hq) .nil, fun s e => (nomatch e), hs, fun sa' F' H' v c => ?_⟩
  have rr : Rp F' v (.bool true) := c.rr
  cases rr
  exact k H'
theorem law_g {P : Program} {w : World} {K : PySem.W.Frag} {mg mb : Str → Option Value} {k : Nat} {fa a : Addr} {fd : FuncData} {x : Str} {sp : Sp} {s₁ : Shared} {cells : List Value} {ns : List Int}
    (inK : K.In s₁.heap) (hg : s₁.heap.Ns mainGlobals mg) (hb : s₁.heap.Ns builtinsNs mb) (hbb : ∀ y : Str, y ≠ "__name__" → mb y = bootBuiltins y) (nl : s₁.heap.NoLimit) (gens : s₁.gens = #[])
    (ha : s₁.heap.get? a = some { cls := .type "list", data := .seq cells.toArray }) (hi : IntsAre cells ns) (hl : ns.length ≤ sizeLine) (hr : Room k callerA)
    (F : ∀ bs : Heap, K.In bs → bs.Ns mainGlobals mg → FnG P w K mg bs k fa fd [x] sp) (hbd : ∀ (s : Shared) (u : Value), BindsTo s fd ⟨[u], []⟩ [(x, u)]) (hsp : ∀ H : Hp, Only H → SqL K H a (ns.map V.int) → sp [.ref a] H (fun v _ => v = .bl true) fun _ _ _ => False) :
    codeAny (model P w) callerA (.call (.ref fa) ⟨[.ref a], []⟩) (fun r s' => r = .ok (.ret (.bool true)) ∧ OldK s₁.heap s'.heap ∧ s'.os = s₁.os ∧ AllBare s'.gens) s₁ := by
  have rels := vals_ints hi
  have lens := hi.length
  have main : ∀ H : Hp, Only H → SqL K H a (ns.map V.int) → HOk P w H s₁.heap → (∀ b, H b ≠ none → b = a ∧ K.lookup a = none) →
      codeAny (model P w) callerA (.call (.ref fa) ⟨[.ref a], []⟩) (fun r s' => r = .ok (.ret (.bool true)) ∧ OldK s₁.heap s'.heap ∧ s'.os = s₁.os ∧ AllBare s'.gens) s₁ := fun H on sq ok one => by
    have seen : ∀ {b : Addr} {o : Obj}, s₁.heap.get? b = some o → H b = none → (hidT s₁.heap H).get? b = some o := fun e n => hidT_get e n
    have dictFree : ∀ {b : Addr} {o : Obj} {es : Array DictEntry} {ep : Nat}, s₁.heap.get? b = some o → o.data = .dict es ep → H b = none := fun {b o es ep} e d => by
      cases q : H b with
      | none => rfl
      | some u =>
        obtain ⟨e', _⟩ := one b (by rw [q]; exact fun z => nomatch z)
        rw [e', ha] at e
        cases e
        exact Data.noConfusion d
    have nsAt : ∀ {b : Addr} {m : Str → Option Value}, s₁.heap.Ns b m → (hidT s₁.heap H).Ns b m := fun {b m} ⟨o, es, ep, e, d, r⟩ => ⟨o, es, ep, seen e (dictFree e d), d, r⟩
    have inB : K.In (hidT s₁.heap H) := fun b o e => seen (inK b o e) (by
      cases q : H b with
      | none => rfl
      | some u =>
        obtain ⟨e1, e2⟩ := one b (by rw [q]; exact fun z => nomatch z)
        rw [e1, e2] at e
        cases e)
    have md : Mod K mg (hidT s₁.heap H) := ⟨inB, nsAt hg, ⟨mb, nsAt hb, hbb⟩, let ⟨mc, z1, z2⟩ := nl; ⟨mc, nsAt z1, z2⟩⟩
    have env : Env0 P w K mg (hidT s₁.heap H) callerA [] s₁ H := ⟨rfl, md, fun b o e => of_hidT e, Nat.le_of_eq (hidT_size _ _), trivial, fun b hb => (List.not_mem_nil (show b ∈ ([] : List Addr) from hb)).elim, ok, .of_eq gens⟩
    refine codeAny_mono ((F _ inB (nsAt hg)).go callerA [] s₁ H ⟨[.ref a], []⟩ [.ref a] [.ref a] _ _ rfl hr env (hbd s₁ (.ref a)) (.cons rfl .nil) (hsp H on sq)) fun r s' h => ?_
    cases r with
    | error e => exact h.elim
    | ok fl =>
      cases fl with
      | next => exact h.elim
      | brk => exact h.elim
      | cont => exact h.elim
      | ret u =>
        obtain ⟨v, H', os, bare, un, ok', rv, q⟩ := h
        cases (show v = .bl true from q)
        cases (show u = Value.bool true from rv)
        refine ⟨rfl, OldK.of_keep fun b o e => ?_, os, bare⟩
        rcases on b with z | ⟨ob, xs, z⟩
        · exact un.keep b o e z (fun m => by cases (show b ∈ ([] : List Addr) from m)) (by simp)
        · obtain ⟨e1, _⟩ := ok b _ z
          obtain ⟨e2, _⟩ := ok' b _ (un.frzs b ob _ z)
          rw [e] at e1
          cases e1
          exact e2
  cases hk : K.lookup a with
  | some o =>
    have e := inK a o hk
    rw [ha] at e
    cases e
    refine main (fun _ => none) (fun _ => .inl rfl) (.inr ⟨_, cells.toArray, _, hk, rfl, rfl, rfl, by rw [List.size_toArray, lens]; exact hl, by simpa using rels⟩) (fun b u z => by cases (show (none : Option HO) = some u from z)) fun b z => absurd rfl z
  | none =>
    refine main (fun b => if b = a then some (.frz { cls := .type "list", data := .seq cells.toArray } (.lst (ns.map V.int))) else none) (fun b => ?_) (.inl (.inr ⟨{ cls := .type "list", data := .seq cells.toArray }, if_pos rfl⟩)) (fun b u z => ?_) fun b z => ?_
    · by_cases q : b = a
      · exact .inr ⟨_, _, if_pos q⟩
      · exact .inl (if_neg q)
    · by_cases q : b = a
      · have z := (if_pos q).symm.trans z
        cases z
        rw [q]
        exact ⟨ha, by rw [List.length_map]; exact hl, cells, _, rels, ha⟩
      · cases (if_neg q).symm.trans z
    · by_cases q : b = a
      · exact ⟨q, hk⟩
      · exact absurd (if_neg q) z
theorem walk_g {l : PySem.W.OpenLaw} {n k : Nat} {q : Program} {loose : List Str} {XP : (Str → Option Value) → Heap → Prop} {YP : World → Heap → Prop} {d : DefRec} {x : Str} (hn : l.most = some n) (hn2 : n ≤ sizeLine) (hdf : d.params.defaults = []) (hr : Room k callerA)
    (F : ∀ (w : World) (mg : Str → Option Value) (fa : Addr) (h : Heap), YP w h → h.Ns mainGlobals mg → mg d.name = some (.ref fa) →
      ∃ (K : PySem.W.Frag) (fd : FuncData), K.In h ∧ (∀ (s : Shared) (u : Value), BindsTo s fd ⟨[u], []⟩ [(x, u)]) ∧ ∀ bs : Heap, K.In bs → bs.Ns mainGlobals mg → FnG l.prog w K mg bs k fa fd [x] (spLaw K n)) :
    PySem.W.WalkO q loose XP YP l.row.toRowW d [] (fun f vs => PySem.call f vs) := by
  refine Att.attach_call hn hdf fun w s₀ s₁ mg mb fa o pm cd doc a vs ns G Y ho hd hcd hmg hobj hints hlen hg => ?_
  obtain ⟨K, fd, inK, hb, hF⟩ := F w mg fa _ Y G.T.g hmg
  exact law_g inK G.T.g G.T.b G.T.builtins G.T.nolimit hg hobj hints (Nat.le_trans hlen hn2) hr hF hb fun H on sq => ⟨a, ns, rfl, hlen, on, sq, fun _ => rfl⟩
theorem FnG.imp {P : Program} {w : World} {K : PySem.W.Frag} {mg : Str → Option Value} {base : Heap} {k : Nat} {f : Addr} {fd : FuncData} {ps : List Str} {sp sp' : Sp} (F : FnG P w K mg base k f fd ps sp) (h : ∀ as H Q E, sp' as H Q E → sp as H Q E) : FnG P w K mg base k f fd ps sp' :=
  ⟨fun as H Q E q => F.many as H Q E (h _ _ _ _ q), fun A fr s H ar us as Q E hg hr e hb hv hs => F.go A fr s H ar us as Q E hg hr e hb hv (h _ _ _ _ hs)⟩
end Pd
end
section
set_option linter.all false
set_option maxRecDepth 100000
namespace Pd
open PySem PySem.Spec PyProof.Rows L2

def srcKvs (c : Addr) (s : Src) : List (Key × V) := [(.inr (Str.ofString "cells"), .ref c), (.inr (Str.ofString "left"), .int s.left), (.inr (Str.ofString "mixed"), .int s.mixed), (.inr (Str.ofString "turn"), .int s.turn)]
/-- a key's number -/
structure KeyI (key : Str) (p : Src → Int) (u : Int → Src → Src) : Prop where
  get : ∀ c s, valV (srcKvs c s) (.inr key) = some (.int (p s))
  put : ∀ c s n, putK (srcKvs c s) (.inr key) (.int n) = srcKvs c (u n s)
  cells : ∀ s n, (u n s).cells = s.cells
def uLeft (n : Int) (s : Src) : Src := { s with left := n }
def uMixed (n : Int) (s : Src) : Src := { s with mixed := n }
def uTurn (n : Int) (s : Src) : Src := { s with turn := n }
theorem key_left : KeyI (Str.ofString "left") Src.left uLeft := ⟨fun _ _ => rfl, fun _ _ _ => rfl, fun _ _ => rfl⟩
theorem key_mixed : KeyI (Str.ofString "mixed") Src.mixed uMixed := ⟨fun _ _ => rfl, fun _ _ _ => rfl, fun _ _ => rfl⟩
theorem key_turn : KeyI (Str.ofString "turn") Src.turn uTurn := ⟨fun _ _ => rfl, fun _ _ _ => rfl, fun _ _ => rfl⟩
theorem key_cells (c : Addr) (s : Src) : valV (srcKvs c s) (.inr (Str.ofString "cells")) = some (.ref c) := rfl
section
variable {K : PySem.W.Frag} {sa : Sa} {B F H H' : Hp} {σ : L2.St} {st : S} {s s' : Src}
theorem SR.srcTo (h : SR K sa B F H σ st) (e : st.src = some s) (off : ∀ a, a ≠ sa.1 → a ≠ sa.2 → H' a = H a) (r : SrcR H' sa s') : SR K sa B F H' σ { st with src := some s' } := by
  have yes : st.src.isSome = true := by
    rw [e]
    rfl
  obtain ⟨_, e2, e3, e4, e5⟩ := h.sr s e
  have kp : ∀ {G : Hp} {a : Addr} {o : HO}, G sa.1 = none → G sa.2 = none → G a = some o → H a = some o → H' a = some o := fun {G a o} g1 g2 g h => by
    rw [off a (fun z => by
      rw [z, g1] at g
      cases g) fun z => by
      rw [z, g2] at g
      cases g]
    exact h
  refine ⟨fun a o q => kp e2 e3 q (h.bh a o q), fun a o q => kp e4 e5 q (h.fh a o q), h.len, h.sl, fun i d q => ?_, h.ap, fun i q => ⟨rfl, (h.sx i q).2⟩, h.sc, fun x q => ?_, fun i q => ⟨rfl, (h.sy i q).2⟩⟩
  · obtain ⟨a, o, f1, f2, f3, f4, f5, f6⟩ := h.so i d q
    obtain ⟨n1, n2⟩ := f6 yes
    exact ⟨a, o, f1, by rw [off a n1 n2]; exact f2, f3, f4, f5, fun _ => ⟨n1, n2⟩⟩
  · cases q
    exact ⟨r, e2, e3, e4, e5⟩
end
def mGetS (p : Src → Int) (mo : S → R Slot) : S → R Slot := fun st => match mo st with
  | .ok .src st1 => match st1.src with
    | some s => .ok (.v (.int (p s))) st1
    | none => .bad
  | _ => .bad
def mCel (mo : S → R Slot) : S → R Slot := fun st => match mo st with
  | .ok .src st1 => match st1.src with
    | some s => .ok .cel st1
    | none => .bad
  | _ => .bad
def mCelLen (mo : S → R Slot) : S → R Slot := fun st => match mo st with
  | .ok .cel st1 => match st1.src with
    | some s => .ok (.v (.int s.cells.length)) st1
    | none => .bad
  | _ => .bad
def mCelPop (mo : S → R Slot) : S → R Slot := fun st => match mo st with
  | .ok .cel st1 => match st1.src with
    | some s => match s.cells[s.cells.length - 1]? with
      | some n => .ok (.v (.int n)) { st1 with src := some { s with cells := s.cells.dropLast } }
      | none => .bad
    | none => .bad
  | _ => .bad
def sPutS (u : Int → Src → Src) (mo : S → R Slot) (mv : S → R PyData) : S → RS := fun st => match mv st with
  | .ok (.int n) st1 => match mo st1 with
    | .ok .src st2 => match st2.src with
      | some s => .nx { st2 with src := some (u n s) }
      | none => .bad
    | _ => .bad
  | _ => .bad
def intsOf : List PyData → Option (List Int)
  | [] => some []
  | .int i :: r => match intsOf r with
    | some l => some (i :: l)
    | none => none
  | _ => none
theorem intsOf_rp {F : Hp} : ∀ {vs : List V} {ds : List PyData} {ns : List Int}, RpL F vs ds → intsOf ds = some ns → vs = ns.map V.int
  | _, _, _, .nil, e => by
    cases e
    rfl
  | _, _, _, .cons (d := d) (ds := ds) r t, e => by
    cases d with
    | int i =>
      unfold intsOf at e
      cases q : intsOf ds with
      | none =>
        rw [q] at e
        cases e
      | some l =>
        rw [q] at e
        cases e
        cases r
        rw [intsOf_rp t q]
        rfl
    | _ => cases e
theorem intsOf_map (ns : List Int) : intsOf (ns.map PyData.int) = some ns := by
  induction ns with
  | nil => rfl
  | cons i l ih =>
    rw [List.map_cons]
    unfold intsOf
    rw [ih]
/-- {'cells': .., 'left': .., 'mixed': .., 'turn': ..} -/
def mNewS (mc : S → R Slot) (ml mm mt : S → R PyData) : S → R Slot := fun st => match mc st with
  | .ok (.o (.list ds)) st1 => match intsOf ds with
    | some ns => match ml st1 with
      | .ok (.int l) st2 => match mm st2 with
        | .ok (.int m) st3 => match mt st3 with
          | .ok (.int t) st4 => match st4.src with
            | none => .ok .src { st4 with src := some ⟨ns, l, m, t⟩ }
            | some _ => .bad
          | _ => .bad
        | _ => .bad
      | _ => .bad
    | none => .bad
  | _ => .bad
section
variable {X : Cx} {o e : Expr} {mo mc : S → R Slot} {mv ml mm mt : S → R PyData} {key : Str} {p : Src → Int} {u : Int → Src → Src} {j : Nat} {ps pos pos' apos : Pos}
theorem k_get (hu : X.A.units + 1 < cLine) (hk : KeyI key p u) (ho : PE X o (tM X.K mo)) (hs : NoSl (.Constant (.str key) j ps) := by intro _ _; rfl) : PE X (.Subscript o (.Constant (.str key) j ps) pos) (tM X.K (mGetS p mo)) :=
  imE (pe_dget hu ho pe_str hs) fun σ H Q ⟨sa, B, F, st, r', st', h0, h1, k⟩ => by
    unfold mGetS at h1
    split at h1
    · rename_i st1 q
      cases q2 : st1.src with
      | none =>
        simp only [q2] at h1
        cases h1
      | some s =>
        simp only [q2] at h1
        cases h1
        refine ⟨sa, B, F, st, _, _, h0, q, fun sa1 F1 H1 v R1 rr => ?_⟩
        obtain ⟨_, rfl⟩ := rr
        have sr := (R1.r.sr s q2).1
        have g : DGet H1 sa1.1 (kV (.inr key)) (valV (srcKvs sa1.2 s) (.inr key)) := DGet.k sr.1
        rw [hk.get sa1.2 s] at g
        exact ⟨sa1.1, _, rfl, g, k sa1 F1 H1 _ R1 (.int (p s))⟩
    · cases h1
theorem k_cel (hu : X.A.units + 1 < cLine) (ho : PE X o (tM X.K mo)) (hs : NoSl (.Constant (.str (Str.ofString "cells")) j ps) := by intro _ _; rfl) : PE X (.Subscript o (.Constant (.str (Str.ofString "cells")) j ps) pos) (tM X.K (mCel mo)) :=
  imE (pe_dget hu ho pe_str hs) fun σ H Q ⟨sa, B, F, st, r', st', h0, h1, k⟩ => by
    unfold mCel at h1
    split at h1
    · rename_i st1 q
      cases q2 : st1.src with
      | none =>
        simp only [q2] at h1
        cases h1
      | some s =>
        simp only [q2] at h1
        cases h1
        refine ⟨sa, B, F, st, _, _, h0, q, fun sa1 F1 H1 v R1 rr => ?_⟩
        obtain ⟨yes, rfl⟩ := rr
        have sr := (R1.r.sr s q2).1
        have g : DGet H1 sa1.1 (kV (.inr (Str.ofString "cells"))) (valV (srcKvs sa1.2 s) (.inr (Str.ofString "cells"))) := DGet.k sr.1
        rw [key_cells sa1.2 s] at g
        exact ⟨sa1.1, _, rfl, g, k sa1 F1 H1 _ R1 ⟨yes, rfl⟩⟩
    · cases h1
theorem k_len (hg : Gl X "len") (hm : X.mg "len" = none) (ho : PE X e (tM X.K mc)) (hs : starEach (e :: []) X.env = (false, eval e X.env) :: starEach [] X.env := by rfl) (hpl : (backTo pos (starEach [] X.env)).any (·.1) = false := by rfl) (hdb : ((Str.ofString "len") == ("__debug__" : Str)) = false := by decide) :
    PE X (.Call (.Name "len" ps) [e] [] pos) (tM X.K (mCelLen mc)) := imE (pe_callB call_len hg hm boot_len (pa_cons ho pa_nil hs) (he := hs) (hpl := hpl)) fun σ H Q ⟨sa, B, F, st, r', st', h0, h1, k⟩ => by
  unfold mCelLen at h1
  split at h1
  · rename_i st1 q
    cases q2 : st1.src with
    | none =>
      simp only [q2] at h1
      cases h1
    | some s =>
      simp only [q2] at h1
      cases h1
      refine ⟨sa, B, F, st, _, _, h0, q, fun sa1 F1 H1 v R1 rr => ?_⟩
      obtain ⟨yes, rfl⟩ := rr
      have sr := (R1.r.sr s q2).1
      exact ⟨_, s.cells.length, rfl, .inl ⟨_, .inl (.inl sr.2), by rw [List.length_map]⟩, k sa1 F1 H1 _ R1 (.int _)⟩
  · cases h1
theorem k_pop (ho : PE X o (tM X.K mc)) (hbase : attributeBase o "pop" X.env (eval o X.env) = eval o X.env := by rfl) (hline : (apos.endLine == pos.line) = true := by rfl) :
    PE X (.Call (.Attribute o "pop" apos) [] [] pos) (tM X.K (mCelPop mc)) := imE (pe_bm0 PySem.F.plainAttrs_list PySem.F.slot_list_pop PySem.F.type_list_pop mt_pop ho hbase hline) fun σ H Q ⟨sa, B, F, st, r', st', h0, h1, k⟩ => by
  unfold mCelPop at h1
  split at h1
  · rename_i st1 q
    cases q2 : st1.src with
    | none =>
      simp only [q2] at h1
      cases h1
    | some s =>
      simp only [q2] at h1
      cases q3 : s.cells[s.cells.length - 1]? with
      | none =>
        simp only [q3] at h1
        cases h1
      | some n =>
        simp only [q3] at h1
        cases h1
        refine ⟨sa, B, F, st, _, _, h0, q, fun sa1 F1 H1 v R1 rr => ?_⟩
        obtain ⟨yes, rfl⟩ := rr
        have sr := (R1.r.sr s q2).1
        refine ⟨.inl ⟨rfl, _, .inl (.inl sr.2)⟩, sa1.2, _, .int n, rfl, rfl, sr.2, ?_, ?_⟩
        · rw [List.length_map, List.getElem?_map, q3]
          rfl
        · have S2 := R1.r.srcTo q2 (H' := upd H1 sa1.2 (.lst (s.cells.map V.int).dropLast)) (s' := { s with cells := s.cells.dropLast }) (fun a _ n => upd_ne n) ⟨by rw [upd_ne sr.ne]; exact sr.1, by rw [upd_same, List.map_dropLast]⟩
          exact k sa1 F1 _ _ ⟨S2, R1.x, R1.k, fun z => rfl⟩ (.int n)
  · cases h1
theorem s_put (hu : X.A.units + 1 < cLine) (hk : KeyI key p u) (ho : PE X o (tM X.K mo)) (hv : PE X e (tF X.K mv)) (hs : swapsWith e (some (.Subscript o (.Constant (.str key) j ps) pos')) pos.line X.env = pure false := by rfl) :
    PS X (.Assign [.Subscript o (.Constant (.str key) j ps) pos'] e pos) (tMS X.K (sPutS u mo mv)) := imS (ps_dput hu ho pe_str hv hs) fun D σ H ⟨sa, B, F, st, h0, h1⟩ => by
  unfold sPutS at h1
  split at h1
  · rename_i n st1 q
    split at h1
    · rename_i st2 q1
      cases q2 : st2.src with
      | none =>
        simp only [q2] at h1
        exact h1.elim
      | some s =>
        simp only [q2] at h1
        refine ⟨sa, B, F, st, _, _, h0, q, fun sa1 F1 H1 v R1 r1 => ⟨sa1, B, F1, st1, _, _, R1.r, q1, fun sa2 F2 H2 w R2 rr => ?_⟩⟩
        obtain ⟨yes, rfl⟩ := rr
        cases r1
        have sr := (R2.r.sr s q2).1
        have g := DPut.k (k := .inr key) (v := .int n) sr.1 (by show 4 < sizeLine; rw [show sizeLine = 16777216 from rfl]; omega)
        have g : DPut H2 sa2.1 (kV (.inr key)) (.int n) (upd H2 sa2.1 (.dK (putK (srcKvs sa2.2 s) (.inr key) (.int n)))) := g
        rw [hk.put sa2.2 s n] at g
        refine ⟨sa2.1, _, rfl, g, ?_⟩
        have S2 := R2.r.srcTo q2 (H' := upd H2 sa2.1 (.dK (srcKvs sa2.2 (u n s)))) (s' := u n s) (fun a n _ => upd_ne n) ⟨upd_same, by rw [upd_ne (Ne.symm sr.ne), sr.2, hk.cells]⟩
        exact h1 sa2 F2 _ σ ⟨S2, (R1.trans R2).x, (R1.trans R2).k, fun z => rfl⟩
    · exact h1.elim
  · exact h1.elim
end

def gRev : PyData → Option Slot
  | .list ds => some (.o (.list ds.reverse))
  | _ => none
section
variable {X : Cx} {e : Expr} {m : S → R Opd} {k : Nat} {p1 p2 p3 pos : Pos}
theorem d_rev (he : PE X e (tP X.K m)) : PE X (.Subscript e (.Slice none none (some (.UnaryOp .USub (.Constant (.int 1) k p1) p2)) p3) pos) (tM X.K (m1 gRev m)) := imE (pe_revL he) fun σ H Q ⟨sa, B, F, st, r', st', h0, h1, kk⟩ => by
  unfold m1 at h1
  cases q : m st with
  | bad =>
    simp only [q] at h1
    cases h1
  | ok x st1 =>
    simp only [q] at h1
    unfold gRev at h1
    split at h1
    · rename_i sl q2
      split at q2
      · rename_i ds q3
        cases q2
        cases h1
        refine ⟨sa, B, F, st, x, _, h0, q, fun sa1 F1 H1 v R1 p1 => ?_⟩
        have rd := p1.rd R1.r
        rw [q3] at rd
        obtain ⟨a, xs, rfl, e1, r1⟩ := rd.lst R1.r.fh
        refine ⟨a, xs, rfl, .inl (.inl e1), fun D hD => ?_⟩
        obtain ⟨n1, n2⟩ := R1.r.news hD
        exact kk sa1 F1 _ _ ⟨R1.r.alloc hD, R1.x, R1.k, R1.s⟩ ⟨D, _, rfl, upd_same, .lst r1.reverse, R1.r.bh.none_of hD, R1.r.fh.none_of hD, n1, n2⟩
      · cases q2
    · cases h1
end

def jScr (i : Nat) : S → R (List PyData) := fun st => match st.ss[i]? with
  | some (.scr ns) => .ok (ns.map PyData.int) st
  | _ => .bad
section
variable {X : Cx} {tg e : Expr} {i : Nat}
theorem rp_ints {F : Hp} : ∀ ns : List Int, RpL F (ns.map V.int) (ns.map PyData.int)
  | [] => .nil
  | n :: ns => .cons (.int n) (rp_ints ns)
theorem sqL_one {K : PySem.W.Frag} {F : Hp} {a : Addr} {xs : List V} (h : SqL K F a xs) {J : It} (e : J = Itl K a) {i : Nat} {x : V} {H' H : Hp} (s : Sub F H) (y : (Itl K a).yld i H x H') : H' = H ∧ xs[i]? = some x := by
  obtain ⟨rfl, y2⟩ := y
  exact ⟨rfl, y2 xs (sqL_mono s h)⟩
theorem i_scr (h : PE X e (tVar i)) : PI X tg e (tL X.K (jScr i)) := imI (pi_any h) fun σ H R ⟨sa, B, F, st, ds, st', h0, h1, k⟩ => by
  unfold jScr at h1
  split at h1
  · rename_i ns q
    cases h1
    obtain ⟨a, e1, e2⟩ := h0.sc i ns q
    refine ⟨_, e1, a, rfl, .inl ⟨⟨_, sqL_mono h0.fh e2⟩, k sa F H _ (.refl h0) ⟨fun j sa B F' H σ st S1 s1 _ hj => ?_, fun sa B F' H σ st S1 s1 _ => ?_, fun j sa B F' H σ st x H' d S1 s1 _ hd y => ?_⟩⟩⟩
    · rw [List.length_map] at hj
      exact ⟨_, _, sqL_mono (s1.trans S1.fh) e2, List.getElem?_eq_getElem (by rw [List.length_map]; exact hj)⟩
    · exact ⟨_, sqL_mono (s1.trans S1.fh) e2, by rw [List.length_map, List.length_map]; exact Nat.le_refl _⟩
    · obtain ⟨rfl, h3⟩ := sqL_one e2 rfl (s1.trans S1.fh) y
      obtain ⟨v, f1, f2⟩ := (rp_ints (F := F') ns).get hd
      rw [h3] at f1
      cases f1
      exact ⟨F', S1, FX.refl, f2⟩
  · cases h1
end
end Pd
end
section
set_option linter.all false
set_option maxRecDepth 100000
namespace Pd
open PySem PySem.Spec PyProof.Rows L2
section
variable {X : Cx} {ec el em et : Expr} {mc : S → R Slot} {ml mm mt : S → R PyData} {j1 j2 j3 j4 : Nat} {p1 p2 p3 p4 pos : Pos}
theorem k_new (hc : PE X ec (tM X.K mc)) (hl : PE X el (tF X.K ml)) (hm : PE X em (tF X.K mm)) (ht : PE X et (tF X.K mt)) :
    PE X (.Dict [some (.Constant (.str (Str.ofString "cells")) j1 p1), some (.Constant (.str (Str.ofString "left")) j2 p2), some (.Constant (.str (Str.ofString "mixed")) j3 p3), some (.Constant (.str (Str.ofString "turn")) j4 p4)] [ec, el, em, et] pos) (tM X.K (mNewS mc ml mm mt)) :=
  imE (pe_disp (pps_cons pe_str hc (pps_cons pe_str hl (pps_cons pe_str hm (pps_cons pe_str ht pps_nil)))) rfl rfl (fun z => nomatch z) (by simp)) fun σ H Q ⟨sa, B, F, st, r', st', h0, h1, k⟩ D hD => by
    unfold mNewS at h1
    split at h1
    · rename_i ds st1 q1
      cases qi : intsOf ds with
      | none =>
        simp only [qi] at h1
        cases h1
      | some ns =>
        simp only [qi] at h1
        split at h1
        · rename_i l st2 q2
          split at h1
          · rename_i m st3 q3
            split at h1
            · rename_i t st4 q4
              cases q5 : st4.src with
              | some _ =>
                simp only [q5] at h1
                cases h1
              | none =>
                simp only [q5] at h1
                cases h1
                obtain ⟨n1, n2⟩ := h0.news hD
                have hB := h0.bh.none_of hD
                have S0 : SR X.K sa (upd B D (.dK [])) F (upd H D (.dK [])) σ st := (h0.alloc hD).prot upd_same hB n1 n2
                refine ⟨sa, _, F, st, _, st1, S0, q1, fun sa1 F1 H1 v R1 rr => ?_⟩
                obtain ⟨a, o, rfl, e2, e3, e4, e5, e6, e7⟩ := rr
                have ne : a ≠ D := fun z => by
                  rw [z, upd_same] at e4
                  cases e4
                have S1 : SR X.K sa1 (upd (upd B D (.dK [])) a o) F1 H1 σ st1 := R1.r.prot e2 e4 e6 e7
                refine ⟨sa1, _, F1, st1, _, st2, S1, q2, fun sa2 F2 H2 v2 R2 r2 => ⟨sa2, _, F2, st2, _, st3, R2.r, q3, fun sa3 F3 H3 v3 R3 r3 => ⟨sa3, _, F3, st3, _, st4, R3.r, q4, fun sa4 F4 H4 v4 R4 r4 => ?_⟩⟩⟩
                cases r2
                cases r3
                cases r4
                have R := (R2.trans R3).trans R4
                have atD : (upd (upd B D (.dK [])) a o) D = some (.dK []) := by
                  rw [upd_ne (Ne.symm ne), upd_same]
                have sub0 : Sub B (upd B D (.dK [])) := Sub.new hB
                have sub : Sub B (upd (upd B D (.dK [])) a o) := sub0.trans (Sub.new e4)
                have FD : F4 D = none := (R.x.out D ((R1.x.out D (h0.fh.none_of hD) (by
                  rw [upd_same]
                  exact fun z => nomatch z)).none R1.r.fh (R1.r.bh _ _ upd_same) fun xs z => nomatch z) (by
                  rw [atD]
                  exact fun z => nomatch z)).none R.r.fh (R.r.bh _ _ atD) fun xs z => nomatch z
                have Fa : F4 a = none := (R.x.out a e5 (by
                  rw [upd_same]
                  exact fun z => nomatch z)).none R.r.fh (R.r.bh _ _ upd_same) e3.noT
                have HD : H4 D = some (.dK []) := R.r.bh _ _ atD
                have Ha : H4 a = some o := R.r.bh _ _ upd_same
                have no : st.src.isSome = true → False := fun z => by
                  have w := R.s (R1.s z)
                  rw [q5] at w
                  cases w
                cases e3 with
                | lst rl =>
                  rw [intsOf_rp rl qi] at Ha
                  have fin : SR X.K (D, a) B F4 (upd H4 D (.dK (srcKvs a ⟨ns, l, m, t⟩))) σ { st4 with src := some ⟨ns, l, m, t⟩ } := by
                    refine ⟨(sub.trans R.r.bh).off hB, R.r.fh.off FD, R.r.len, R.r.sl, fun i d e => ?_, R.r.ap, fun i e => ?_, R.r.sc, fun s e => ?_, fun i e => ?_⟩
                    · obtain ⟨b, u, f1, f2, f3, f4, f5, f6⟩ := R.r.so i d e
                      have nD : b ≠ D := fun z => by
                        rw [z, atD] at f4
                        cases f4
                      have na : b ≠ a := fun z => by
                        rw [z, upd_same] at f4
                        cases f4
                      exact ⟨b, u, f1, by rw [upd_ne nD]; exact f2, f3, sub.none_of f4, f5, fun _ => ⟨nD, na⟩⟩
                    · have w := (R.r.sx i e).1
                      rw [q5] at w
                      cases w
                    · cases e
                      exact ⟨⟨upd_same, by rw [upd_ne ne]; exact Ha⟩, hB, sub0.none_of e4, FD, Fa⟩
                    · have w := (R.r.sy i e).1
                      rw [q5] at w
                      cases w
                  refine ⟨HD, [(.inr (Str.ofString "cells"), .ref a), (.inr (Str.ofString "left"), .int l), (.inr (Str.ofString "mixed"), .int m), (.inr (Str.ofString "turn"), .int t)], rfl, by simp, ?_⟩
                  exact k (D, a) F4 _ _ ⟨fin, (R1.x.weak sub0).trans (R.x.weak sub), fun z => (no z).elim, fun _ => rfl⟩ ⟨rfl, rfl⟩
            · cases h1
          · cases h1
        · cases h1
    · cases h1
end
end Pd
end
section
set_option linter.all false
set_option maxRecDepth 100000
namespace Pd
open PySem PySem.Spec PyProof.Rows L2
abbrev gLt : PyData → PyData → Option Slot := gOrd (fun i j => decide (i < j)) PySem.W.dataLt
abbrev gGt : PyData → PyData → Option Slot := gOrd (fun i j => decide (j < i)) fun a b => PySem.W.dataLt b a
section
variable {K : PySem.W.Frag} {X : Cx} {st : Stmt} {m m' m'' : S → R Slot}
theorem RRep.less {sa : Sa} {B C F H : Hp} {σ : L2.St} {st : S} {v : V} {r : Slot} (s : Sub B C) (h : RRep sa C F H σ st v r) : RRep sa B F H σ st v r := by
  cases r with
  | v d => exact h
  | src => exact h
  | cel => exact h
  | no => exact h.elim
  | scr _ => exact h.elim
  | o d =>
    obtain ⟨a, o, e, t1, t2, t3, t4⟩ := h
    exact ⟨a, o, e, t1, t2, s.none_of t3, t4⟩
end
end Pd
end
section
set_option linter.all false
set_option maxRecDepth 100000
namespace Pd
open PySem PySem.Spec PyProof.Rows L2

abbrev dep (α : Type) [DecidableEq α] [PySem.W.Datum α] : Nat := PySem.W.Datum.depth α
section
variable {α : Type} [DecidableEq α] [PySem.W.Datum α]
end
theorem lcGo_map {α : Type} {vs : List Nat} {g : PyData → S → Option S} {t : S → R Bool} {e : S → R PyData} (w : S) (φ : α → PyData) (p : α → Bool) (f : α → PyData) : ∀ (xs : List α) (acc : List PyData)
    (h : ∀ x ∈ xs, ∃ s1 s2, g (φ x) w = some s1 ∧ t s1 = .ok (p x) s2 ∧ (p x = false → s2.wipe vs = w) ∧ (p x = true → ∃ s3, e s2 = .ok (f x) s3 ∧ s3.wipe vs = w)),
    lcGo vs g t e (xs.map φ) acc w = .ok (acc ++ (xs.filter p).map f) w
  | [], acc, _ => by
    simp [lcGo]
  | x :: xs, acc, h => by
    obtain ⟨s1, s2, h1, h2, h3, h4⟩ := h x List.mem_cons_self
    have ih := fun acc => lcGo_map w φ p f xs acc fun y hy => h y (List.mem_cons_of_mem _ hy)
    rw [List.map_cons]
    unfold lcGo
    rw [h1]
    simp only [h2]
    cases q : p x with
    | false =>
      simp only
      rw [h3 q, ih, List.filter_cons_of_neg (by rw [q]; exact Bool.false_ne_true)]
    | true =>
      obtain ⟨s3, h5, h6⟩ := h4 q
      simp only [h5]
      rw [h6, ih, List.filter_cons_of_pos q, List.map_cons, List.append_assoc]
      rfl
theorem okLen_of {n : Nat} (h : n ≤ 16777216) : okLen n = true := decide_eq_true h
theorem mLc_map {α : Type} {mi : S → R (List PyData)} {vs : List Nat} {g : PyData → S → Option S} {t : S → R Bool} {e : S → R PyData} {st st1 : S} (xs : List α) (φ : α → PyData) (p : α → Bool) (f : α → PyData) (hi : mi st = .ok (xs.map φ) st1) (hl : xs.length ≤ 16777216)
    (h : ∀ x ∈ xs, ∃ s1 s2, g (φ x) (st1.wipe vs) = some s1 ∧ t s1 = .ok (p x) s2 ∧ (p x = false → s2.wipe vs = st1.wipe vs) ∧ (p x = true → ∃ s3, e s2 = .ok (f x) s3 ∧ s3.wipe vs = st1.wipe vs)) :
    mLc mi vs g t e st = .ok (.o (.list ((xs.filter p).map f))) ((st1.wipe vs).rest st1 vs) := by
  unfold mLc
  rw [hi]
  simp only [List.length_map, okLen_of hl, if_true]
  rw [lcGo_map (st1.wipe vs) φ p f xs [] h]
  rfl
/-- the items of enumerate -/
theorem enumD_map {α : Type} (φ : α → PyData) (xs : List α) : enumD (xs.map φ) = xs.zipIdx.map fun q => .tuple [.int (q.2 : Nat), φ q.1] := by
  unfold enumD
  rw [List.zipIdx_map, List.map_map]
  rfl
end Pd
end
section
set_option linter.all false
set_option maxRecDepth 100000
namespace Pd
open PySem PySem.Spec PyProof.Rows L2
section
variable {st st' st1 : S} {m m' m'' : S → R Slot} {mf : S → R PyData} {mp mp' : S → R Opd} {c c' : S → R Bool} {s1 s2 : S → RS} {ss : List Slot} {src : Option Src}
theorem v_C (d : PyData) : mC d st = .ok (.v d) st := rfl
theorem v_Var (i : Nat) : mVar i st = (match st.ss[i]? with
  | some (.v d) => .ok (.v d) st
  | some (.o d) => .ok (.v d) { st with ss := st.ss.set i (.v d) }
  | some .src => .ok .src st
  | some .cel => .ok .cel st
  | _ => .bad) := rfl
theorem v_Mv (i : Nat) : mMv i st = (match st.ss[i]? with
  | some (.v d) => .ok (.v d) st
  | some (.o d) => .ok (.o d) { st with ss := st.ss.set i .no }
  | some .src => .ok .src st
  | some .cel => .ok .cel st
  | _ => .bad) := rfl
theorem v_Pk (i : Nat) : mPk i st = (match st.ss[i]? with
  | some (.v d) => .ok (.v d) st
  | some (.o d) => .ok (.s i d) st
  | _ => .bad) := rfl
theorem v_O : mO m st = (match m st with
  | .ok (.v d) st' => .ok (.v d) st'
  | .ok (.o d) st' => .ok (.t d) st'
  | _ => .bad) := rfl
theorem v_F : mF m st = (match m st with
  | .ok (.v d) st' => .ok d st'
  | .ok (.o d) st' => .ok d st'
  | _ => .bad) := rfl
theorem v_B : mB m st = (match m st with
  | .ok (.v (.bool b)) st' => .ok b st'
  | _ => .bad) := rfl
theorem v_m1 (g : PyData → Option Slot) : m1 g mp st = (match mp st with
  | .ok x st1 => match g x.d with
    | some r => .ok r st1
    | none => .bad
  | .bad => .bad) := rfl
open Classical in
theorem v_m2 (g : PyData → PyData → Option Slot) : m2 g mp mp' st = (match mp st with
  | .ok x st1 => match mp' st1 with
    | .ok y st2 => if still x st2 then (match g x.d y.d with
      | some r => .ok r st2
      | none => .bad) else .bad
    | .bad => .bad
  | .bad => .bad) := rfl
theorem still_v (d : PyData) : still (.v d) st = True := rfl
theorem still_t (d : PyData) : still (.t d) st = True := rfl
theorem still_s (i : Nat) (d : PyData) : still (.s i d) st = (st.ss[i]? = some (.o d) ∨ st.ss[i]? = some (.v d)) := rfl
theorem d_v (d : PyData) : (Opd.v d).d = d := rfl
theorem d_t (d : PyData) : (Opd.t d).d = d := rfl
theorem d_s (i : Nat) (d : PyData) : (Opd.s i d).d = d := rfl
theorem v_Seq : sSeq s1 s2 st = (match s1 st with
  | .nx st1 => s2 st1
  | r => r) := rfl
theorem v_Nil : sNil st = .nx st := rfl
theorem v_If : sIf c s1 s2 st = (match c st with
  | .ok true st1 => s1 st1
  | .ok false st1 => s2 st1
  | .bad => .bad) := rfl
theorem v_Set (i : Nat) : sSet i m st = (match m st with
  | .ok r st1 => .nx { st1 with ss := st1.ss.set i r }
  | .bad => .bad) := rfl
theorem v_Ret : sRet m st = (match m st with
  | .ok r st1 => .ret r st1
  | .bad => .bad) := rfl
theorem v_Drop : sDrop m st = (match m st with
  | .ok _ st1 => .nx st1
  | .bad => .bad) := rfl
theorem v_Asg (g : PyData → S → Option S) : sAsg mf g st = (match mf st with
  | .ok d st1 => match g d st1 with
    | some st2 => .nx st2
    | none => .bad
  | .bad => .bad) := rfl
theorem v_Par2 (i j : Nat) : sPar2 i j m m' st = (match m st with
  | .ok r st1 => match m' st1 with
    | .ok r' st2 => .nx { st2 with ss := (st2.ss.set i r).set j r' }
    | .bad => .bad
  | .bad => .bad) := rfl
theorem v_Par3 (i j l : Nat) : sPar3 i j l m m' m'' st = (match m st with
  | .ok r st1 => match m' st1 with
    | .ok r' st2 => match m'' st2 with
      | .ok r'' st3 => .nx { st3 with ss := ((st3.ss.set i r).set j r').set l r'' }
      | .bad => .bad
    | .bad => .bad
  | .bad => .bad) := rfl
theorem v_And : mAnd c c' st = (match c st with
  | .ok true st1 => c' st1
  | .ok false st1 => .ok false st1
  | .bad => .bad) := by
  unfold mAnd
  rfl
theorem v_Or : mOr c c' st = (match c st with
  | .ok true st1 => .ok true st1
  | .ok false st1 => c' st1
  | .bad => .bad) := by
  unfold mOr
  rfl
theorem v_Not : mNot c st = (match c st with
  | .ok b st1 => .ok (!b) st1
  | .bad => .bad) := by
  unfold mNot
  cases c st with
  | bad => rfl
  | ok b s => cases b <;> rfl
theorem v_IfE : mIf c m m' st = (match c st with
  | .ok true st1 => m st1
  | .ok false st1 => m' st1
  | .bad => .bad) := by
  unfold mIf
  rfl
theorem v_Yes : tYesM st = .ok true st := rfl
theorem v_nil : mNil st = .ok [] st := rfl
theorem v_cons {ms : S → R (List PyData)} : mCons mf ms st = (match mf st with
  | .ok d st1 => match ms st1 with
    | .ok ds st2 => .ok (d :: ds) st2
    | .bad => .bad
  | .bad => .bad) := by
  unfold mCons
  rfl
theorem v_tup {ms : S → R (List PyData)} : mTup ms st = (match ms st with
  | .ok ds st1 => if okLen ds.length then .ok (.v (.tuple ds)) st1 else .bad
  | .bad => .bad) := by
  unfold mTup
  rfl
theorem v_lst {ms : S → R (List PyData)} : mLst ms st = (match ms st with
  | .ok ds st1 => if okLen ds.length then .ok (.o (.list ds)) st1 else .bad
  | .bad => .bad) := by
  unfold mLst
  rfl
theorem v_N (i : Nat) (d : PyData) : gN i d st = some { st with ss := st.ss.set i (.v d) } := rfl
theorem v_Nl : gNl [] st = some st := rfl
theorem v_Cn (g : PyData → S → Option S) (gs : List PyData → S → Option S) (d : PyData) (r : List PyData) : gCn g gs (d :: r) st = (match g d st with
  | some st1 => gs r st1
  | none => none) := rfl
theorem v_Tp (gs : List PyData → S → Option S) (ds : List PyData) : gTp gs (.tuple ds) st = gs ds st := rfl
theorem v_TpL (gs : List PyData → S → Option S) (ds : List PyData) : gTp gs (.list ds) st = gs ds st := rfl
theorem v_jSeq : jSeq mf st = (match mf st with
  | .ok (.list ds) st1 => .ok ds st1
  | .ok (.tuple ds) st1 => .ok ds st1
  | _ => .bad) := rfl
theorem v_jEnum : jEnum mf st = (match mf st with
  | .ok (.list ds) st1 => .ok (enumD ds) st1
  | .ok (.tuple ds) st1 => .ok (enumD ds) st1
  | _ => .bad) := rfl
theorem v_jRg {ma : S → R (List PyData)} : jRg ma st = (match ma st with
  | .ok [.int n] st1 => if rgOk 0 n then .ok (rgD 0 n) st1 else .bad
  | _ => .bad) := rfl
theorem v_jRg2 {ma : S → R (List PyData)} : jRg2 ma st = (match ma st with
  | .ok [.int a, .int b] st1 => if rgOk a b then .ok (rgD a b) st1 else .bad
  | _ => .bad) := rfl
theorem v_For (mi : S → R (List PyData)) (g : PyData → S → Option S) : sFor mi g s1 st = (match mi st with
  | .ok ds st1 => forGo g s1 ds st1
  | .bad => .bad) := rfl
theorem v_Call (g : GFn) (ms : S → R (List Slot)) : mCall g ms st = (match ms st with
  | .bad => .bad
  | .ok as st1 => if as.any Slot.isSrc then match g as st1.src with
      | some (r, some s) => .ok r { st1 with src := some s }
      | _ => .bad
    else match g as none with
      | some (r, none) => .ok r st1
      | some (r, some s) => match st1.src with
        | none => .ok r { st1 with src := some s }
        | some _ => .bad
      | none => .bad) := rfl
theorem v_xNil : xNil st = .ok [] st := rfl
theorem v_xCons {ms : S → R (List Slot)} : xCons mf ms st = (match mf st with
  | .ok d st1 => match ms st1 with
    | .ok as st2 => .ok (.v d :: as) st2
    | .bad => .bad
  | .bad => .bad) := rfl
theorem v_xSrc (i : Nat) {ms : S → R (List Slot)} : xSrc i ms st = (match st.ss[i]? with
  | some .src => (match ms st with
    | .ok as st2 => .ok (.src :: as) st2
    | .bad => .bad)
  | some (.scr ns) => (match ms st with
    | .ok as st2 => .ok (.scr ns :: as) st2
    | .bad => .bad)
  | _ => .bad) := rfl
theorem v_Mut (g : List PyData → List PyData → Option (PyData × List PyData)) (i : Nat) {ma : S → R (List PyData)} : mMut g i ma st = (match st.ss[i]? with
  | some (.o (.list _)) => (match ma st with
    | .ok as st1 => match st1.ss[i]? with
      | some (.o (.list ds)) => match g ds as with
        | some (d, ds') => .ok (.v d) { st1 with ss := st1.ss.set i (.o (.list ds')) }
        | none => .bad
      | _ => .bad
    | .bad => .bad)
  | _ => .bad) := rfl
theorem g_of {n : Nat} {ms : S → RS} {as : List Slot} {d : PyData} {src' : Option Src} {ss' : List Slot} (hs : startS n as = ss) (h : ms ⟨ss, src⟩ = .ret (.v d) ⟨ss', src'⟩) : gOf n ms as src = some (.v d, src') := by
  unfold gOf
  rw [hs, h]
theorem g_ofO {n : Nat} {ms : S → RS} {as : List Slot} {d : PyData} {src' : Option Src} {ss' : List Slot} (hs : startS n as = ss) (h : ms ⟨ss, src⟩ = .ret (.o d) ⟨ss', src'⟩) : gOf n ms as src = some (.o d, src') := by
  unfold gOf
  rw [hs, h]
end
end Pd
end
section
set_option linter.all false
set_option maxRecDepth 100000
namespace Pd
open PySem PySem.Spec PyProof.Rows L2

abbrev lotD (l : List Int) : PyData := .tuple (l.map PyData.int)
abbrev leI (a b : Int) : Bool := decide (a ≤ b)
abbrev leL (a b : List Int) : Bool := decide (a ≤ b)
theorem tr_I (a b c : Int) : leI a b = true → leI b c = true → leI a c = true := by
  simp only [leI, decide_eq_true_eq]
  omega
theorem to_I (a b : Int) : (leI a b || leI b a) = true := by
  simp only [leI, Bool.or_eq_true, decide_eq_true_eq]
  omega
abbrev srtI (l : List Int) : List Int := l.mergeSort leI
abbrev srtL (l : List (List Int)) : List (List Int) := l.mergeSort leL
/-- sorting and leaving out may be exchanged -/
theorem sort_filter {α : Type} {le : α → α → Bool} (tr : ∀ a b c, le a b = true → le b c = true → le a c = true) (to : ∀ a b, (le a b || le b a) = true) (an : ∀ a b, le a b = true → le b a = true → a = b) (p : α → Bool) (l : List α) :
    (l.mergeSort le).filter p = (l.filter p).mergeSort le := by
  refine List.Perm.eq_of_pairwise (le := fun a b => le a b = true) (fun a b _ _ h1 h2 => an a b h1 h2) ?_ ?_ ?_
  · exact (List.pairwise_mergeSort tr to l).filter _
  · exact List.pairwise_mergeSort tr to _
  · exact ((List.mergeSort_perm l le).filter p).trans (List.mergeSort_perm _ le).symm
theorem srt_mem {α : Type} {le : α → α → Bool} {l : List α} {a : α} : a ∈ l.mergeSort le ↔ a ∈ l := List.mem_mergeSort
/-- the least of a list (0 of none) -/
def leastI : List Int → Int
  | [] => 0
  | a :: l => l.foldl min a
theorem fold_min_le : ∀ (l : List Int) (a : Int), l.foldl min a ≤ a ∧ (∀ x ∈ l, l.foldl min a ≤ x) ∧ (l.foldl min a = a ∨ l.foldl min a ∈ l)
  | [], a => ⟨Int.le_refl _, fun x hx => (nomatch hx), .inl rfl⟩
  | b :: l, a => by
    obtain ⟨h1, h2, h3⟩ := fold_min_le l (min a b)
    rw [List.foldl_cons]
    refine ⟨Int.le_trans h1 (Int.min_le_left a b), fun x hx => ?_, ?_⟩
    · rcases List.mem_cons.mp hx with e | e
      · rw [e]
        exact Int.le_trans h1 (Int.min_le_right a b)
      · exact h2 x e
    · rcases h3 with e | e
      · rcases Int.le_total a b with z | z
        · rw [Int.min_eq_left z] at e ⊢
          exact .inl e
        · rw [Int.min_eq_right z] at e ⊢
          exact .inr (List.mem_cons.mpr (.inl e))
      · exact .inr (List.mem_cons_of_mem _ e)
theorem leastI_le {l : List Int} {x : Int} (h : x ∈ l) : leastI l ≤ x := by
  cases l with
  | nil => cases h
  | cons a l =>
    obtain ⟨h1, h2, _⟩ := fold_min_le l a
    rcases List.mem_cons.mp h with e | e
    · rw [e]
      exact h1
    · exact h2 x e
theorem leastI_mem {l : List Int} (h : l ≠ []) : leastI l ∈ l := by
  cases l with
  | nil => exact absurd rfl h
  | cons a l =>
    obtain ⟨_, _, h3⟩ := fold_min_le l a
    rcases h3 with e | e
    · show l.foldl min a ∈ _
      rw [e]
      exact List.mem_cons_self
    · exact List.mem_cons_of_mem _ e
theorem at1 (a b : PyData) (r : List PyData) : gIx (.tuple (a :: b :: r)) (.int 1) = some (.v b) := by
  have : (1 : Int) < (r.length : Int) + 1 + 1 := by omega
  simp [gIx, atI, ixN, this]
theorem gLen_list (ds : List PyData) : gLen (.list ds) = some (.v (.int (ds.length : Nat))) := rfl
theorem gAdd_int (a b : Int) : gAdd (.int a) (.int b) = some (.v (.int (a + b))) := rfl
theorem rgOk_of {a b : Int} (h1 : -16777216 ≤ a) (h2 : a ≤ 16777216) (h3 : -16777216 ≤ b) (h4 : b ≤ 16777216) (h5 : b - a ≤ 16777216) : rgOk a b = true := by
  unfold rgOk
  simp [h1, h2, h3, h4, h5]
theorem gLt_int (a b : Int) : gLt (.int a) (.int b) = some (.v (.bool (decide (a < b)))) := rfl
theorem gGt_int (a b : Int) : gGt (.int a) (.int b) = some (.v (.bool (decide (b < a)))) := rfl
end Pd
end
set_option linter.all false
set_option maxRecDepth 100000
noncomputable section
namespace Pd
open PySem PySem.Spec PyProof.Rows L2
section
variable {st : S} {mo mc : S → R Slot} {mv : S → R PyData}
theorem v_GetS (p : Src → Int) : mGetS p mo st = (match mo st with
  | .ok .src st1 => match st1.src with
    | some s => .ok (.v (.int (p s))) st1
    | none => .bad
  | _ => .bad) := rfl
theorem v_Cel : mCel mo st = (match mo st with
  | .ok .src st1 => match st1.src with
    | some s => .ok .cel st1
    | none => .bad
  | _ => .bad) := rfl
theorem v_CelLen : mCelLen mo st = (match mo st with
  | .ok .cel st1 => match st1.src with
    | some s => .ok (.v (.int s.cells.length)) st1
    | none => .bad
  | _ => .bad) := rfl
theorem v_CelPop : mCelPop mo st = (match mo st with
  | .ok .cel st1 => match st1.src with
    | some s => match s.cells[s.cells.length - 1]? with
      | some n => .ok (.v (.int n)) { st1 with src := some { s with cells := s.cells.dropLast } }
      | none => .bad
    | none => .bad
  | _ => .bad) := rfl
theorem v_PutS (u : Int → Src → Src) : sPutS u mo mv st = (match mv st with
  | .ok (.int n) st1 => match mo st1 with
    | .ok .src st2 => match st2.src with
      | some s => .nx { st2 with src := some (u n s) }
      | none => .bad
    | _ => .bad
  | _ => .bad) := rfl
end
theorem gInt_int (a : Int) : gInt (.int a) = some (.v (.int a)) := rfl
theorem gDiv_int {a b : Int} (h1 : 0 < b) (h2 : b < 1073741824) : gDiv (.int a) (.int b) = some (.v (.int (a / b))) := by
  show (if decide (0 < b) && decide (b < 1073741824) then some (Slot.v (.int (a / b))) else none) = _
  simp [h1, h2]
theorem gMod_int {a b : Int} (h1 : 0 < b) : gMod (.int a) (.int b) = some (.v (.int (a % b))) := by
  show (if decide (0 < b) then some (Slot.v (.int (a % b))) else none) = _
  simp [h1]
theorem gMul_int {a b : Int} (h : mulOk a b = true) : gMul (.int a) (.int b) = some (.v (.int (a * b))) := by
  show (if mulOk a b then some (Slot.v (.int (a * b))) else none) = _
  simp [h]
theorem mulOk_r {a b : Int} (h1 : -(2 ^ 64) < b) (h2 : b < 2 ^ 64) : mulOk a b = true := by
  unfold mulOk
  simp only [Bool.or_eq_true, Bool.and_eq_true, decide_eq_true_eq]
  omega
theorem mulOk_l {a b : Int} (h1 : -(2 ^ 64) < a) (h2 : a < 2 ^ 64) : mulOk a b = true := by
  unfold mulOk
  simp only [Bool.or_eq_true, Bool.and_eq_true, decide_eq_true_eq]
  omega
def pick2 : S → RS := (sSeq (sIf (mB (m2 gLt (mPk 1) (mO (mC (.int 2))))) (sRet (mC (.int 0))) sNil)
  (sSeq (sSet 2 (mCel (mVar 0)))
  (sSeq (sWhile (mAnd (mB (m2 gLt (mO (mGetS Src.left (mVar 0))) (mO (mC (.int 2))))) (mB (m2 gGt (mO (mCelLen (mVar 2))) (mO (mC (.int 0)))))) (sPutS uLeft (mVar 0) (mF (mCelPop (mVar 2)))))
  (sSeq (sSet 3 (mGetS Src.left (mVar 0)))
  (sSeq (sIf (mB (m2 gGt (mPk 3) (mO (mC (.int 1))))) (sSeq (sPutS uLeft (mVar 0) (mF (m2 gDiv (mPk 3) (mPk 1))))
  (sRet (m2 gMod (mO (m1 gInt (mPk 3))) (mPk 1)))) sNil)
  (sSeq (sPutS uTurn (mVar 0) (mF (m2 gAdd (mO (mGetS Src.turn (mVar 0))) (mO (mC (.int 1))))))
  (sSeq (sSet 4 (mGetS Src.turn (mVar 0)))
  (sSeq (sSet 5 (m2 gMod (mO (m1 gInt (mO (m2 gAdd (mO (mGetS Src.mixed (mVar 0))) (mO (m2 gMul (mPk 4) (mO (mC (.int 104729))))))))) (mO (mC (.int 998244353)))))
  (sSeq (sSet 5 (m2 gMod (mO (m1 gInt (mO (m2 gAdd (mO (m2 gMul (mPk 5) (mPk 5))) (mO (m2 gMul (mPk 4) (mO (mC (.int 17))))))))) (mO (mC (.int 2147483647)))))
  (sRet (m2 gMod (mO (m1 gInt (mO (m2 gDiv (mPk 5) (mO (mC (.int 16))))))) (mPk 1))))))))))))
def wC : S → R Bool := (mAnd (mB (m2 gLt (mO (mGetS Src.left (mVar 0))) (mO (mC (.int 2))))) (mB (m2 gGt (mO (mCelLen (mVar 2))) (mO (mC (.int 0))))))
def wB : S → RS := (sPutS uLeft (mVar 0) (mF (mCelPop (mVar 2))))
theorem pick2_while (m : Int) : ∀ (k : Nat) (s : Src), s.cells.length = k → ∃ s', sWhile wC wB ⟨[.src, .v (.int m), .cel, .no, .no, .no], some s⟩ = .nx ⟨[.src, .v (.int m), .cel, .no, .no, .no], some s'⟩
  | 0, s, h => by
    refine ⟨s, ?_⟩
    have p0 : (0 : Int) < ((0 : Nat) : Int) ↔ False := by decide
    have c1 : wC ⟨[.src, .v (.int m), .cel, .no, .no, .no], some s⟩ = .ok false ⟨[.src, .v (.int m), .cel, .no, .no, .no], some s⟩ := by
      unfold wC
      by_cases z : s.left < 2
      · simp only [v_GetS, v_Cel, v_CelLen, v_CelPop, v_PutS, v_C, v_Var, v_Mv, v_Pk, v_O, v_F, v_B, v_m1, v_m2, still_v, still_t, still_s, d_v, d_t, d_s, v_Seq, v_Nil, v_If, v_Set, v_Ret, v_Drop, v_Asg, v_Par2, v_Par3, v_And, v_Or, v_Not, v_IfE, v_Yes, v_nil, v_cons, v_tup, v_lst, v_N, v_Nl, v_Cn, v_Tp, v_TpL, v_jSeq, v_jEnum, v_jRg, v_jRg2, v_For, v_Call, v_xNil, v_xCons, v_xSrc, v_Mut, S.wipe, wipeS, S.rest, restS, backS, List.set_cons_zero, List.set_cons_succ, List.getElem?_cons_zero, List.getElem?_cons_succ, List.any_cons, List.any_nil, Slot.isSrc, if_true, Bool.or_false, Bool.false_or, Bool.or_true, Bool.true_or, true_or, or_true, List.length_cons, List.length_nil, Bool.false_eq_true, if_false, reduceIte, reduceCtorEq, gLt_int, gGt_int, h, z, decide_true, decide_false, p0]
      · simp only [v_GetS, v_Cel, v_CelLen, v_CelPop, v_PutS, v_C, v_Var, v_Mv, v_Pk, v_O, v_F, v_B, v_m1, v_m2, still_v, still_t, still_s, d_v, d_t, d_s, v_Seq, v_Nil, v_If, v_Set, v_Ret, v_Drop, v_Asg, v_Par2, v_Par3, v_And, v_Or, v_Not, v_IfE, v_Yes, v_nil, v_cons, v_tup, v_lst, v_N, v_Nl, v_Cn, v_Tp, v_TpL, v_jSeq, v_jEnum, v_jRg, v_jRg2, v_For, v_Call, v_xNil, v_xCons, v_xSrc, v_Mut, S.wipe, wipeS, S.rest, restS, backS, List.set_cons_zero, List.set_cons_succ, List.getElem?_cons_zero, List.getElem?_cons_succ, List.any_cons, List.any_nil, Slot.isSrc, if_true, Bool.or_false, Bool.false_or, Bool.or_true, Bool.true_or, true_or, or_true, List.length_cons, List.length_nil, Bool.false_eq_true, if_false, reduceIte, reduceCtorEq, gLt_int, gGt_int, h, z, decide_true, decide_false, p0]
    rw [sWhile_turn, c1]
  | k + 1, s, h => by
    rw [sWhile_turn]
    by_cases z : s.left < 2
    · have hk : s.cells.length - 1 < s.cells.length := by omega
      have e : s.cells[s.cells.length - 1]? = some s.cells[s.cells.length - 1] := List.getElem?_eq_getElem hk
      obtain ⟨s', h'⟩ := pick2_while m k (uLeft s.cells[s.cells.length - 1] { s with cells := s.cells.dropLast }) (by
        show s.cells.dropLast.length = k
        rw [List.length_dropLast, h]
        rfl)
      refine ⟨s', ?_⟩
      have pos : (0 : Int) < (s.cells.length : Int) := by omega
      have c1 : wC ⟨[.src, .v (.int m), .cel, .no, .no, .no], some s⟩ = .ok true ⟨[.src, .v (.int m), .cel, .no, .no, .no], some s⟩ := by
        unfold wC
        simp only [v_GetS, v_Cel, v_CelLen, v_CelPop, v_PutS, v_C, v_Var, v_Mv, v_Pk, v_O, v_F, v_B, v_m1, v_m2, still_v, still_t, still_s, d_v, d_t, d_s, v_Seq, v_Nil, v_If, v_Set, v_Ret, v_Drop, v_Asg, v_Par2, v_Par3, v_And, v_Or, v_Not, v_IfE, v_Yes, v_nil, v_cons, v_tup, v_lst, v_N, v_Nl, v_Cn, v_Tp, v_TpL, v_jSeq, v_jEnum, v_jRg, v_jRg2, v_For, v_Call, v_xNil, v_xCons, v_xSrc, v_Mut, S.wipe, wipeS, S.rest, restS, backS, List.set_cons_zero, List.set_cons_succ, List.getElem?_cons_zero, List.getElem?_cons_succ, List.any_cons, List.any_nil, Slot.isSrc, if_true, Bool.or_false, Bool.false_or, Bool.or_true, Bool.true_or, true_or, or_true, List.length_cons, List.length_nil, Bool.false_eq_true, if_false, reduceIte, reduceCtorEq, gLt_int, gGt_int, z, decide_true, pos]
      have c2 : wB ⟨[.src, .v (.int m), .cel, .no, .no, .no], some s⟩ = .nx ⟨[.src, .v (.int m), .cel, .no, .no, .no], some (uLeft s.cells[s.cells.length - 1] { s with cells := s.cells.dropLast })⟩ := by
        unfold wB
        simp only [v_GetS, v_Cel, v_CelLen, v_CelPop, v_PutS, v_C, v_Var, v_Mv, v_Pk, v_O, v_F, v_B, v_m1, v_m2, still_v, still_t, still_s, d_v, d_t, d_s, v_Seq, v_Nil, v_If, v_Set, v_Ret, v_Drop, v_Asg, v_Par2, v_Par3, v_And, v_Or, v_Not, v_IfE, v_Yes, v_nil, v_cons, v_tup, v_lst, v_N, v_Nl, v_Cn, v_Tp, v_TpL, v_jSeq, v_jEnum, v_jRg, v_jRg2, v_For, v_Call, v_xNil, v_xCons, v_xSrc, v_Mut, S.wipe, wipeS, S.rest, restS, backS, List.set_cons_zero, List.set_cons_succ, List.getElem?_cons_zero, List.getElem?_cons_succ, List.any_cons, List.any_nil, Slot.isSrc, if_true, Bool.or_false, Bool.false_or, Bool.or_true, Bool.true_or, true_or, or_true, List.length_cons, List.length_nil, Bool.false_eq_true, if_false, reduceIte, reduceCtorEq, e]
      rw [c1]
      simp only [c2]
      exact h'
    · refine ⟨s, ?_⟩
      have c1 : wC ⟨[.src, .v (.int m), .cel, .no, .no, .no], some s⟩ = .ok false ⟨[.src, .v (.int m), .cel, .no, .no, .no], some s⟩ := by
        unfold wC
        simp only [v_GetS, v_Cel, v_CelLen, v_CelPop, v_PutS, v_C, v_Var, v_Mv, v_Pk, v_O, v_F, v_B, v_m1, v_m2, still_v, still_t, still_s, d_v, d_t, d_s, v_Seq, v_Nil, v_If, v_Set, v_Ret, v_Drop, v_Asg, v_Par2, v_Par3, v_And, v_Or, v_Not, v_IfE, v_Yes, v_nil, v_cons, v_tup, v_lst, v_N, v_Nl, v_Cn, v_Tp, v_TpL, v_jSeq, v_jEnum, v_jRg, v_jRg2, v_For, v_Call, v_xNil, v_xCons, v_xSrc, v_Mut, S.wipe, wipeS, S.rest, restS, backS, List.set_cons_zero, List.set_cons_succ, List.getElem?_cons_zero, List.getElem?_cons_succ, List.any_cons, List.any_nil, Slot.isSrc, if_true, Bool.or_false, Bool.false_or, Bool.or_true, Bool.true_or, true_or, or_true, List.length_cons, List.length_nil, Bool.false_eq_true, if_false, reduceIte, reduceCtorEq, gLt_int, gGt_int, z, decide_true, decide_false]
      rw [c1]
theorem pick2_is (m : Int) (hm : m < 1073741824) (s : Src) : ∃ r s', gOf 6 pick2 [.src, .v (.int m)] (some s) = some (.v (.int r), some s') ∧ 0 ≤ r ∧ (2 ≤ m → r < m) ∧ (m < 2 → r = 0) := by
  by_cases z : m < 2
  · refine ⟨0, s, g_of (ss := [.src, .v (.int m), .no, .no, .no, .no]) (ss' := [.src, .v (.int m), .no, .no, .no, .no]) rfl ?_, Int.le_refl _, fun h => absurd z (by omega), fun _ => rfl⟩
    unfold pick2
    simp only [v_GetS, v_Cel, v_CelLen, v_CelPop, v_PutS, v_C, v_Var, v_Mv, v_Pk, v_O, v_F, v_B, v_m1, v_m2, still_v, still_t, still_s, d_v, d_t, d_s, v_Seq, v_Nil, v_If, v_Set, v_Ret, v_Drop, v_Asg, v_Par2, v_Par3, v_And, v_Or, v_Not, v_IfE, v_Yes, v_nil, v_cons, v_tup, v_lst, v_N, v_Nl, v_Cn, v_Tp, v_TpL, v_jSeq, v_jEnum, v_jRg, v_jRg2, v_For, v_Call, v_xNil, v_xCons, v_xSrc, v_Mut, S.wipe, wipeS, S.rest, restS, backS, List.set_cons_zero, List.set_cons_succ, List.getElem?_cons_zero, List.getElem?_cons_succ, List.any_cons, List.any_nil, Slot.isSrc, if_true, Bool.or_false, Bool.false_or, Bool.or_true, Bool.true_or, true_or, or_true, List.length_cons, List.length_nil, Bool.false_eq_true, if_false, reduceIte, reduceCtorEq, gLt_int, z, decide_true]
  · have m0 : 0 < m := by omega
    obtain ⟨s1, hw⟩ := pick2_while m _ s rfl
    unfold wC wB at hw
    by_cases o : 1 < s1.left
    · refine ⟨s1.left % m, uLeft (s1.left / m) s1, g_of (ss := [.src, .v (.int m), .no, .no, .no, .no]) (ss' := [.src, .v (.int m), .cel, .v (.int s1.left), .no, .no]) rfl ?_, Int.emod_nonneg _ (by omega), fun _ => Int.emod_lt_of_pos _ m0, fun h => absurd h z⟩
      unfold pick2
      simp only [v_GetS, v_Cel, v_CelLen, v_CelPop, v_PutS, v_C, v_Var, v_Mv, v_Pk, v_O, v_F, v_B, v_m1, v_m2, still_v, still_t, still_s, d_v, d_t, d_s, v_Seq, v_Nil, v_If, v_Set, v_Ret, v_Drop, v_Asg, v_Par2, v_Par3, v_And, v_Or, v_Not, v_IfE, v_Yes, v_nil, v_cons, v_tup, v_lst, v_N, v_Nl, v_Cn, v_Tp, v_TpL, v_jSeq, v_jEnum, v_jRg, v_jRg2, v_For, v_Call, v_xNil, v_xCons, v_xSrc, v_Mut, S.wipe, wipeS, S.rest, restS, backS, List.set_cons_zero, List.set_cons_succ, List.getElem?_cons_zero, List.getElem?_cons_succ, List.any_cons, List.any_nil, Slot.isSrc, if_true, Bool.or_false, Bool.false_or, Bool.or_true, Bool.true_or, true_or, or_true, List.length_cons, List.length_nil, Bool.false_eq_true, if_false, reduceIte, reduceCtorEq, gLt_int, gGt_int, z, decide_false, hw, o, decide_true, gDiv_int m0 hm, gMod_int m0, gInt_int]
    · have q1 : (0 : Int) < 998244353 := by decide
      have q2 : (0 : Int) < 2147483647 := by decide
      have q3 : (0 : Int) < 16 := by decide
      have q4 : (16 : Int) < 1073741824 := by decide
      have a1 := Int.emod_nonneg (s1.mixed + (s1.turn + 1) * 104729) (show (998244353 : Int) ≠ 0 by decide)
      have a2 := Int.emod_lt_of_pos (s1.mixed + (s1.turn + 1) * 104729) q1
      have mm := mulOk_l (a := (s1.mixed + (s1.turn + 1) * 104729) % 998244353) (b := (s1.mixed + (s1.turn + 1) * 104729) % 998244353) (by omega) (by omega)
      refine ⟨((((s1.mixed + (s1.turn + 1) * 104729) % 998244353) * ((s1.mixed + (s1.turn + 1) * 104729) % 998244353) + (s1.turn + 1) * 17) % 2147483647 / 16) % m, uTurn (s1.turn + 1) s1, g_of (ss := [.src, .v (.int m), .no, .no, .no, .no]) (ss' := [.src, .v (.int m), .cel, .v (.int s1.left), .v (.int (s1.turn + 1)), .v (.int ((((s1.mixed + (s1.turn + 1) * 104729) % 998244353) * ((s1.mixed + (s1.turn + 1) * 104729) % 998244353) + (s1.turn + 1) * 17) % 2147483647))]) rfl ?_, Int.emod_nonneg _ (by omega), fun _ => Int.emod_lt_of_pos _ m0, fun h => absurd h z⟩
      unfold pick2
      simp only [v_GetS, v_Cel, v_CelLen, v_CelPop, v_PutS, v_C, v_Var, v_Mv, v_Pk, v_O, v_F, v_B, v_m1, v_m2, still_v, still_t, still_s, d_v, d_t, d_s, v_Seq, v_Nil, v_If, v_Set, v_Ret, v_Drop, v_Asg, v_Par2, v_Par3, v_And, v_Or, v_Not, v_IfE, v_Yes, v_nil, v_cons, v_tup, v_lst, v_N, v_Nl, v_Cn, v_Tp, v_TpL, v_jSeq, v_jEnum, v_jRg, v_jRg2, v_For, v_Call, v_xNil, v_xCons, v_xSrc, v_Mut, S.wipe, wipeS, S.rest, restS, backS, List.set_cons_zero, List.set_cons_succ, List.getElem?_cons_zero, List.getElem?_cons_succ, List.any_cons, List.any_nil, Slot.isSrc, if_true, Bool.or_false, Bool.false_or, Bool.or_true, Bool.true_or, true_or, or_true, List.length_cons, List.length_nil, Bool.false_eq_true, if_false, reduceIte, reduceCtorEq, gLt_int, gGt_int, z, decide_false, hw, o, decide_true, gDiv_int q3 q4, gMod_int m0, gMod_int q1, gMod_int q2, gInt_int, gAdd_int, gMul_int mm, gMul_int (mulOk_r (a := s1.turn + 1) (b := 104729) (by decide) (by decide)), gMul_int (mulOk_r (a := s1.turn + 1) (b := 17) (by decide) (by decide)), uTurn]
end Pd
end
section
set_option linter.all false
set_option maxRecDepth 100000
namespace Pd
open PySem PySem.Spec PyProof.Rows L2
structure Sh (k w : Nat) (d : PyData) : Prop where
  lay : PyData.canLay0 d = true
  short : PyData.intsShort 13 d = true
  sh : PyData.showable d = true
  dep : PyData.depth d ≤ k
  wt : PyData.weight d ≤ w
  nd : PyData.hasDict d = false
theorem log_40 {m : Nat} (h : m < 2 ^ 40) : m.log2 < 40 := by
  by_cases z : m = 0
  · subst z
    decide
  · exact (Nat.log2_lt z).mpr h
theorem Sh.int {i : Int} (h1 : -999999999999 ≤ i) (h2 : i ≤ 999999999999) : Sh 0 40 (.int i) := by
  have h3 := log_40 (m := i.natAbs) (by
    have : (2 : Nat) ^ 40 = 1099511627776 := by decide
    omega)
  refine ⟨by simp [PyData.canLay0], ?_, ?_, by simp [PyData.depth], ?_, by simp [PyData.hasDict]⟩
  · simp only [PyData.intsShort, decide_eq_true_eq]
    exact PyData.shown_int_le2 h1 h2
  · simp only [PyData.showable, decide_eq_true_eq]
    omega
  · simp only [PyData.weight]
    split
    · omega
    · omega
theorem Sh.all {k w : Nat} : ∀ {xs : List PyData}, (∀ x ∈ xs, Sh k w x) → PyData.canLayAll0 xs = true ∧ PyData.intsShortAll 13 xs = true ∧ PyData.showableAll xs = true ∧ PyData.depthAll xs ≤ k ∧ PyData.weightAll xs ≤ xs.length * (w + 1) ∧ PyData.hasDictAll xs = false
  | [], _ => by simp [PyData.canLayAll0, PyData.intsShortAll, PyData.showableAll, PyData.depthAll, PyData.weightAll, PyData.hasDictAll]
  | x :: xs, h => by
    have hx := h x List.mem_cons_self
    obtain ⟨a, b, c, d, e, f⟩ := Sh.all (xs := xs) fun y hy => h y (List.mem_cons_of_mem _ hy)
    refine ⟨?_, ?_, ?_, ?_, ?_, ?_⟩
    · rw [PyData.canLayAll0, hx.lay, a]
      rfl
    · rw [PyData.intsShortAll, hx.short, b]
      rfl
    · rw [PyData.showableAll, hx.sh, c]
      rfl
    · rw [PyData.depthAll]
      exact Nat.max_le.mpr ⟨hx.dep, d⟩
    · rw [PyData.weightAll, List.length_cons, Nat.add_mul]
      have := hx.wt
      omega
    · rw [PyData.hasDictAll, hx.nd, f]
      rfl
theorem Sh.tup {k w m : Nat} {xs : List PyData} (h : ∀ x ∈ xs, Sh k w x) (hm : xs.length * (w + 1) ≤ m) : Sh (k + 1) m (.tuple xs) := by
  obtain ⟨a, b, c, d, e, f⟩ := Sh.all h
  refine ⟨by rw [PyData.canLay0]; exact a, by rw [PyData.intsShort]; exact b, by rw [PyData.showable]; exact c, ?_, ?_, by rw [PyData.hasDict]; exact f⟩
  · rw [PyData.depth]
    omega
  · rw [PyData.weight]
    omega
theorem Sh.lst {k w m : Nat} {xs : List PyData} (h : ∀ x ∈ xs, Sh k w x) (hm : xs.length * (w + 1) ≤ m) : Sh (k + 1) m (.list xs) := by
  obtain ⟨a, b, c, d, e, f⟩ := Sh.all h
  refine ⟨by rw [PyData.canLay0]; exact a, by rw [PyData.intsShort]; exact b, by rw [PyData.showable]; exact c, ?_, ?_, by rw [PyData.hasDict]; exact f⟩
  · rw [PyData.depth]
    omega
  · rw [PyData.weight]
    omega
theorem Sh.more {k w k' w' : Nat} {d : PyData} (h : Sh k w d) (hk : k ≤ k') (hw : w ≤ w') : Sh k' w' d := ⟨h.lay, h.short, h.sh, Nat.le_trans h.dep hk, Nat.le_trans h.wt hw, h.nd⟩
theorem Sh.ok {k w : Nat} {d : PyData} (h : Sh k w d) (hk : k ≤ 60) (hw : w ≤ 1048576) : reprOk d = true := by
  have e : (2 : Nat) ^ 20 = 1048576 := by decide
  have l : PyData.layable0 d = true := by
    unfold PyData.layable0
    have h1 := h.dep
    have h2 := h.wt
    simp only [h.lay, Bool.true_and, Bool.and_eq_true, decide_eq_true_eq]
    omega
  have s := PyProof.Rows.shown_le13 l h.short
  have h1 := h.dep
  unfold reprOk
  rw [h.sh, h.nd, okLen_of (by omega)]
  simp
  omega
theorem Sh.lot {l : List Int} (h : ∀ x ∈ l, -999999999999 ≤ x ∧ x ≤ 999999999999) {m : Nat} (hm : l.length * 41 ≤ m) : Sh 1 m (lotD l) := Sh.tup (k := 0) (w := 40) (fun x hx => by
  obtain ⟨i, hi, rfl⟩ := List.mem_map.mp hx
  exact Sh.int (h i hi).1 (h i hi).2) (by rw [List.length_map]; exact hm)
end Pd
end
section
set_option linter.all false
set_option maxRecDepth 100000
namespace Pd
open PySem PySem.Spec PyProof.Rows L2
def keyOf : PyData → Option Key
  | .int i => some (.inl i)
  | .str x => some (.inr x)
  | _ => none
def pairsD : List PyData → Option (List (Key × PyData))
  | [] => some []
  | .tuple [k, v] :: r => match keyOf k with
    | some k' => match pairsD r with
      | some l => some ((k', v) :: l)
      | none => none
    | none => none
  | _ => none
def putD (kvs : List (Key × PyData)) (k : Key) (v : PyData) : List (Key × PyData) :=
  if (kvs.any fun kv => decide (kv.1 = k)) = true then kvs.map (fun kv => if kv.1 = k then (kv.1, v) else kv) else kvs ++ [(k, v)]
def mergeD (kvs more : List (Key × PyData)) : List (Key × PyData) := more.foldl (fun acc kv => putD acc kv.1 kv.2) kvs
def dictD (kvs : List (Key × PyData)) : PyData := .dict (kvs.map fun kv => (kD kv.1, kv.2))
inductive Pk (F : Hp) : List (Key × V) → List (Key × PyData) → Prop
  | nil : Pk F [] []
  | cons {k : Key} {v : V} {d : PyData} {ps : List (Key × V)} {l : List (Key × PyData)} : Rp F v d → Pk F ps l → Pk F ((k, v) :: ps) ((k, d) :: l)
theorem Pk.any {F : Hp} {k : Key} : ∀ {ps : List (Key × V)} {l : List (Key × PyData)}, Pk F ps l → (ps.any fun kv => decide (kv.1 = k)) = l.any fun kv => decide (kv.1 = k)
  | _, _, .nil => rfl
  | _, _, .cons r t => by rw [List.any_cons, List.any_cons, Pk.any t]
theorem Pk.set {F : Hp} {k : Key} {v : V} {d : PyData} (r : Rp F v d) : ∀ {ps : List (Key × V)} {l : List (Key × PyData)}, Pk F ps l → Pk F (ps.map fun kv => if kv.1 = k then (kv.1, v) else kv) (l.map fun kv => if kv.1 = k then (kv.1, d) else kv)
  | _, _, .nil => .nil
  | _, _, .cons (k := k') r' t => by
    rw [List.map_cons, List.map_cons]
    by_cases h : k' = k
    · rw [if_pos h, if_pos h]
      exact .cons r (Pk.set r t)
    · rw [if_neg h, if_neg h]
      exact .cons r' (Pk.set r t)
theorem Pk.snoc {F : Hp} {k : Key} {v : V} {d : PyData} (r : Rp F v d) : ∀ {ps : List (Key × V)} {l : List (Key × PyData)}, Pk F ps l → Pk F (ps ++ [(k, v)]) (l ++ [(k, d)])
  | _, _, .nil => .cons r .nil
  | _, _, .cons r' t => .cons r' (Pk.snoc r t)
theorem Pk.put {F : Hp} {k : Key} {v : V} {d : PyData} (r : Rp F v d) {ps : List (Key × V)} {l : List (Key × PyData)} (h : Pk F ps l) : Pk F (putK ps k v) (putD l k d) := by
  unfold putK putD
  rw [h.any]
  split
  · exact h.set r
  · exact h.snoc r
theorem Pk.merge {F : Hp} : ∀ {ps qs : List (Key × V)} {l m : List (Key × PyData)}, Pk F qs m → Pk F ps l → Pk F (mergeK ps qs) (mergeD l m)
  | _, _, _, _, .nil, h => h
  | _, _, _, _, .cons r t, h => by
    unfold mergeK mergeD
    rw [List.foldl_cons, List.foldl_cons]
    exact Pk.merge t (h.put r)
section
variable {X : Cx}
end
end Pd
end
set_option linter.all false
set_option maxRecDepth 100000
set_option maxHeartbeats 4000000
noncomputable section
namespace Pd
open PySem PySem.Spec PyProof.Rows L2
theorem forGo_foldN {α β : Type} {g : PyData → S → Option S} {m : S → RS} (φ : α → PyData) (f : β → α → β) (Rel : Nat → β → S → Prop) : ∀ (xs : List α) (n : Nat) (b : β) (st : S),
    (∀ i x, xs[i]? = some x → ∀ b st, Rel (n + i) b st → ∃ st1 st2, g (φ x) st = some st1 ∧ (m st1 = .nx st2 ∨ m st1 = .ct st2) ∧ Rel (n + i + 1) (f b x) st2) → Rel n b st → ∃ st', forGo g m (xs.map φ) st = .nx st' ∧ Rel (n + xs.length) (xs.foldl f b) st'
  | [], n, b, st, _, h => ⟨st, rfl, h⟩
  | x :: xs, n, b, st, k, h => by
    obtain ⟨st1, st2, h1, h2, h3⟩ := k 0 x rfl b st h
    obtain ⟨st', h4, h5⟩ := forGo_foldN φ f Rel xs (n + 1) (f b x) st2 (fun i y hy b st hr => by
      have e : n + 1 + i = n + (i + 1) := by omega
      rw [e] at hr
      obtain ⟨s1, s2, q1, q2, q3⟩ := k (i + 1) y (by simpa using hy) b st hr
      exact ⟨s1, s2, q1, q2, by rw [e]; exact q3⟩) h3
    refine ⟨st', ?_, by
      rw [List.length_cons, List.foldl_cons, show n + (xs.length + 1) = n + 1 + xs.length by omega]
      exact h5⟩
    rw [List.map_cons]
    unfold forGo
    rw [h1]
    rcases h2 with h2 | h2
    · simp only [h2]
      exact h4
    · simp only [h2]
      exact h4
section
variable {st : S} {m m' : S → R Slot} {mp : S → R Opd}
open Classical in
end
theorem v_jScr (i : Nat) {st : S} : jScr i st = (match st.ss[i]? with
  | some (.scr ns) => .ok (ns.map PyData.int) st
  | _ => .bad) := rfl
theorem v_NewS {mc : S → R Slot} {ml mm mt : S → R PyData} {st : S} : mNewS mc ml mm mt st = (match mc st with
  | .ok (.o (.list ds)) st1 => match intsOf ds with
    | some ns => match ml st1 with
      | .ok (.int l) st2 => match mm st2 with
        | .ok (.int m) st3 => match mt st3 with
          | .ok (.int t) st4 => match st4.src with
            | none => .ok .src { st4 with src := some ⟨ns, l, m, t⟩ }
            | some _ => .bad
          | _ => .bad
        | _ => .bad
      | _ => .bad
    | none => .bad
  | _ => .bad) := rfl
theorem g_ofS {n : Nat} {ms : S → RS} {as : List Slot} {src src' : Option Src} {ss ss' : List Slot} (hs : startS n as = ss) (h : ms ⟨ss, src⟩ = .ret .src ⟨ss', src'⟩) : gOf n ms as src = some (.src, src') := by
  unfold gOf
  rw [hs, h]
theorem an_I (a b : Int) : leI a b = true → leI b a = true → a = b := by
  simp only [leI, decide_eq_true_eq]
  omega
theorem nil_iff {l : List Int} : l = [] ↔ ∀ x, x ∉ l := by
  cases l with
  | nil => simp
  | cons a l => exact ⟨(fun h => absurd h (List.cons_ne_nil a l)), (fun h => (h a List.mem_cons_self).elim)⟩
theorem srt2 (x y : Int) : srtI [x, y] = [if x ≤ y then x else y, if x ≤ y then y else x] := by
  refine List.Perm.eq_of_pairwise (le := fun a b => leI a b = true) (fun a b _ _ h1 h2 => an_I a b h1 h2) (List.pairwise_mergeSort tr_I to_I _) ?_ ((List.mergeSort_perm _ leI).trans ?_)
  · by_cases h : x ≤ y
    · simp [h]
    · simp [h]
      omega
  · by_cases h : x ≤ y
    · simp [h]
    · simp only [h, if_false]
      exact List.Perm.swap _ _ _
theorem Sh.small {i : Int} (h1 : 0 ≤ i) (h2 : i ≤ 1000) : Sh 0 10 (.int i) := by
  have b := Sh.int (i := i) (by omega) (by omega)
  refine ⟨b.lay, b.short, b.sh, b.dep, ?_, b.nd⟩
  simp only [PyData.weight]
  split
  · omega
  · rename_i h
    have : i.natAbs ≠ 0 := by
      intro z
      apply h
      simp
      omega
    have := (Nat.log2_lt this (k := 10)).mpr (by
      have : (2 : Nat) ^ 10 = 1024 := by decide
      omega)
    omega
def rngL (n : Int) : List Int := (List.range n.toNat).map fun i => 0 + ((i : Nat) : Int)
theorem rngL_mem {n x : Int} : x ∈ rngL n ↔ 0 ≤ x ∧ x < n := by
  unfold rngL
  simp only [List.mem_map, List.mem_range]
  refine ⟨fun ⟨i, h1, h2⟩ => by omega, fun ⟨h1, h2⟩ => ⟨x.toNat, by omega, by omega⟩⟩
theorem rngL_len (n : Int) : (rngL n).length = n.toNat := by
  unfold rngL
  rw [List.length_map, List.length_range]
theorem rngL_lt (n : Int) : (rngL n).Pairwise (· < ·) := by
  unfold rngL
  rw [List.pairwise_map]
  exact List.pairwise_lt_range.imp fun h => by omega
theorem rngL_nodup (n : Int) : (rngL n).Nodup := (rngL_lt n).imp fun h e => by omega
def stepL (L : List (List Int)) (k : Int) : List (List Int) := L ++ L.map (· ++ [k])
theorem stepL_len (L : List (List Int)) (k : Int) : (stepL L k).length = L.length + L.length := by
  unfold stepL
  rw [List.length_append, List.length_map]
theorem stepL_mem {L : List (List Int)} {k : Int} {l : List Int} (h : l ∈ stepL L k) : l ∈ L ∨ ∃ m ∈ L, l = m ++ [k] := by
  unfold stepL at h
  rcases List.mem_append.mp h with h | h
  · exact .inl h
  · obtain ⟨m, h1, h2⟩ := List.mem_map.mp h
    exact .inr ⟨m, h1, h2.symm⟩
theorem fold_in : ∀ (xs : List Int) (L : List (List Int)) (m : List Int) (p : Int → Bool), m ∈ L → m ++ xs.filter p ∈ xs.foldl stepL L
  | [], L, m, p, h => by simpa using h
  | x :: xs, L, m, p, h => by
    rw [List.foldl_cons]
    cases q : p x with
    | true =>
      rw [List.filter_cons_of_pos q, ← List.singleton_append, ← List.append_assoc]
      exact fold_in xs _ _ p (List.mem_append.mpr (.inr (List.mem_map.mpr ⟨m, h, rfl⟩)))
    | false =>
      rw [List.filter_cons_of_neg (by rw [q]; exact Bool.false_ne_true)]
      exact fold_in xs _ _ p (List.mem_append.mpr (.inl h))
theorem fold_out : ∀ (xs : List Int) (L : List (List Int)) (l : List Int), xs.Nodup → l ∈ xs.foldl stepL L → ∃ m ∈ L, ∃ p : Int → Bool, l = m ++ xs.filter p
  | [], L, l, _, h => ⟨l, h, fun _ => true, by simp⟩
  | x :: xs, L, l, nd, h => by
    rw [List.foldl_cons] at h
    obtain ⟨nx, nd'⟩ := List.nodup_cons.mp nd
    obtain ⟨m', hm, p, e⟩ := fold_out xs _ l nd' h
    have cg : ∀ b : Bool, xs.filter p = xs.filter fun y => if y = x then b else p y := fun b => by
      refine List.filter_congr fun y hy => ?_
      rw [if_neg (fun z => nx (by rw [← z]; exact hy))]
    rcases stepL_mem hm with z | ⟨m, z1, z2⟩
    · refine ⟨m', z, fun y => if y = x then false else p y, ?_⟩
      rw [List.filter_cons_of_neg (by simp), ← cg, e]
    · refine ⟨m, z1, fun y => if y = x then true else p y, ?_⟩
      rw [List.filter_cons_of_pos (by simp), ← cg, e, z2, List.append_assoc]
      rfl
def crosses (l : List Int) (p : Int × Int) : Bool := decide (p.1 ∈ l) != decide (p.2 ∈ l)
def cutC (E : List (Int × Int)) (l : List Int) : Nat := E.countP (crosses l)
/-- a count by where both ends stand -/
def cnt4 (A B : List Int) (E : List (Int × Int)) (f : Bool → Bool → Bool → Bool → Bool) : Nat := E.countP fun p => f (decide (p.1 ∈ A)) (decide (p.1 ∈ B)) (decide (p.2 ∈ A)) (decide (p.2 ∈ B))
theorem cnt4_cons (A B : List Int) (p : Int × Int) (E : List (Int × Int)) (f : Bool → Bool → Bool → Bool → Bool) : cnt4 A B (p :: E) f = cnt4 A B E f + (f (decide (p.1 ∈ A)) (decide (p.1 ∈ B)) (decide (p.2 ∈ A)) (decide (p.2 ∈ B))).toNat := by
  unfold cnt4
  rw [List.countP_cons]
  cases f (decide (p.1 ∈ A)) (decide (p.1 ∈ B)) (decide (p.2 ∈ A)) (decide (p.2 ∈ B)) <;> rfl
theorem cnt4_id (A B : List Int) {f1 f2 f3 f4 f5 : Bool → Bool → Bool → Bool → Bool} (h : ∀ a b c d, (f1 a b c d).toNat + (f2 a b c d).toNat = (f3 a b c d).toNat + (f4 a b c d).toNat + 2 * (f5 a b c d).toNat) : ∀ E : List (Int × Int), cnt4 A B E f1 + cnt4 A B E f2 = cnt4 A B E f3 + cnt4 A B E f4 + 2 * cnt4 A B E f5
  | [] => rfl
  | p :: E => by
    have ih := cnt4_id A B h E
    have hp := h (decide (p.1 ∈ A)) (decide (p.1 ∈ B)) (decide (p.2 ∈ A)) (decide (p.2 ∈ B))
    simp only [cnt4_cons]
    omega
/-- a link between two lots -/
def linkB (A B : List Int) (p : Int × Int) : Bool := (decide (p.1 ∈ A) && decide (p.2 ∈ B)) || (decide (p.1 ∈ B) && decide (p.2 ∈ A))
/-- stations by how they stand to both lots -/
def part (n : Int) (A B : List Int) (p q : Bool) : List Int := (rngL n).filter fun x => (decide (x ∈ A) == p) && (decide (x ∈ B) == q)
structure Ok (n : Int) (E : List (Int × Int)) : Prop where
  at_ : ∀ p ∈ E, (0 ≤ p.1 ∧ p.1 < n) ∧ (0 ≤ p.2 ∧ p.2 < n)
theorem cnt_cut {n : Int} {E : List (Int × Int)} (ok : Ok n E) (A B l : List Int) (g : Bool → Bool → Bool) (hl : ∀ x, 0 ≤ x → x < n → decide (x ∈ l) = g (decide (x ∈ A)) (decide (x ∈ B))) : cutC E l = cnt4 A B E fun a b c d => (g a b) != (g c d) := by
  unfold cnt4 cutC
  refine List.countP_congr fun x hx => ?_
  obtain ⟨h1, h2⟩ := ok.at_ x hx
  unfold crosses
  rw [hl x.1 h1.1 h1.2, hl x.2 h2.1 h2.2]
def OB : S → RS := (sSet 1 (m2 gMod (mO (m1 gInt (mO (m2 gAdd (mO (m2 gAdd (mO (m2 gMul (mPk 1) (mO (mC (.int 69069))))) (mO (m2 gMul (mPk 2) (mO (mC (.int 31))))))) (mO (mC (.int 5))))))) (mO (mC (.int 2147483629)))))
def O2 : S → RS := (sSet 3 (mLc (jScr 0) [2] (gN 2) tYesM (mF (m1 gAbs (mPk 2)))))
def O3 : S → RS := (sRet (mNewS (m1 gRev (mPk 3)) (mF (mC (.int 1))) (mF (mVar 1)) (mF (mC (.int 0)))))
def openM : S → RS := sSeq (sSet 1 (mC (.int 11))) (sSeq (sFor (jScr 0) (gN 2) OB) (sSeq O2 O3))
theorem openM_is (ns : List Int) (hn : ns.length ≤ 63) : ∃ s', gOf 4 openM [.scr ns] none = some (.src, some s') := by
  have q1 : (0 : Int) < 2147483629 := by decide
  obtain ⟨st', e1, k, d2, q2, hd⟩ := forGo_foldN (g := gN 2) (m := OB) PyData.int (fun (_ : Unit) _ => ()) (fun k _ st => ∃ v d2, st = ⟨[.scr ns, .v (.int v), d2, .no], none⟩ ∧ backS (some d2) = d2) ns 0 () ⟨[.scr ns, .v (.int 11), .no, .no], none⟩
    (fun k x hk _ st ⟨v, d2, q, _⟩ => by
      subst q
      refine ⟨_, ⟨[.scr ns, .v (.int ((v * 69069 + x * 31 + 5) % 2147483629)), .v (.int x), .no], none⟩, rfl, .inl ?_, _, _, rfl, rfl⟩
      unfold OB
      simp only [v_GetS, v_Cel, v_CelLen, v_CelPop, v_PutS, v_C, v_Var, v_Mv, v_Pk, v_O, v_F, v_B, v_m1, v_m2, still_v, still_t, still_s, d_v, d_t, d_s, v_Seq, v_Nil, v_If, v_Set, v_Ret, v_Drop, v_Asg, v_Par2, v_Par3, v_And, v_Or, v_Not, v_IfE, v_Yes, v_nil, v_cons, v_tup, v_lst, v_N, v_Nl, v_Cn, v_Tp, v_TpL, v_jSeq, v_jEnum, v_jRg, v_jRg2, v_For, v_Call, v_xNil, v_xCons, v_xSrc, v_Mut, S.wipe, wipeS, S.rest, restS, backS, List.set_cons_zero, List.set_cons_succ, List.getElem?_cons_zero, List.getElem?_cons_succ, List.any_cons, List.any_nil, Slot.isSrc, if_true, Bool.or_false, Bool.false_or, Bool.or_true, Bool.true_or, true_or, or_true, List.length_cons, List.length_nil, Bool.false_eq_true, if_false, reduceIte, reduceCtorEq, gAdd_int, gMul_int (mulOk_r (a := v) (b := 69069) (by decide) (by decide)), gMul_int (mulOk_r (a := x) (b := 31) (by decide) (by decide)), gInt_int, gMod_int q1]) ⟨11, .no, rfl, rfl⟩
  have e : mLc (jScr 0) [2] (gN 2) tYesM (mF (m1 gAbs (mPk 2))) ⟨[.scr ns, .v (.int k), d2, .no], none⟩ = .ok (.o (.list ((ns.map fun i => if i < 0 then -i else i).map PyData.int))) ⟨[.scr ns, .v (.int k), d2, .no], none⟩ := by
    rw [mLc_map (st1 := ⟨[.scr ns, .v (.int k), d2, .no], none⟩) ns PyData.int (fun _ => true) (fun i => .int (if i < 0 then -i else i))]
    · rw [List.filter_eq_self.mpr (fun _ _ => rfl), List.map_map]
      show R.ok _ (⟨[.scr ns, .v (.int k), backS (some d2), .no], none⟩ : S) = _
      rw [hd]
      rfl
    · simp only [v_GetS, v_Cel, v_CelLen, v_CelPop, v_PutS, v_C, v_Var, v_Mv, v_Pk, v_O, v_F, v_B, v_m1, v_m2, still_v, still_t, still_s, d_v, d_t, d_s, v_Seq, v_Nil, v_If, v_Set, v_Ret, v_Drop, v_Asg, v_Par2, v_Par3, v_And, v_Or, v_Not, v_IfE, v_Yes, v_nil, v_cons, v_tup, v_lst, v_N, v_Nl, v_Cn, v_Tp, v_TpL, v_jSeq, v_jEnum, v_jRg, v_jRg2, v_For, v_Call, v_xNil, v_xCons, v_xSrc, v_Mut, S.wipe, wipeS, S.rest, restS, backS, List.set_cons_zero, List.set_cons_succ, List.getElem?_cons_zero, List.getElem?_cons_succ, List.any_cons, List.any_nil, Slot.isSrc, if_true, Bool.or_false, Bool.false_or, Bool.or_true, Bool.true_or, true_or, or_true, List.length_cons, List.length_nil, Bool.false_eq_true, if_false, reduceIte, reduceCtorEq, v_jScr]
    · omega
    · intro x hx
      exact ⟨_, ⟨[.scr ns, .v (.int k), .v (.int x), .no], none⟩, rfl, rfl, fun h => (nomatch h), fun _ => ⟨⟨[.scr ns, .v (.int k), .v (.int x), .no], none⟩, rfl, rfl⟩⟩
  have r : gRev (.list ((ns.map fun i => if i < 0 then -i else i).map PyData.int)) = some (.o (.list ((ns.map fun i => if i < 0 then -i else i).reverse.map PyData.int))) := by
    show some (Slot.o (.list (List.reverse _))) = _
    rw [List.map_reverse]
  refine ⟨⟨(ns.map fun i => if i < 0 then -i else i).reverse, 1, k, 0⟩, g_ofS (ss := [.scr ns, .no, .no, .no]) rfl (ss' := [.scr ns, .v (.int k), d2, .o (.list ((ns.map fun i => if i < 0 then -i else i).map PyData.int))]) ?_⟩
  have o3 : O3 ⟨[.scr ns, .v (.int k), d2, .o (.list ((ns.map fun i => if i < 0 then -i else i).map PyData.int))], none⟩ = .ret .src ⟨[.scr ns, .v (.int k), d2, .o (.list ((ns.map fun i => if i < 0 then -i else i).map PyData.int))], some ⟨(ns.map fun i => if i < 0 then -i else i).reverse, 1, k, 0⟩⟩ := by
    unfold O3
    simp only [v_GetS, v_Cel, v_CelLen, v_CelPop, v_PutS, v_C, v_Var, v_Mv, v_Pk, v_O, v_F, v_B, v_m1, v_m2, still_v, still_t, still_s, d_v, d_t, d_s, v_Seq, v_Nil, v_If, v_Set, v_Ret, v_Drop, v_Asg, v_Par2, v_Par3, v_And, v_Or, v_Not, v_IfE, v_Yes, v_nil, v_cons, v_tup, v_lst, v_N, v_Nl, v_Cn, v_Tp, v_TpL, v_jSeq, v_jEnum, v_jRg, v_jRg2, v_For, v_Call, v_xNil, v_xCons, v_xSrc, v_Mut, S.wipe, wipeS, S.rest, restS, backS, List.set_cons_zero, List.set_cons_succ, List.getElem?_cons_zero, List.getElem?_cons_succ, List.any_cons, List.any_nil, Slot.isSrc, if_true, Bool.or_false, Bool.false_or, Bool.or_true, Bool.true_or, true_or, or_true, List.length_cons, List.length_nil, Bool.false_eq_true, if_false, reduceIte, reduceCtorEq, v_NewS, r, intsOf_map]
  have o2 : O2 ⟨[.scr ns, .v (.int k), d2, .no], none⟩ = .nx ⟨[.scr ns, .v (.int k), d2, .o (.list ((ns.map fun i => if i < 0 then -i else i).map PyData.int))], none⟩ := by
    unfold O2
    simp only [v_GetS, v_Cel, v_CelLen, v_CelPop, v_PutS, v_C, v_Var, v_Mv, v_Pk, v_O, v_F, v_B, v_m1, v_m2, still_v, still_t, still_s, d_v, d_t, d_s, v_Seq, v_Nil, v_If, v_Set, v_Ret, v_Drop, v_Asg, v_Par2, v_Par3, v_And, v_Or, v_Not, v_IfE, v_Yes, v_nil, v_cons, v_tup, v_lst, v_N, v_Nl, v_Cn, v_Tp, v_TpL, v_jSeq, v_jEnum, v_jRg, v_jRg2, v_For, v_Call, v_xNil, v_xCons, v_xSrc, v_Mut, S.wipe, wipeS, S.rest, restS, backS, List.set_cons_zero, List.set_cons_succ, List.getElem?_cons_zero, List.getElem?_cons_succ, List.any_cons, List.any_nil, Slot.isSrc, if_true, Bool.or_false, Bool.false_or, Bool.or_true, Bool.true_or, true_or, or_true, List.length_cons, List.length_nil, Bool.false_eq_true, if_false, reduceIte, reduceCtorEq, e]
  unfold openM
  simp only [v_GetS, v_Cel, v_CelLen, v_CelPop, v_PutS, v_C, v_Var, v_Mv, v_Pk, v_O, v_F, v_B, v_m1, v_m2, still_v, still_t, still_s, d_v, d_t, d_s, v_Seq, v_Nil, v_If, v_Set, v_Ret, v_Drop, v_Asg, v_Par2, v_Par3, v_And, v_Or, v_Not, v_IfE, v_Yes, v_nil, v_cons, v_tup, v_lst, v_N, v_Nl, v_Cn, v_Tp, v_TpL, v_jSeq, v_jEnum, v_jRg, v_jRg2, v_For, v_Call, v_xNil, v_xCons, v_xSrc, v_Mut, S.wipe, wipeS, S.rest, restS, backS, List.set_cons_zero, List.set_cons_succ, List.getElem?_cons_zero, List.getElem?_cons_succ, List.any_cons, List.any_nil, Slot.isSrc, if_true, Bool.or_false, Bool.false_or, Bool.or_true, Bool.true_or, true_or, or_true, List.length_cons, List.length_nil, Bool.false_eq_true, if_false, reduceIte, reduceCtorEq, v_jScr, e1, q2]
  rw [o2]
  dsimp only
  exact o3
end Pd
end
set_option linter.all false
set_option maxRecDepth 100000
set_option maxHeartbeats 4000000
noncomputable section
namespace Pd
open PySem PySem.Spec PyProof.Rows L2
def anyM : S → RS := (sSeq (sSet 2 (m1 gList (mPk 1)))
  (sRet (mLc (jRg (mCons (mF (m1 gLen (mPk 2))) mNil)) [3] (gN 3) tYesM (mF (mMut gPopAt 2 (mCons (mF (mCall (gOf 6 pick2) (xSrc 0 (xCons (mF (m1 gLen (mPk 2))) xNil)))) mNil))))))
def anyE : S → R PyData := (mF (mMut gPopAt 2 (mCons (mF (mCall (gOf 6 pick2) (xSrc 0 (xCons (mF (m1 gLen (mPk 2))) xNil)))) mNil)))
theorem gPopAt_at (l : List PyData) (i : Int) (h0 : 0 ≤ i) (h1 : i < l.length) (hl : l.length ≤ 1000) : ∃ d, gPopAt l [.int i] = some (d, l.eraseIdx i.toNat) ∧ l[i.toNat]? = some d := by
  have hi : i.toNat < l.length := by omega
  refine ⟨l[i.toNat], ?_, List.getElem?_eq_getElem hi⟩
  have e : ixN l.length i = some i.toNat := by
    unfold ixN
    rw [if_pos h0, if_pos h1]
  show (if okLen l.length then (match ixN l.length i with
      | some k => match l[k]? with
        | some d => some (d, l.eraseIdx k)
        | none => none
      | none => none) else none) = _
  rw [okLen_of (by omega), if_pos rfl, e]
  simp only [List.getElem?_eq_getElem hi]
theorem perm_erase {α : Type} : ∀ (l : List α) (i : Nat) (d : α), l[i]? = some d → (d :: l.eraseIdx i).Perm l
  | [], i, d, h => by simp at h
  | a :: l, 0, d, h => by
    cases h
    exact List.Perm.refl _
  | a :: l, i + 1, d, h => by
    have ih := perm_erase l i d (by simpa using h)
    rw [List.eraseIdx_cons_succ]
    exact (List.Perm.swap a d _).trans (List.Perm.cons a ih)
theorem any_go (th : Slot) : ∀ (xs : List PyData) (l acc : List PyData) (s : Src), l.length = xs.length → xs.length ≤ 1000 → ∃ l' s', lcGo [3] (gN 3) tYesM anyE xs acc ⟨[.src, th, .o (.list l), .no], some s⟩ = .ok (acc ++ l') ⟨[.src, th, .o (.list []), .no], some s'⟩ ∧ l'.Perm l
  | [], l, acc, s, h, _ => by
    have : l = [] := List.length_eq_zero_iff.mp h
    subst this
    exact ⟨[], s, by simp [lcGo], List.Perm.refl _⟩
  | x :: xs, l, acc, s, h, hx => by
    rw [List.length_cons] at h hx
    obtain ⟨r, s1, e, r0, r1, r2⟩ := pick2_is (l.length : Nat) (by omega) s
    have hr : r < (l.length : Nat) := by
      by_cases z : 2 ≤ l.length
      · exact r1 (by omega)
      · have := r2 (by omega)
        omega
    obtain ⟨d, g, gd⟩ := gPopAt_at l r r0 hr (by omega)
    have hi : r.toNat < l.length := by omega
    obtain ⟨l', s', e2, p⟩ := any_go th xs (l.eraseIdx r.toNat) (acc ++ [d]) s1 (by
      rw [List.length_eraseIdx, if_pos hi]
      omega) (by omega)
    refine ⟨d :: l', s', ?_, (List.Perm.cons d p).trans (perm_erase l _ d gd)⟩
    have step : anyE ⟨[.src, th, .o (.list l), .v x], some s⟩ = .ok d ⟨[.src, th, .o (.list (l.eraseIdx r.toNat)), .v x], some s1⟩ := by
      unfold anyE
      simp only [v_GetS, v_Cel, v_CelLen, v_CelPop, v_PutS, v_C, v_Var, v_Mv, v_Pk, v_O, v_F, v_B, v_m1, v_m2, still_v, still_t, still_s, d_v, d_t, d_s, v_Seq, v_Nil, v_If, v_Set, v_Ret, v_Drop, v_Asg, v_Par2, v_Par3, v_And, v_Or, v_Not, v_IfE, v_Yes, v_nil, v_cons, v_tup, v_lst, v_N, v_Nl, v_Cn, v_Tp, v_TpL, v_jSeq, v_jEnum, v_jRg, v_jRg2, v_For, v_Call, v_xNil, v_xCons, v_xSrc, v_Mut, S.wipe, wipeS, S.rest, restS, backS, List.set_cons_zero, List.set_cons_succ, List.getElem?_cons_zero, List.getElem?_cons_succ, List.any_cons, List.any_nil, Slot.isSrc, if_true, Bool.or_false, Bool.false_or, Bool.or_true, Bool.true_or, true_or, or_true, List.length_cons, List.length_nil, Bool.false_eq_true, if_false, reduceIte, reduceCtorEq, gLen_list, e, g]
    unfold lcGo
    simp only [v_N, v_Yes, List.set_cons_zero, List.set_cons_succ, step]
    rw [show (⟨[.src, th, .o (.list (l.eraseIdx r.toNat)), .v x], some s1⟩ : S).wipe [3] = ⟨[.src, th, .o (.list (l.eraseIdx r.toNat)), .no], some s1⟩ from rfl, e2, List.append_assoc]
    rfl
theorem any_is (l : List PyData) (hl : l.length ≤ 1000) (s : Src) : ∃ l' s', gOf 4 anyM [.src, .v (.list l)] (some s) = some (.o (.list l'), some s') ∧ l'.Perm l := by
  obtain ⟨l', s', e, p⟩ := any_go (.v (.list l)) (rgD 0 (l.length : Nat)) l [] s (by simp [rgD]) (by simp [rgD]; omega)
  refine ⟨l', s', g_ofO (ss := [.src, .v (.list l), .no, .no]) rfl (ss' := [.src, .v (.list l), .o (.list []), .no]) ?_, p⟩
  have hr : rgOk 0 (l.length : Nat) = true := rgOk_of (by omega) (by omega) (by omega) (by omega) (by omega)
  have gl : gList (.list l) = some (.o (.list l)) := rfl
  have lc : mLc (jRg (mCons (mF (m1 gLen (mPk 2))) mNil)) [3] (gN 3) tYesM anyE ⟨[.src, .v (.list l), .o (.list l), .no], some s⟩ = .ok (.o (.list l')) ⟨[.src, .v (.list l), .o (.list []), .no], some s'⟩ := by
    have ji : jRg (mCons (mF (m1 gLen (mPk 2))) mNil) ⟨[.src, .v (.list l), .o (.list l), .no], some s⟩ = .ok (rgD 0 (l.length : Nat)) ⟨[.src, .v (.list l), .o (.list l), .no], some s⟩ := by
      simp only [v_GetS, v_Cel, v_CelLen, v_CelPop, v_PutS, v_C, v_Var, v_Mv, v_Pk, v_O, v_F, v_B, v_m1, v_m2, still_v, still_t, still_s, d_v, d_t, d_s, v_Seq, v_Nil, v_If, v_Set, v_Ret, v_Drop, v_Asg, v_Par2, v_Par3, v_And, v_Or, v_Not, v_IfE, v_Yes, v_nil, v_cons, v_tup, v_lst, v_N, v_Nl, v_Cn, v_Tp, v_TpL, v_jSeq, v_jEnum, v_jRg, v_jRg2, v_For, v_Call, v_xNil, v_xCons, v_xSrc, v_Mut, S.wipe, wipeS, S.rest, restS, backS, List.set_cons_zero, List.set_cons_succ, List.getElem?_cons_zero, List.getElem?_cons_succ, List.any_cons, List.any_nil, Slot.isSrc, if_true, Bool.or_false, Bool.false_or, Bool.or_true, Bool.true_or, true_or, or_true, List.length_cons, List.length_nil, Bool.false_eq_true, if_false, reduceIte, reduceCtorEq, gLen_list, hr]
    unfold mLc
    rw [ji]
    simp only [okLen_of (n := (rgD 0 (l.length : Nat)).length) (by simp [rgD]; omega), if_true]
    rw [show (⟨[.src, .v (.list l), .o (.list l), .no], some s⟩ : S).wipe [3] = ⟨[.src, .v (.list l), .o (.list l), .no], some s⟩ from rfl, e]
    rfl
  have lc' := lc
  unfold anyE at lc'
  unfold anyM
  simp only [v_GetS, v_Cel, v_CelLen, v_CelPop, v_PutS, v_C, v_Var, v_Mv, v_Pk, v_O, v_F, v_B, v_m1, v_m2, still_v, still_t, still_s, d_v, d_t, d_s, v_Seq, v_Nil, v_If, v_Set, v_Ret, v_Drop, v_Asg, v_Par2, v_Par3, v_And, v_Or, v_Not, v_IfE, v_Yes, v_nil, v_cons, v_tup, v_lst, v_N, v_Nl, v_Cn, v_Tp, v_TpL, v_jSeq, v_jEnum, v_jRg, v_jRg2, v_For, v_Call, v_xNil, v_xCons, v_xSrc, v_Mut, S.wipe, wipeS, S.rest, restS, backS, List.set_cons_zero, List.set_cons_succ, List.getElem?_cons_zero, List.getElem?_cons_succ, List.any_cons, List.any_nil, Slot.isSrc, if_true, Bool.or_false, Bool.false_or, Bool.or_true, Bool.true_or, true_or, or_true, List.length_cons, List.length_nil, Bool.false_eq_true, if_false, reduceIte, reduceCtorEq, gl, lc']
end Pd
end
set_option linter.all false
set_option maxRecDepth 100000
noncomputable section
namespace Pd
open PySem PySem.Spec PyProof.Rows L2
open Classical in
section
variable {K : PySem.W.Frag} {X : Cx} {vs : List Nat} {g : PyData → S → Option S} {t : S → R Bool} {me : S → R PyData}
variable {elt tg iter : Expr} {ifs : List Expr} {scope : Scope} {own : List (Str × Nat)} {pos : Pos} {iw : Nat}
end
end Pd
end
set_option linter.all false
set_option maxRecDepth 100000
set_option maxHeartbeats 4000000
noncomputable section
namespace Pd
open PySem PySem.Spec PyProof.Rows L2
def w1C : S → R Bool := (mAnd (mB (m2 gGt (mPk 1) (mO (mC (.int 1))))) (mAnd (mB (m2 gLt (mO (mGetS Src.left (mVar 0))) (mO (mC (.int 2))))) (mB (m2 gGt (mO (mCelLen (mCel (mVar 0)))) (mO (mC (.int 0)))))))
def w1B : S → RS := (sPutS uLeft (mVar 0) (mF (mCelPop (mCel (mVar 0)))))
def p1R : S → RS := (sSeq (sSet 2 (mGetS Src.left (mVar 0)))
  (sSeq (sIf (mOr (mB (m2 gLt (mPk 1) (mO (mC (.int 2))))) (mB (m2 gGt (mPk 2) (mO (mC (.int 1)))))) (sSeq (sPutS uLeft (mVar 0) (mF (m2 gDiv (mPk 2) (mO (m2 gMax2 (mO (mC (.int 1))) (mPk 1))))))
  (sRet (m2 gMod (mO (m1 gInt (mPk 2))) (mO (m2 gMax2 (mO (mC (.int 1))) (mPk 1)))))) sNil)
  (sSeq (sPutS uTurn (mVar 0) (mF (m2 gAdd (mO (mGetS Src.turn (mVar 0))) (mO (mC (.int 1))))))
  (sSeq (sSet 3 (m2 gMod (mO (m1 gInt (mO (m2 gAdd (mO (mGetS Src.mixed (mVar 0))) (mO (m2 gMul (mO (mGetS Src.turn (mVar 0))) (mO (mC (.int 104729))))))))) (mO (mC (.int 998244353)))))
  (sSeq (sSet 3 (m2 gMod (mO (m1 gInt (mO (m2 gAdd (mO (m2 gMul (mPk 3) (mPk 3))) (mO (m2 gMul (mO (mGetS Src.turn (mVar 0))) (mO (mC (.int 17))))))))) (mO (mC (.int 2147483647)))))
  (sSeq (sPutS uMixed (mVar 0) (mF (mVar 3)))
  (sRet (m2 gMod (mO (m1 gInt (mO (m2 gDiv (mPk 3) (mO (mC (.int 16))))))) (mPk 1)))))))))
def pick1 : S → RS := sSeq (sWhile w1C w1B) p1R
theorem gMax2_int (a b : Int) : gMax2 (.int a) (.int b) = some (.v (.int (if b > a then b else a))) := rfl
theorem pick1_while (m : Int) : ∀ (k : Nat) (s : Src), s.cells.length = k → ∃ s', sWhile w1C w1B ⟨[.src, .v (.int m), .no, .no], some s⟩ = .nx ⟨[.src, .v (.int m), .no, .no], some s'⟩
  | 0, s, h => by
    refine ⟨s, ?_⟩
    have p0 : (0 : Int) < ((0 : Nat) : Int) ↔ False := by decide
    have c1 : w1C ⟨[.src, .v (.int m), .no, .no], some s⟩ = .ok false ⟨[.src, .v (.int m), .no, .no], some s⟩ := by
      unfold w1C
      by_cases y : 1 < m
      · by_cases z : s.left < 2
        · simp only [v_GetS, v_Cel, v_CelLen, v_CelPop, v_PutS, v_C, v_Var, v_Mv, v_Pk, v_O, v_F, v_B, v_m1, v_m2, still_v, still_t, still_s, d_v, d_t, d_s, v_Seq, v_Nil, v_If, v_Set, v_Ret, v_Drop, v_Asg, v_Par2, v_Par3, v_And, v_Or, v_Not, v_IfE, v_Yes, v_nil, v_cons, v_tup, v_lst, v_N, v_Nl, v_Cn, v_Tp, v_TpL, v_jSeq, v_jEnum, v_jRg, v_jRg2, v_For, v_Call, v_xNil, v_xCons, v_xSrc, v_Mut, S.wipe, wipeS, S.rest, restS, backS, List.set_cons_zero, List.set_cons_succ, List.getElem?_cons_zero, List.getElem?_cons_succ, List.any_cons, List.any_nil, Slot.isSrc, if_true, Bool.or_false, Bool.false_or, Bool.or_true, Bool.true_or, true_or, or_true, List.length_cons, List.length_nil, Bool.false_eq_true, if_false, reduceIte, reduceCtorEq, gLt_int, gGt_int, h, y, z, decide_true, decide_false, p0]
        · simp only [v_GetS, v_Cel, v_CelLen, v_CelPop, v_PutS, v_C, v_Var, v_Mv, v_Pk, v_O, v_F, v_B, v_m1, v_m2, still_v, still_t, still_s, d_v, d_t, d_s, v_Seq, v_Nil, v_If, v_Set, v_Ret, v_Drop, v_Asg, v_Par2, v_Par3, v_And, v_Or, v_Not, v_IfE, v_Yes, v_nil, v_cons, v_tup, v_lst, v_N, v_Nl, v_Cn, v_Tp, v_TpL, v_jSeq, v_jEnum, v_jRg, v_jRg2, v_For, v_Call, v_xNil, v_xCons, v_xSrc, v_Mut, S.wipe, wipeS, S.rest, restS, backS, List.set_cons_zero, List.set_cons_succ, List.getElem?_cons_zero, List.getElem?_cons_succ, List.any_cons, List.any_nil, Slot.isSrc, if_true, Bool.or_false, Bool.false_or, Bool.or_true, Bool.true_or, true_or, or_true, List.length_cons, List.length_nil, Bool.false_eq_true, if_false, reduceIte, reduceCtorEq, gLt_int, gGt_int, h, y, z, decide_true, decide_false, p0]
      · simp only [v_GetS, v_Cel, v_CelLen, v_CelPop, v_PutS, v_C, v_Var, v_Mv, v_Pk, v_O, v_F, v_B, v_m1, v_m2, still_v, still_t, still_s, d_v, d_t, d_s, v_Seq, v_Nil, v_If, v_Set, v_Ret, v_Drop, v_Asg, v_Par2, v_Par3, v_And, v_Or, v_Not, v_IfE, v_Yes, v_nil, v_cons, v_tup, v_lst, v_N, v_Nl, v_Cn, v_Tp, v_TpL, v_jSeq, v_jEnum, v_jRg, v_jRg2, v_For, v_Call, v_xNil, v_xCons, v_xSrc, v_Mut, S.wipe, wipeS, S.rest, restS, backS, List.set_cons_zero, List.set_cons_succ, List.getElem?_cons_zero, List.getElem?_cons_succ, List.any_cons, List.any_nil, Slot.isSrc, if_true, Bool.or_false, Bool.false_or, Bool.or_true, Bool.true_or, true_or, or_true, List.length_cons, List.length_nil, Bool.false_eq_true, if_false, reduceIte, reduceCtorEq, gLt_int, gGt_int, h, y, decide_true, decide_false, p0]
    rw [sWhile_turn, c1]
  | k + 1, s, h => by
    rw [sWhile_turn]
    by_cases y : 1 < m
    · by_cases z : s.left < 2
      · have hk : s.cells.length - 1 < s.cells.length := by omega
        have e : s.cells[s.cells.length - 1]? = some s.cells[s.cells.length - 1] := List.getElem?_eq_getElem hk
        obtain ⟨s', h'⟩ := pick1_while m k (uLeft s.cells[s.cells.length - 1] { s with cells := s.cells.dropLast }) (by
          show s.cells.dropLast.length = k
          rw [List.length_dropLast, h]
          rfl)
        refine ⟨s', ?_⟩
        have pos : (0 : Int) < (s.cells.length : Int) := by omega
        have c1 : w1C ⟨[.src, .v (.int m), .no, .no], some s⟩ = .ok true ⟨[.src, .v (.int m), .no, .no], some s⟩ := by
          unfold w1C
          simp only [v_GetS, v_Cel, v_CelLen, v_CelPop, v_PutS, v_C, v_Var, v_Mv, v_Pk, v_O, v_F, v_B, v_m1, v_m2, still_v, still_t, still_s, d_v, d_t, d_s, v_Seq, v_Nil, v_If, v_Set, v_Ret, v_Drop, v_Asg, v_Par2, v_Par3, v_And, v_Or, v_Not, v_IfE, v_Yes, v_nil, v_cons, v_tup, v_lst, v_N, v_Nl, v_Cn, v_Tp, v_TpL, v_jSeq, v_jEnum, v_jRg, v_jRg2, v_For, v_Call, v_xNil, v_xCons, v_xSrc, v_Mut, S.wipe, wipeS, S.rest, restS, backS, List.set_cons_zero, List.set_cons_succ, List.getElem?_cons_zero, List.getElem?_cons_succ, List.any_cons, List.any_nil, Slot.isSrc, if_true, Bool.or_false, Bool.false_or, Bool.or_true, Bool.true_or, true_or, or_true, List.length_cons, List.length_nil, Bool.false_eq_true, if_false, reduceIte, reduceCtorEq, gLt_int, gGt_int, y, z, decide_true, pos]
        have c2 : w1B ⟨[.src, .v (.int m), .no, .no], some s⟩ = .nx ⟨[.src, .v (.int m), .no, .no], some (uLeft s.cells[s.cells.length - 1] { s with cells := s.cells.dropLast })⟩ := by
          unfold w1B
          simp only [v_GetS, v_Cel, v_CelLen, v_CelPop, v_PutS, v_C, v_Var, v_Mv, v_Pk, v_O, v_F, v_B, v_m1, v_m2, still_v, still_t, still_s, d_v, d_t, d_s, v_Seq, v_Nil, v_If, v_Set, v_Ret, v_Drop, v_Asg, v_Par2, v_Par3, v_And, v_Or, v_Not, v_IfE, v_Yes, v_nil, v_cons, v_tup, v_lst, v_N, v_Nl, v_Cn, v_Tp, v_TpL, v_jSeq, v_jEnum, v_jRg, v_jRg2, v_For, v_Call, v_xNil, v_xCons, v_xSrc, v_Mut, S.wipe, wipeS, S.rest, restS, backS, List.set_cons_zero, List.set_cons_succ, List.getElem?_cons_zero, List.getElem?_cons_succ, List.any_cons, List.any_nil, Slot.isSrc, if_true, Bool.or_false, Bool.false_or, Bool.or_true, Bool.true_or, true_or, or_true, List.length_cons, List.length_nil, Bool.false_eq_true, if_false, reduceIte, reduceCtorEq, e]
        rw [c1]
        simp only [c2]
        exact h'
      · refine ⟨s, ?_⟩
        have c1 : w1C ⟨[.src, .v (.int m), .no, .no], some s⟩ = .ok false ⟨[.src, .v (.int m), .no, .no], some s⟩ := by
          unfold w1C
          simp only [v_GetS, v_Cel, v_CelLen, v_CelPop, v_PutS, v_C, v_Var, v_Mv, v_Pk, v_O, v_F, v_B, v_m1, v_m2, still_v, still_t, still_s, d_v, d_t, d_s, v_Seq, v_Nil, v_If, v_Set, v_Ret, v_Drop, v_Asg, v_Par2, v_Par3, v_And, v_Or, v_Not, v_IfE, v_Yes, v_nil, v_cons, v_tup, v_lst, v_N, v_Nl, v_Cn, v_Tp, v_TpL, v_jSeq, v_jEnum, v_jRg, v_jRg2, v_For, v_Call, v_xNil, v_xCons, v_xSrc, v_Mut, S.wipe, wipeS, S.rest, restS, backS, List.set_cons_zero, List.set_cons_succ, List.getElem?_cons_zero, List.getElem?_cons_succ, List.any_cons, List.any_nil, Slot.isSrc, if_true, Bool.or_false, Bool.false_or, Bool.or_true, Bool.true_or, true_or, or_true, List.length_cons, List.length_nil, Bool.false_eq_true, if_false, reduceIte, reduceCtorEq, gLt_int, gGt_int, y, z, decide_true, decide_false]
        rw [c1]
    · refine ⟨s, ?_⟩
      have c1 : w1C ⟨[.src, .v (.int m), .no, .no], some s⟩ = .ok false ⟨[.src, .v (.int m), .no, .no], some s⟩ := by
        unfold w1C
        simp only [v_GetS, v_Cel, v_CelLen, v_CelPop, v_PutS, v_C, v_Var, v_Mv, v_Pk, v_O, v_F, v_B, v_m1, v_m2, still_v, still_t, still_s, d_v, d_t, d_s, v_Seq, v_Nil, v_If, v_Set, v_Ret, v_Drop, v_Asg, v_Par2, v_Par3, v_And, v_Or, v_Not, v_IfE, v_Yes, v_nil, v_cons, v_tup, v_lst, v_N, v_Nl, v_Cn, v_Tp, v_TpL, v_jSeq, v_jEnum, v_jRg, v_jRg2, v_For, v_Call, v_xNil, v_xCons, v_xSrc, v_Mut, S.wipe, wipeS, S.rest, restS, backS, List.set_cons_zero, List.set_cons_succ, List.getElem?_cons_zero, List.getElem?_cons_succ, List.any_cons, List.any_nil, Slot.isSrc, if_true, Bool.or_false, Bool.false_or, Bool.or_true, Bool.true_or, true_or, or_true, List.length_cons, List.length_nil, Bool.false_eq_true, if_false, reduceIte, reduceCtorEq, gLt_int, gGt_int, y, decide_true, decide_false]
      rw [c1]
theorem pick1_is (m : Int) (hm : m < 1073741824) (s : Src) : ∃ r s', gOf 4 pick1 [.src, .v (.int m)] (some s) = some (.v (.int r), some s') ∧ 0 ≤ r ∧ (2 ≤ m → r < m) ∧ (m < 2 → r = 0) := by
  obtain ⟨s1, hw⟩ := pick1_while m _ s rfl
  by_cases z : m < 2
  · refine ⟨s1.left % 1, uLeft (s1.left / 1) s1, g_of (ss := [.src, .v (.int m), .no, .no]) (ss' := [.src, .v (.int m), .v (.int s1.left), .no]) rfl ?_, Int.emod_nonneg _ (by decide), fun h => absurd z (by omega), fun _ => Int.emod_one _⟩
    have e1 : (if m > 1 then m else 1) = 1 := if_neg (by omega)
    have q1 : (0 : Int) < 1 := by decide
    have q2 : (1 : Int) < 1073741824 := by decide
    unfold pick1 p1R
    simp only [v_GetS, v_Cel, v_CelLen, v_CelPop, v_PutS, v_C, v_Var, v_Mv, v_Pk, v_O, v_F, v_B, v_m1, v_m2, still_v, still_t, still_s, d_v, d_t, d_s, v_Seq, v_Nil, v_If, v_Set, v_Ret, v_Drop, v_Asg, v_Par2, v_Par3, v_And, v_Or, v_Not, v_IfE, v_Yes, v_nil, v_cons, v_tup, v_lst, v_N, v_Nl, v_Cn, v_Tp, v_TpL, v_jSeq, v_jEnum, v_jRg, v_jRg2, v_For, v_Call, v_xNil, v_xCons, v_xSrc, v_Mut, S.wipe, wipeS, S.rest, restS, backS, List.set_cons_zero, List.set_cons_succ, List.getElem?_cons_zero, List.getElem?_cons_succ, List.any_cons, List.any_nil, Slot.isSrc, if_true, Bool.or_false, Bool.false_or, Bool.or_true, Bool.true_or, true_or, or_true, List.length_cons, List.length_nil, Bool.false_eq_true, if_false, reduceIte, reduceCtorEq, hw, gLt_int, gGt_int, gMax2_int, e1, z, decide_true, gDiv_int q1 q2, gMod_int q1, gInt_int]
  · have m0 : 0 < m := by omega
    have e1 : (if m > 1 then m else 1) = m := if_pos (by omega)
    by_cases o : 1 < s1.left
    · refine ⟨s1.left % m, uLeft (s1.left / m) s1, g_of (ss := [.src, .v (.int m), .no, .no]) (ss' := [.src, .v (.int m), .v (.int s1.left), .no]) rfl ?_, Int.emod_nonneg _ (by omega), fun _ => Int.emod_lt_of_pos _ m0, fun h => absurd h z⟩
      unfold pick1 p1R
      simp only [v_GetS, v_Cel, v_CelLen, v_CelPop, v_PutS, v_C, v_Var, v_Mv, v_Pk, v_O, v_F, v_B, v_m1, v_m2, still_v, still_t, still_s, d_v, d_t, d_s, v_Seq, v_Nil, v_If, v_Set, v_Ret, v_Drop, v_Asg, v_Par2, v_Par3, v_And, v_Or, v_Not, v_IfE, v_Yes, v_nil, v_cons, v_tup, v_lst, v_N, v_Nl, v_Cn, v_Tp, v_TpL, v_jSeq, v_jEnum, v_jRg, v_jRg2, v_For, v_Call, v_xNil, v_xCons, v_xSrc, v_Mut, S.wipe, wipeS, S.rest, restS, backS, List.set_cons_zero, List.set_cons_succ, List.getElem?_cons_zero, List.getElem?_cons_succ, List.any_cons, List.any_nil, Slot.isSrc, if_true, Bool.or_false, Bool.false_or, Bool.or_true, Bool.true_or, true_or, or_true, List.length_cons, List.length_nil, Bool.false_eq_true, if_false, reduceIte, reduceCtorEq, hw, gLt_int, gGt_int, gMax2_int, e1, z, o, decide_true, decide_false, gDiv_int m0 hm, gMod_int m0, gInt_int]
    · have q1 : (0 : Int) < 998244353 := by decide
      have q2 : (0 : Int) < 2147483647 := by decide
      have q3 : (0 : Int) < 16 := by decide
      have q4 : (16 : Int) < 1073741824 := by decide
      have a1 := Int.emod_nonneg (s1.mixed + (s1.turn + 1) * 104729) (show (998244353 : Int) ≠ 0 by decide)
      have a2 := Int.emod_lt_of_pos (s1.mixed + (s1.turn + 1) * 104729) q1
      have mm := mulOk_l (a := (s1.mixed + (s1.turn + 1) * 104729) % 998244353) (b := (s1.mixed + (s1.turn + 1) * 104729) % 998244353) (by omega) (by omega)
      refine ⟨((((s1.mixed + (s1.turn + 1) * 104729) % 998244353) * ((s1.mixed + (s1.turn + 1) * 104729) % 998244353) + (s1.turn + 1) * 17) % 2147483647 / 16) % m, uMixed ((((s1.mixed + (s1.turn + 1) * 104729) % 998244353) * ((s1.mixed + (s1.turn + 1) * 104729) % 998244353) + (s1.turn + 1) * 17) % 2147483647) (uTurn (s1.turn + 1) s1), g_of (ss := [.src, .v (.int m), .no, .no]) (ss' := [.src, .v (.int m), .v (.int s1.left), .v (.int ((((s1.mixed + (s1.turn + 1) * 104729) % 998244353) * ((s1.mixed + (s1.turn + 1) * 104729) % 998244353) + (s1.turn + 1) * 17) % 2147483647))]) rfl ?_, Int.emod_nonneg _ (by omega), fun _ => Int.emod_lt_of_pos _ m0, fun h => absurd h z⟩
      unfold pick1 p1R
      simp only [v_GetS, v_Cel, v_CelLen, v_CelPop, v_PutS, v_C, v_Var, v_Mv, v_Pk, v_O, v_F, v_B, v_m1, v_m2, still_v, still_t, still_s, d_v, d_t, d_s, v_Seq, v_Nil, v_If, v_Set, v_Ret, v_Drop, v_Asg, v_Par2, v_Par3, v_And, v_Or, v_Not, v_IfE, v_Yes, v_nil, v_cons, v_tup, v_lst, v_N, v_Nl, v_Cn, v_Tp, v_TpL, v_jSeq, v_jEnum, v_jRg, v_jRg2, v_For, v_Call, v_xNil, v_xCons, v_xSrc, v_Mut, S.wipe, wipeS, S.rest, restS, backS, List.set_cons_zero, List.set_cons_succ, List.getElem?_cons_zero, List.getElem?_cons_succ, List.any_cons, List.any_nil, Slot.isSrc, if_true, Bool.or_false, Bool.false_or, Bool.or_true, Bool.true_or, true_or, or_true, List.length_cons, List.length_nil, Bool.false_eq_true, if_false, reduceIte, reduceCtorEq, hw, gLt_int, gGt_int, z, o, decide_true, decide_false, gDiv_int q3 q4, gMod_int m0, gMod_int q1, gMod_int q2, gInt_int, gAdd_int, gMul_int mm, gMul_int (mulOk_r (a := s1.turn + 1) (b := 104729) (by decide) (by decide)), gMul_int (mulOk_r (a := s1.turn + 1) (b := 17) (by decide) (by decide)), uTurn, uMixed]
def PickOk (pk : GFn) : Prop := ∀ (m : Int) (s : Src), m < 1073741824 → ∃ r s', pk [.src, .v (.int m)] (some s) = some (.v (.int r), some s') ∧ 0 ≤ r ∧ (2 ≤ m → r < m) ∧ (m < 2 → r = 0)
theorem pick1_ok : PickOk (gOf 4 pick1) := fun m s hm => pick1_is m hm s
end Pd
end
set_option linter.all false
set_option maxRecDepth 100000
noncomputable section
namespace Pd
open PySem PySem.Spec PyProof.Rows L2
section
variable {K : PySem.W.Frag} {X : Cx} {st : Stmt} {a b c : Expr} {pos : Pos}
/-- a chain: its first two operands values -/
def mChain (g g' : PyData → PyData → Option Slot) (ma mb mc : S → R Opd) : S → R Slot := fun st => match ma st with
  | .ok (.v dx) st1 => match mb st1 with
    | .ok (.v dy) st2 => match g dx dy with
      | some (.v (.bool false)) => .ok (.v (.bool false)) st2
      | some (.v (.bool true)) => match mc st2 with
        | .ok z st3 => match g' dy z.d with
          | some r => .ok r st3
          | none => .bad
        | .bad => .bad
      | _ => .bad
    | _ => .bad
  | _ => .bad
/-- an item of a list of one's own is stored -/
def sSetIx (i : Nat) (mi mv : S → R PyData) : S → RS := fun st => match mv st with
  | .ok d st1 => match st1.ss[i]? with
    | some (.o (.list _)) => match mi st1 with
      | .ok (.int k) st2 => match st2.ss[i]? with
        | some (.o (.list ds)) => match ixN ds.length k with
          | some j => .nx { st2 with ss := st2.ss.set i (.o (.list (ds.set j d))) }
          | none => .bad
        | _ => .bad
      | _ => .bad
    | _ => .bad
  | .bad => .bad
end
end Pd
end
set_option linter.all false
set_option maxRecDepth 100000
noncomputable section
namespace Pd
open PySem PySem.Spec PyProof.Rows L2
section
variable {X : Cx} {st : Stmt} {m m' m'' : S → R Slot} {pos : Pos}
theorem s_par2T {i j : Nat} (hij : i ≠ j) (h : PS X st (tAsg (tTup (tCons (tM X.K m) (tCons (tM X.K m') tNil))) (gTup X.K 2 (gCons (gName i) (gCons (gName j) gNil))))) : PS X st (tMS X.K (sPar2 i j m m')) := imS h fun D σ H ⟨sa, B, F, st, h0, h1⟩ => by
  unfold sPar2 at h1
  cases q : m st with
  | bad =>
    simp only [q] at h1
    exact h1.elim
  | ok r st1 =>
    cases q2 : m' st1 with
    | bad =>
      simp only [q, q2] at h1
      exact h1.elim
    | ok r' st2 =>
      simp only [q, q2] at h1
      refine ⟨sa, B, F, st, r, st1, h0, q, fun sa1 F1 H1 v R1 rr1 => ?_⟩
      obtain ⟨B', sb, S1, kp⟩ := rr1.wait R1.r
      refine ⟨sa1, B', F1, st1, r', st2, S1, q2, fun sa2 F2 H2 w R2 rr2 => ⟨by show 2 ≤ sizeLine; decide, fun p hp => ⟨p, [v, w], rfl, .inl (.inl upd_same), rfl, v, [w], rfl, w, [], rfl, rfl, ?_⟩⟩⟩
      obtain ⟨k1, k2⟩ := kp sa2 F2 H2 st2 R2
      have R : Rch X.K B σ sa F st sa2 F2 H2 st2 := R1.trans ⟨R2.r.less sb, R2.x.weak sb, R2.k, R2.s⟩
      have rr2' : RRep sa2 B F2 H2 σ st2 w r' := by
        cases r' with
        | v d => exact rr2
        | src => exact rr2
        | cel => exact rr2
        | no => exact rr2.elim
        | scr _ => exact rr2.elim
        | o d =>
          obtain ⟨a, o, e, t1, t2, t3, t4⟩ := rr2
          exact ⟨a, o, e, t1, t2, sb.none_of t3, t4⟩
      have ne : ∀ d d', r' = .o d → r = .o d' → w ≠ v := fun d d' e1 e2 z => by
        subst e1
        obtain ⟨a, ea, ha⟩ := k2 d' e2
        obtain ⟨a2, o, e, t1, t2, t3, t4⟩ := rr2
        rw [e, ea] at z
        cases z
        exact ha t3
      have S2 := (R.r.put k1).put (i := j) (rr2'.beside (i := i) ne)
      exact h1 sa2 F2 _ _ ⟨S2.alloc hp, R.x, R.k, R.s⟩
end
end Pd
end
set_option linter.all false
set_option maxRecDepth 100000
noncomputable section
namespace Pd
open PySem PySem.Spec PyProof.Rows L2
section
variable {X : Cx} {a b c : Expr} {pos : Pos}
end
/-- what a method of a list tells, of its items and one value -/
def MtL (X : Cx) (name : Str) (g : List PyData → PyData → Option Slot) : Prop := ∃ id, PySem.Slot "list" name id ∧ typeOf (.builtin id) = pure (.type "method_descriptor") ∧
  ∀ (pins : List (Addr × Obj)) (s : Shared) (σ : L2.St) (F H : Hp) (l : Addr) (xs : List V) (w : V) (u : Value) (ds : List PyData) (d : PyData) (sl : Slot) (Q : VK), Inv X pins σ H s → Sub F H → H l = some (.lst xs) → RpL F xs ds → RelV w u → RdD F H w d → g ds d = some sl →
    (∀ v F' H', Out F H sl v F' H' → Q v H') → wpAny (model X.prog X.w) X.A (call (.builtin id) [.ref l, u]) (EP X pins σ Q) X.xe s
section
variable {K : PySem.W.Frag} {B : Hp} {σ : L2.St} {sa : Sa} {F H : Hp} {st : S}
end
section
variable {X : Cx} {o e : Expr} {name : Str} {apos cpos : Pos} {m m' : S → R Opd} {g : List PyData → PyData → Option Slot}
/-- where an item stands -/
def gIdx : List PyData → PyData → Option Slot := fun ds d => if shp d && PyData.plainAll ds && okLen ds.length then (match PySem.SeqAt.dataPlace ds d with
  | some j => some (.v (.int (j : Nat)))
  | none => none) else none
end
section
variable {X : Cx} {o e : Expr} {ma : S → R (List PyData)} {i : Nat} {apos cpos : Pos}
end
section
variable {X : Cx} {tg : Expr} {ma : S → R (List PyData)} {p pos : Pos}
end
end Pd
end
set_option linter.all false
set_option maxRecDepth 100000
noncomputable section
namespace Pd
open PySem PySem.Spec PyProof.Rows L2
def isK : PyData → Bool
  | .int _ => true
  | .str _ => true
  | _ => false
def isT : PyData → Bool
  | .tuple ds => ds.all isK
  | _ => false
theorem isK_kD {d : PyData} (h : isK d = true) : ∃ k, d = kD k := by
  cases d with
  | int i => exact ⟨.inl i, rfl⟩
  | str x => exact ⟨.inr x, rfl⟩
  | _ => cases h
theorem isK_tD (k : List Key) : isK (tD k) = false := rfl
theorem isT_kD (k : Key) : isT (kD k) = false := by cases k <;> rfl
theorem isT_tD {d : PyData} (h : isT d = true) : ∃ k, d = tD k := by
  cases d with
  | tuple ds =>
    have h : ds.all isK = true := h
    have : ∀ ds : List PyData, ds.all isK = true → ∃ k : List Key, ds = k.map kD := by
      intro ds
      induction ds with
      | nil => intro _; exact ⟨[], rfl⟩
      | cons d ds ih =>
        intro h
        rw [List.all_cons, Bool.and_eq_true] at h
        obtain ⟨k, rfl⟩ := isK_kD h.1
        obtain ⟨ks, rfl⟩ := ih h.2
        exact ⟨k :: ks, rfl⟩
    obtain ⟨k, rfl⟩ := this ds h
    exact ⟨k, rfl⟩
  | _ => cases h
theorem kD_inj {a b : Key} (h : kD a = kD b) : a = b := by
  cases a <;> cases b <;> simp [kD] at h <;> rw [h]
theorem tD_inj {a b : List Key} (h : tD a = tD b) : a = b := by
  unfold tD at h
  have h : a.map kD = b.map kD := by injection h
  exact List.map_inj_right (fun _ _ => kD_inj) |>.mp h
open Classical in
def putP (kvs : List (PyData × PyData)) (k v : PyData) : List (PyData × PyData) :=
  if (kvs.any fun p => decide (p.1 = k)) = true then kvs.map (fun p => if p.1 = k then (p.1, v) else p) else kvs ++ [(k, v)]
open Classical in
def getP (kvs : List (PyData × PyData)) (k : PyData) : Option PyData := (kvs.find? fun p => decide (p.1 = k)).map (·.2)
def okKey (kvs : List (PyData × PyData)) (k : PyData) : Bool := (isK k && kvs.all fun p => isK p.1) || (isT k && kvs.all fun p => isT p.1)
section
variable {F : Hp}
theorem RpK.anyK {k : Key} : ∀ {ps : List (Key × V)} {kvs : List (PyData × PyData)}, RpK F ps kvs → (ps.any fun p => decide (p.1 = k)) = @List.any _ kvs fun p => @decide (p.1 = kD k) (Classical.propDecidable _)
  | _, _, .nil => rfl
  | _, _, .cons (k := k') r t => by
    rw [List.any_cons, List.any_cons, RpK.anyK t]
    congr 1
    exact decide_eq_decide.mpr ⟨fun h => congrArg kD h, kD_inj⟩
theorem RpT.anyT {k : List Key} : ∀ {ps : List (List Key × V)} {kvs : List (PyData × PyData)}, RpT F ps kvs → (ps.any fun p => decide (p.1 = k)) = @List.any _ kvs fun p => @decide (p.1 = tD k) (Classical.propDecidable _)
  | _, _, .nil => rfl
  | _, _, .cons (k := k') r t => by
    rw [List.any_cons, List.any_cons, RpT.anyT t]
    congr 1
    exact decide_eq_decide.mpr ⟨fun h => congrArg tD h, tD_inj⟩
theorem RpK.setK {k : Key} {v : V} {d : PyData} (r : Rp F v d) : ∀ {ps : List (Key × V)} {kvs : List (PyData × PyData)}, RpK F ps kvs → RpK F (ps.map fun p => if p.1 = k then (p.1, v) else p) (kvs.map fun p => @ite _ (p.1 = kD k) (Classical.propDecidable _) (p.1, d) p)
  | _, _, .nil => .nil
  | _, _, .cons (k := k') r' t => by
    rw [List.map_cons, List.map_cons]
    by_cases h : k' = k
    · rw [if_pos h, if_pos (show kD k' = kD k from congrArg kD h)]
      exact .cons r (RpK.setK r t)
    · rw [if_neg h, if_neg (show ¬ (kD k', _).1 = kD k from fun z => h (kD_inj z))]
      exact .cons r' (RpK.setK r t)
theorem RpT.setT {k : List Key} {v : V} {d : PyData} (r : Rp F v d) : ∀ {ps : List (List Key × V)} {kvs : List (PyData × PyData)}, RpT F ps kvs → RpT F (ps.map fun p => if p.1 = k then (p.1, v) else p) (kvs.map fun p => @ite _ (p.1 = tD k) (Classical.propDecidable _) (p.1, d) p)
  | _, _, .nil => .nil
  | _, _, .cons (k := k') r' t => by
    rw [List.map_cons, List.map_cons]
    by_cases h : k' = k
    · rw [if_pos h, if_pos (show tD k' = tD k from congrArg tD h)]
      exact .cons r (RpT.setT r t)
    · rw [if_neg h, if_neg (show ¬ (tD k', _).1 = tD k from fun z => h (tD_inj z))]
      exact .cons r' (RpT.setT r t)
theorem RpK.snoc {k : Key} {v : V} {d : PyData} (r : Rp F v d) : ∀ {ps : List (Key × V)} {kvs : List (PyData × PyData)}, RpK F ps kvs → RpK F (ps ++ [(k, v)]) (kvs ++ [(kD k, d)])
  | _, _, .nil => .cons r .nil
  | _, _, .cons r' t => .cons r' (RpK.snoc r t)
theorem RpT.snoc {k : List Key} {v : V} {d : PyData} (r : Rp F v d) : ∀ {ps : List (List Key × V)} {kvs : List (PyData × PyData)}, RpT F ps kvs → RpT F (ps ++ [(k, v)]) (kvs ++ [(tD k, d)])
  | _, _, .nil => .cons r .nil
  | _, _, .cons r' t => .cons r' (RpT.snoc r t)
theorem RpK.put {k : Key} {v : V} {d : PyData} (r : Rp F v d) {ps : List (Key × V)} {kvs : List (PyData × PyData)} (h : RpK F ps kvs) : RpK F (putK ps k v) (putP kvs (kD k) d) := by
  unfold putK putP
  rw [h.anyK]
  split
  · exact h.setK r
  · exact h.snoc r
theorem RpT.put {k : List Key} {v : V} {d : PyData} (r : Rp F v d) {ps : List (List Key × V)} {kvs : List (PyData × PyData)} (h : RpT F ps kvs) : RpT F (putK ps k v) (putP kvs (tD k) d) := by
  unfold putK putP
  rw [h.anyT]
  split
  · exact h.setT r
  · exact h.snoc r
theorem RpK.getK {k : Key} : ∀ {ps : List (Key × V)} {kvs : List (PyData × PyData)}, RpK F ps kvs → (∃ v d, valV ps k = some v ∧ getP kvs (kD k) = some d ∧ Rp F v d) ∨ (valV ps k = none ∧ getP kvs (kD k) = none)
  | _, _, .nil => .inr ⟨rfl, rfl⟩
  | _, _, .cons (k := k') (v := v) (d := d) r t => by
    unfold valV getP
    rw [List.find?_cons, List.find?_cons]
    by_cases h : k' = k
    · subst h
      simp only [decide_true]
      exact .inl ⟨v, d, rfl, rfl, r⟩
    · have h' : ¬ kD k' = kD k := fun z => h (kD_inj z)
      simp only [h, h', decide_false]
      exact RpK.getK t
theorem RpT.getT {k : List Key} : ∀ {ps : List (List Key × V)} {kvs : List (PyData × PyData)}, RpT F ps kvs → (∃ v d, valV ps k = some v ∧ getP kvs (tD k) = some d ∧ Rp F v d) ∨ (valV ps k = none ∧ getP kvs (tD k) = none)
  | _, _, .nil => .inr ⟨rfl, rfl⟩
  | _, _, .cons (k := k') (v := v) (d := d) r t => by
    unfold valV getP
    rw [List.find?_cons, List.find?_cons]
    by_cases h : k' = k
    · subst h
      simp only [decide_true]
      exact .inl ⟨v, d, rfl, rfl, r⟩
    · have h' : ¬ tD k' = tD k := fun z => h (tD_inj z)
      simp only [h, h', decide_false]
      exact RpT.getT t
theorem RpK.notT {ps : List (Key × V)} {kvs : List (PyData × PyData)} (h : RpK F ps kvs) (a : (kvs.all fun p => isT p.1) = true) : ps = [] ∧ kvs = [] := by
  cases h with
  | nil => exact ⟨rfl, rfl⟩
  | cons r t =>
    rw [List.all_cons, Bool.and_eq_true, isT_kD] at a
    cases a.1
theorem RpT.notK {ps : List (List Key × V)} {kvs : List (PyData × PyData)} (h : RpT F ps kvs) (a : (kvs.all fun p => isK p.1) = true) : ps = [] ∧ kvs = [] := by
  cases h with
  | nil => exact ⟨rfl, rfl⟩
  | cons r t =>
    rw [List.all_cons, Bool.and_eq_true, isK_tD] at a
    cases a.1
end
def ReD (H H' : Hp) (a : Addr) : Prop := H' = H ∨ (H a = some (.dK []) ∧ H' = upd H a (.dT [])) ∨ (H a = some (.dT []) ∧ H' = upd H a (.dK []))
theorem updS {H : Hp} {a : Addr} {o : HO} (h : H a = some o) : upd H a o = H := by
  funext b
  by_cases q : b = a
  · rw [q, upd_same, h]
  · rw [upd_ne q]
theorem tup_keys {F : Hp} : ∀ {k : List Key} {xs : List V}, RpL F xs (k.map kD) → xs = k.map kV
  | [], _, h => by cases h; rfl
  | k :: ks, _, h => by
    cases h with
    | cons r t =>
      rw [tup_keys t]
      cases k <;> cases r <;> rfl
theorem key_v {F : Hp} {v : V} {k : Key} (r : Rp F v (kD k)) : v = kV k := by
  cases k <;> cases r <;> rfl
theorem rdK {F H : Hp} {v : V} {k : Key} (h : RdD F H v (kD k)) : v = kV k := by
  rcases h with h | ⟨a, o, e, h1, h2⟩
  · exact key_v h
  · cases k <;> cases h2
theorem rdT {F H : Hp} {v : V} {k : List Key} (sb : Sub F H) (h : RdD F H v (tD k)) : ∃ b, v = .ref b ∧ H b = some (.tup (k.map kV)) := by
  obtain ⟨b, xs, e, e1, r⟩ := RdD.tup sb h
  rw [tup_keys r] at e1
  exact ⟨b, e, sb _ _ e1⟩
/-- what is got, of a dict that is read -/
theorem got {F H : Hp} {x y : V} {kvs : List (PyData × PyData)} {k : PyData} (sb : Sub F H) (hx : RdD F H x (.dict kvs)) (hy : RdD F H y k) (ok : okKey kvs k = true) :
    ∃ a H', x = .ref a ∧ ReD H H' a ∧ ReD H' H a ∧ ((∃ v d, DGet H' a y (some v) ∧ getP kvs k = some d ∧ Rp F v d ∧ H' = H) ∨ (DGet H' a y none ∧ getP kvs k = none)) := by
  obtain ⟨a, rfl, hd⟩ := hx.dct sb
  unfold okKey at ok
  rw [Bool.or_eq_true, Bool.and_eq_true, Bool.and_eq_true] at ok
  rcases ok with ⟨o1, o2⟩ | ⟨o1, o2⟩
  · obtain ⟨k', rfl⟩ := isK_kD o1
    cases rdK hy
    rcases hd with ⟨ps, e, r⟩ | ⟨ps, e, r⟩
    · rcases r.getK (k := k') with ⟨v, d, h1, h2, h3⟩ | ⟨h1, h2⟩
      · exact ⟨a, H, rfl, .inl rfl, .inl rfl, .inl ⟨v, d, by rw [← h1]; exact DGet.k e, h2, h3, rfl⟩⟩
      · exact ⟨a, H, rfl, .inl rfl, .inl rfl, .inr ⟨by rw [← h1]; exact DGet.k e, h2⟩⟩
    · obtain ⟨rfl, rfl⟩ := r.notK o2
      refine ⟨a, upd H a (.dK []), rfl, .inr (.inr ⟨e, rfl⟩), .inr (.inl ⟨upd_same, ?_⟩), .inr ⟨DGet.k (kvs := []) upd_same, rfl⟩⟩
      rw [upd_upd]
      exact (updS e).symm
  · obtain ⟨k', rfl⟩ := isT_tD o1
    obtain ⟨b, rfl, eb⟩ := rdT sb hy
    rcases hd with ⟨ps, e, r⟩ | ⟨ps, e, r⟩
    · obtain ⟨rfl, rfl⟩ := r.notT o2
      have hb : b ≠ a := fun z => by
        rw [z, e] at eb
        cases eb
      refine ⟨a, upd H a (.dT []), rfl, .inr (.inl ⟨e, rfl⟩), .inr (.inr ⟨upd_same, ?_⟩), .inr ⟨DGet.t (kvs := []) upd_same (by rw [upd_ne hb]; exact eb), rfl⟩⟩
      rw [upd_upd]
      exact (updS e).symm
    · rcases r.getT (k := k') with ⟨v, d, h1, h2, h3⟩ | ⟨h1, h2⟩
      · exact ⟨a, H, rfl, .inl rfl, .inl rfl, .inl ⟨v, d, by rw [← h1]; exact DGet.t e eb, h2, h3, rfl⟩⟩
      · exact ⟨a, H, rfl, .inl rfl, .inl rfl, .inr ⟨by rw [← h1]; exact DGet.t e eb, h2⟩⟩
section
variable {K : PySem.W.Frag} {X : Cx} {a b : Expr} {m m' : S → R Opd} {pos : Pos}
end
end Pd
end
set_option linter.all false
set_option maxRecDepth 100000
noncomputable section
namespace Pd
open PySem PySem.Spec PyProof.Rows L2
end Pd
end
section
set_option linter.all false
set_option maxRecDepth 100000
namespace Pd
open PySem PySem.Spec PyProof.Rows L2 HT
section
variable {prog : Program} {w : World} {A : Around} {E : Value → Shared → Prop} {s : Shared}
end
end Pd
end
set_option linter.all false
set_option maxRecDepth 100000
noncomputable section
namespace Pd
open PySem PySem.Spec PyProof.Rows L2
section
variable {K : PySem.W.Frag} {X : Cx} {mi : S → R (List PyData)} {vs : List Nat} {g : PyData → S → Option S} {t : S → R Bool} {mk me : S → R PyData}
/-- where a dict that is made is at D -/
structure LdI (K : PySem.W.Frag) (B : Hp) (σw : L2.St) (sa1 : Sa) (F1 : Hp) (st1 : S) (D : Addr) (H : Hp) (sa : Sa) (F : Hp) (st : S) (vacc : List (Key × V)) (acc : List (PyData × PyData)) : Prop where
  r : SR K sa (upd B D (.dK vacc)) F H σw st
  x : FX B F1 F
  n : F D = none
  a : RpK F vacc acc
  k : SaK st1 sa1 sa
  s : st1.src.isSome = true → st.src.isSome = true
theorem LdI.at {B : Hp} {σw : L2.St} {sa1 : Sa} {F1 : Hp} {st1 : S} {D : Addr} {H : Hp} {sa : Sa} {F : Hp} {st : S} {vacc : List (Key × V)} {acc : List (PyData × PyData)} (h : LdI K B σw sa1 F1 st1 D H sa F st vacc acc) : H D = some (.dK vacc) := h.r.bh _ _ upd_same
theorem LdI.go {B : Hp} {σw σ' : L2.St} {sa1 : Sa} {F1 : Hp} {st1 : S} {D : Addr} {H : Hp} {sa : Sa} {F : Hp} {st : S} {vacc : List (Key × V)} {acc : List (PyData × PyData)} (hb : B D = none) (h : LdI K B σw sa1 F1 st1 D H sa F st vacc acc)
    {sa2 : Sa} {F2 H2 : Hp} {st2 : S} (R : Rch K (upd B D (.dK vacc)) σ' sa F st sa2 F2 H2 st2) : LdI K B σ' sa1 F1 st1 D H2 sa2 F2 st2 vacc acc :=
  ⟨R.r, h.x.trans (R.x.weak (Sub.new hb)), R.x.at h.n R.r.bh R.r.fh (fun xs z => nomatch z), h.a.mono R.x.le, fun z => (R.k (h.s z)).trans (h.k z), fun z => R.s (h.s z)⟩
theorem LdI.wip {B : Hp} {σ' : L2.St} {sa1 : Sa} {F1 : Hp} {st1 : S} {D : Addr} {H : Hp} {sa : Sa} {F : Hp} {st : S} {vacc : List (Key × V)} {acc : List (PyData × PyData)} (vs : List Nat) (h : LdI K B σ' sa1 F1 st1 D H sa F st vacc acc) : LdI K B (wipe σ' vs) sa1 F1 st1 D H sa F (st.wipe vs) vacc acc :=
  ⟨h.r.wipes vs, h.x, h.n, h.a, h.k, h.s⟩
theorem LdI.more {B : Hp} {σ' : L2.St} {sa1 : Sa} {F1 : Hp} {st1 : S} {D : Addr} {H : Hp} {sa : Sa} {F : Hp} {st : S} {vacc : List (Key × V)} {acc : List (PyData × PyData)} (h : LdI K B σ' sa1 F1 st1 D H sa F st vacc acc) {k : Key} {y : V} {d : PyData} (r : Rp F y d) :
    LdI K B σ' sa1 F1 st1 D (upd H D (.dK (putK vacc k y))) sa F st (putK vacc k y) (putP acc (kD k) d) :=
  ⟨h.r.bump h.n, h.x, h.n, h.a.put r, h.k, h.s⟩
theorem LdI.done {B : Hp} {σ : L2.St} {sa sa0 sa1 : Sa} {F0 F1 H1 : Hp} {st0 st1 st : S} {D : Addr} {H F : Hp} {vacc : List (Key × V)} {acc : List (PyData × PyData)} {Q : VK} (R1 : Rch K B σ sa0 F0 st0 sa1 F1 H1 st1) (hb : B D = none) (h : LdI K B (wipe σ vs) sa1 F1 st1 D H sa F st vacc acc)
    (k : ∀ sa' F' H' v, Rch K B σ sa0 F0 st0 sa' F' H' (st.rest st1 vs) → RRep sa' B F' H' σ (st.rest st1 vs) v (.o (.dict acc)) → Q v H') : Q (.ref D) H := by
  have S2 := R1.r.rests h.r h.x.le h.k h.s
  obtain ⟨p1, p2⟩ := S2.apart
  exact k sa F H _ ⟨S2.less (Sub.new hb), R1.x.trans h.x, fun z => (h.k (R1.s z)).trans (R1.k z), fun z => h.s (R1.s z)⟩ ⟨D, _, rfl, h.at, .dK h.a, hb, h.n, p1, p2⟩
theorem LdI.start {B : Hp} {σ : L2.St} {sa1 : Sa} {F1 H1 : Hp} {st1 : S} {D : Addr} (vs : List Nat) (h : SR K sa1 B F1 H1 σ st1) (hD : H1 D = none) : LdI K B (wipe σ vs) sa1 F1 st1 D (upd H1 D (.dK [])) sa1 F1 (st1.wipe vs) [] [] := by
  have S1 := h.wipes vs
  obtain ⟨n1, n2⟩ := S1.news hD
  exact ⟨(S1.alloc hD).prot upd_same (h.bh.none_of hD) n1 n2, FX.refl, h.fh.none_of hD, .nil, fun _ => rfl, fun z => z⟩
variable {kx vx tg iter : Expr} {ifs : List Expr} {scope : Scope} {own : List (Str × Nat)} {pos : Pos}
end
/-- what the pairs' trees promise -/
def tKV (K : PySem.W.Frag) (r : S → R (List (PyData × PyData))) (tp : L2.St → Hp → (List (V × V) → Hp → Prop) → Prop) : Prop := ∀ (σ : L2.St) (H : Hp) (Q : List (V × V) → Hp → Prop) (sa : Sa) (B F : Hp) (st : S) (kvs : List (PyData × PyData)) (st' : S), SR K sa B F H σ st → r st = .ok kvs st' →
  (∀ sa' F' H' (ps : List (Key × V)), Rch K B σ sa F st sa' F' H' st' → RpK F' ps kvs → Q (ps.map fun kv => (kV kv.1, kv.2)) H') → tp σ H Q
theorem RpK.merge {F : Hp} : ∀ {ps : List (Key × V)} {kvs : List (PyData × PyData)} {as : List (Key × V)} {acc : List (PyData × PyData)}, RpK F ps kvs → RpK F as acc → RpK F (mergeK as ps) (kvs.foldl (fun acc p => putP acc p.1 p.2) acc)
  | _, _, _, _, .nil, h => h
  | _, _, _, _, .cons (k := k') r t, h => by
    have := RpK.merge t (h.put (k := k') r)
    exact this
end Pd
end
set_option linter.all false
set_option maxRecDepth 100000
noncomputable section
namespace Pd
open PySem PySem.Spec PyProof.Rows L2
theorem RpL.ints {F : Hp} : ∀ ns : List Int, RpL F (ns.map V.int) (ns.map PyData.int)
  | [] => .nil
  | n :: ns => .cons (.int n) (RpL.ints ns)
end Pd
end
set_option linter.all false
set_option maxRecDepth 100000
set_option maxHeartbeats 4000000
noncomputable section
namespace Pd
open PySem PySem.Spec PyProof.Rows L2
end Pd
end
set_option linter.all false
set_option maxRecDepth 100000
noncomputable section
namespace Pd
open PySem PySem.Spec PyProof.Rows L2
variable {P : Program} {w : World} {K : PySem.W.Frag} {mg : Str → Option Value} {base : Heap}
end Pd
end
set_option linter.all false
set_option maxRecDepth 100000
noncomputable section
namespace Pd
open PySem PySem.Spec PyProof.Rows L2 PySem.SeqAt
def isE : PyData → PyData → Option Bool
  | .list xs, .list [] => some xs.isEmpty
  | .tuple xs, .tuple [] => some xs.isEmpty
  | .list _, .tuple [] => some false
  | .tuple _, .list [] => some false
  | .int _, .tuple [] => some false
  | .bool _, .tuple [] => some false
  | .str _, .tuple [] => some false
  | .none, .tuple [] => some false
  | .dict _, .tuple [] => some false
  | _, _ => none
def isS : PyData → Bool
  | .int _ => true
  | .bool _ => true
  | .str _ => true
  | .none => true
  | .dict _ => true
  | _ => false
def gNe0 (d e : PyData) : Option Slot := match isE d e with
  | some b => some (.v (.bool (!b)))
  | none => gNe d e
section
variable {X : Cx} {pins : List (Addr × Obj)} {s : Shared} {σ : L2.St} {H : Hp} {a : Addr} {xs : List V}
theorem is_list (I : Inv X pins σ H s) (e : H a = some (.lst xs)) : ∃ its : Array Value, s.heap.IsList a its ∧ its.size = xs.length := by
  obtain ⟨hl, its, n, rv, h1⟩ := (show ObjOk X.prog X.w H s.heap a (.lst xs) from I.hok a _ e)
  exact ⟨its.toArray, ⟨_, h1, rfl, _, rfl⟩, by rw [List.size_toArray, rv.length]⟩
theorem is_tuple (I : Inv X pins σ H s) (e : H a = some (.tup xs)) : ∃ its : Array Value, s.heap.IsTuple a its ∧ its.size = xs.length := by
  obtain ⟨its, r, h, _⟩ := I.tuple (show SqT X.K H a xs from .inl (.inl e))
  exact ⟨its.toArray, h, by rw [List.size_toArray, r.length]⟩
end
theorem dict_ne_declines_tuple (l b : Addr) (dt : Data) (items2 : Array Value) (n2 : Nat) (dd dd2 : Option Addr) (sl sl2 : Array (Option Value)) :
    Meets (Builtin.«dict.__ne__» ⟨[.ref l, .ref b], []⟩) (fun _ R s => s.heap.get? l = some { cls := .type "dict", dict := dd, data := dt, slots := sl } ∧ s.heap.get? b = some { cls := .type "tuple", dict := dd2, data := .seq items2 n2, slots := sl2 } ∧ R (.ok (.ret .notImplemented)) s) :=
  .of_wp fun prog w A R s h => by obtain ⟨hp, g, d, tk, os⟩ := s; obtain ⟨hl, hb, h⟩ := h; have f1 := F.sub_tuple_dict; wp_walk using wpAny_loadPart' hl, wpAny_loadPart' hb; exact ⟨_, rfl, h⟩
theorem tuple_ne_declines_dict (l b : Addr) (items : Array Value) (dt : Data) (n : Nat) (dd dd2 : Option Addr) (sl sl2 : Array (Option Value)) :
    Meets (Builtin.«tuple.__ne__» ⟨[.ref l, .ref b], []⟩) (fun _ R s => s.heap.get? l = some { cls := .type "tuple", dict := dd, data := .seq items n, slots := sl } ∧ s.heap.get? b = some { cls := .type "dict", dict := dd2, data := dt, slots := sl2 } ∧ R (.ok (.ret .notImplemented)) s) :=
  .of_wp fun prog w A R s h => by obtain ⟨hp, g, d, tk, os⟩ := s; obtain ⟨hl, hb, h⟩ := h; have f1 := F.sub_dict_tuple; wp_walk using wpAny_loadPart' hl, wpAny_loadPart' hb; exact ⟨_, rfl, h⟩
theorem rcNeAt_dict_tuple {A : Around} {s : Shared} {l b : Addr} {items2 : Array Value} (hl : ∃ o, s.heap.get? l = some o ∧ o.cls = .type "dict") (hb : s.heap.IsTuple b items2) (hu : A.units < cLine) : RcNeAt A s (.ref l) (.ref b) true := fun prog w E Q h => by
  obtain ⟨⟨cls, dd, data, sl⟩, ho, hc⟩ := hl
  obtain ⟨⟨cls2, dd2, data2, sl2⟩, ho2, hc2, n2, hd2⟩ := hb
  simp only at hc hc2 hd2
  subst hc hc2 hd2
  have hne : l ≠ b := fun e => by
    subst e
    rw [ho] at ho2
    injection ho2 with ho2
    injection ho2 with z
    injection z with z
    exact absurd z (by decide)
  exact (rc_ne_decline_or (k := false) ⟨_, ho, rfl⟩ ⟨_, ho2, rfl⟩ (by decide) F.sub_tuple_dict F.slot_dict_ne F.slot_tuple_ne_refl
    (fun _ hq => call_meets F.slot_dict_ne ⟨_, ho, rfl⟩ F.entry_dict_ne (F.args_dict_ne_2 _ _) (dict_ne_declines_tuple l b data items2 n2 dd dd2 sl sl2) ⟨ho, ho2, hq⟩)
    (fun _ hq => call_meets F.slot_tuple_ne_refl ⟨_, ho2, rfl⟩ F.entry_tuple_ne (F.args_tuple_ne_2 _ _) (tuple_ne_declines_dict b l items2 data n2 dd2 dd sl2 sl) ⟨ho2, ho, hq⟩)
    (fun _ hq => wpAny_isSame_ref_other hne ho ho2 (by simp) hq) (.inr hu) h)
theorem is_dict {X : Cx} {pins : List (Addr × Obj)} {s : Shared} {σ : L2.St} {H : Hp} {a : Addr} (I : Inv X pins σ H s) (e : (∃ ps, H a = some (.dK ps)) ∨ ∃ ps, H a = some (.dT ps)) : ∃ o, s.heap.get? a = some o ∧ o.cls = .type "dict" := by
  rcases e with ⟨ps, e⟩ | ⟨ps, e⟩
  · obtain ⟨_, _, vs, _, o, es, ep, h1, h2, _⟩ := dk_of I.hok e
    exact ⟨o, h1, h2.1⟩
  · obtain ⟨_, _, vs, _, o, es, ep, h1, h2, _⟩ := dt_of I.hok e
    exact ⟨o, h1, h2.1⟩
theorem s_tuple {R : Value → Value → Prop} {X : Cx} {pins : List (Addr × Obj)} {s : Shared} {σ : L2.St} {F H : Hp} {x y : V} {d : PyData} {v u : Value} (I : Inv X pins σ H s) (sb : Sub F H) (hd : isS d = true) (hx : RdD F H x d) (hy : RdD F H y (.tuple [])) (rx : RelV x v) (ry : RelV y u)
    (h1 : ∀ i t b its, s.heap.IsTuple b its → R (.int i t) (.ref b)) (h2 : ∀ i b its, s.heap.IsTuple b its → R (.bool i) (.ref b)) (h3 : ∀ i t b its, s.heap.IsTuple b its → R (.str i t) (.ref b)) (h4 : ∀ b its, s.heap.IsTuple b its → R .none (.ref b)) (h5 : ∀ l b its, (∃ o, s.heap.get? l = some o ∧ o.cls = .type "dict") → s.heap.IsTuple b its → R (.ref l) (.ref b)) : R v u := by
  obtain ⟨a', vs', rfl, e2, r2⟩ := hy.tup sb
  cases ry
  obtain ⟨i2, l2, z2⟩ := is_tuple I (sb _ _ e2)
  cases d with
  | int i =>
    rw [hx.int] at rx
    obtain ⟨t, rfl⟩ := rx
    exact h1 _ _ _ _ l2
  | bool i =>
    rw [hx.bl] at rx
    cases rx
    exact h2 _ _ _ l2
  | str i =>
    rw [hx.str] at rx
    obtain ⟨t, rfl⟩ := rx
    exact h3 _ _ _ _ l2
  | none =>
    rw [hx.non] at rx
    cases rx
    exact h4 _ _ l2
  | dict kvs =>
    obtain ⟨a, rfl, e⟩ := hx.dct sb
    cases rx
    exact h5 _ _ _ (is_dict I (e.imp (fun ⟨p, q, _⟩ => ⟨p, q⟩) fun ⟨p, q, _⟩ => ⟨p, q⟩)) l2
  | list => cases hd
  | tuple => cases hd
theorem e_cases {d e : PyData} {b : Bool} (h : isE d e = some b) : (∃ xs, d = .list xs ∧ e = .list [] ∧ b = xs.isEmpty) ∨ (∃ xs, d = .tuple xs ∧ e = .tuple [] ∧ b = xs.isEmpty) ∨ (∃ xs, d = .list xs ∧ e = .tuple [] ∧ b = false) ∨ (∃ xs, d = .tuple xs ∧ e = .list [] ∧ b = false) ∨ (isS d = true ∧ e = .tuple [] ∧ b = false) := by
  unfold isE at h
  split at h
  · rename_i xs
    cases h
    exact .inl ⟨xs, rfl, rfl, rfl⟩
  · rename_i xs
    cases h
    exact .inr (.inl ⟨xs, rfl, rfl, rfl⟩)
  · rename_i xs
    cases h
    exact .inr (.inr (.inl ⟨xs, rfl, rfl, rfl⟩))
  · rename_i xs
    cases h
    exact .inr (.inr (.inr (.inl ⟨xs, rfl, rfl, rfl⟩)))
  · cases h; exact .inr (.inr (.inr (.inr ⟨rfl, rfl, rfl⟩)))
  · cases h; exact .inr (.inr (.inr (.inr ⟨rfl, rfl, rfl⟩)))
  · cases h; exact .inr (.inr (.inr (.inr ⟨rfl, rfl, rfl⟩)))
  · cases h; exact .inr (.inr (.inr (.inr ⟨rfl, rfl, rfl⟩)))
  · cases h; exact .inr (.inr (.inr (.inr ⟨rfl, rfl, rfl⟩)))
  · cases h
theorem o_ne0 {X : Cx} (hu : X.A.units + 64 < cLine) : OpD X (compareOp .NotEq) gNe0 := .of fun pins s σ H x y v u Q I rx ry ⟨F, dx, dy, sl, sb, hx, hy, e, k⟩ => by
  obtain ⟨r0, h1, h2⟩ := (o_ne hu : OpD X (compareOp .NotEq) gNe)
  have room : X.A.units < cLine := by omega
  unfold gNe0 at e
  cases q : isE dx dy with
  | none =>
    simp only [q] at e
    exact h1 pins s σ H x y v u Q I rx ry (h2 F H x y dx dy sl Q sb hx hy e k)
  | some b =>
    simp only [q] at e
    cases e
    have fin : RcNeAt X.A s v u (!b) := by
      rcases e_cases q with ⟨xs, rfl, rfl, rfl⟩ | ⟨xs, rfl, rfl, rfl⟩ | ⟨xs, rfl, rfl, rfl⟩ | ⟨xs, rfl, rfl, rfl⟩ | ⟨hd, rfl, rfl⟩
      · obtain ⟨a, vs, rfl, e1, r1⟩ := hx.lst sb
        obtain ⟨a', vs', rfl, e2, r2⟩ := hy.lst sb
        cases rx
        cases ry
        obtain ⟨i1, l1, z1⟩ := is_list I e1
        obtain ⟨i2, l2, z2⟩ := is_list I e2
        rw [r1.length] at z1
        rw [r2.length] at z2
        cases xs with
        | nil =>
          have := RcNeAt.lists (A := X.A) (s := s) (e := fun _ => true) l1 l2 (by rw [z1, z2]) room fun j j1 => by
            rw [z1] at j1
            exact absurd j1 (Nat.not_lt_zero _)
          rw [z1] at this
          exact this
        | cons x xs => exact RcNeAt.lists_lengths l1 l2 (by rw [z1, z2]; rfl) room
      · obtain ⟨a, vs, rfl, e1, r1⟩ := hx.tup sb
        obtain ⟨a', vs', rfl, e2, r2⟩ := hy.tup sb
        cases rx
        cases ry
        obtain ⟨i1, l1, z1⟩ := is_tuple I (sb _ _ e1)
        obtain ⟨i2, l2, z2⟩ := is_tuple I (sb _ _ e2)
        rw [r1.length] at z1
        rw [r2.length] at z2
        have := RcNeAt.tuples (A := X.A) (s := s) (e := fun _ => true) l1 l2 room fun j j1 j2 => by
          rw [z2] at j2
          exact absurd j2 (Nat.not_lt_zero _)
        rw [z1, z2] at this
        cases xs with
        | nil => exact this
        | cons x xs =>
          have e : (min (x :: xs).length ([] : List PyData).length) = 0 := by simp
          rw [e] at this
          exact this
      · obtain ⟨a, vs, rfl, e1, r1⟩ := hx.lst sb
        obtain ⟨a', vs', rfl, e2, r2⟩ := hy.tup sb
        cases rx
        cases ry
        obtain ⟨i1, l1, z1⟩ := is_list I e1
        obtain ⟨i2, l2, z2⟩ := is_tuple I (sb _ _ e2)
        exact RcNeAt.list_tuple l1 l2 room
      · obtain ⟨a, vs, rfl, e1, r1⟩ := hx.tup sb
        obtain ⟨a', vs', rfl, e2, r2⟩ := hy.lst sb
        cases rx
        cases ry
        obtain ⟨i1, l1, z1⟩ := is_tuple I (sb _ _ e1)
        obtain ⟨i2, l2, z2⟩ := is_list I e2
        exact RcNeAt.tuple_list l1 l2 room
      · exact s_tuple (R := fun v u => RcNeAt X.A s v u true) I sb hd hx hy rx ry (fun i t b its h => RcNeAt.int_tuple _ _ h room) (fun i b its h => RcNeAt.bool_tuple _ h room) (fun i t b its h => RcNeAt.str_tuple _ _ h room) (fun b its h => RcNeAt.none_tuple h room) (fun l b its h k => rcNeAt_dict_tuple h k room)
    exact fin _ _ _ _ ⟨.bl (!b), H, I, rfl, k _ _ _ (.v (.bl _))⟩
end Pd
end
set_option linter.all false
set_option maxRecDepth 100000
noncomputable section
namespace Pd
open PySem PySem.Spec PyProof.Rows L2
section
variable {X : Cx}
end
end Pd
end
set_option linter.all false
set_option maxRecDepth 100000
set_option maxHeartbeats 1000000
noncomputable section
namespace Zm
open PySem PySem.Spec PyProof.Rows L2
/-- an iterator over a list or a tuple -/
def ItrB (b : Bool) (h : Heap) (i l : Addr) (k : Nat) : Prop := if b = true then h.IsListIter i l k else h.IsTupleIter i l k
def SeqB (b : Bool) (h : Heap) (l : Addr) (xs : Array Value) : Prop := if b = true then h.IsList l xs else h.IsTuple l xs
theorem tup_at {h h' : Heap} {l : Addr} {xs : Array Value} (t : h.IsTuple l xs) (k : ∀ o, h.get? l = some o → h'.get? l = some o) : h'.IsTuple l xs := by
  obtain ⟨o, e, r⟩ := t
  exact ⟨o, k o e, r⟩
theorem ItrB.at {b : Bool} {h h' : Heap} {i l : Addr} {k : Nat} (t : ItrB b h i l k) (q : ∀ o, h.get? i = some o → h'.get? i = some o) : ItrB b h' i l k := by
  unfold ItrB at t ⊢
  split at t
  · rename_i z
    rw [if_pos z]
    exact t.at fun o e => q o e
  · rename_i z
    rw [if_neg z]
    exact t.at fun o e => q o e
theorem SeqB.at {b : Bool} {h h' : Heap} {l : Addr} {xs : Array Value} (t : SeqB b h l xs) (q : ∀ o, h.get? l = some o → h'.get? l = some o) : SeqB b h' l xs := by
  unfold SeqB at t ⊢
  split at t
  · rename_i z
    rw [if_pos z]
    exact t.at fun o e => q o e
  · rename_i z
    rw [if_neg z]
    exact tup_at t q
theorem ItrB.obj {b : Bool} {h : Heap} {i l : Addr} {k : Nat} (t : ItrB b h i l k) : ∃ o, h.get? i = some o ∧ ∀ v, o.data ≠ .cell v := by
  unfold ItrB at t
  split at t
  · obtain ⟨o, e, _, d⟩ := t
    exact ⟨o, e, fun v z => by rw [d] at z; cases z⟩
  · obtain ⟨o, e, _, d⟩ := t
    exact ⟨o, e, fun v z => by rw [d] at z; cases z⟩
section
variable {prog : Program} {w : World} {A : Around} {E : Value → Shared → Prop} {s : Shared}
variable {z TI TO i1 i2 l1 l2 : Addr} {k1 k2 : Nat} {xs ys : Array Value} {x y a b : Value} {p q : Bool} (D : ZipApart z TI TO i1 i2 l1 l2)
    (gz : IsZip s.heap z TI TO .none) (gI : IsPair s.heap TI (.ref i1) (.ref i2)) (gO : IsPair s.heap TO a b) (t1 : ItrB p s.heap i1 l1 k1) (t2 : ItrB q s.heap i2 l2 k2) (q1 : SeqB p s.heap l1 xs) (q2 : SeqB q s.heap l2 ys)
include D gz gI gO t1 t2 q1 q2
end
end Zm
end
set_option linter.all false
set_option maxRecDepth 100000
set_option maxHeartbeats 1000000
noncomputable section
namespace Zm
open PySem PySem.Spec PyProof.Rows L2
def itO (p : Bool) (l : Addr) : Obj := { cls := .type (if p = true then "list_iterator" else "tuple_iterator"), data := .fields #[.ref l, .int 0 0] }
end Zm
end
set_option linter.all false
set_option maxRecDepth 100000
noncomputable section
namespace Pd
open PySem PySem.Spec PyProof.Rows L2
def sqO : Opd → Option (List PyData)
  | .v (.list xs) => some xs
  | .v (.tuple xs) => some xs
  | _ => none
def mZipA (m m' : S → R Opd) : S → R (Opd × List PyData) := fun st => match m st with
  | .ok x st1 => match m' st1 with
    | .ok y st2 => match sqO x, sqO y with
      | some xs, some ys => .ok (.v .none, zipD xs ys) st2
      | _, _ => .bad
    | .bad => .bad
  | .bad => .bad
def jZipA (m m' : S → R PyData) : S → R (List PyData) := fun st => match m st with
  | .ok d st1 => match m' st1 with
    | .ok e st2 => match seqD d, seqD e with
      | some xs, some ys => .ok (zipD xs ys) st2
      | _, _ => .bad
    | .bad => .bad
  | .bad => .bad
section
variable {K : PySem.W.Frag}
end
section
variable {X : Cx} {e e' : Expr} {m m' : S → R Opd} {mf mf' : S → R PyData} {p pos tpos : Pos} {elts : List Expr} {kk : Nat}
end
end Pd
end
set_option linter.all false
set_option maxRecDepth 100000
set_option maxHeartbeats 1000000
noncomputable section
namespace Zs
open PySem PySem.Spec PyProof.Rows L2 Zm
abbrev IsZipS (h : Heap) (z TI TO : Addr) (f0 : Value) : Prop :=
  h.get? z = some { cls := .type "zip", dict := none, slots := #[], data := .fields #[f0, .bool false, .bool true, .ref TI, .ref TO] }
section
variable {prog : Program} {w : World} {A : Around} {E : Value → Shared → Prop} {s : Shared}
variable {z TI TO i1 i2 l1 l2 : Addr} {k1 k2 : Nat} {xs ys : Array Value} {x y a b : Value} {p q : Bool} (D : ZipApart z TI TO i1 i2 l1 l2)
    (gz : IsZipS s.heap z TI TO .none) (gI : IsPair s.heap TI (.ref i1) (.ref i2)) (gO : IsPair s.heap TO a b) (t1 : ItrB p s.heap i1 l1 k1) (t2 : ItrB q s.heap i2 l2 k2) (q1 : SeqB p s.heap l1 xs) (q2 : SeqB q s.heap l2 ys)
include D gz gI gO t1 t2 q1 q2
end
end Zs
end
set_option linter.all false
set_option maxRecDepth 100000
set_option maxHeartbeats 1000000
noncomputable section
namespace Zs
open PySem PySem.Spec PyProof.Rows L2 Zm
section
variable {prog : Program} {w : World} {A : Around} {E : Value → Shared → Prop} {s : Shared}
end
def zs (p q : Bool) (h : Heap) (l m : Addr) : Heap :=
  let n := h.objs.size
  ((((h.push (itO p l)).push (itO q m)).push { cls := .type "tuple", data := .seq #[.ref n, .ref (n + 1)] }).push { cls := .type "tuple", data := .seq #[.none, .none] }).push { cls := .type "zip", data := .fields #[.none, .bool false, .bool true, .ref (n + 2), .ref (n + 3)] }
end Zs
end
set_option linter.all false
set_option maxRecDepth 100000
noncomputable section
namespace Zs
open PySem PySem.Spec PyProof.Rows L2 Zm
section
variable {M : Model} {A : Around} {E : Value → Shared → Prop} {s : Shared} {env : Env}
end
end Zs
namespace Pd
open PySem PySem.Spec PyProof.Rows L2
/-- as mZipA, jZipA, of rows of one length -/
def mZipS (m m' : S → R Opd) : S → R (Opd × List PyData) := fun st => match m st with
  | .ok x st1 => match m' st1 with
    | .ok y st2 => match sqO x, sqO y with
      | some xs, some ys => if xs.length = ys.length then .ok (.v .none, zipD xs ys) st2 else .bad
      | _, _ => .bad
    | .bad => .bad
  | .bad => .bad
section
variable {X : Cx} {e e' : Expr} {m m' : S → R Opd} {mf mf' : S → R PyData} {p pos tpos kp cp : Pos} {elts : List Expr} {kk k0 : Nat}
end
end Pd
end
set_option linter.all false
set_option maxRecDepth 100000
set_option maxHeartbeats 4000000
noncomputable section
namespace Pd
open PySem PySem.Spec PyProof.Rows L2
end Pd
end
set_option linter.all false
set_option maxRecDepth 100000
set_option maxHeartbeats 4000000
noncomputable section
namespace Pd
open PySem PySem.Spec PyProof.Rows L2
/-- keys of a dict with tuple keys are frozen -/
theorem keys_frz {K : PySem.W.Frag} {sa : Sa} {B : Hp} {σ : L2.St} {st : S} {H : Hp} : ∀ {ps : List (List Key × V)} {bs : List Addr} {F : Hp}, SR K sa B F H σ st → IsKeys H ps bs → ∃ F', SR K sa B F' H σ st ∧ FX B F F' ∧ RpL F' (bs.map V.ref) (ps.map fun p => tD p.1) := by
  intro ps bs F h k
  induction k generalizing F with
  | nil => exact ⟨F, h, FX.refl, .nil⟩
  | @cons p b ps bs e t ih =>
    have rk : ∀ (G : Hp) (ks : List Key), RpL G (ks.map kV) (ks.map kD) := fun G ks => by
      induction ks with
      | nil => exact .nil
      | cons k ks ih =>
        refine .cons ?_ ih
        cases k with
        | inl i => exact .int i
        | inr x => exact .str x
    cases q : F b with
    | some o =>
      have e2 := h.fh _ _ q
      rw [e] at e2
      cases e2
      obtain ⟨F', h1, h2, h3⟩ := ih h
      exact ⟨F', h1, h2, .cons (.tup (h2.le _ _ q) (rk _ _)) h3⟩
    | none =>
      have n1 : st.src.isSome = true → b ≠ sa.1 ∧ b ≠ sa.2 := fun z => by
        obtain ⟨s, hs⟩ := Option.isSome_iff_exists.mp z
        obtain ⟨e1, _⟩ := h.sr s hs
        refine ⟨fun y => ?_, fun y => ?_⟩
        · have := e1.1
          rw [← y, e] at this
          cases this
        · have := e1.2
          rw [← y, e] at this
          cases this
      have n2 : ∀ (i : Nat) (x : PyData), st.ss[i]? = some (.o x) → σ[i]? ≠ some (some (.ref b)) := fun i x y z => by
        obtain ⟨a, o, e1, e2, e3, _⟩ := h.so i x y
        rw [z] at e1
        cases e1
        rw [e] at e2
        cases e2
        cases e3
      have h' := h.freeze e q n1 n2
      obtain ⟨F', h1, h2, h3⟩ := ih h'
      have x0 : FX B F (upd F b (.tup (p.1.map kV))) := ⟨Sub.new q, fun a y _ => by
        by_cases z : a = b
        · subst z
          exact .inr ⟨_, upd_same⟩
        · exact .inl (by rw [upd_ne z]; exact y)⟩
      exact ⟨F', h1, x0.trans h2, .cons (.tup (h2.le _ _ upd_same) (rk _ _)) h3⟩
end Pd
end
set_option linter.all false
set_option maxRecDepth 100000
set_option maxHeartbeats 4000000
noncomputable section
namespace Pd
open PySem PySem.Spec PyProof.Rows L2
def mergeT (kvs more : List (List Key × V)) : List (List Key × V) := more.foldl (fun acc kv => putK acc kv.1 kv.2) kvs
section
variable {X : Cx}
theorem KT.merge {H : Hp} : ∀ {ks : List (List Key × Addr × V)} {more : List (List Key × Addr × Value)} {kvs : List (List Key × V)} {xs : List (List Key × Addr × Value)},
    Paired (fun p q => p.1 = q.1 ∧ p.2.1 = q.2.1 ∧ H p.2.1 = some (.tup (p.1.map kV)) ∧ RelV p.2.2 q.2.2) ks more → KT H kvs xs → KT H (mergeT kvs (ks.map fun p => (p.1, p.2.2))) (storedAllH xs more)
  | _, _, _, _, .nil, h => h
  | _, _, _, _, .cons (a := p) (b := q) r t, h => by
    obtain ⟨r1, r2, r3, r4⟩ := r
    unfold mergeT storedAllH
    rw [List.map_cons, List.foldl_cons, List.foldl_cons]
    refine KT.merge t ?_
    have := h.put p.1 r3 r4
    rw [← r1, ← r2]
    exact this
theorem pairsT_of {pins : List (Addr × Obj)} {σ : L2.St} {H : Hp} {s : Shared} (I : Inv X pins σ H s) : ∀ {ps : List Addr} {ks : List (List Key × Addr × V)}, Paired (fun p q => SqT X.K H p [.ref q.2.1, q.2.2] ∧ H q.2.1 = some (.tup (q.1.map kV))) ps ks →
    ∃ more : List (List Key × Addr × Value), Paired (fun p q => p.1 = q.1 ∧ p.2.1 = q.2.1 ∧ H p.2.1 = some (.tup (p.1.map kV)) ∧ RelV p.2.2 q.2.2) ks more ∧ more.length = ps.length ∧ ∀ (j : Nat) (q : List Key × Addr × Value), more[j]? = some q → ∃ b : Addr, ps[j]? = some b ∧ IsTup s.heap b #[.ref q.2.1, q.2.2] ∧ H q.2.1 = some (.tup (q.1.map kV))
  | _, _, .nil => ⟨[], .nil, rfl, fun j q e => by simp at e⟩
  | _, _, .cons (a := p) (b := kv) h t => by
    obtain ⟨more, r, hl, hp⟩ := pairsT_of I t
    obtain ⟨its, rv, ht, _⟩ := I.tuple h.1
    obtain ⟨u, y, ei, ru, ry⟩ := vals2 rv
    subst ei
    cases (show u = Value.ref kv.2.1 from ru)
    refine ⟨(kv.1, kv.2.1, y) :: more, .cons ⟨rfl, rfl, h.2, ry⟩ r, by rw [List.length_cons, List.length_cons, hl], fun j q e => ?_⟩
    cases j with
    | zero =>
      have e' : (kv.1, kv.2.1, y) = q := Option.some.inj e
      subst e'
      exact ⟨p, rfl, ht, h.2⟩
    | succ j =>
      obtain ⟨b, e1, e2⟩ := hp j q (by simpa using e)
      exact ⟨b, by simpa using e1, e2⟩
/-- dict(xs) of a list of pairs, the keys tuples -/
theorem call_dictT (hcalm : X.calm = true) (hu : X.A.units + 64 < cLine) : CallR X (.type "dict") (fun xs H Q => ∃ (a : Addr) (ps : List Addr) (ks : List (List Key × Addr × V)), xs = [.ref a] ∧ SqL X.K H a (ps.map V.ref) ∧ Paired (fun p q => SqT X.K H p [.ref q.2.1, q.2.2] ∧ H q.2.1 = some (.tup (q.1.map kV))) ps ks ∧
    ∀ p, H p = none → Q (.ref p) (upd H p (.dT (mergeT [] (ks.map fun q => (q.1, q.2.2)))))) := by
  intro pins s σ H xs us Q I r q
  obtain ⟨a, ps, ks, ex, hq, hp, q⟩ := q
  subst ex
  obtain ⟨u, eu, rx⟩ := vals1 r
  subst eu
  cases rx
  obtain ⟨its, rv, pl, hz⟩ := I.list hq
  have ei := refs_at rv
  subst ei
  rw [List.length_map] at hz
  obtain ⟨more, rel, hl, hpr⟩ := pairsT_of I hp
  obtain ⟨o, n, ho, hc, hd, hdat⟩ := pl
  let prs : List (Value × Value) := more.map fun q => (Value.ref q.2.1, q.2.2)
  have hprs : prs.length = ps.length := by rw [List.length_map, hl]
  have PI : PairItems s.heap (ps.map Value.ref).toArray (fun j => ps.getD j 0) prs := by
    refine ⟨by rw [List.size_toArray, List.length_map, hprs], fun j k v e => ?_⟩
    rw [List.getElem?_map] at e
    cases em : more[j]? with
    | none =>
      rw [em] at e
      cases e
    | some m =>
      rw [em] at e
      cases e
      obtain ⟨b, b1, ⟨o2, c1, c2, n2, c4⟩, b3⟩ := hpr j m em
      have gd : ps.getD j 0 = b := by rw [List.getD_eq_getElem?_getD, b1]; rfl
      refine ⟨?_, ?_⟩
      · show (ps.map Value.ref).toArray[j]? = some (.ref (ps.getD j 0))
        rw [gd]
        simp [b1]
      · show PairAt s.heap (ps.getD j 0) _ _
        rw [gd]
        exact .inl ⟨o2, c1, c2, n2, c4⟩
  have lens : prs.length ≤ sizeLine := by rw [hprs]; exact hz
  refine PySem.call_dict_pairsH (knd := tupleKind (mixKind X.prog X.w)) (ps := more) (PairArg.list a _ (fun j => ps.getD j 0) prs) (I.ok.hd hcalm) ?room ⟨⟨o, n, ho, hc, hd, hdat⟩, PI⟩ ⟨by rw [hprs, hl], fun i key v e => ?_⟩ (fun h' hk x hx => ?_) lens fun h' tk hd' k => ?_
  case room =>
    show X.A.in1.in1.units < cLine
    simp [Around.in1]
    omega
  · have e : prs[i]? = some (key, v) := e
    rw [List.getElem?_map] at e
    cases em : more[i]? with
    | none =>
      rw [em] at e
      cases e
    | some m =>
      rw [em] at e
      cases e
      exact ⟨m.1, m.2.1, rfl, rfl⟩
  · obtain ⟨j, hj⟩ := List.mem_iff_getElem?.mp hx
    obtain ⟨b, _, _, b3⟩ := hpr j x hj
    obtain ⟨o3, its3, n3, c1, c2, c3, c4⟩ := key_of I.hok b3
    exact ⟨o3, its3, n3, hk _ _ (Nat.ne_of_lt (Heap.lt_size c1)) (by simp) c1, c2, c3, c4⟩
  · have hm : (s.heap.objs.size == sysModules) = false := beq_eq_false_iff_ne.mpr (Nat.ne_of_gt I.big)
    have kt : KT H (mergeT [] (ks.map fun q => (q.1, q.2.2))) (storedAllH [] more) := KT.merge rel .nil
    have hlen : (mergeT [] (ks.map fun q => (q.1, q.2.2))).length ≤ sizeLine := by
      rw [Paired.length kt]
      have := storedAllH_length more []
      rw [List.length_nil, Nat.zero_add, hl] at this
      exact Nat.le_trans this hz
    obtain ⟨od, es, ep, d1, d2, d3, d4, d5, d6⟩ := hd'
    have kp : ∀ b u, H b = some u → upd H s.heap.objs.size (.dT (mergeT [] (ks.map fun q => (q.1, q.2.2)))) b = some u := fun b u e => by
      rw [upd_ne (ne_of_none e (I.hok.fresh (Nat.le_refl _)))]
      exact e
    refine ⟨.ref s.heap.objs.size, upd H s.heap.objs.size (.dT (mergeT [] (ks.map fun q => (q.1, q.2.2)))), I.laid (t' := tk) (fun b o e => k b o (by simp) e) (Nat.le_refl _) (show ObjOk X.prog X.w _ _ _ (.dT (mergeT [] (ks.map fun q => (q.1, q.2.2)))) from ⟨hlen, hm, storedAllH [] more, ?_, od, es, ep, d1, d2, d3, d4, d6⟩), rfl, q _ (I.hok.fresh (Nat.le_refl _))⟩
    exact kt.keeps fun b ys e => kp b _ e
end
def keyRow : List PyData → Option (List Key)
  | [] => some []
  | d :: ds => match keyOf d with
    | some k => match keyRow ds with
      | some ks => some (k :: ks)
      | none => none
    | none => none
def keysOf : PyData → Option (List Key)
  | .tuple ds => keyRow ds
  | _ => none
def pairsT : List PyData → Option (List (List Key × PyData))
  | [] => some []
  | .tuple [k, v] :: r => match keysOf k with
    | some k' => match pairsT r with
      | some l => some ((k', v) :: l)
      | none => none
    | none => none
  | _ => none
def putL (kvs : List (List Key × PyData)) (k : List Key) (v : PyData) : List (List Key × PyData) :=
  if (kvs.any fun kv => decide (kv.1 = k)) = true then kvs.map (fun kv => if kv.1 = k then (kv.1, v) else kv) else kvs ++ [(k, v)]
def mergeL (kvs more : List (List Key × PyData)) : List (List Key × PyData) := more.foldl (fun acc kv => putL acc kv.1 kv.2) kvs
def dictL (kvs : List (List Key × PyData)) : PyData := .dict (kvs.map fun kv => (tD kv.1, kv.2))
/-- dict(pairs): keys plain, or else tuples of such -/
def gDictA : PyData → Option Slot
  | .list ds => match pairsD ds with
    | some kvs => some (.o (dictD (mergeD [] kvs)))
    | none => match pairsT ds with
      | some kvs => some (.o (dictL (mergeL [] kvs)))
      | none => none
  | _ => none
inductive Pt (F : Hp) : List (List Key × V) → List (List Key × PyData) → Prop
  | nil : Pt F [] []
  | cons {k : List Key} {v : V} {d : PyData} {ps : List (List Key × V)} {l : List (List Key × PyData)} : Rp F v d → Pt F ps l → Pt F ((k, v) :: ps) ((k, d) :: l)
theorem Pt.any {F : Hp} {k : List Key} : ∀ {ps : List (List Key × V)} {l : List (List Key × PyData)}, Pt F ps l → (ps.any fun kv => decide (kv.1 = k)) = l.any fun kv => decide (kv.1 = k)
  | _, _, .nil => rfl
  | _, _, .cons r t => by rw [List.any_cons, List.any_cons, Pt.any t]
theorem Pt.set {F : Hp} {k : List Key} {v : V} {d : PyData} (r : Rp F v d) : ∀ {ps : List (List Key × V)} {l : List (List Key × PyData)}, Pt F ps l → Pt F (ps.map fun kv => if kv.1 = k then (kv.1, v) else kv) (l.map fun kv => if kv.1 = k then (kv.1, d) else kv)
  | _, _, .nil => .nil
  | _, _, .cons (k := k') r' t => by
    rw [List.map_cons, List.map_cons]
    by_cases h : k' = k
    · rw [if_pos h, if_pos h]
      exact .cons r (Pt.set r t)
    · rw [if_neg h, if_neg h]
      exact .cons r' (Pt.set r t)
theorem Pt.snoc {F : Hp} {k : List Key} {v : V} {d : PyData} (r : Rp F v d) : ∀ {ps : List (List Key × V)} {l : List (List Key × PyData)}, Pt F ps l → Pt F (ps ++ [(k, v)]) (l ++ [(k, d)])
  | _, _, .nil => .cons r .nil
  | _, _, .cons r' t => .cons r' (Pt.snoc r t)
theorem Pt.put {F : Hp} {k : List Key} {v : V} {d : PyData} (r : Rp F v d) {ps : List (List Key × V)} {l : List (List Key × PyData)} (h : Pt F ps l) : Pt F (putK ps k v) (putL l k d) := by
  unfold putK putL
  rw [h.any]
  split
  · exact h.set r
  · exact h.snoc r
theorem Pt.merge {F : Hp} : ∀ {ps qs : List (List Key × V)} {l m : List (List Key × PyData)}, Pt F qs m → Pt F ps l → Pt F (mergeT ps qs) (mergeL l m)
  | _, _, _, _, .nil, h => h
  | _, _, _, _, .cons r t, h => by
    unfold mergeT mergeL
    rw [List.foldl_cons, List.foldl_cons]
    exact Pt.merge t (h.put r)
section
variable {X : Cx}
end
end Pd
end
set_option linter.all false
set_option maxRecDepth 100000
set_option maxHeartbeats 4000000
noncomputable section
namespace Pd
open PySem PySem.Spec PyProof.Rows L2
section
variable {X : Cx}
variable {K : PySem.W.Frag} {mi : S → R (List PyData)} {g : PyData → S → Option S} {t : S → R Bool} {mk me : S → R PyData} {vs : List Nat}
variable {kx vx tg iter : Expr} {ifs : List Expr} {scope : Scope} {own : List (Str × Nat)} {pos : Pos}
end
end Pd
end
set_option linter.all false
set_option maxRecDepth 100000
set_option maxHeartbeats 4000000
noncomputable section
namespace Pd
open PySem PySem.Spec PyProof.Rows L2
mutual
def flatD : PyData → Bool
  | .tuple ds => flatL ds
  | .list _ => false
  | .dict _ => false
  | _ => true
def flatL : List PyData → Bool
  | [] => true
  | d :: ds => flatD d && flatL ds
end
mutual
theorem Rp.flat {F G : Hp} (s : ∀ a xs, F a = some (.tup xs) → G a = some (.tup xs)) : ∀ {d : PyData} {v : V}, flatD d = true → Rp F v d → Rp G v d
  | .none, _, _, h => by cases h; exact .non
  | .bool _, _, _, h => by cases h; exact .bl _
  | .int _, _, _, h => by cases h; exact .int _
  | .str _, _, _, h => by cases h; exact .str _
  | .list _, _, f, h => by cases f
  | .dict _, _, f, h => by cases f
  | .tuple ds, _, f, h => by
    cases h with
    | tup e r => exact .tup (s _ _ e) (RpL.flat s (show flatL ds = true from f) r)
theorem RpL.flat {F G : Hp} (s : ∀ a xs, F a = some (.tup xs) → G a = some (.tup xs)) : ∀ {ds : List PyData} {vs : List V}, flatL ds = true → RpL F vs ds → RpL G vs ds
  | [], _, _, h => by cases h; exact .nil
  | d :: ds, _, f, h => by
    have f : (flatD d && flatL ds) = true := f
    rw [Bool.and_eq_true] at f
    cases h with
    | cons a b => exact .cons (Rp.flat s f.1 a) (RpL.flat s f.2 b)
end
section
variable {K : PySem.W.Frag} {X : Cx} {e : Expr} {es : List Expr} {mf : S → R PyData} {ms : S → R (List Opd)}
/-- what is borrowed -/
def lentA (σ : L2.St) (xs : List Opd) (a : Addr) : Prop := ∃ i d, Opd.s i d ∈ xs ∧ σ[i]? = some (some (V.ref a))
variable {x : Str} {k n : Nat} {g : GFn} {p pos : Pos}
end
section
variable {K : PySem.W.Frag} {X : Cx} {e : Expr} {me : S → R Slot}
end
end Pd
end
set_option linter.all false
set_option maxRecDepth 100000
set_option maxHeartbeats 4000000
noncomputable section
namespace Pd
open PySem PySem.Spec PyProof.Rows L2 PySem.SeqAt
section
variable {X : Cx}
variable {o e : Expr} {i : Nat} {ma : S → R (List PyData)} {apos cpos : Pos}
end
end Pd
end
set_option linter.all false
set_option maxRecDepth 100000
set_option maxHeartbeats 4000000
noncomputable section
namespace Pd
open PySem PySem.Spec PyProof.Rows L2
/-- what an object shows itself by -/
inductive Parts (P : Program) (w : World) (h : Heap) (a : Addr) : PyData → Prop
  | nil {o : Obj} {n : Nat} (ho : h.get? a = some o) (hc : o.cls = .type "list") (hd : o.data = .seq #[] n) : Parts P w h a (.list [])
  | lst {o : Obj} {x : Value} {l : List Value} {n : Nat} {xs : List PyData} {bs : List Addr} (ho : h.get? a = some o) (hc : o.cls = .type "list") (hd : o.data = .seq (x :: l).toArray n)
      (hb : ReadAtMost h (PyData.depthAll xs) bs) (hna : a ∉ bs) (hk : ReprAllK P w bs h (PyData.depthAll xs) (x :: l) (PyData.shownAll xs)) : Parts P w h a (.list xs)
  | tup {o : Obj} {items : Array Value} {n : Nat} {xs : List PyData} {bs : List Addr} (ho : h.get? a = some o) (hc : o.cls = .type "tuple") (hd : o.data = .seq items n)
      (hb : ReadAtMost h (PyData.depthAll xs) bs) (hna : a ∉ bs) (hk : ReprAllK P w bs h (PyData.depthAll xs) items.toList (PyData.shownAll xs)) : Parts P w h a (.tuple xs)
  | dct {o : Obj} {es : Array DictEntry} {n : Nat} {kvs : List (PyData × PyData)} {bs : List Addr} (ho : h.get? a = some o) (hc : o.cls = .type "dict") (hd : o.data = .dict es n) (hsys : (a == sysModules) = false)
      (hb : ReadAtMost h (PyData.depthKv kvs) bs) (hna : a ∉ bs) (hE : ReprEntriesK P w bs h (PyData.depthKv kvs) es.toList (PyData.shownKv kvs)) : Parts P w h a (.dict kvs)
def RK (P : Program) (w : World) (h : Heap) (u : Value) (d : PyData) : Prop := ∃ bs, ReadAtMost h d.depth bs ∧ ReprK P w bs h d.depth u d.shown
def RKL (P : Program) (w : World) (h : Heap) (us : List Value) (ds : List PyData) : Prop := ∃ bs, ReadAtMost h (PyData.depthAll ds) bs ∧ ReprAllK P w bs h (PyData.depthAll ds) us (PyData.shownAll ds)
section
variable {P : Program} {w : World} {h : Heap} {a : Addr} {d : PyData} {as : List Addr}
theorem Parts.rk (p : Parts P w h a d) (r : Reads h (.ref a) d as) : RK P w h (.ref a) d := by
  cases p with
  | nil ho hc hd => exact ⟨[], (fun _ h => nomatch h), by simp only [PyData.shown, PyData.shownAll, listText_nil]; exact ReprK.listEmpty ho hc hd⟩
  | lst ho hc hd hb hna hk =>
    refine ⟨_, ReadAtMost.cons r (by simp only [PyData.depth]; omega) hb, ?_⟩
    simp only [PyData.depth, PyData.shown]
    exact ReprK.list ho hc hd hna (by simpa using hk.length_eq) (fun i y e => hk.item i y (by simpa using e))
  | tup ho hc hd hb hna hk =>
    refine ⟨_, ReadAtMost.cons r (by simp only [PyData.depth]; omega) hb, ?_⟩
    simp only [PyData.depth, PyData.shown]
    exact ReprK.tuple ho hc hd hna hk
  | dct ho hc hd hsys hb hna hE =>
    refine ⟨_, ReadAtMost.cons r (by simp only [PyData.depth]; omega) hb, ?_⟩
    simp only [PyData.depth, PyData.shown]
    exact ReprK.dict ho hc hd hsys hna hE
theorem Parts.call (p : Parts P w h a d) {A : Around} {E : Value → Shared → Prop} {s : Shared} {Q : Value → Shared → Prop} (hg : A.guards = some []) (hu : A.units + (d.depth + 1) < cLine) (hk0 : ∀ b o, h.get? b = some o → s.heap.get? b = some o)
    (hQ : ∀ h' u tk, (∀ b o, s.heap.get? b = some o → h'.get? b = some o) → Q (.str d.shown u) { s with heap := h', toks := tk }) (hz : d.shown.length ≤ sizeLine) : wpAny (model P w) A (call (.builtin "repr") [.ref a]) Q E s := by
  have hg' : A.in1.guards = some [] := hg
  cases p with
  | @nil o n ho hc hd =>
    simp only [PyData.shown, PyData.shownAll, listText_nil] at hQ
    exact call_repr_slot (by omega) ⟨o, hk0 _ _ ho, hc⟩ F.slot_list_repr.toG (call_list_repr_empty ⟨o, hk0 _ _ ho, hc⟩ (hk0 _ _ ho) hd ⟨_, _, rfl, hQ s.heap _ _ fun _ _ e => e⟩)
  | @lst o x l n xs bs ho hc hd hb hna hk =>
    simp only [PyData.shown] at hQ hz
    simp only [PyData.depth] at hu
    exact call_repr_slot (by omega) ⟨o, hk0 _ _ ho, hc⟩ F.slot_list_repr.toG (call_list_reprK ho hc hd hna (by simpa using hk.length_eq) (fun i y e => hk.item i y (by simpa using e)) hg' (fun b _ => Clear.nil b) (by show A.units + 1 + _ < cLine; omega) hk0 (fun h' u tk hk => ⟨_, _, rfl, hQ h' u tk hk⟩) hz)
  | @tup o items n xs bs ho hc hd hb hna hk =>
    simp only [PyData.shown] at hQ hz
    simp only [PyData.depth] at hu
    exact call_repr_slot (by omega) ⟨o, hk0 _ _ ho, hc⟩ F.slot_tuple_repr (call_tuple_reprK ho hc hd hna hk hg' (fun b _ => Clear.nil b) (by show A.units + 1 + _ < cLine; omega) hk0 (fun h' u tk hk => ⟨_, _, rfl, hQ h' u tk hk⟩) hz)
  | @dct o es n kvs bs ho hc hd hsys hb hna hE =>
    simp only [PyData.shown] at hQ hz
    simp only [PyData.depth] at hu
    exact call_repr_slot (by omega) ⟨o, hk0 _ _ ho, hc⟩ F.slot_dict_repr (call_dict_reprK ho hc hd hsys hna hE hg' (fun b _ => Clear.nil b) (by show A.units + 1 + _ < cLine; omega) hk0 (fun h' u tk hk => ⟨_, _, rfl, hQ h' u tk hk⟩) hz)
end
section
variable {X : Cx} {pins : List (Addr × Obj)} {σ : L2.St} {H F : Hp} {s : Shared}
theorem two_kv {h : Heap} {kvs : List (PyData × PyData)} {es : Array DictEntry} {a : Addr} {as : List Addr} (hk : ReadsAll h (es.toList.map (·.key)) (kvs.map (·.1)) []) (r : Reads h (.ref a) (.dict kvs) as) (hs : PyData.showableKv kvs = true) (hz : (dictText (PyData.shownKv kvs)).length ≤ sizeLine)
    (k2 : PyData.showableAll (kvs.map (·.2)) = true → (∀ t ∈ PyData.shownAll (kvs.map (·.2)), t.length ≤ sizeLine) → RKL X.prog X.w h (es.toList.map (·.val)) (kvs.map (·.2))) :
    ∃ bs, ReadAtMost h (PyData.depthKv kvs) bs ∧ a ∉ bs ∧ ReprEntriesK X.prog X.w bs h (PyData.depthKv kvs) es.toList (PyData.shownKv kvs) := by
  obtain ⟨s1, s2⟩ := PyData.showableKv_split kvs hs
  obtain ⟨b1, r1, p1⟩ := ReprAllK.of_readsAll (prog := X.prog) (w := X.w) hk s1 (fun _ => by simp) (fun t ht => let ⟨p, hp, hl⟩ := PyData.shownKv_key_le kvs t ht; Nat.le_trans hl (Nat.le_trans (dictText_mem_le hp) hz))
  obtain ⟨b2, r2, p2⟩ := k2 s2 fun t ht => let ⟨p, hp, hl⟩ := PyData.shownKv_val_le kvs t ht; Nat.le_trans hl (Nat.le_trans (dictText_mem_le hp) hz)
  have hb : ReadAtMost h (PyData.depthKv kvs) (b1 ++ b2) := (r1.mono (PyData.depthAll_keys_le kvs)).append (r2.mono (PyData.depthAll_vals_le kvs))
  refine ⟨b1 ++ b2, hb, not_mem_of_deeper r (by simp only [PyData.depth]; omega) hb, ?_⟩
  rw [PyData.shownKv_eq]
  exact ReprEntriesK.of_two es.toList _ _ (p1.more_le (fun b hb => List.mem_append_left _ hb) (PyData.depthAll_keys_le kvs)) (p2.more_le (fun b hb => List.mem_append_right _ hb) (PyData.depthAll_vals_le kvs))
theorem OR.parts (I : Inv X pins σ H s) {a : Addr} {o : HO} {d : PyData} {as : List Addr} (e : H a = some o) (r : OR F o d) (rd : Reads s.heap (.ref a) d as) (hs : d.showable = true) (hz : d.shown.length ≤ sizeLine)
    (all : ∀ (ds : List PyData) (vs : List V) (us : List Value), (∀ d' ∈ ds, sizeOf d' < sizeOf d) → RpL F vs ds → Vals vs us → PyData.showableAll ds = true → (∀ t ∈ PyData.shownAll ds, t.length ≤ sizeLine) → RKL X.prog X.w s.heap us ds) :
    Parts X.prog X.w s.heap a d := by
  cases r with
  | @lst xs ds q =>
    obtain ⟨its, rv, ⟨o, n, ho, hc, _, hd⟩, _⟩ := I.list (.inl (.inl e))
    have hz' : (listText (PyData.shownAll ds)).length ≤ sizeLine := by simpa only [PyData.shown] using hz
    obtain ⟨bs, hb, hk⟩ := all ds _ its (fun d' m => by
      have := List.sizeOf_lt_of_mem m
      simp only [PyData.list.sizeOf_spec]
      omega) q rv (by simpa [PyData.showable] using hs) (fun t ht => Nat.le_trans (listText_mem_le ht) hz')
    have hna : a ∉ bs := not_mem_of_deeper rd (by simp only [PyData.depth]; omega) hb
    cases its with
    | nil =>
      cases rv
      cases q
      exact .nil ho hc hd
    | cons x l => exact .lst ho hc hd hb hna hk
  | @dK ps kvs q =>
    obtain ⟨_, hm, vs, r1, o, es, ep, ho, hx, hd, _, hp, _⟩ := (show ObjOk X.prog X.w H s.heap a (.dK ps) from I.hok a _ e)
    have hv : Vals (ps.map (·.2)) (es.toList.map (·.val)) := by
      rw [pairs_vals hp]
      exact kv_vals r1
    have hk : ReadsAll s.heap (es.toList.map (·.key)) (kvs.map (·.1)) [] := by
      rw [q.keys]
      have := keys_read (X := X) (s := s) (fun _ _ => rfl) hp
      rw [show vs.map (fun p => kD p.1) = (vs.map (·.1)).map kD by rw [List.map_map]; rfl, ← kv_keys r1, List.map_map] at this
      exact this
    obtain ⟨bs, hb, hna, hE⟩ := two_kv (X := X) hk rd (by simpa [PyData.showable] using hs) (by simpa only [PyData.shown] using hz) fun s2 z2 => all (kvs.map (·.2)) _ _ (fun d' m => by
      obtain ⟨p, hp, rfl⟩ := List.mem_map.mp m
      have h1 := List.sizeOf_lt_of_mem hp
      obtain ⟨p1, p2⟩ := p
      simp only [PyData.dict.sizeOf_spec, Prod.mk.sizeOf_spec] at *
      omega) q.valsL hv s2 z2
    exact .dct ho hx.1 hd hm hb hna hE
  | @dT ps kvs q =>
    obtain ⟨_, hm, xs, r1, o, es, ep, ho, hx, hd, he, _⟩ := (show ObjOk X.prog X.w H s.heap a (.dT ps) from I.hok a _ e)
    have hv : Vals (ps.map (·.2)) (es.toList.map (·.val)) := by
      rw [he, List.map_map]
      exact kt_vals r1
    have hk : ReadsAll s.heap (es.toList.map (·.key)) (kvs.map (·.1)) [] := by
      rw [q.keys, he, List.map_map]
      exact tkeys_read I r1
    obtain ⟨bs, hb, hna, hE⟩ := two_kv (X := X) hk rd (by simpa [PyData.showable] using hs) (by simpa only [PyData.shown] using hz) fun s2 z2 => all (kvs.map (·.2)) _ _ (fun d' m => by
      obtain ⟨p, hp, rfl⟩ := List.mem_map.mp m
      have h1 := List.sizeOf_lt_of_mem hp
      obtain ⟨p1, p2⟩ := p
      simp only [PyData.dict.sizeOf_spec, Prod.mk.sizeOf_spec] at *
      omega) q.valsL hv s2 z2
    exact .dct ho hx.1 hd hm hb hna hE
theorem RKL.all {P : Program} {w : World} {h : Heap} {S : PyData → Value → V → Prop} (one : ∀ d v u, S d u v → d.showable = true → d.shown.length ≤ sizeLine → RK P w h u d) : ∀ {ds : List PyData} {us : List Value} {vs : List V}, us.length = ds.length → vs.length = ds.length → (∀ (i : Nat) (d : PyData) (u : Value) (v : V), ds[i]? = some d → us[i]? = some u → vs[i]? = some v → S d u v) → PyData.showableAll ds = true → (∀ t ∈ PyData.shownAll ds, t.length ≤ sizeLine) → RKL P w h us ds
  | [], us, vs, h1, h2, _, _, _ => by
    have : us = [] := List.eq_nil_of_length_eq_zero h1
    subst this
    exact ⟨[], (fun _ h => nomatch h), by simp only [PyData.shownAll]; exact .nil⟩
  | d :: ds, [], _, h1, _, _, _, _ => by simp at h1
  | d :: ds, u :: us, [], _, h2, _, _, _ => by simp at h2
  | d :: ds, u :: us, v :: vs, h1, h2, hS, hs, hz => by
    have hs' : d.showable = true ∧ PyData.showableAll ds = true := by simpa [PyData.showableAll] using hs
    obtain ⟨b1, r1, k1⟩ := one d v u (hS 0 d u v rfl rfl rfl) hs'.1 (hz _ (by simp only [PyData.shownAll]; exact List.mem_cons_self))
    obtain ⟨b2, r2, k2⟩ := RKL.all one (ds := ds) (us := us) (vs := vs) (by simpa using h1) (by simpa using h2) (fun i d' u' v' e1 e2 e3 => hS (i + 1) d' u' v' e1 e2 e3) hs'.2 (fun t ht => hz t (by simp only [PyData.shownAll]; exact List.mem_cons_of_mem _ ht))
    refine ⟨b1 ++ b2, ?_, ?_⟩
    · simp only [PyData.depthAll]
      exact (r1.mono (Nat.le_max_left _ _)).append (r2.mono (Nat.le_max_right _ _))
    · simp only [PyData.depthAll, PyData.shownAll]
      exact .cons ((k1.more fun b hb => List.mem_append_left _ hb).level_le (Nat.le_max_left _ _)) (k2.more_le (fun b hb => List.mem_append_right _ hb) (Nat.le_max_right _ _))
theorem rkl_of {P : Program} {w : World} {h : Heap} {n : Nat} (one : ∀ d v u, sizeOf d < n → Rp F v d → RelV v u → d.showable = true → d.shown.length ≤ sizeLine → RK P w h u d) : ∀ {ds : List PyData} {vs : List V} {us : List Value}, (∀ d' ∈ ds, sizeOf d' < n) → RpL F vs ds → Vals vs us → PyData.showableAll ds = true → (∀ t ∈ PyData.shownAll ds, t.length ≤ sizeLine) → RKL P w h us ds := by
  intro ds
  induction ds with
  | nil =>
    intro vs us _ a b _ _
    cases a
    cases b
    exact ⟨[], (fun _ h => nomatch h), by simp only [PyData.shownAll]; exact .nil⟩
  | cons d ds ih =>
    intro vs us hn a b hs hz
    cases a with
    | cons a1 a2 =>
      cases b with
      | cons q1 q2 =>
        have hs' : d.showable = true ∧ PyData.showableAll ds = true := by simpa [PyData.showableAll] using hs
        obtain ⟨b1, r1, k1⟩ := one d _ _ (hn d List.mem_cons_self) a1 q1 hs'.1 (hz _ (by simp only [PyData.shownAll]; exact List.mem_cons_self))
        obtain ⟨b2, r2, k2⟩ := ih (fun d' m => hn d' (List.mem_cons_of_mem _ m)) a2 q2 hs'.2 (fun t ht => hz t (by simp only [PyData.shownAll]; exact List.mem_cons_of_mem _ ht))
        refine ⟨b1 ++ b2, ?_, ?_⟩
        · simp only [PyData.depthAll]
          exact (r1.mono (Nat.le_max_left _ _)).append (r2.mono (Nat.le_max_right _ _))
        · simp only [PyData.depthAll, PyData.shownAll]
          exact .cons ((k1.more fun b hb => List.mem_append_left _ hb).level_le (Nat.le_max_left _ _)) (k2.more_le (fun b hb => List.mem_append_right _ hb) (Nat.le_max_right _ _))
theorem Rp.rk (I : Inv X pins σ H s) (sb : Sub F H) : ∀ (n : Nat) (d : PyData) (v : V) (u : Value), sizeOf d < n → Rp F v d → RelV v u → d.showable = true → d.shown.length ≤ sizeLine → RK X.prog X.w s.heap u d
  | 0, _, _, _, hn, _, _, _, _ => absurd hn (by omega)
  | n + 1, d, v, u, hn, h, r, hs, hz => by
    have all : ∀ (ds : List PyData) (vs : List V) (us : List Value), (∀ d' ∈ ds, sizeOf d' < sizeOf d) → RpL F vs ds → Vals vs us → PyData.showableAll ds = true → (∀ t ∈ PyData.shownAll ds, t.length ≤ sizeLine) → RKL X.prog X.w s.heap us ds := fun ds vs us hs' a b c z =>
      rkl_of (n := n) (fun d v u k1 k2 k3 k4 k5 => Rp.rk I sb n d v u k1 k2 k3 k4 k5) (fun d' m => by have := hs' d' m; omega) a b c z
    obtain ⟨as, rd, _⟩ := h.readsN I sb _ d v u (Nat.lt_succ_self _) r
    cases h with
    | non =>
      cases r
      exact ⟨[], (fun _ h => nomatch h), by simp only [PyData.shown]; exact .of_is ReprIs.none _ _ _⟩
    | bl b =>
      cases r
      exact ⟨[], (fun _ h => nomatch h), by simp only [PyData.shown]; exact .of_is (ReprIs.bool b) _ _ _⟩
    | int i =>
      obtain ⟨t, rfl⟩ := r
      exact ⟨[], (fun _ h => nomatch h), by simp only [PyData.shown]; exact .of_is (ReprIs.int t (by simpa [PyData.showable] using hs)) _ _ _⟩
    | str x =>
      obtain ⟨t, rfl⟩ := r
      exact ⟨[], (fun _ h => nomatch h), by simp only [PyData.shown]; exact .of_is (ReprIs.str x t (by simpa only [PyData.shown] using hz)) _ _ _⟩
    | @tup a xs ds e ha =>
      cases r
      obtain ⟨its, rv, ⟨o, ho, hc, n', hd⟩, _⟩ := I.tuple (.inl (.inl (sb _ _ e)))
      have hz' : (tupleText (PyData.shownAll ds)).length ≤ sizeLine := by simpa only [PyData.shown] using hz
      obtain ⟨bs, hb, hk⟩ := all ds _ its (fun d' m => by
        have := List.sizeOf_lt_of_mem m
        simp only [PyData.tuple.sizeOf_spec]
        omega) ha rv (by simpa [PyData.showable] using hs) (fun t ht => Nat.le_trans (tupleText_mem_le ht) hz')
      have hna : a ∉ bs := not_mem_of_deeper rd (by simp only [PyData.depth]; omega) hb
      exact (Parts.tup ho hc hd hb hna hk).rk rd
    | @lst a xs ds e ha =>
      cases r
      exact (OR.parts I (sb _ _ e) (.lst ha) rd hs hz all).rk rd
    | @dK a ps kvs e ha =>
      cases r
      exact (OR.parts I (sb _ _ e) (.dK ha) rd hs hz all).rk rd
    | @dT a ps kvs e ha =>
      cases r
      exact (OR.parts I (sb _ _ e) (.dT ha) rd hs hz all).rk rd
theorem RdD.parts (I : Inv X pins σ H s) (sb : Sub F H) {d : PyData} {a : Addr} (h : RdD F H (.ref a) d) (hs : d.showable = true) (hz : d.shown.length ≤ sizeLine) : Parts X.prog X.w s.heap a d := by
  obtain ⟨as, rd, _⟩ := h.readsZ I sb (u := .ref a) rfl
  have all : ∀ (ds : List PyData) (vs : List V) (us : List Value), RpL F vs ds → Vals vs us → PyData.showableAll ds = true → (∀ t ∈ PyData.shownAll ds, t.length ≤ sizeLine) → RKL X.prog X.w s.heap us ds := fun ds vs us a b c z =>
    rkl_of (n := sizeOf ds) (fun d v u k1 k2 k3 k4 k5 => Rp.rk I sb _ d v u k1 k2 k3 k4 k5) (fun d' m => List.sizeOf_lt_of_mem m) a b c z
  rcases h with h | ⟨a, o, e', h1, h2⟩
  · cases h with
    | @tup _ xs ds e ha =>
      obtain ⟨its, rv, ⟨o, ho, hc, n', hd⟩, _⟩ := I.tuple (.inl (.inl (sb _ _ e)))
      have hz' : (tupleText (PyData.shownAll ds)).length ≤ sizeLine := by simpa only [PyData.shown] using hz
      obtain ⟨bs, hb, hk⟩ := all ds _ its ha rv (by simpa [PyData.showable] using hs) (fun t ht => Nat.le_trans (tupleText_mem_le ht) hz')
      have hna : a ∉ bs := not_mem_of_deeper rd (by simp only [PyData.depth]; omega) hb
      exact .tup ho hc hd hb hna hk
    | @lst _ xs ds e ha => exact OR.parts I (sb _ _ e) (.lst ha) rd hs hz fun ds vs us _ => all ds vs us
    | @dK _ ps kvs e ha => exact OR.parts I (sb _ _ e) (.dK ha) rd hs hz fun ds vs us _ => all ds vs us
    | @dT _ ps kvs e ha => exact OR.parts I (sb _ _ e) (.dT ha) rd hs hz fun ds vs us _ => all ds vs us
  · cases e'
    exact OR.parts I h1 h2 rd hs hz fun ds vs us _ => all ds vs us
end
def reprOkZ (d : PyData) : Bool := d.showable && decide (d.depth ≤ 60) && okLen d.shown.length
section
variable {X : Cx}
end
end Pd
end
set_option linter.all false
set_option maxRecDepth 100000
noncomputable section
namespace Pd
open PySem PySem.Spec PyProof.Rows L2 PySem.SeqAt
end Pd
end
set_option linter.all false
set_option maxRecDepth 100000
set_option maxHeartbeats 4000000
noncomputable section
namespace Pd
open PySem PySem.Spec PyProof.Rows L2
/-- a turn of a comprehension: tl is what is done behind the tests -/
def TurnW (M : Model) (A : Around) (env : Env) (E : Value → Shared → Prop) (stop : Shared → Prop) (tg : Expr) (ifs : List Expr) (it : Value) (tl : (Shared → Prop) → Shared → Prop) (P : Shared → Prop) (s : Shared) : Prop :=
  wpAny M A (pyNext it) (fun r s1 => match r with
    | none => stop s1
    | some v => wpAny M A (letOwnedTupleGo tg it v) (fun _ s2 => wpAny M A (assign tg env v) (fun _ s3 =>
        wpAny M A (forIn ifs true fun c r => if r = true then do let ok ← isTrue c env (eval c env); pure (ForInStep.yield ok) else pure (ForInStep.yield r)) (fun ok s4 =>
          if ok = true then tl P s4 else P s4) E s3) E s2) E s1) E s
/-- gathered in a new object at D: ini is the object at first, ad what is known of a turn's last step -/
def tGa (ini : Addr → HO) (ad : Addr → L2.St → Hp → (Hp → Prop) → Prop) (wi : TI) (g : TG) (tt : TT) (vs : List Nat) : TE := fun σ H Q => wi σ H fun J H1 => ∀ D, H1 D = none →
  ∃ W : Nat → Nat → Hp → Prop, (∃ m, W 0 m (upd H1 D (ini D))) ∧ ∀ i m H2, W i m H2 → (J.stop i H2 ∧ Q (.ref D) H2) ∨
    (J.go i H2 ∧ ∃ Nx : Hp → Prop, (∀ H3, Nx H3 → ∃ m', m' < m ∧ W (i + 1) m' H3) ∧ ∀ x H3, J.yld i H2 x H3 → g x (wipe σ vs) H3 fun σ4 H4 => wipe σ4 vs = wipe σ vs ∧ tt σ4 H4 fun b H5 => if b = true then ad D σ4 H5 Nx else Nx H5)
section
variable {X : Cx} {pins : List (Addr × Obj)} {s : Shared} {σ : L2.St} {H : Hp} {Q : VK} {e tg iter : Expr} {ifs : List Expr} {scope : Scope} {own : List (PySem.Str × Nat)} {pos' : Pos}
  {wi : TI} {g : TG} {tt : TT} {use : Option (Value → Sem Unit)} {Qf : Value → Shared → Prop} {mk : Sem Value} {ini : Addr → HO} {ad : Addr → L2.St → Hp → (Hp → Prop) → Prop} {o0 : Obj} {tl : Env → (Value → Shared → Prop) → Addr → (Shared → Prop) → Shared → Prop}
end
end Pd
end
set_option linter.all false
set_option maxRecDepth 100000
set_option maxHeartbeats 4000000
noncomputable section
namespace Pd
open PySem PySem.Spec PyProof.Rows L2
section
variable {X : Cx} {pins : List (Addr × Obj)} {σ : L2.St} {H : Hp} {s : Shared}
/-- found.add(i) -/
theorem setIO_add {A : Around} {E : Value → Shared → Prop} {D : Addr} {S : Int → Bool} {n : Nat} {i : Int} {u : Value} {Q : Value → Shared → Prop} (I : Inv X pins σ H s) (hD : H D = some (SetO X.w D S n)) (room : n + 1 < scanBound) (r : RelV (.int i) u)
    (h : ∀ v t, Inv X pins σ (upd H D (SetO X.w D (fun j => S j || decide (j = i)) (if S i = true then n else n + 1))) t → Q v t) : wpAny (model X.prog X.w) A (call (.builtin "set.add") [.ref D, u]) Q E s := by
  obtain ⟨k, rfl⟩ := r
  refine setR_add (setO_get I hD) room fun h' sb R => h _ _ ?_
  obtain ⟨o, _, _, _, ho, _⟩ := id R
  exact I.write (e := D) (t' := s.toks + 1) (by rw [hD]; trivial) (.inl rfl) (fun b z hb hz => (sb.2 b hb).trans hz) ⟨o, ho⟩ (setO_new R)
end
/-- a turn's last step: the element is an int -/
def adS (w : World) (te : TE) : Addr → L2.St → Hp → (Hp → Prop) → Prop := fun D σ H Nx => te σ H fun y H1 => ∃ i S n, y = .int i ∧ H1 D = some (SetO w D S n) ∧ n + 1 < scanBound ∧ Nx (upd H1 D (SetO w D (fun j => S j || decide (j = i)) (if S i = true then n else n + 1)))
section
variable {X : Cx} {elt tg iter : Expr} {ifs : List Expr} {scope : Scope} {own : List (PySem.Str × Nat)} {pos : Pos} {wi : TI} {g : TG} {tt : TT} {te : TE}
end
section
variable {K : PySem.W.Frag} {w : World}
structure LsI (K : PySem.W.Frag) (w : World) (B : Hp) (σw : L2.St) (sa1 : Sa) (F1 : Hp) (st1 : S) (D : Addr) (H : Hp) (sa : Sa) (F : Hp) (st : S) (acc : List Int) : Prop where
  r : SR K sa (upd B D (SetO w D (fun j => decide (j ∈ acc)) acc.length)) F H σw st
  x : FX B F1 F
  n : F D = none
  k : SaK st1 sa1 sa
  s : st1.src.isSome = true → st.src.isSome = true
variable {B : Hp} {σ' σw : L2.St} {sa sa1 : Sa} {F F1 H : Hp} {st st1 : S} {D : Addr} {acc : List Int}
theorem LsI.at (h : LsI K w B σw sa1 F1 st1 D H sa F st acc) : H D = some (SetO w D (fun j => decide (j ∈ acc)) acc.length) := h.r.bh _ _ upd_same
theorem LsI.go (hb : B D = none) (h : LsI K w B σw sa1 F1 st1 D H sa F st acc) {sa2 : Sa} {F2 H2 : Hp} {st2 : S} (R : Rch K (upd B D (SetO w D (fun j => decide (j ∈ acc)) acc.length)) σ' sa F st sa2 F2 H2 st2) : LsI K w B σ' sa1 F1 st1 D H2 sa2 F2 st2 acc :=
  ⟨R.r, h.x.trans (R.x.weak (Sub.new hb)), R.x.at h.n R.r.bh R.r.fh (fun xs z => nomatch z), fun z => (R.k (h.s z)).trans (h.k z), fun z => R.s (h.s z)⟩
theorem LsI.wip (vs : List Nat) (h : LsI K w B σ' sa1 F1 st1 D H sa F st acc) : LsI K w B (wipe σ' vs) sa1 F1 st1 D H sa F (st.wipe vs) acc := ⟨h.r.wipes vs, h.x, h.n, h.k, h.s⟩
theorem LsI.more (h : LsI K w B σ' sa1 F1 st1 D H sa F st acc) (i : Int) : LsI K w B σ' sa1 F1 st1 D (upd H D (SetO w D (fun j => decide (j ∈ acc) || decide (j = i)) (if decide (i ∈ acc) = true then acc.length else acc.length + 1))) sa F st (if i ∈ acc then acc else acc ++ [i]) := by
  have e : SetO w D (fun j => decide (j ∈ acc) || decide (j = i)) (if decide (i ∈ acc) = true then acc.length else acc.length + 1) = SetO w D (fun j => decide (j ∈ if i ∈ acc then acc else acc ++ [i])) (if i ∈ acc then acc else acc ++ [i]).length := by
    by_cases q : i ∈ acc
    · rw [if_pos (decide_eq_true q), if_pos q]
      congr 1
      funext j
      rw [Bool.eq_iff_iff]
      simp only [Bool.or_eq_true, decide_eq_true_eq]
      exact ⟨fun z => z.elim id fun z => z ▸ q, .inl⟩
    · rw [if_neg (by rw [decide_eq_true_eq]; exact q), if_neg q, List.length_append, List.length_singleton]
      congr 1
      funext j
      rw [Bool.eq_iff_iff]
      simp only [Bool.or_eq_true, decide_eq_true_eq, List.mem_append, List.mem_singleton]
  rw [e]
  exact ⟨h.r.bump h.n, h.x, h.n, h.k, h.s⟩
theorem LsI.start {H1 : Hp} (vs : List Nat) (h : SR K sa1 B F1 H1 σ' st1) (hD : H1 D = none) : LsI K w B (wipe σ' vs) sa1 F1 st1 D (upd H1 D (SetO w D (fun _ => false) 0)) sa1 F1 (st1.wipe vs) [] := by
  have S1 := h.wipes vs
  obtain ⟨n1, n2⟩ := S1.news hD
  have e : SetO w D (fun _ => false) 0 = SetO w D (fun j => decide (j ∈ ([] : List Int))) ([] : List Int).length := by
    congr 1
  rw [e]
  exact ⟨(S1.alloc hD).prot upd_same (h.bh.none_of hD) n1 n2, FX.refl, h.fh.none_of hD, fun _ => rfl, fun z => z⟩
end
/-- len, sorted of it -/
def rFin (w : World) (fin : List Int → Option Slot) : List V → Hp → VK → Prop := fun vs H Q => ∃ (D : Addr) (acc : List Int) (sl : Slot), vs = [.ref D] ∧ H D = some (SetO w D (fun j => decide (j ∈ acc)) acc.length) ∧ acc.Nodup ∧ acc.length < 4000 ∧ fin acc = some sl ∧
  (∀ i : Int, sl = .v (.int i) → Q (.int i) H) ∧ ∀ (xs : List Int) (p : Addr), sl = .o (.list (xs.map .int)) → H p = none → Q (.ref p) (upd H p (.lst (xs.map V.int)))
section
variable {X : Cx}
end
section
variable {K : PySem.W.Frag} {w : World} {mi : S → R (List PyData)} {vs : List Nat} {g : PyData → S → Option S} {t : S → R Bool} {me : S → R PyData} {fin : List Int → Option Slot}
end
section
variable {X : Cx} {elt tg iter : Expr} {ifs : List Expr} {scope : Scope} {own : List (PySem.Str × Nat)} {pos p pos' : Pos} {vs : List Nat} {mi : S → R (List PyData)} {g : PyData → S → Option S} {t : S → R Bool} {me : S → R PyData}
end
end Pd
end
set_option linter.all false
set_option maxRecDepth 100000
noncomputable section
namespace Pd
open PySem PySem.Spec PyProof.Rows L2
section
variable {X : Cx} {st : Stmt} {m m' m'' m3 : S → R Slot} {pos : Pos}
end
end Pd
end
set_option linter.all false
set_option maxRecDepth 100000
noncomputable section
namespace Pd
open PySem PySem.Spec PyProof.Rows L2
section
variable {X : Cx} {tg : Expr} {ma : S → R (List PyData)} {p pos : Pos}
end
end Pd
end
set_option linter.all false
set_option maxRecDepth 100000
noncomputable section
namespace Pd
open PySem PySem.Spec PyProof.Rows L2
def stepI (acc : List Int) (i : Int) : List Int := if i ∈ acc then acc else acc ++ [i]
theorem stepI_is : (step_dedup : List Int → Int → List Int) = stepI := by
  funext acc i
  unfold step_dedup stepI
  by_cases h : i ∈ acc
  · rw [if_pos h, if_pos (List.any_eq_true.mpr ⟨i, h, by simp⟩)]
  · rw [if_neg h, if_neg]
    intro z
    obtain ⟨j, hj, e⟩ := List.any_eq_true.mp z
    exact h ((eq_of_beq e) ▸ hj)
def gLenSet : PyData → Option Slot
  | .list ds => (intsD ds).bind fun ns => if ns.length < 4000 then some (.v (.int ((ns.foldl stepI []).length : Nat))) else none
  | _ => none
theorem map_getD (ns : List Int) : (List.range ns.length).map (fun i => ns.getD i 0) = ns := by
  refine List.ext_getElem (by simp) fun i h h' => ?_
  rw [List.getElem_map, List.getElem_range, List.getD_eq_getElem?_getD, List.getElem?_eq_getElem h']
  rfl
theorem firstMet_is (ns : List Int) : firstMet (fun i => ns.getD i 0) ns.length = ns.foldl stepI [] := by
  unfold firstMet
  rw [map_getD, stepI_is]
section
variable {X : Cx} {m : S → R Opd}
theorem d_lenSet {a : Expr} {p p2 q pos : Pos} (hc : X.calm = true) (hg : Gl X "len") (hm : X.mg "len" = none) (hg2 : Gl X "set") (hm2 : X.mg "set" = none) (ha : PE X a (tP X.K m))
    (na : starEach [a] X.env = (false, eval a X.env) :: starEach [] X.env := by rfl) : PE X (.Call (.Name "len" p) [.Call (.Name "set" p2) [a] [] q] [] pos) (tM X.K (m1 gLenSet m)) := by
  refine ⟨fun pins s σ H Q I h => ?_⟩
  have h := r_1 (r := fun x H1 Q => ∃ F dx sl, Sub F H1 ∧ RdD F H1 x dx ∧ gLenSet dx = some sl ∧ ∀ v F' H', Out F H1 sl v F' H' → Q v H') (fun F H x dx s Q sb rx q k => ⟨F, dx, s, sb, rx, q, k⟩) σ H Q h
  refine Call_ (ld_blt I hg hm boot_len ?_)
  refine PyProof.Rows.callWith_builtin1 (PyProof.Rows.args_cons ?_ rfl) rfl rfl
  refine Call_ (ld_blt I hg2 hm2 boot_set ?_)
  refine PyProof.Rows.callWith_type1 (PyProof.Rows.args_cons (thn (ha.run pins s σ H _ I h) fun v s1 ⟨x, H1, I1, r1, F, dx, sl, sb, rx, q1, k⟩ => PyProof.Rows.args_nil ?_) na) na rfl
  unfold gLenSet at q1
  split at q1
  · obtain ⟨ns, e1, q2⟩ := Option.bind_eq_some_iff.mp q1
    split at q2
    · rename_i hz
      cases q2
      obtain ⟨l, xs, rfl, hl, r2⟩ := rx.lst sb
      have e3 := ints_rp e1 r2
      subst e3
      cases r1
      obtain ⟨its, r, pl, _⟩ := I1.list (.inl (.inl hl))
      have hlen : its.toArray.size = ns.length := by rw [List.size_toArray, ← r.length, List.length_map]
      refine call_set_list (I1.ok.hd hc) pl.isList (ns := ns) (by simpa using RZ.intsAre_vals r) (by rw [hlen]; unfold scanBound; omega) fun h' tk hS hk => ?_
      refine PyProof.Rows.args_nil ?_
      rw [hlen, firstMet_is] at hS
      obtain ⟨o, es, ep, t, ho, hex, hd, _, _, _, hf, hn⟩ := hS
      have I2 : Inv X pins σ H1 { s1 with heap := h', toks := tk } := I1.kept fun b o e => hk b o (Heap.lt_size e) e
      have hle : (ns.foldl stepI []).length ≤ ns.length := by
        have := firstMet_length_le (fun i => ns.getD i 0) ns.length
        rwa [firstMet_is] at this
      exact call_len_set ho hex hd hf (by rw [hn]; omega) ⟨.int ((ns.foldl stepI []).length : Nat), H1, I2.tok _, ⟨_, by rw [hn]⟩, k _ _ _ (.v (.int _))⟩
    · cases q2
  · cases q1
end
end Pd
end
set_option linter.all false
set_option maxRecDepth 100000
noncomputable section
namespace Td
open PySem PySem.Spec PyProof.Rows L2 Pd

class PM (M : Type → Type) where
  ret : {α : Type} → α → M α
  bnd : {α β : Type} → M α → (α → M β) → M β
  run : {α : Type} → M α → Option Src → Option (α × Option Src)
  out : {α : Type} → Option α → M α
  lim : {α : Type} → (Nat → M α) → M α
  run_ret : ∀ {α : Type} {a b : α} {s s2 : Option Src}, run (ret a) s = some (b, s2) → b = a ∧ s2 = s
  run_bnd : ∀ {α β : Type} {c : M α} {f : α → M β} {s s2 : Option Src} {b : β}, run (bnd c f) s = some (b, s2) → ∃ a s1, run c s = some (a, s1) ∧ run (f a) s1 = some (b, s2)
  run_out : ∀ {α : Type} {o : Option α} {b : α} {s s2 : Option Src}, run (out o) s = some (b, s2) → o = some b ∧ s2 = s
  run_lim : ∀ {α : Type} (f : Nat → M α) (s : Option Src) (r : α × Option Src), run (lim f) s = some r → ∃ k, run (f k) s = some r
open PM
def limO {α β : Type} (f : Nat → α → Option β) (a : α) : Option β := by
  classical
  exact if h : ∃ k, (f k a).isSome = true then f h.choose a else none
theorem limO_some {α β : Type} {f : Nat → α → Option β} {a : α} {r : β} (h : limO f a = some r) : ∃ k, f k a = some r := by
  unfold limO at h
  split at h
  · exact ⟨_, h⟩
  · cases h
instance : PM Option where
  ret a := some a
  bnd c f := c.bind f
  run o s := o.map fun a => (a, s)
  out o := o
  lim f := limO (fun k (_ : Unit) => f k) ()
  run_ret h := by
    cases h
    exact ⟨rfl, rfl⟩
  run_bnd {α β c f s s2 b} h := by
    cases c with
    | none => cases h
    | some a => exact ⟨a, s, rfl, h⟩
  run_out {α o b s s2} h := by
    obtain ⟨a, h1, h2⟩ := Option.map_eq_some_iff.mp h
    cases h2
    exact ⟨h1, rfl⟩
  run_lim f s r h := by
    obtain ⟨a, h1, rfl⟩ := Option.map_eq_some_iff.mp h
    obtain ⟨k, hk⟩ := limO_some h1
    exact ⟨k, by rw [hk]; rfl⟩
/-- computations that draw -/
def DM (α : Type) : Type := Src → Option (α × Src)
def DM.run {α : Type} (c : DM α) : Option Src → Option (α × Option Src)
  | none => none
  | some s => (c s).map fun p => (p.1, some p.2)
theorem DM.run_some {α : Type} {c : DM α} {s : Option Src} {a : α} {s2 : Option Src} (h : DM.run c s = some (a, s2)) : ∃ t t', s = some t ∧ s2 = some t' ∧ c t = some (a, t') := by
  cases s with
  | none => cases h
  | some t =>
    obtain ⟨p, h1, h2⟩ := Option.map_eq_some_iff.mp h
    cases h2
    exact ⟨t, p.2, rfl, rfl, h1⟩
theorem DM.run_of {α : Type} {c : DM α} {t t' : Src} {a : α} (h : c t = some (a, t')) : DM.run c (some t) = some (a, some t') := by
  show Option.map (fun p => (p.1, some p.2)) (c t) = _
  exact (congrArg (Option.map fun p : α × Src => (p.1, some p.2)) h).trans rfl
instance : PM DM where
  ret a := fun s => some (a, s)
  bnd c f := fun s => (c s).bind fun p => f p.1 p.2
  run := DM.run
  out o := fun s => o.map fun a => (a, s)
  lim f := fun s => limO (fun k s => f k s) s
  run_ret h := by
    obtain ⟨t, t', rfl, rfl, h1⟩ := DM.run_some h
    cases h1
    exact ⟨rfl, rfl⟩
  run_bnd {α β c f s s2 b} h := by
    obtain ⟨t, t', rfl, rfl, h1⟩ := DM.run_some h
    obtain ⟨p, h2, h3⟩ := Option.bind_eq_some_iff.mp h1
    exact ⟨p.1, some p.2, DM.run_of h2, DM.run_of h3⟩
  run_out {α o b s s2} h := by
    obtain ⟨t, t', rfl, rfl, h1⟩ := DM.run_some h
    obtain ⟨a, h2, h3⟩ := Option.map_eq_some_iff.mp h1
    cases h3
    exact ⟨h2, rfl⟩
  run_lim f s r h := by
    obtain ⟨t, t', rfl, h2, h1⟩ := DM.run_some (s2 := r.2) (a := r.1) h
    obtain ⟨k, hk⟩ := limO_some h1
    exact ⟨k, by rw [DM.run_of hk, ← h2]⟩
variable {M : Type → Type} [PM M] {α β γ δ τ : Type}
theorem run_bnd_some {c : M α} {f : α → M β} {s s2 : Option Src} {b : β} (h : run (bnd c f) s = some (b, s2)) : ∃ a s1, run c s = some (a, s1) ∧ run (f a) s1 = some (b, s2) := PM.run_bnd h
theorem run_ret_some {a b : α} {s s2 : Option Src} (h : run (ret a : M α) s = some (b, s2)) : b = a ∧ s2 = s := PM.run_ret h
theorem run_out_some {o : Option α} {b : α} {s s2 : Option Src} (h : run (out o : M α) s = some (b, s2)) : o = some b ∧ s2 = s := PM.run_out h

inductive Kn where
  | dead | val (d : PyData) | any (d : PyData) | own (d : PyData) | src | cel | scr (ns : List Int)
def Kn.ok : Kn → Slot → Prop
  | .dead, _ => True
  | .val d, s => s = .v d
  | .any d, s => s = .v d ∨ s = .o d
  | .own d, s => s = .o d
  | .src, s => s = .src
  | .cel, s => s = .cel
  | .scr ns, s => s = .scr ns
structure Hs (ρ : List Kn) (ss : List Slot) : Prop where
  len : ρ.length = ss.length
  at_ : ∀ (i : Nat) (k : Kn) (s : Slot), ρ[i]? = some k → ss[i]? = some s → k.ok s
theorem Hs.get {ρ : List Kn} {ss : List Slot} (h : Hs ρ ss) {i : Nat} {k : Kn} (e : ρ[i]? = some k) : ∃ s, ss[i]? = some s ∧ k.ok s := by
  have hi : i < ss.length := by
    rw [← h.len]
    exact (List.getElem?_eq_some_iff.mp e).1
  exact ⟨ss[i], List.getElem?_eq_getElem hi, h.at_ i k _ e (List.getElem?_eq_getElem hi)⟩
theorem Hs.put {ρ : List Kn} {ss : List Slot} (h : Hs ρ ss) {i : Nat} {k : Kn} {s : Slot} (e : k.ok s) : Hs (ρ.set i k) (ss.set i s) := by
  refine ⟨by rw [List.length_set, List.length_set, h.len], fun j k' s' h1 h2 => ?_⟩
  rw [List.getElem?_set] at h1 h2
  by_cases q : i = j
  · rw [if_pos q] at h1 h2
    by_cases z : i < ρ.length
    · rw [if_pos z] at h1
      rw [if_pos (h.len ▸ z)] at h2
      cases h1
      cases h2
      exact e
    · rw [if_neg z] at h1
      cases h1
  · rw [if_neg q] at h1 h2
    exact h.at_ j k' s' h1 h2
theorem Hs.same {ρ : List Kn} {ss : List Slot} (h : Hs ρ ss) {i : Nat} {k : Kn} {s : Slot} (e : ρ[i]? = some k) (o : k.ok s) : Hs ρ (ss.set i s) := by
  refine ⟨by rw [List.length_set, h.len], fun j k' s' h1 h2 => ?_⟩
  rw [List.getElem?_set] at h2
  by_cases q : i = j
  · subst q
    rw [if_pos rfl] at h2
    rw [e] at h1
    cases h1
    split at h2
    · cases h2
      exact o
    · cases h2
  · rw [if_neg q] at h2
    exact h.at_ j k' s' h1 h2
/-- less is known -/
inductive Kw : Kn → Kn → Prop
  | same {k : Kn} : Kw k k
  | ow {d : PyData} : Kw (.own d) (.any d)
  | va {d : PyData} : Kw (.val d) (.any d)
  | dead {k : Kn} : Kw k .dead
theorem Kw.ok {k k' : Kn} {s : Slot} (w : Kw k k') (h : k.ok s) : k'.ok s := by
  cases w with
  | same => exact h
  | ow => exact .inr h
  | va => exact .inl h
  | dead => exact True.intro
inductive KwL : List Kn → List Kn → Prop
  | nil : KwL [] []
  | cons {k k' : Kn} {ks ks' : List Kn} : Kw k k' → KwL ks ks' → KwL (k :: ks) (k' :: ks')
theorem KwL.len {ks ks' : List Kn} (w : KwL ks ks') : ks'.length = ks.length := by
  induction w with
  | nil => rfl
  | cons _ _ ih => rw [List.length_cons, List.length_cons, ih]
theorem KwL.get {ks ks' : List Kn} (w : KwL ks ks') : ∀ (i : Nat) (k' : Kn), ks'[i]? = some k' → ∃ k, ks[i]? = some k ∧ Kw k k' := by
  induction w with
  | nil => intro i k' h; simp at h
  | cons a b ih =>
    intro i k' h
    cases i with
    | zero =>
      simp only [List.getElem?_cons_zero, Option.some.injEq] at h
      subst h
      exact ⟨_, rfl, a⟩
    | succ i =>
      simp only [List.getElem?_cons_succ] at h
      exact ih i k' h
theorem KwL.ok {ρ ρ' : List Kn} {ss : List Slot} (w : KwL ρ ρ') (h : Hs ρ ss) : Hs ρ' ss := by
  refine ⟨by rw [w.len, h.len], fun i k' s h1 h2 => ?_⟩
  obtain ⟨k, h3, h4⟩ := w.get i k' h1
  exact h4.ok (h.at_ i k s h3 h2)
theorem KwL.refl : ∀ ρ : List Kn, KwL ρ ρ
  | [] => .nil
  | _ :: ρ => .cons .same (KwL.refl ρ)
def wipeK (ρ : List Kn) : List Nat → List Kn
  | [] => ρ
  | v :: vs => (wipeK ρ vs).set v .dead
theorem Hs.wipe {ρ : List Kn} {ss : List Slot} (h : Hs ρ ss) : ∀ vs : List Nat, Hs (wipeK ρ vs) (wipeS ss vs)
  | [] => h
  | v :: vs => (h.wipe vs).put (k := .dead) (s := .no) True.intro
theorem wipeK_out {ρ : List Kn} {i : Nat} : ∀ {vs : List Nat}, i ∉ vs → (wipeK ρ vs)[i]? = ρ[i]?
  | [], _ => rfl
  | v :: vs, h => by
    have h1 : v ≠ i := fun e => h (e ▸ List.mem_cons_self)
    unfold wipeK
    rw [List.getElem?_set_ne h1]
    exact wipeK_out fun z => h (List.mem_cons_of_mem _ z)
def quietK : Option Kn → Bool
  | none => true
  | some .dead => true
  | some (.val _) => true
  | some .src => true
  | _ => false
def quiet (ρ : List Kn) (vs : List Nat) : Bool := vs.all fun v => quietK ρ[v]?
theorem Hs.rest {ρ : List Kn} {ss0 ss1 : List Slot} {vs : List Nat} (h0 : Hs ρ ss0) (h1 : Hs (wipeK ρ vs) ss1) (q : quiet ρ vs = true) : Hs ρ (restS ss0 ss1 vs) := by
  have l1 : ∀ vs, (wipeK ρ vs).length = ρ.length := by
    intro vs
    induction vs with
    | nil => rfl
    | cons v vs ih =>
      unfold wipeK
      rw [List.length_set, ih]
  refine ⟨by rw [restS_length, ← h1.len, l1], fun i k s e1 e2 => ?_⟩
  rcases restS_at e2 with ⟨hi, e3⟩ | ⟨hi, e3⟩
  · subst e3
    have z := List.all_eq_true.mp q i hi
    obtain ⟨s, e4, e5⟩ := h0.get e1
    rw [e1] at z
    rw [e4]
    cases k with
    | dead => exact True.intro
    | val d =>
      cases e5
      rfl
    | src =>
      cases e5
      rfl
    | any d => cases z
    | own d => cases z
    | cel => cases z
    | scr n => cases z
  · exact h1.at_ i k s (by rw [wipeK_out hi]; exact e1) e3

inductive Wf where
  | val | any | own
def Wf.kn : Wf → PyData → Kn
  | .val, d => .val d
  | .any, d => .any d
  | .own, d => .own d
def EvG (m : S → R τ) (ρ : List Kn) (c : M α) (P : α → τ → Prop) : Prop := ∀ (ss : List Slot) (src : Option Src) (a : α) (src' : Option Src), Hs ρ ss → run c src = some (a, src') → ∃ r ss', m ⟨ss, src⟩ = .ok r ⟨ss', src'⟩ ∧ Hs ρ ss' ∧ P a r
def StK (ρ : List Kn) : Opd → Prop
  | .s i d => ρ[i]? = some (.own d) ∨ ρ[i]? = some (.any d)
  | _ => True
theorem StK.still {ρ : List Kn} {x : Opd} {ss : List Slot} {src : Option Src} (h : StK ρ x) (hs : Hs ρ ss) : still x ⟨ss, src⟩ := by
  cases x with
  | v d => exact True.intro
  | t d => exact True.intro
  | s i d =>
    rcases h with h | h
    · obtain ⟨s, h1, h2⟩ := hs.get h
      cases h2
      exact .inl h1
    · obtain ⟨s, h1, h2⟩ := hs.get h
      rcases h2 with rfl | rfl
      · exact .inr h1
      · exact .inl h1
def Ev (m : S → R Slot) (ρ : List Kn) (c : M α) (e : α → PyData) (w : Wf) : Prop := EvG m ρ c fun a r => (w.kn (e a)).ok r
def EvP (m : S → R Opd) (ρ : List Kn) (c : M α) (e : α → PyData) : Prop := EvG m ρ c fun a x => x.d = e a ∧ StK ρ x
def EvF (m : S → R PyData) (ρ : List Kn) (c : M α) (e : α → PyData) : Prop := EvG m ρ c fun a d => d = e a
def EvT (m : S → R Bool) (ρ : List Kn) (c : M Bool) : Prop := EvG m ρ c fun a b => b = a
def EvA (m : S → R (List PyData)) (ρ : List Kn) (c : M α) (e : α → List PyData) : Prop := EvG m ρ c fun a ds => ds = e a
def EvO (m : S → R (Option Int)) (ρ : List Kn) (c : M α) (e : α → Option Int) : Prop := EvG m ρ c fun a o => o = e a
variable {ρ : List Kn} {e : α → PyData} {e1 : α → PyData} {e2 : β → PyData} {e3 : γ → PyData} {w w' : Wf}
theorem Ev.slot {w : Wf} {d : PyData} {r : Slot} (h : (w.kn d).ok r) : r = .v d ∨ r = .o d := by
  cases w with
  | val => exact .inl h
  | any => exact h
  | own => exact .inr h
/-- forget how it stands -/
theorem Ev.weak {m : S → R Slot} {c : M α} (h : Ev m ρ c e w) : Ev m ρ c e .any := fun ss src a src' hs hr => by
  obtain ⟨r, ss', h1, h2, h3⟩ := h ss src a src' hs hr
  exact ⟨r, ss', h1, h2, Ev.slot h3⟩

abbrev eInt : Int → PyData := .int
abbrev eBool : Bool → PyData := .bool
abbrev eStr : Str → PyData := .str
abbrev eNon : Unit → PyData := fun _ => .none
abbrev eAny : PyData → PyData := fun d => d
abbrev eTup (e : α → PyData) : List α → PyData := fun xs => .tuple (xs.map e)
abbrev eLst (e : α → PyData) : List α → PyData := fun xs => .list (xs.map e)
abbrev eP2 (e1 : α → PyData) (e2 : β → PyData) : α × β → PyData := fun p => .tuple [e1 p.1, e2 p.2]
abbrev eP3 (e1 : α → PyData) (e2 : β → PyData) (e3 : γ → PyData) : α × β × γ → PyData := fun p => .tuple [e1 p.1, e2 p.2.1, e3 p.2.2]
theorem ev_c {d : PyData} {a : α} (h : d = e a) : Ev (mC d) ρ (ret a : M α) e .val := fun ss src b src' hs hr => by
  obtain ⟨rfl, rfl⟩ := run_ret_some hr
  subst h
  exact ⟨_, ss, rfl, hs, rfl⟩
theorem ev_var {i : Nat} {a : α} (h : ρ[i]? = some (.val (e a))) : Ev (mVar i) ρ (ret a : M α) e .val := fun ss src b src' hs hr => by
  obtain ⟨rfl, rfl⟩ := run_ret_some hr
  obtain ⟨s, h1, h2⟩ := hs.get h
  cases h2
  exact ⟨_, ss, by unfold mVar; simp only [h1], hs, rfl⟩
theorem ev_varA {i : Nat} {a : α} (h : ρ[i]? = some (.any (e a))) : Ev (mVar i) ρ (ret a : M α) e .val := fun ss src b src' hs hr => by
  obtain ⟨rfl, rfl⟩ := run_ret_some hr
  obtain ⟨s, h1, h2⟩ := hs.get h
  rcases h2 with rfl | rfl
  · exact ⟨_, ss, by unfold mVar; simp only [h1], hs, rfl⟩
  · exact ⟨_, ss.set i (.v (e b)), by unfold mVar; simp only [h1], hs.same h (.inl rfl), rfl⟩
theorem evp_val {i : Nat} {a : α} (h : ρ[i]? = some (.val (e a))) : EvP (mPk i) ρ (ret a : M α) e := fun ss src b src' hs hr => by
  obtain ⟨rfl, rfl⟩ := run_ret_some hr
  obtain ⟨s, h1, h2⟩ := hs.get h
  cases h2
  exact ⟨.v (e b), ss, by unfold mPk; simp only [h1], hs, rfl, True.intro⟩
theorem evp_own {i : Nat} {a : α} (h : ρ[i]? = some (.own (e a))) : EvP (mPk i) ρ (ret a : M α) e := fun ss src b src' hs hr => by
  obtain ⟨rfl, rfl⟩ := run_ret_some hr
  obtain ⟨s, h1, h2⟩ := hs.get h
  cases h2
  exact ⟨.s i (e b), ss, by unfold mPk; simp only [h1], hs, rfl, Or.inl h⟩
theorem evp_any {i : Nat} {a : α} (h : ρ[i]? = some (.any (e a))) : EvP (mPk i) ρ (ret a : M α) e := fun ss src b src' hs hr => by
  obtain ⟨rfl, rfl⟩ := run_ret_some hr
  obtain ⟨s, h1, h2⟩ := hs.get h
  rcases h2 with rfl | rfl
  · exact ⟨.v (e b), ss, by unfold mPk; simp only [h1], hs, rfl, True.intro⟩
  · exact ⟨.s i (e b), ss, by unfold mPk; simp only [h1], hs, rfl, Or.inr h⟩
theorem evp_of {m : S → R Slot} {c : M α} (h : Ev m ρ c e w) : EvP (mO m) ρ c e := fun ss src a src' hs hr => by
  obtain ⟨r, ss', h1, h2, h3⟩ := h ss src a src' hs hr
  rcases Ev.slot h3 with rfl | rfl
  · exact ⟨.v (e a), ss', by unfold mO; simp only [h1], h2, rfl, True.intro⟩
  · exact ⟨.t (e a), ss', by unfold mO; simp only [h1], h2, rfl, True.intro⟩
theorem evf_of {m : S → R Slot} {c : M α} (h : Ev m ρ c e w) : EvF (mF m) ρ c e := fun ss src a src' hs hr => by
  obtain ⟨r, ss', h1, h2, h3⟩ := h ss src a src' hs hr
  rcases Ev.slot h3 with rfl | rfl
  · exact ⟨_, ss', by unfold mF; simp only [h1], h2, rfl⟩
  · exact ⟨_, ss', by unfold mF; simp only [h1], h2, rfl⟩
theorem evt_of {m : S → R Slot} {c : M Bool} (h : Ev m ρ c eBool .val) : EvT (mB m) ρ c := fun ss src a src' hs hr => by
  obtain ⟨r, ss', h1, h2, h3⟩ := h ss src a src' hs hr
  cases h3
  exact ⟨_, ss', by unfold mB; simp only [h1], h2, rfl⟩
def Op1 (g : PyData → Option Slot) (e1 : α → PyData) (e3 : γ → PyData) (w : Wf) (F : α → Option γ) : Prop := ∀ a r, F a = some r → ∃ s, g (e1 a) = some s ∧ (w.kn (e3 r)).ok s
def Op2 (g : PyData → PyData → Option Slot) (e1 : α → PyData) (e2 : β → PyData) (e3 : γ → PyData) (w : Wf) (F : α → β → Option γ) : Prop := ∀ a b r, F a b = some r → ∃ s, g (e1 a) (e2 b) = some s ∧ (w.kn (e3 r)).ok s
theorem ev_1 {g : PyData → Option Slot} {m : S → R Opd} {c : M α} {F : α → Option γ} (o : Op1 g e1 e3 w F) (h : EvP m ρ c e1) : Ev (m1 g m) ρ (bnd c fun a => out (F a)) e3 w := fun ss src r src' hs hr => by
  obtain ⟨a, s1, r1, r2⟩ := run_bnd_some hr
  obtain ⟨r2_1, rfl⟩ := run_out_some r2
  obtain ⟨x, ss', h1, h2, h3, h4⟩ := h ss src a _ hs r1
  obtain ⟨s, q1, q2⟩ := o a r r2_1
  exact ⟨s, ss', by unfold m1; simp only [h1, h3, q1], h2, q2⟩
theorem ev_2 {g : PyData → PyData → Option Slot} {m m' : S → R Opd} {c : M α} {c' : M β} {F : α → β → Option γ} (o : Op2 g e1 e2 e3 w F) (h : EvP m ρ c e1) (h' : EvP m' ρ c' e2) : Ev (m2 g m m') ρ (bnd c fun a => bnd c' fun b => out (F a b)) e3 w := fun ss src r src' hs hr => by
  obtain ⟨a, s1, r1, r2⟩ := run_bnd_some hr
  obtain ⟨b, s2, r2_1, r3_1⟩ := run_bnd_some r2
  obtain ⟨r3_2, rfl⟩ := run_out_some r3_1
  obtain ⟨x, ss1, h1, h2, h3, h4⟩ := h ss src a _ hs r1
  obtain ⟨y, ss2, k1, k2, k3, k4⟩ := h' ss1 _ b _ h2 r2_1
  obtain ⟨s, q1, q2⟩ := o a b r r3_2
  exact ⟨s, ss2, by unfold m2; simp only [h1, k1, if_pos (h4.still k2), h3, k3, q1], k2, q2⟩

def cnd (z : Bool) (a b : M α) : M α := if z = true then a else b
def andB (c c' : M Bool) : M Bool := bnd c fun z => cnd z c' (ret false)
def orB (c c' : M Bool) : M Bool := bnd c fun z => cnd z (ret true) c'
theorem run_cnd {z : Bool} {a b : M α} {s : Option Src} : run (cnd z a b) s = if z = true then run a s else run b s := by
  unfold cnd
  split <;> rfl
section
variable {m m' : S → R Bool} {c c' : M Bool}
theorem evt_and (h : EvT m ρ c) (h' : EvT m' ρ c') : EvT (mAnd m m') ρ (andB c c') := fun ss src r src' hs hr => by
  obtain ⟨a, s1, r1, r2⟩ := run_bnd_some hr
  obtain ⟨x, ss1, h1, h2, rfl⟩ := h ss src a _ hs r1
  rw [run_cnd] at r2
  cases x with
  | true =>
    obtain ⟨y, ss2, k1, k2, rfl⟩ := h' ss1 _ r _ h2 r2
    exact ⟨y, ss2, by unfold mAnd; simp only [h1, k1], k2, rfl⟩
  | false =>
    obtain ⟨rfl, rfl⟩ := run_ret_some r2
    exact ⟨false, ss1, by unfold mAnd; simp only [h1], h2, rfl⟩
theorem evt_or (h : EvT m ρ c) (h' : EvT m' ρ c') : EvT (mOr m m') ρ (orB c c') := fun ss src r src' hs hr => by
  obtain ⟨a, s1, r1, r2⟩ := run_bnd_some hr
  obtain ⟨x, ss1, h1, h2, rfl⟩ := h ss src a _ hs r1
  rw [run_cnd] at r2
  cases x with
  | false =>
    obtain ⟨y, ss2, k1, k2, rfl⟩ := h' ss1 _ r _ h2 r2
    exact ⟨y, ss2, by unfold mOr; simp only [h1, k1], k2, rfl⟩
  | true =>
    obtain ⟨rfl, rfl⟩ := run_ret_some r2
    exact ⟨true, ss1, by unfold mOr; simp only [h1], h2, rfl⟩
theorem evt_not (h : EvT m ρ c) : EvT (mNot m) ρ (bnd c fun z => ret (!z)) := fun ss src r src' hs hr => by
  obtain ⟨a, s1, r1, r2⟩ := run_bnd_some hr
  obtain ⟨rfl, rfl⟩ := run_ret_some r2
  obtain ⟨x, ss1, h1, h2, rfl⟩ := h ss src a _ hs r1
  exact ⟨_, ss1, by unfold mNot; simp only [h1], h2, rfl⟩
theorem evt_yes : EvT tYesM ρ (ret true : M Bool) := fun ss src r src' hs hr => by
  obtain ⟨rfl, rfl⟩ := run_ret_some hr
  exact ⟨true, ss, rfl, hs, rfl⟩
end
section
variable {m m' : S → R Slot} {c c' : M Bool}
theorem ev_if {t : S → R Bool} {cx cy : M α} (h : EvT t ρ c) (hx : Ev m ρ cx e w) (hy : Ev m' ρ cy e w) : Ev (mIf t m m') ρ (bnd c fun z => cnd z cx cy) e w := fun ss src r src' hs hr => by
  obtain ⟨a, s1, r1, r2⟩ := run_bnd_some hr
  obtain ⟨x, ss1, h1, h2, rfl⟩ := h ss src a _ hs r1
  rw [run_cnd] at r2
  cases x with
  | true =>
    obtain ⟨y, ss2, k1, k2, k3⟩ := hx ss1 _ r _ h2 r2
    exact ⟨y, ss2, by unfold mIf; simp only [h1, k1], k2, k3⟩
  | false =>
    obtain ⟨y, ss2, k1, k2, k3⟩ := hy ss1 _ r _ h2 r2
    exact ⟨y, ss2, by unfold mIf; simp only [h1, k1], k2, k3⟩
end

section
variable {mf mf' mf'' mf3 : S → R PyData} {ms : S → R (List PyData)} {c : M α} {c' : M β} {c'' : M γ} {c3 : M δ} {e4 : δ → PyData}
theorem eva_nil : EvA mNil ρ (ret [] : M (List α)) (List.map e) := fun ss src r src' hs hr => by
  obtain ⟨rfl, rfl⟩ := run_ret_some hr
  exact ⟨_, ss, rfl, hs, rfl⟩
theorem eva_cons {cs : M (List α)} (h : EvF mf ρ c e) (hs : EvA ms ρ cs (List.map e)) : EvA (mCons mf ms) ρ (bnd c fun a => bnd cs fun as => ret (a :: as)) (List.map e) := fun ss src r src' h0 hr => by
  obtain ⟨a, s1, r1, r2⟩ := run_bnd_some hr
  obtain ⟨as, s2, r2_1, r3_1⟩ := run_bnd_some r2
  obtain ⟨rfl, rfl⟩ := run_ret_some r3_1
  obtain ⟨x, ss1, h1, h2, rfl⟩ := h ss src a _ h0 r1
  obtain ⟨y, ss2, k1, k2, rfl⟩ := hs ss1 _ as _ h2 r2_1
  exact ⟨_, ss2, by unfold mCons; simp only [h1, k1]; rfl, k2, rfl⟩
def SqE (e1 : α → PyData) (L : α → List γ) (e : γ → PyData) : Prop := ∀ a, seqD (e1 a) = some ((L a).map e)
def lenOk (xs : List α) : Option (List α) := if okLen xs.length = true then some xs else none
theorem ev_tup {cs : M (List α)} (h : EvA ms ρ cs (List.map e)) : Ev (mTup ms) ρ (bnd cs fun xs => out (lenOk xs)) (eTup e) .val := fun ss src r src' h0 hr => by
  obtain ⟨a, s1, r1, r2⟩ := run_bnd_some hr
  obtain ⟨r2_1, rfl⟩ := run_out_some r2
  obtain ⟨x, ss1, h1, h2, rfl⟩ := h ss src a _ h0 r1
  unfold lenOk at r2_1
  split at r2_1
  · rename_i z
    cases r2_1
    exact ⟨_, ss1, by unfold mTup; simp only [h1, List.length_map, z, if_true], h2, rfl⟩
  · cases r2_1
theorem ev_lst {cs : M (List α)} (h : EvA ms ρ cs (List.map e)) : Ev (mLst ms) ρ (bnd cs fun xs => out (lenOk xs)) (eLst e) .own := fun ss src r src' h0 hr => by
  obtain ⟨a, s1, r1, r2⟩ := run_bnd_some hr
  obtain ⟨r2_1, rfl⟩ := run_out_some r2
  obtain ⟨x, ss1, h1, h2, rfl⟩ := h ss src a _ h0 r1
  unfold lenOk at r2_1
  split at r2_1
  · rename_i z
    cases r2_1
    exact ⟨_, ss1, by unfold mLst; simp only [h1, List.length_map, z, if_true], h2, rfl⟩
  · cases r2_1
theorem ev_p2 (h : EvF mf ρ c e1) (h' : EvF mf' ρ c' e2) : Ev (mTup (mCons mf (mCons mf' mNil))) ρ (bnd c fun a => bnd c' fun b => ret (a, b)) (eP2 e1 e2) .val := fun ss src r src' h0 hr => by
  obtain ⟨a, s1, r1, r2⟩ := run_bnd_some hr
  obtain ⟨b, s2, r2_1, r3_1⟩ := run_bnd_some r2
  obtain ⟨rfl, rfl⟩ := run_ret_some r3_1
  obtain ⟨x, ss1, h1, h2, rfl⟩ := h ss src a _ h0 r1
  obtain ⟨y, ss2, k1, k2, rfl⟩ := h' ss1 _ b _ h2 r2_1
  exact ⟨_, ss2, by unfold mTup; simp only [mCons, mNil]; simp only [h1, k1]; rfl, k2, rfl⟩
theorem ev_p3 (h : EvF mf ρ c e1) (h' : EvF mf' ρ c' e2) (h'' : EvF mf'' ρ c'' e3) : Ev (mTup (mCons mf (mCons mf' (mCons mf'' mNil)))) ρ (bnd c fun a => bnd c' fun b => bnd c'' fun d => ret (a, b, d)) (eP3 e1 e2 e3) .val := fun ss src r src' h0 hr => by
  obtain ⟨a, s1, r1, r2⟩ := run_bnd_some hr
  obtain ⟨b, s2, r2_1, r3_1⟩ := run_bnd_some r2
  obtain ⟨d, s3, r3_2, r4_2⟩ := run_bnd_some r3_1
  obtain ⟨rfl, rfl⟩ := run_ret_some r4_2
  obtain ⟨x, ss1, h1, h2, rfl⟩ := h ss src a _ h0 r1
  obtain ⟨y, ss2, k1, k2, rfl⟩ := h' ss1 _ b _ h2 r2_1
  obtain ⟨z, ss3, l1, l2, rfl⟩ := h'' ss2 _ d _ k2 r3_2
  exact ⟨_, ss3, by unfold mTup; simp only [mCons, mNil]; simp only [h1, k1, l1]; rfl, l2, rfl⟩
end
end Td
end
set_option linter.all false
set_option maxRecDepth 100000
noncomputable section
namespace Td
open PySem PySem.Spec PyProof.Rows L2 Pd PM
variable {M : Type → Type} [PM M] {α β γ δ τ ζ : Type}
variable {ρ ρ1 : List Kn} {e : α → PyData} {e1 : α → PyData} {e2 : β → PyData} {e3 : γ → PyData} {e4 : δ → PyData} {e5 : ζ → PyData} {w w' : Wf}

/-- the items of a sequence -/
def SeqE (e1 : α → PyData) (L : α → List γ) (e : γ → PyData) : Prop := ∀ a, e1 a = .list ((L a).map e) ∨ e1 a = .tuple ((L a).map e)
theorem SeqE.sq {L : α → List γ} (h : SeqE e1 L e3) : SqE e1 L e3 := fun a => by
  rcases h a with h | h <;> rw [h] <;> rfl
theorem sq_lst : SeqE (eLst e) (fun xs => xs) e := fun _ => .inl rfl
theorem sq_tup : SeqE (eTup e) (fun xs => xs) e := fun _ => .inr rfl
theorem sq_p2 : SeqE (eP2 e e) (fun p => [p.1, p.2]) e := fun _ => .inr rfl
theorem evi_seq {mf : S → R PyData} {c : M α} {L : α → List γ} (q : SeqE e1 L e3) (h : EvF mf ρ c e1) : EvA (jSeq mf) ρ (bnd c fun a => ret (L a)) (List.map e3) := fun ss src r src' h0 hr => by
  obtain ⟨a, s1, r1, r2⟩ := run_bnd_some hr
  obtain ⟨rfl, rfl⟩ := run_ret_some r2
  obtain ⟨x, ss1, h1, h2, rfl⟩ := h ss src a _ h0 r1
  rcases q a with z | z
  · exact ⟨_, ss1, by unfold jSeq; simp only [h1, z], h2, rfl⟩
  · exact ⟨_, ss1, by unfold jSeq; simp only [h1, z], h2, rfl⟩
def enumL (xs : List α) : List (Int × α) := xs.zipIdx.map fun q => ((q.2 : Int), q.1)
/-- both lists, or both tuples -/
def SameE (e1 : α → PyData) (L : α → List γ) (e : γ → PyData) (e2 : β → PyData) (L' : β → List δ) (e' : δ → PyData) : Prop :=
  ∀ a b, (e1 a = .list ((L a).map e) ∧ e2 b = .list ((L' b).map e')) ∨ (e1 a = .tuple ((L a).map e) ∧ e2 b = .tuple ((L' b).map e'))
def rng (a b : Int) : List Int := (List.range (b - a).toNat).map fun i => a + ((i : Nat) : Int)
def rngO (a b : Int) : Option (List Int) := if rgOk a b = true then some (rng a b) else none
theorem rgD_L (a b : Int) : rgD a b = (rng a b).map eInt := by
  unfold rgD rng
  rw [List.map_map]
  rfl
theorem rngO_some {a b : Int} {r : List Int} (h : rngO a b = some r) : rgOk a b = true ∧ r = rng a b := by
  unfold rngO at h
  split at h
  · rename_i z
    cases h
    exact ⟨z, rfl⟩
  · cases h
theorem evi_rg1 {mf : S → R PyData} {c : M Int} (h : EvF mf ρ c eInt) : EvA (jRg (mCons mf mNil)) ρ (bnd c fun a => out (rngO 0 a)) (List.map eInt) := fun ss src r src' h0 hr => by
  obtain ⟨a, s1, r1, r2⟩ := run_bnd_some hr
  obtain ⟨r3, rfl⟩ := run_out_some r2
  obtain ⟨z, rfl⟩ := rngO_some r3
  obtain ⟨x, ss1, h1, h2, rfl⟩ := h ss src a _ h0 r1
  exact ⟨_, ss1, by unfold jRg; simp only [mCons, mNil]; simp only [h1, z, if_true], h2, rgD_L _ _⟩
theorem evi_rg2 {mf mf' : S → R PyData} {c c' : M Int} (h : EvF mf ρ c eInt) (h' : EvF mf' ρ c' eInt) : EvA (jRg2 (mCons mf (mCons mf' mNil))) ρ (bnd c fun a => bnd c' fun b => out (rngO a b)) (List.map eInt) := fun ss src r src' h0 hr => by
  obtain ⟨a, s1, r1, r2⟩ := run_bnd_some hr
  obtain ⟨b, s2, r2', r2b⟩ := run_bnd_some r2
  obtain ⟨r3, rfl⟩ := run_out_some r2b
  obtain ⟨z, rfl⟩ := rngO_some r3
  obtain ⟨x, ss1, h1, h2, rfl⟩ := h ss src a _ h0 r1
  obtain ⟨y, ss2, k1, k2, rfl⟩ := h' ss1 _ b _ h2 r2'
  exact ⟨_, ss2, by unfold jRg2; simp only [mCons, mNil]; simp only [h1, k1, z, if_true], k2, rgD_L _ _⟩
/-- list(range(..)), tuple(range(..)) -/
def EvR (m : S → R (Int × Int)) (ρ : List Kn) (c : M (Int × Int)) : Prop := EvG m ρ c fun a r => r = a
theorem evr_1 {m : S → R Slot} {c : M Int} (h : Ev m ρ c eInt .val) : EvR (mRg1 m) ρ (bnd c fun a => ret (0, a)) := fun ss src r src' h0 hr => by
  obtain ⟨a, s1, r1, r2⟩ := run_bnd_some hr
  obtain ⟨rfl, rfl⟩ := run_ret_some r2
  obtain ⟨x, ss1, h1, h2, h3⟩ := h ss src a _ h0 r1
  cases h3
  exact ⟨_, ss1, by unfold mRg1; simp only [h1], h2, rfl⟩
theorem ev_lrg {m : S → R (Int × Int)} {c : M (Int × Int)} (h : EvR m ρ c) : Ev (mLRg m) ρ (bnd c fun p => out (rngO p.1 p.2)) (eLst eInt) .own := fun ss src r src' h0 hr => by
  obtain ⟨a, s1, r1, r2⟩ := run_bnd_some hr
  obtain ⟨r3, rfl⟩ := run_out_some r2
  obtain ⟨z, rfl⟩ := rngO_some r3
  obtain ⟨x, ss1, h1, h2, rfl⟩ := h ss src a _ h0 r1
  exact ⟨_, ss1, by unfold mLRg; simp only [h1, z, if_true]; rfl, h2, by rw [rgD_L]; rfl⟩
def Tg (g : PyData → S → Option S) (ρ : List Kn) (d : PyData) (ρ1 : List Kn) : Prop := ∀ (ss : List Slot) (src : Option Src), Hs ρ ss → ∃ ss', g d ⟨ss, src⟩ = some ⟨ss', src⟩ ∧ Hs ρ1 ss'
def TgL (g : List PyData → S → Option S) (ρ : List Kn) (ds : List PyData) (ρ1 : List Kn) : Prop := ∀ (ss : List Slot) (src : Option Src), Hs ρ ss → ∃ ss', g ds ⟨ss, src⟩ = some ⟨ss', src⟩ ∧ Hs ρ1 ss'
theorem tg_n {i : Nat} {d : PyData} (h : ρ.set i (.val d) = ρ1) : Tg (gN i) ρ d ρ1 := fun ss src hs => ⟨_, rfl, h ▸ hs.put (k := .val d) rfl⟩
theorem tg_nl : TgL gNl ρ [] ρ := fun ss src hs => ⟨ss, rfl, hs⟩
theorem tg_cn {g : PyData → S → Option S} {gs : List PyData → S → Option S} {d : PyData} {ds : List PyData} {ρ2 : List Kn} (h : Tg g ρ d ρ1) (h' : TgL gs ρ1 ds ρ2) : TgL (gCn g gs) ρ (d :: ds) ρ2 := fun ss src hs => by
  obtain ⟨ss1, h1, h2⟩ := h ss src hs
  obtain ⟨ss2, k1, k2⟩ := h' ss1 src h2
  exact ⟨ss2, by unfold gCn; simp only [h1, k1], k2⟩
theorem tg_tp {gs : List PyData → S → Option S} {ds : List PyData} (h : TgL gs ρ ds ρ1) : Tg (gTp gs) ρ (.tuple ds) ρ1 := fun ss src hs => h ss src hs
def lcG (ct : α → M Bool) (ce : α → M β) : List α → M (List β)
  | [] => ret []
  | x :: xs => bnd (ct x) fun z => cnd z (bnd (ce x) fun y => bnd (lcG ct ce xs) fun ys => ret (y :: ys)) (lcG ct ce xs)
def lcM (xs : List α) (ct : α → M Bool) (ce : α → M β) : M (List β) := bnd (out (lenOk xs)) fun xs => lcG ct ce xs
theorem lenOk_some {xs r : List α} (h : lenOk xs = some r) : r = xs ∧ okLen xs.length = true := by
  unfold lenOk at h
  split at h
  · rename_i z
    cases h
    exact ⟨rfl, z⟩
  · cases h
theorem lcGo_ev {vs : List Nat} {g : PyData → S → Option S} {t : S → R Bool} {me : S → R PyData} {ρ0 : List Kn} {ρa : α → List Kn} {ct : α → M Bool} {ce : α → M β}
    (hg : ∀ a, Tg g ρ0 (e1 a) (ρa a)) (ht : ∀ a, EvT t (ρa a) (ct a)) (he : ∀ a, EvF me (ρa a) (ce a) e2) (hb : ∀ a, wipeK (ρa a) vs = ρ0) :
    ∀ (xs : List α) (acc : List PyData) (ss : List Slot) (src : Option Src) (ys : List β) (src' : Option Src), Hs ρ0 ss → run (lcG ct ce xs) src = some (ys, src') → ∃ ss', lcGo vs g t me (xs.map e1) acc ⟨ss, src⟩ = .ok (acc ++ ys.map e2) ⟨ss', src'⟩ ∧ Hs ρ0 ss'
  | [], acc, ss, src, ys, src', h0, hr => by
    obtain ⟨rfl, rfl⟩ := run_ret_some hr
    exact ⟨ss, by simp [lcGo], h0⟩
  | x :: xs, acc, ss, src, ys, src', h0, hr => by
    obtain ⟨z, s1, r1, r2⟩ := run_bnd_some hr
    obtain ⟨ss1, g1, g2⟩ := hg x ss src h0
    obtain ⟨z', ss2, t1, t2, rfl⟩ := ht x ss1 src z s1 g2 r1
    rw [run_cnd] at r2
    rw [List.map_cons]
    unfold lcGo
    simp only [g1, t1]
    cases z' with
    | true =>
      rw [if_pos rfl] at r2
      obtain ⟨y, s2, r3, r4⟩ := run_bnd_some r2
      obtain ⟨yl, s3, r5, r6⟩ := run_bnd_some r4
      obtain ⟨rfl, rfl⟩ := run_ret_some r6
      obtain ⟨d, ss3, e1', e2', rfl⟩ := he x ss2 s1 y s2 t2 r3
      simp only [e1']
      have h3 : Hs ρ0 (wipeS ss3 vs) := hb x ▸ e2'.wipe vs
      obtain ⟨ss', k1, k2⟩ := lcGo_ev hg ht he hb xs (acc ++ [e2 y]) (wipeS ss3 vs) s2 yl src' h3 r5
      refine ⟨ss', ?_, k2⟩
      rw [show (S.wipe ⟨ss3, s2⟩ vs) = ⟨wipeS ss3 vs, s2⟩ from rfl, k1]
      simp
    | false =>
      rw [if_neg Bool.false_ne_true] at r2
      have h3 : Hs ρ0 (wipeS ss2 vs) := hb x ▸ t2.wipe vs
      obtain ⟨ss', k1, k2⟩ := lcGo_ev hg ht he hb xs acc (wipeS ss2 vs) s1 ys src' h3 r2
      exact ⟨ss', k1, k2⟩
theorem ev_lc {mi : S → R (List PyData)} {vs : List Nat} {g : PyData → S → Option S} {t : S → R Bool} {me : S → R PyData} {ci : M (List α)} {ρa : α → List Kn} {ct : α → M Bool} {ce : α → M β}
    (q : quiet ρ vs = true) (hi : EvA mi ρ ci (List.map e1)) (hg : ∀ a, Tg g (wipeK ρ vs) (e1 a) (ρa a)) (ht : ∀ a, EvT t (ρa a) (ct a)) (he : ∀ a, EvF me (ρa a) (ce a) e2) (hb : ∀ a, wipeK (ρa a) vs = wipeK ρ vs) :
    Ev (mLc mi vs g t me) ρ (bnd ci fun xs => lcM xs ct ce) (eLst e2) .own := fun ss src r src' h0 hr => by
  obtain ⟨xs, s1, r1, r2⟩ := run_bnd_some hr
  obtain ⟨xs', s2, r3, r4⟩ := run_bnd_some r2
  obtain ⟨r5, rfl⟩ := run_out_some r3
  obtain ⟨rfl, lz⟩ := lenOk_some r5
  obtain ⟨ds, ss1, i1, i2, rfl⟩ := hi ss src _ _ h0 r1
  obtain ⟨ss2, k1, k2⟩ := lcGo_ev hg ht he hb xs' [] (wipeS ss1 vs) s2 r src' (i2.wipe vs) r4
  refine ⟨.o (eLst e2 r), restS ss1 ss2 vs, ?_, i2.rest k2 q, rfl⟩
  unfold mLc
  simp only [i1, List.length_map, lz, if_true]
  rw [show (S.wipe ⟨ss1, s2⟩ vs) = ⟨wipeS ss1 vs, s2⟩ from rfl, k1]
  rfl
def lcG2 (ct : α → M Bool) (ci : α → M (List β)) (ct1 : α → β → M Bool) (ce : α → β → M γ) : List α → M (List γ)
  | [] => ret []
  | x :: xs => bnd (ct x) fun z => cnd z (bnd (ci x) fun ws => bnd (lcG (ct1 x) (ce x) ws) fun ys => bnd (lcG2 ct ci ct1 ce xs) fun zs => ret (ys ++ zs)) (lcG2 ct ci ct1 ce xs)
def lcM2 (xs : List α) (ct : α → M Bool) (ci : α → M (List β)) (ct1 : α → β → M Bool) (ce : α → β → M γ) : M (List γ) := bnd (lcG2 ct ci ct1 ce xs) fun ys => out (lenOk ys)
theorem lcGo2_ev {vs vs1 : List Nat} {g g1 : PyData → S → Option S} {t t1 : S → R Bool} {mi1 : S → R (List PyData)} {me : S → R PyData} {ρ0 : List Kn} {ρa : α → List Kn} {ρb : α → β → List Kn} {ct : α → M Bool} {ci : α → M (List β)} {ct1 : α → β → M Bool} {ce : α → β → M γ}
    (hg : ∀ a, Tg g ρ0 (e1 a) (ρa a)) (ht : ∀ a, EvT t (ρa a) (ct a)) (hi1 : ∀ a, EvA mi1 (ρa a) (ci a) (List.map e2)) (hg1 : ∀ a b, Tg g1 (wipeK (ρa a) vs1) (e2 b) (ρb a b)) (ht1 : ∀ a b, EvT t1 (ρb a b) (ct1 a b)) (he : ∀ a b, EvF me (ρb a b) (ce a b) e3) (hb1 : ∀ a b, wipeK (ρb a b) vs1 = wipeK (ρa a) vs1) (hb : ∀ a, wipeK (wipeK (ρa a) vs1) vs = ρ0) (hbf : ∀ a, wipeK (ρa a) vs = ρ0) :
    ∀ (xs : List α) (acc : List PyData) (ss : List Slot) (src : Option Src) (ys : List γ) (src' : Option Src), Hs ρ0 ss → run (lcG2 ct ci ct1 ce xs) src = some (ys, src') → ∃ ss', lcGo2 vs g t mi1 vs1 g1 t1 me (xs.map e1) acc ⟨ss, src⟩ = .ok (acc ++ ys.map e3) ⟨ss', src'⟩ ∧ Hs ρ0 ss'
  | [], acc, ss, src, ys, src', h0, hr => by
    obtain ⟨rfl, rfl⟩ := run_ret_some hr
    exact ⟨ss, by simp [lcGo2], h0⟩
  | x :: xs, acc, ss, src, ys, src', h0, hr => by
    obtain ⟨z, s1, r1, r2⟩ := run_bnd_some hr
    obtain ⟨ss1, g1', g2⟩ := hg x ss src h0
    obtain ⟨z', ss2, t1', t2, rfl⟩ := ht x ss1 src z s1 g2 r1
    rw [run_cnd] at r2
    rw [List.map_cons]
    unfold lcGo2
    simp only [g1', t1']
    cases z' with
    | true =>
      rw [if_pos rfl] at r2
      obtain ⟨ws, s2, r3, r4⟩ := run_bnd_some r2
      obtain ⟨yl, s3, r5, r6⟩ := run_bnd_some r4
      obtain ⟨zl, s4, r7, r8⟩ := run_bnd_some r6
      obtain ⟨rfl, rfl⟩ := run_ret_some r8
      obtain ⟨ds, ss3, i1, i2, rfl⟩ := hi1 x ss2 s1 ws s2 t2 r3
      simp only [i1]
      obtain ⟨ss4, k1, k2⟩ := lcGo_ev (hg1 x) (ht1 x) (he x) (hb1 x) ws acc (wipeS ss3 vs1) s2 yl s3 (i2.wipe vs1) r5
      rw [show (S.wipe ⟨ss3, s2⟩ vs1) = ⟨wipeS ss3 vs1, s2⟩ from rfl]
      simp only [k1]
      have h3 : Hs ρ0 (wipeS ss4 vs) := hb x ▸ k2.wipe vs
      obtain ⟨ss', n1, n2⟩ := lcGo2_ev hg ht hi1 hg1 ht1 he hb1 hb hbf xs (acc ++ yl.map e3) (wipeS ss4 vs) s3 zl src' h3 r7
      refine ⟨ss', ?_, n2⟩
      rw [show (S.wipe ⟨ss4, s3⟩ vs) = ⟨wipeS ss4 vs, s3⟩ from rfl, n1]
      simp
    | false =>
      rw [if_neg Bool.false_ne_true] at r2
      have h3 : Hs ρ0 (wipeS ss2 vs) := hbf x ▸ t2.wipe vs
      obtain ⟨ss', k1, k2⟩ := lcGo2_ev hg ht hi1 hg1 ht1 he hb1 hb hbf xs acc (wipeS ss2 vs) s1 ys src' h3 r2
      exact ⟨ss', k1, k2⟩
theorem ev_lc2 {mi : S → R (List PyData)} {vs vs1 : List Nat} {g g1 : PyData → S → Option S} {t t1 : S → R Bool} {mi1 : S → R (List PyData)} {me : S → R PyData} {c : M (List α)} {ρa : α → List Kn} {ρb : α → β → List Kn} {ct : α → M Bool} {ci : α → M (List β)} {ct1 : α → β → M Bool} {ce : α → β → M γ}
    (q : quiet ρ vs = true) (hi : EvA mi ρ c (List.map e1)) (hg : ∀ a, Tg g (wipeK ρ vs) (e1 a) (ρa a)) (ht : ∀ a, EvT t (ρa a) (ct a)) (hi1 : ∀ a, EvA mi1 (ρa a) (ci a) (List.map e2)) (hg1 : ∀ a b, Tg g1 (wipeK (ρa a) vs1) (e2 b) (ρb a b)) (ht1 : ∀ a b, EvT t1 (ρb a b) (ct1 a b)) (he : ∀ a b, EvF me (ρb a b) (ce a b) e3) (hb1 : ∀ a b, wipeK (ρb a b) vs1 = wipeK (ρa a) vs1) (hb : ∀ a, wipeK (wipeK (ρa a) vs1) vs = wipeK ρ vs) (hbf : ∀ a, wipeK (ρa a) vs = wipeK ρ vs) :
    Ev (mLc2 mi vs g t mi1 vs1 g1 t1 me) ρ (bnd c fun xs => lcM2 xs ct ci ct1 ce) (eLst e3) .own := fun ss src r src' h0 hr => by
  obtain ⟨xs, s1, r1, r2⟩ := run_bnd_some hr
  obtain ⟨ys, s2, r3, r4⟩ := run_bnd_some r2
  obtain ⟨r5, rfl⟩ := run_out_some r4
  obtain ⟨rfl, lz⟩ := lenOk_some r5
  obtain ⟨ds, ss1, i1, i2, rfl⟩ := hi ss src _ _ h0 r1
  obtain ⟨ss2, k1, k2⟩ := lcGo2_ev hg ht hi1 hg1 ht1 he hb1 hb hbf xs [] (wipeS ss1 vs) s1 _ _ (i2.wipe vs) r3
  refine ⟨.o (eLst e3 r), restS ss1 ss2 vs, ?_, i2.rest k2 q, rfl⟩
  unfold mLc2
  simp only [i1]
  rw [show (S.wipe ⟨ss1, s1⟩ vs) = ⟨wipeS ss1 vs, s1⟩ from rfl, k1]
  simp only [List.nil_append, List.length_map, lz, if_true]
  rfl

theorem evo_none : EvO mNoP ρ (ret () : M Unit) (fun _ => none) := fun ss src a src' hs hr => by
  obtain ⟨rfl, rfl⟩ := run_ret_some hr
  exact ⟨_, ss, rfl, hs, rfl⟩
theorem evo_some {m : S → R Slot} {c : M Int} (h : Ev m ρ c eInt .val) : EvO (mP m) ρ c some := fun ss src a src' hs hr => by
  obtain ⟨r, ss1, h1, h2, h3⟩ := h ss src a _ hs hr
  cases h3
  exact ⟨_, ss1, by unfold mP; simp only [h1], h2, rfl⟩
def cut (xs : List α) (lo hi : Option Int) : List α := (xs.drop (HT.sIx xs.length 0 lo)).take (HT.sIx xs.length xs.length hi - HT.sIx xs.length 0 lo)
theorem cutD_L (xs : List α) (lo hi : Option Int) : Pd.cutD (xs.map e) lo hi = (cut xs lo hi).map e := by
  unfold Pd.cutD cut
  rw [List.length_map, List.map_take, List.map_drop]
theorem ev_sl {m : S → R Opd} {l h : S → R (Option Int)} {c : M (List α)} {cl : M β} {ch : M γ} {fl : β → Option Int} {fh : γ → Option Int} (hm : EvP m ρ c (eLst e)) (hl : EvO l ρ cl fl) (hh : EvO h ρ ch fh) :
    Ev (mSl m l h) ρ (bnd c fun xs => bnd cl fun a => bnd ch fun b => ret (cut xs (fl a) (fh b))) (eLst e) .own := fun ss src r src' h0 hr => by
  obtain ⟨xs, s1, r1, r2⟩ := run_bnd_some hr
  obtain ⟨a, s2, r3, r4⟩ := run_bnd_some r2
  obtain ⟨b, s3, r5, r6⟩ := run_bnd_some r4
  obtain ⟨rfl, rfl⟩ := run_ret_some r6
  obtain ⟨x, ss1, h1, h2, h3, h4⟩ := hm ss src _ _ h0 r1
  obtain ⟨o1, ss2, k1, k2, rfl⟩ := hl ss1 _ _ _ h2 r3
  obtain ⟨o2, ss3, l1, l2, rfl⟩ := hh ss2 _ _ _ k2 r5
  exact ⟨.o (eLst e (cut xs (fl a) (fh b))), ss3, by unfold mSl; simp only [h1, k1, l1]; rw [if_pos ⟨h4.still l2, h4.still k2⟩, h3]; show _ = R.ok (Slot.o (.list _)) _; rw [← cutD_L]; rfl, l2, rfl⟩
theorem ev_slT {m : S → R Opd} {l h : S → R (Option Int)} {c : M (List α)} {cl : M β} {ch : M γ} {fl : β → Option Int} {fh : γ → Option Int} (hm : EvP m ρ c (eTup e)) (hl : EvO l ρ cl fl) (hh : EvO h ρ ch fh) :
    Ev (mSl m l h) ρ (bnd c fun xs => bnd cl fun a => bnd ch fun b => ret (cut xs (fl a) (fh b))) (eTup e) .val := fun ss src r src' h0 hr => by
  obtain ⟨xs, s1, r1, r2⟩ := run_bnd_some hr
  obtain ⟨a, s2, r3, r4⟩ := run_bnd_some r2
  obtain ⟨b, s3, r5, r6⟩ := run_bnd_some r4
  obtain ⟨rfl, rfl⟩ := run_ret_some r6
  obtain ⟨x, ss1, h1, h2, h3, h4⟩ := hm ss src _ _ h0 r1
  obtain ⟨o1, ss2, k1, k2, rfl⟩ := hl ss1 _ _ _ h2 r3
  obtain ⟨o2, ss3, l1, l2, rfl⟩ := hh ss2 _ _ _ k2 r5
  exact ⟨.v (eTup e (cut xs (fl a) (fh b))), ss3, by unfold mSl; simp only [h1, k1, l1]; rw [if_pos ⟨h4.still l2, h4.still k2⟩, h3]; show _ = R.ok (Slot.v (.tuple _)) _; rw [← cutD_L]; rfl, l2, rfl⟩

/-- a def without the source -/
def FnP (g : GFn) (as : List Slot) (o : Option γ) (e : γ → PyData) (w : Wf) : Prop := ∀ r, o = some r → ∃ s, g as none = some (s, none) ∧ (w.kn (e r)).ok s
/-- a def with the source -/
def FnD (g : GFn) (as : List Slot) (c : DM γ) (e : γ → PyData) (w : Wf) : Prop := ∀ s r s', c s = some (r, s') → ∃ sl, g as (some s) = some (sl, some s') ∧ (w.kn (e r)).ok sl
def EvX (m : S → R (List Slot)) (ρ : List Kn) (c : M α) (e : α → List Slot) : Prop := EvG m ρ c fun a as => as = e a
theorem evx_nil : EvX xNil ρ (ret () : M Unit) (fun _ => []) := fun ss src a src' hs hr => by
  obtain ⟨rfl, rfl⟩ := run_ret_some hr
  exact ⟨_, ss, rfl, hs, rfl⟩
theorem evx_cons {mf : S → R PyData} {ms : S → R (List Slot)} {c : M α} {cs : M β} {as : β → List Slot} (h : EvF mf ρ c e1) (hs : EvX ms ρ cs as) : EvX (xCons mf ms) ρ (bnd c fun a => bnd cs fun b => ret (a, b)) (fun p => .v (e1 p.1) :: as p.2) := fun ss src r src' h0 hr => by
  obtain ⟨a, s1, r1, r2⟩ := run_bnd_some hr
  obtain ⟨b, s2, r3, r4⟩ := run_bnd_some r2
  obtain ⟨rfl, rfl⟩ := run_ret_some r4
  obtain ⟨x, ss1, h1, h2, rfl⟩ := h ss src a _ h0 r1
  obtain ⟨y, ss2, k1, k2, rfl⟩ := hs ss1 _ b _ h2 r3
  exact ⟨_, ss2, by unfold xCons; simp only [h1, k1], k2, rfl⟩
theorem evx_src {i : Nat} {ms : S → R (List Slot)} {cs : M β} {as : β → List Slot} (h : ρ[i]? = some .src) (hs : EvX ms ρ cs as) : EvX (xSrc i ms) ρ cs (fun p => .src :: as p) := fun ss src r src' h0 hr => by
  obtain ⟨y, ss2, k1, k2, rfl⟩ := hs ss _ r _ h0 hr
  obtain ⟨s, q1, q2⟩ := h0.get h
  cases q2
  exact ⟨_, ss2, by unfold xSrc; simp only [q1, k1], k2, rfl⟩
theorem ev_call {g : GFn} {ms : S → R (List Slot)} {c : M α} {as : α → List Slot} {F : α → Option γ} (hs : EvX ms ρ c as) (hn : ∀ a, (as a).any Slot.isSrc = false) (h : ∀ a, FnP g (as a) (F a) e3 w) : Ev (mCall g ms) ρ (bnd c fun a => out (F a)) e3 w := fun ss src r src' h0 hr => by
  obtain ⟨a, s1, r1, r2⟩ := run_bnd_some hr
  obtain ⟨r3, rfl⟩ := run_out_some r2
  obtain ⟨x, ss1, h1, h2, rfl⟩ := hs ss src a _ h0 r1
  obtain ⟨s, q1, q2⟩ := h a r r3
  exact ⟨s, ss1, by unfold mCall; simp only [h1, hn, q1]; rfl, h2, q2⟩
theorem ev_callD {g : GFn} {ms : S → R (List Slot)} {c : DM α} {as : α → List Slot} {F : α → DM γ} (hs : EvX ms ρ c as) (hn : ∀ a, (as a).any Slot.isSrc = true) (h : ∀ a, FnD g (as a) (F a) e3 w) : Ev (mCall g ms) ρ (bnd c fun a => F a) e3 w := fun ss src r src' h0 hr => by
  obtain ⟨a, s1, r1, r2⟩ := run_bnd_some hr
  obtain ⟨t, t', rfl, rfl, r3⟩ := DM.run_some r2
  obtain ⟨x, ss1, h1, h2, rfl⟩ := hs ss src a _ h0 r1
  obtain ⟨s, q1, q2⟩ := h a t r t' r3
  exact ⟨s, ss1, by unfold mCall; simp only [h1, hn, q1]; rfl, h2, q2⟩
end Td
end
set_option linter.all false
set_option maxRecDepth 100000
noncomputable section
namespace Td
open PySem PySem.Spec PyProof.Rows L2 Pd PM
variable {M : Type → Type} [PM M] {α β γ δ τ ζ : Type}
variable {ρ ρ1 ρ2 : List Kn} {e : α → PyData} {e1 : α → PyData} {e2 : β → PyData} {e3 : γ → PyData} {e4 : δ → PyData} {w w' : Wf}
abbrev Kt (τ : Type) := τ → Option Src → RS → Prop
def EvK (m : S → RS) (ρ : List Kn) (c : M τ) (κ : Kt τ) : Prop := ∀ (ss : List Slot) (src : Option Src) (t : τ) (src' : Option Src), Hs ρ ss → run c src = some (t, src') → κ t src' (m ⟨ss, src⟩)
inductive Out (β γ : Type) where
  | nx (b : β) | bk (b : β) | rt (r : γ)
def kN (ρ' : β → List Kn) : Kt β := fun b src' rs => ∃ ss', rs = .nx ⟨ss', src'⟩ ∧ Hs (ρ' b) ss'
def kL (ρ' : β → List Kn) : Kt β := fun b src' rs => ∃ ss', (rs = .nx ⟨ss', src'⟩ ∨ rs = .ct ⟨ss', src'⟩) ∧ Hs (ρ' b) ss'
def kRet (e : γ → PyData) (w : Wf) : Kt γ := fun r src' rs => ∃ s ss', rs = .ret s ⟨ss', src'⟩ ∧ (w.kn (e r)).ok s
def kF (e : γ → PyData) (w : Wf) : Kt γ := fun r src' rs => kRet e w r src' rs ∨ ∃ ss', rs = .nx ⟨ss', src'⟩ ∧ (w.kn (e r)).ok (.v .none)
def kO (ρ' : β → List Kn) (e : γ → PyData) (w : Wf) : Kt (Out β γ) := fun o src' rs => match o with
  | .nx b => kL ρ' b src' rs
  | .bk b => ∃ ss', rs = .bk ⟨ss', src'⟩ ∧ Hs (ρ' b) ss'
  | .rt r => kRet e w r src' rs
def kE (ρ' : β → List Kn) (e : γ → PyData) (w : Wf) : Kt (Out β γ) := fun o src' rs => match o with
  | .nx b => kN ρ' b src' rs
  | .bk b => kN ρ' b src' rs
  | .rt r => kRet e w r src' rs
def exit (κ : Kt τ) : Kt τ := fun t src rs => κ t src rs ∧ ∀ s, rs ≠ .nx s
/-- a return, as κ tells it -/
def RtOk (κ : Kt τ) (e : γ → PyData) (w : Wf) (inj : γ → τ) : Prop := ∀ r src rs, kRet e w r src rs → κ (inj r) src rs
theorem rt_f : RtOk (kF e w) e w (fun r => r) := fun r src rs h => .inl h
theorem rt_o {ρ' : β → List Kn} : RtOk (kO ρ' e w) e w .rt := fun r src rs h => h
theorem rt_ex {κ : Kt τ} {inj : γ → τ} (h : RtOk κ e3 w inj) : RtOk (exit κ) e3 w inj := fun r src rs k => ⟨h r src rs k, fun s z => by
  obtain ⟨_, _, q, _⟩ := k
  rw [q] at z
  cases z⟩
/-- the end of a block, as κ tells it -/
def NxOk (κ : Kt τ) (ρ : List Kn) (t : τ) : Prop := ∀ src ss, Hs ρ ss → κ t src (.nx ⟨ss, src⟩)
theorem nx_n {ρ' : β → List Kn} {b : β} (h : KwL ρ (ρ' b)) : NxOk (kN ρ') ρ b := fun src ss hs => ⟨ss, rfl, h.ok hs⟩
theorem nx_l {ρ' : β → List Kn} {b : β} (h : KwL ρ (ρ' b)) : NxOk (kL ρ') ρ b := fun src ss hs => ⟨ss, .inl rfl, h.ok hs⟩
theorem nx_o {ρ' : β → List Kn} {b : β} (h : KwL ρ (ρ' b)) : NxOk (kO ρ' e w) ρ (.nx b) := fun src ss hs => ⟨ss, .inl rfl, h.ok hs⟩
/-- continue -/
def CtOk (κ : Kt τ) (ρ : List Kn) (t : τ) : Prop := ∀ src ss, Hs ρ ss → κ t src (.ct ⟨ss, src⟩)
section
variable {κ : Kt τ} {s1 s2 s3 : S → RS} {c1 : M β} {c2 : β → M τ} {ρ' : β → List Kn}
theorem k_weak {c : M τ} (h : KwL ρ ρ1) (k : EvK s1 ρ1 c κ) : EvK s1 ρ c κ := fun ss src t src' hs hr => k ss src t src' (h.ok hs) hr
theorem k_seq (h1 : EvK s1 ρ c1 (kN ρ')) (h2 : ∀ b, EvK s2 (ρ' b) (c2 b) κ) : EvK (sSeq s1 s2) ρ (bnd c1 c2) κ := fun ss src t src' hs hr => by
  obtain ⟨a, s, r1, r2⟩ := run_bnd_some hr
  obtain ⟨ss1, q1, q2⟩ := h1 ss src a s hs r1
  unfold sSeq
  rw [q1]
  exact h2 a ss1 s t src' q2 r2
theorem k_nil {t : τ} (h : NxOk κ ρ t) : EvK sNil ρ (ret t : M τ) κ := fun ss src t' src' hs hr => by
  obtain ⟨rfl, rfl⟩ := run_ret_some hr
  exact h _ _ hs
theorem k_last (h1 : EvK s1 ρ c1 (kN ρ')) (h2 : ∀ b, EvK sNil (ρ' b) (c2 b) κ) : EvK s1 ρ (bnd c1 c2) κ := fun ss src t src' hs hr => by
  have := k_seq h1 h2 ss src t src' hs hr
  unfold sSeq at this
  split at this
  · rename_i st1 q
    rw [q]
    exact this
  · exact this
theorem k_ret {m : S → R Slot} {c : M γ} {inj : γ → τ} (h : Ev m ρ c e3 w) (r : RtOk κ e3 w inj) : EvK (sRet m) ρ (bnd c fun a => ret (inj a)) κ := fun ss src t src' hs hr => by
  obtain ⟨a, s, r1, r2⟩ := run_bnd_some hr
  obtain ⟨rfl, rfl⟩ := run_ret_some r2
  obtain ⟨x, ss1, h1, h2, h3⟩ := h ss src a _ hs r1
  exact r a _ _ ⟨x, ss1, by unfold sRet; simp only [h1], h3⟩
/-- return of a name -/
theorem k_mv {i : Nat} {k : Kn} {a : γ} {inj : γ → τ} (h : ρ[i]? = some k) (hk : k = .val (e3 a) ∧ w = .val ∨ k = .own (e3 a) ∧ w = .own ∨ (k = .any (e3 a) ∨ k = .own (e3 a) ∨ k = .val (e3 a)) ∧ w = .any) (r : RtOk κ e3 w inj) : EvK (sRet (mMv i)) ρ (ret (inj a) : M τ) κ := fun ss src t src' hs hr => by
  obtain ⟨rfl, rfl⟩ := run_ret_some hr
  obtain ⟨s, q1, q2⟩ := hs.get h
  have : s = .v (e3 a) ∧ (w.kn (e3 a)).ok (.v (e3 a)) ∨ s = .o (e3 a) ∧ (w.kn (e3 a)).ok (.o (e3 a)) := by
    rcases hk with ⟨rfl, rfl⟩ | ⟨rfl, rfl⟩ | ⟨rfl | rfl | rfl, rfl⟩
    · exact .inl ⟨q2, rfl⟩
    · exact .inr ⟨q2, rfl⟩
    · rcases q2 with q2 | q2
      · exact .inl ⟨q2, .inl rfl⟩
      · exact .inr ⟨q2, .inr rfl⟩
    · exact .inr ⟨q2, .inr rfl⟩
    · exact .inl ⟨q2, .inl rfl⟩
  rcases this with ⟨rfl, z⟩ | ⟨rfl, z⟩
  · exact r a _ _ ⟨_, ss, by unfold sRet mMv; simp only [q1], z⟩
  · exact r a _ _ ⟨_, ss.set i .no, by unfold sRet mMv; simp only [q1], z⟩
theorem k_if {t : S → R Bool} {c : M Bool} {ca cb : M τ} (h : EvT t ρ c) (h1 : EvK s1 ρ ca κ) (h2 : EvK s2 ρ cb κ) : EvK (sIf t s1 s2) ρ (bnd c fun z => cnd z ca cb) κ := fun ss src r src' hs hr => by
  obtain ⟨a, s, r1, r2⟩ := run_bnd_some hr
  obtain ⟨x, ss1, q1, q2, rfl⟩ := h ss src a _ hs r1
  rw [run_cnd] at r2
  unfold sIf
  rw [q1]
  cases x with
  | true => exact h1 ss1 s r src' q2 r2
  | false => exact h2 ss1 s r src' q2 r2
/-- an if, the first branch of which goes away -/
theorem k_ifx {t : S → R Bool} {c : M Bool} {ca cb : M τ} (h : EvT t ρ c) (h1 : EvK s1 ρ ca (exit κ)) (h2 : EvK (sSeq s2 s3) ρ cb κ) : EvK (sSeq (sIf t s1 s2) s3) ρ (bnd c fun z => cnd z ca cb) κ := fun ss src r src' hs hr => by
  obtain ⟨a, s, r1, r2⟩ := run_bnd_some hr
  obtain ⟨x, ss1, q1, q2, rfl⟩ := h ss src a _ hs r1
  rw [run_cnd] at r2
  unfold sSeq sIf
  rw [q1]
  cases x with
  | true =>
    obtain ⟨k1, k2⟩ := h1 ss1 s r src' q2 r2
    show κ r src' (match s1 ⟨ss1, s⟩ with | .nx st1 => s3 st1 | r => r)
    split
    · rename_i st1 q
      exact absurd q (k2 st1)
    · exact k1
  | false => exact h2 ss1 s r src' q2 r2
/-- an if, the second branch of which goes away -/
theorem k_ify {t : S → R Bool} {c : M Bool} {ca cb : M τ} (h : EvT t ρ c) (h1 : EvK (sSeq s1 s3) ρ ca κ) (h2 : EvK s2 ρ cb (exit κ)) : EvK (sSeq (sIf t s1 s2) s3) ρ (bnd c fun z => cnd z ca cb) κ := fun ss src r src' hs hr => by
  obtain ⟨a, s, r1, r2⟩ := run_bnd_some hr
  obtain ⟨x, ss1, q1, q2, rfl⟩ := h ss src a _ hs r1
  rw [run_cnd] at r2
  unfold sSeq sIf
  rw [q1]
  cases x with
  | false =>
    obtain ⟨k1, k2⟩ := h2 ss1 s r src' q2 r2
    show κ r src' (match s2 ⟨ss1, s⟩ with | .nx st1 => s3 st1 | r => r)
    split
    · rename_i st1 q
      exact absurd q (k2 st1)
    · exact k1
  | true => exact h1 ss1 s r src' q2 r2
/-- an if, what follows told twice -/
theorem k_if2 {t : S → R Bool} {c : M Bool} {ca cb : M τ} (h : EvT t ρ c) (h1 : EvK (sSeq s1 s3) ρ ca κ) (h2 : EvK (sSeq s2 s3) ρ cb κ) : EvK (sSeq (sIf t s1 s2) s3) ρ (bnd c fun z => cnd z ca cb) κ := fun ss src r src' hs hr => by
  obtain ⟨a, s, r1, r2⟩ := run_bnd_some hr
  obtain ⟨x, ss1, q1, q2, rfl⟩ := h ss src a _ hs r1
  rw [run_cnd] at r2
  unfold sSeq sIf
  rw [q1]
  cases x with
  | false => exact h2 ss1 s r src' q2 r2
  | true => exact h1 ss1 s r src' q2 r2
theorem k_nilseq {c : M τ} (h : EvK s1 ρ c κ) : EvK (sSeq sNil s1) ρ c κ := h
theorem k_assoc {c : M τ} (h : EvK (sSeq s1 (sSeq s2 s3)) ρ c κ) : EvK (sSeq (sSeq s1 s2) s3) ρ c κ := fun ss src r src' hs hr => by
  have := h ss src r src' hs hr
  unfold sSeq at this ⊢
  cases q : s1 ⟨ss, src⟩ <;> simp only [q] at this ⊢ <;> exact this
/-- what exits needs nothing behind it -/
theorem k_exseq {c : M τ} (h : EvK s1 ρ c (exit κ)) : EvK (sSeq s1 s2) ρ c (exit κ) := fun ss src r src' hs hr => by
  obtain ⟨k1, k2⟩ := h ss src r src' hs hr
  unfold sSeq
  cases q : s1 ⟨ss, src⟩ with
  | nx s => exact absurd q (k2 s)
  | _ =>
    rw [q] at k1
    exact ⟨k1, fun s z => by cases z⟩
end
section
variable {c : M α} {i j l : Nat}
theorem k_set {m : S → R Slot} {ρ' : α → List Kn} (h : Ev m ρ c e w) (hρ : ∀ a, ρ.set i (w.kn (e a)) = ρ' a) : EvK (sSet i m) ρ c (kN ρ') := fun ss src a src' hs hr => by
  obtain ⟨x, ss1, h1, h2, h3⟩ := h ss src a _ hs hr
  exact ⟨ss1.set i x, by unfold sSet; simp only [h1], hρ a ▸ h2.put h3⟩
theorem k_par2 {m m' : S → R Slot} {c' : M β} {ρ' : α × β → List Kn} (h : Ev m ρ c e w) (h' : Ev m' ρ c' e2 w') (hρ : ∀ p, (ρ.set i (w.kn (e p.1))).set j (w'.kn (e2 p.2)) = ρ' p) : EvK (sPar2 i j m m') ρ (bnd c fun a => bnd c' fun b => ret (a, b)) (kN ρ') := fun ss src p src' hs hr => by
  obtain ⟨a, s1, r1, r2⟩ := run_bnd_some hr
  obtain ⟨b, s2, r3, r4⟩ := run_bnd_some r2
  obtain ⟨rfl, rfl⟩ := run_ret_some r4
  obtain ⟨x, ss1, h1, h2, h3⟩ := h ss src a _ hs r1
  obtain ⟨y, ss2, k1, k2, k3⟩ := h' ss1 _ b _ h2 r3
  exact ⟨(ss2.set i x).set j y, by unfold sPar2; simp only [h1, k1], hρ (a, b) ▸ (k2.put h3).put k3⟩
/-- a method at data: what is handed back, the list behind it -/
def MutE (g : List PyData → List PyData → Option (PyData × List PyData)) (e : α → PyData) (as : β → List PyData) (e3 : γ → PyData) (F : List α → β → Option (γ × List α)) : Prop := ∀ xs b r, F xs b = some r → g (xs.map e) (as b) = some (e3 r.1, r.2.map e)
theorem mut_ev {g : List PyData → List PyData → Option (PyData × List PyData)} {ma : S → R (List PyData)} {cb : M β} {as : β → List PyData} {F : List α → β → Option (γ × List α)} {xs : List α} (o : MutE g e as e3 F) (hi : ρ[i]? = some (.own (eLst e xs))) (h : EvA ma ρ cb as) :
    ∀ ss src r src', Hs ρ ss → run (bnd cb fun b => out (F xs b)) src = some (r, src') → ∃ ss', mMut g i ma ⟨ss, src⟩ = .ok (.v (e3 r.1)) ⟨ss', src'⟩ ∧ Hs (ρ.set i (.own (eLst e r.2))) ss' := fun ss src r src' hs hr => by
  obtain ⟨b, s1, r1, r2⟩ := run_bnd_some hr
  obtain ⟨r3, rfl⟩ := run_out_some r2
  obtain ⟨s, q1, q2⟩ := hs.get hi
  cases q2
  obtain ⟨x, ss1, h1, h2, rfl⟩ := h ss src b _ hs r1
  obtain ⟨s', q3, q4⟩ := h2.get hi
  cases q4
  exact ⟨ss1.set i (.o (eLst e r.2)), by unfold mMut; simp only [q1, h1, q3, o xs b r r3], h2.put (k := .own (eLst e r.2)) rfl⟩
end

def foldM (cb : β → α → M β) : List α → β → M β
  | [], b => ret b
  | x :: xs, b => bnd (cb b x) fun b' => foldM cb xs b'
def foldO (cb : β → α → M (Out β γ)) : List α → β → M (Out β γ)
  | [], b => ret (.nx b)
  | x :: xs, b => bnd (cb b x) fun o => match o with
    | .nx b' => foldO cb xs b'
    | .bk b' => ret (.nx b')
    | .rt r => ret (.rt r)
section
variable {mi : S → R (List PyData)} {g : PyData → S → Option S} {m : S → RS} {ci : M (List α)} {ρL : β → List Kn} {ρa : β → α → List Kn}
theorem forGo_ev {cb : β → α → M β} (hg : ∀ b a, Tg g (ρL b) (e1 a) (ρa b a)) (hb : ∀ b a, EvK m (ρa b a) (cb b a) (kL ρL)) : ∀ (xs : List α) (b : β) (ss : List Slot) (src : Option Src) (b' : β) (src' : Option Src), Hs (ρL b) ss → run (foldM cb xs b) src = some (b', src') → ∃ ss', forGo g m (xs.map e1) ⟨ss, src⟩ = .nx ⟨ss', src'⟩ ∧ Hs (ρL b') ss'
  | [], b, ss, src, b', src', hs, hr => by
    obtain ⟨rfl, rfl⟩ := run_ret_some hr
    exact ⟨ss, rfl, hs⟩
  | x :: xs, b, ss, src, b', src', hs, hr => by
    obtain ⟨b1, s1, r1, r2⟩ := run_bnd_some hr
    obtain ⟨ss1, g1, g2⟩ := hg b x ss src hs
    obtain ⟨ss2, k1, k2⟩ := hb b x ss1 src b1 s1 g2 r1
    obtain ⟨ss', l1, l2⟩ := forGo_ev hg hb xs b1 ss2 s1 b' src' k2 r2
    refine ⟨ss', ?_, l2⟩
    rw [List.map_cons]
    unfold forGo
    rw [g1]
    rcases k1 with k1 | k1
    · simp only [k1, l1]
    · simp only [k1, l1]
theorem k_for {cb : β → α → M β} {b0 : β} (hi : EvA mi ρ ci (List.map e1)) (h0 : KwL ρ (ρL b0)) (hg : ∀ b a, Tg g (ρL b) (e1 a) (ρa b a)) (hb : ∀ b a, EvK m (ρa b a) (cb b a) (kL ρL)) : EvK (sFor mi g m) ρ (bnd ci fun xs => foldM cb xs b0) (kN ρL) := fun ss src b src' hs hr => by
  obtain ⟨xs, s1, r1, r2⟩ := run_bnd_some hr
  obtain ⟨ds, ss1, i1, i2, rfl⟩ := hi ss src xs _ hs r1
  obtain ⟨ss', l1, l2⟩ := forGo_ev hg hb xs b0 ss1 s1 b src' (h0.ok i2) r2
  exact ⟨ss', by unfold sFor; simp only [i1, l1], l2⟩
theorem forGo_evO {e3 : γ → PyData} {cb : β → α → M (Out β γ)} (hg : ∀ b a, Tg g (ρL b) (e1 a) (ρa b a)) (hb : ∀ b a, EvK m (ρa b a) (cb b a) (kO ρL e3 w)) : ∀ (xs : List α) (b : β) (ss : List Slot) (src : Option Src) (o : Out β γ) (src' : Option Src), Hs (ρL b) ss → run (foldO cb xs b) src = some (o, src') → kE ρL e3 w o src' (forGo g m (xs.map e1) ⟨ss, src⟩)
  | [], b, ss, src, o, src', hs, hr => by
    obtain ⟨rfl, rfl⟩ := run_ret_some hr
    exact ⟨ss, rfl, hs⟩
  | x :: xs, b, ss, src, o, src', hs, hr => by
    obtain ⟨b1, s1, r1, r2⟩ := run_bnd_some hr
    obtain ⟨ss1, g1, g2⟩ := hg b x ss src hs
    have k := hb b x ss1 src b1 s1 g2 r1
    rw [List.map_cons]
    unfold forGo
    rw [g1]
    cases b1 with
    | nx b' =>
      obtain ⟨ss2, k1, k2⟩ := k
      have l := forGo_evO hg hb xs b' ss2 s1 o src' k2 r2
      rcases k1 with k1 | k1
      · simp only [k1]
        exact l
      · simp only [k1]
        exact l
    | bk b' =>
      obtain ⟨rfl, rfl⟩ := run_ret_some r2
      obtain ⟨ss2, k1, k2⟩ := k
      simp only [k1]
      exact ⟨ss2, rfl, k2⟩
    | rt r =>
      obtain ⟨rfl, rfl⟩ := run_ret_some r2
      obtain ⟨s, ss2, k1, k2⟩ := k
      simp only [k1]
      exact ⟨s, ss2, rfl, k2⟩
theorem k_forO {e3 : γ → PyData} {cb : β → α → M (Out β γ)} {b0 : β} (hi : EvA mi ρ ci (List.map e1)) (h0 : KwL ρ (ρL b0)) (hg : ∀ b a, Tg g (ρL b) (e1 a) (ρa b a)) (hb : ∀ b a, EvK m (ρa b a) (cb b a) (kO ρL e3 w)) : EvK (sFor mi g m) ρ (bnd ci fun xs => foldO cb xs b0) (kE ρL e3 w) := fun ss src b src' hs hr => by
  obtain ⟨xs, s1, r1, r2⟩ := run_bnd_some hr
  obtain ⟨ds, ss1, i1, i2, rfl⟩ := hi ss src xs _ hs r1
  have l := forGo_evO hg hb xs b0 ss1 s1 b src' (h0.ok i2) r2
  unfold sFor
  simp only [i1]
  exact l
def outK (o : Out β γ) (f : β → M τ) (g : γ → M τ) : M τ := match o with
  | .nx b => f b
  | .bk b => f b
  | .rt r => g r
theorem k_seqE {e3 : γ → PyData} {κ : Kt τ} {s1 s2 : S → RS} {c1 : M (Out β γ)} {c2 : β → M τ} {inj : γ → τ} (h1 : EvK s1 ρ c1 (kE ρL e3 w)) (h2 : ∀ b, EvK s2 (ρL b) (c2 b) κ) (r : RtOk κ e3 w inj) : EvK (sSeq s1 s2) ρ (bnd c1 fun o => outK o c2 fun r => ret (inj r)) κ := fun ss src t src' hs hr => by
  obtain ⟨o, s, r1, r2⟩ := run_bnd_some hr
  have k := h1 ss src o s hs r1
  unfold sSeq
  cases o with
  | nx b =>
    obtain ⟨ss1, q1, q2⟩ := k
    rw [q1]
    exact h2 b ss1 s t src' q2 r2
  | bk b =>
    obtain ⟨ss1, q1, q2⟩ := k
    rw [q1]
    exact h2 b ss1 s t src' q2 r2
  | rt b =>
    obtain ⟨rfl, rfl⟩ := run_ret_some r2
    have k' := k
    obtain ⟨x, ss1, q1, q2⟩ := k
    rw [q1] at k' ⊢
    exact r b _ _ k'
theorem k_lastE {e3 : γ → PyData} {κ : Kt τ} {s1 : S → RS} {c1 : M (Out β γ)} {c2 : β → M τ} {inj : γ → τ} (h1 : EvK s1 ρ c1 (kE ρL e3 w)) (h2 : ∀ b, EvK sNil (ρL b) (c2 b) κ) (r : RtOk κ e3 w inj) : EvK s1 ρ (bnd c1 fun o => outK o c2 fun r => ret (inj r)) κ := fun ss src t src' hs hr => by
  have := k_seqE h1 h2 r ss src t src' hs hr
  unfold sSeq at this
  split at this
  · rename_i st1 q
    rw [q]
    exact this
  · exact this
def whK (c : β → M Bool) (cb : β → M β) : Nat → β → M β
  | 0, _ => out none
  | k + 1, b => bnd (c b) fun z => cnd z (bnd (cb b) fun b' => whK c cb k b') (ret b)
def whO (c : β → M Bool) (cb : β → M (Out β γ)) : Nat → β → M (Out β γ)
  | 0, _ => out none
  | k + 1, b => bnd (c b) fun z => cnd z (bnd (cb b) fun o => match o with
    | .nx b' => whO c cb k b'
    | .bk b' => ret (.nx b')
    | .rt r => ret (.rt r)) (ret (.nx b))
theorem kE.good {e3 : γ → PyData} {o : Out β γ} {src : Option Src} {rs : RS} (h : kE ρL e3 w o src rs) : rs ≠ .bad := by
  cases o with
  | nx b => obtain ⟨_, h, _⟩ := h; rw [h]; exact fun z => nomatch z
  | bk b => obtain ⟨_, h, _⟩ := h; rw [h]; exact fun z => nomatch z
  | rt r => obtain ⟨_, _, h, _⟩ := h; rw [h]; exact fun z => nomatch z
end

theorem fn_p {g : GFn} {n : Nat} {m : S → RS} {as : List Slot} {o : Option γ} {ss0 : List Slot} (hg : g = gOf n m) (hs : startS n as = ss0) (hρ : Hs ρ ss0) (h : EvK (M := Option) m ρ o (kF e3 w)) : FnP g as o e3 w := fun r hr => by
  subst hg hs
  have k := h _ none r none hρ (by show o.map (fun a => (a, none)) = _; rw [hr]; rfl)
  rcases k with ⟨s, ss', k1, k2⟩ | ⟨ss', k1, k2⟩
  · refine ⟨s, ?_, k2⟩
    unfold gOf
    rw [k1]
    cases s with
    | cel => cases w <;> cases k2 <;> rename_i z <;> cases z
    | _ => rfl
  · refine ⟨.v .none, ?_, k2⟩
    unfold gOf
    rw [k1]
theorem fn_d {g : GFn} {n : Nat} {m : S → RS} {as : List Slot} {c : DM γ} {ss0 : List Slot} (hg : g = gOf n m) (hs : startS n as = ss0) (hρ : Hs ρ ss0) (h : EvK (M := DM) m ρ c (kF e3 w)) : FnD g as c e3 w := fun src r src' hr => by
  subst hg hs
  have k := h _ (some src) r (some src') hρ (DM.run_of hr)
  rcases k with ⟨s, ss', k1, k2⟩ | ⟨ss', k1, k2⟩
  · refine ⟨s, ?_, k2⟩
    unfold gOf
    rw [k1]
    cases s with
    | cel => cases w <;> cases k2 <;> rename_i z <;> cases z
    | _ => rfl
  · refine ⟨.v .none, ?_, k2⟩
    unfold gOf
    rw [k1]
/-- the knowledge at the entry -/
theorem hs_nil : Hs [] [] := ⟨rfl, fun i k s h => by simp at h⟩
theorem hs_cons {k : Kn} {s : Slot} {ρ : List Kn} {ss : List Slot} (h : k.ok s) (hs : Hs ρ ss) : Hs (k :: ρ) (s :: ss) := ⟨by rw [List.length_cons, List.length_cons, hs.len], fun i k' s' h1 h2 => by
  cases i with
  | zero =>
    simp only [List.getElem?_cons_zero, Option.some.injEq] at h1 h2
    subst h1 h2
    exact h
  | succ i =>
    simp only [List.getElem?_cons_succ] at h1 h2
    exact hs.at_ i k' s' h1 h2⟩
theorem hs_v {d : PyData} {ρ : List Kn} {ss : List Slot} (hs : Hs ρ ss) : Hs (.val d :: ρ) (.v d :: ss) := hs_cons rfl hs
theorem hs_no {ρ : List Kn} {ss : List Slot} (hs : Hs ρ ss) : Hs (.dead :: ρ) (.no :: ss) := hs_cons True.intro hs
theorem hs_src {ρ : List Kn} {ss : List Slot} (hs : Hs ρ ss) : Hs (.src :: ρ) (.src :: ss) := hs_cons rfl hs
end Td
end
set_option linter.all false
set_option maxRecDepth 100000
noncomputable section
namespace Td
open PySem PySem.Spec PyProof.Rows L2 Pd PM
variable {M : Type → Type} [PM M] {α β γ δ τ ζ : Type}
variable {ρ ρ1 ρ2 : List Kn} {e : α → PyData} {e1 : α → PyData} {e2 : β → PyData} {e3 : γ → PyData} {e4 : δ → PyData} {w w' : Wf}

def addI (a b : Int) : Option Int := some (a + b)
def subI (a b : Int) : Option Int := some (a - b)
def divI (a b : Int) : Option Int := if 0 < b ∧ b < 1073741824 then some (a / b) else none
def modI (a b : Int) : Option Int := if 0 < b then some (a % b) else none
def ltI (a b : Int) : Option Bool := some (decide (a < b))
def gtI (a b : Int) : Option Bool := some (decide (b < a))
def leI' (a b : Int) : Option Bool := some (decide (a ≤ b))
def geI (a b : Int) : Option Bool := some (decide (b ≤ a))
theorem op_addI : Op2 gAdd eInt eInt eInt .val addI := fun a b r h => by cases h; exact ⟨_, rfl, rfl⟩
theorem op_subI : Op2 gSub eInt eInt eInt .val subI := fun a b r h => by cases h; exact ⟨_, rfl, rfl⟩
theorem op_divI : Op2 gDiv eInt eInt eInt .val divI := fun a b r h => by
  unfold divI at h
  split at h
  · rename_i z
    cases h
    exact ⟨_, gDiv_int z.1 z.2, rfl⟩
  · cases h
theorem op_modI : Op2 gMod eInt eInt eInt .val modI := fun a b r h => by
  unfold modI at h
  split at h
  · rename_i z
    cases h
    exact ⟨_, gMod_int z, rfl⟩
  · cases h
theorem op_ltI : Op2 gLt eInt eInt eBool .val ltI := fun a b r h => by cases h; exact ⟨_, rfl, rfl⟩
theorem op_gtI : Op2 gGt eInt eInt eBool .val gtI := fun a b r h => by cases h; exact ⟨_, rfl, rfl⟩
def negI (a : Int) : Option Int := some (-a)
def absI (a : Int) : Option Int := some (if a < 0 then -a else a)
def intB (b : Bool) : Option Int := some (if b then 1 else 0)
theorem op_int : Op1 gInt eInt eInt .val (fun a => some a) := fun a r h => by cases h; exact ⟨_, rfl, rfl⟩
def min2 (a b : Int) : Option Int := some (min a b)
def max2 (a b : Int) : Option Int := some (max a b)
theorem op_min2 : Op2 gMin2 eInt eInt eInt .val min2 := fun a b r h => by
  cases h
  refine ⟨_, rfl, ?_⟩
  show Slot.v (.int (if b < a then b else a)) = Slot.v (.int (min a b))
  congr 2
  omega
def cat (xs ys : List α) : Option (List α) := if okLen (xs.length + ys.length) = true then some (xs ++ ys) else none
theorem op_catL : Op2 gAdd (eLst e) (eLst e) (eLst e) .own cat := fun a b r h => by
  unfold cat at h
  split at h
  · rename_i z
    cases h
    refine ⟨.o (.list ((a ++ b).map e)), ?_, rfl⟩
    show gAdd (.list (a.map e)) (.list (b.map e)) = _
    simp only [gAdd, List.length_map, z, if_true, List.map_append]
  · cases h
theorem op_catT : Op2 gAdd (eTup e) (eTup e) (eTup e) .val cat := fun a b r h => by
  unfold cat at h
  split at h
  · rename_i z
    cases h
    refine ⟨.v (.tuple ((a ++ b).map e)), ?_, rfl⟩
    show gAdd (.tuple (a.map e)) (.tuple (b.map e)) = _
    simp only [gAdd, List.length_map, z, if_true, List.map_append]
  · cases h
def at_ (xs : List α) (i : Int) : Option α := L2.atI xs i
theorem atI_map (xs : List α) (i : Int) : L2.atI (xs.map e) i = (at_ xs i).map e := by
  unfold at_ L2.atI
  rw [List.length_map]
  cases ixN xs.length i with
  | none => rfl
  | some j => exact List.getElem?_map
theorem op_ix {L : α → List γ} (q : SeqE e1 L e3) : Op2 gIx e1 eInt e3 .val (fun x i => at_ (L x) i) := fun a b r h => by
  have h : at_ (L a) b = some r := h
  rcases q a with z | z
  · refine ⟨.v (e3 r), ?_, rfl⟩
    rw [z]
    show (L2.atI _ b).map Slot.v = _
    rw [atI_map, h]
    rfl
  · refine ⟨.v (e3 r), ?_, rfl⟩
    rw [z]
    show (L2.atI _ b).map Slot.v = _
    rw [atI_map, h]
    rfl
theorem op_len {L : α → List γ} (q : SeqE e1 L e3) : Op1 gLen e1 eInt .val (fun x => some ((L x).length : Int)) := fun a r h => by
  cases h
  refine ⟨.v (.int ((L a).length : Int)), ?_, rfl⟩
  rcases q a with z | z
  · rw [z]
    show some (Slot.v (.int ((List.map e3 (L a)).length : Int))) = _
    rw [List.length_map]
  · rw [z]
    show some (Slot.v (.int ((List.map e3 (L a)).length : Int))) = _
    rw [List.length_map]
theorem op_tuple {L : α → List γ} (q : SeqE e1 L e3) : Op1 gTuple e1 (eTup e3) .val (fun x => some (L x)) := fun a r h => by
  cases h
  rcases q a with z | z
  · exact ⟨_, by rw [z]; rfl, rfl⟩
  · exact ⟨_, by rw [z]; rfl, rfl⟩
theorem intsD_map : ∀ l : List Int, intsD (l.map PyData.int) = some l
  | [] => rfl
  | x :: l => by
    rw [List.map_cons, intsD, intsD_map l]
    rfl
def reprO (e : α → PyData) (a : α) : Option Str := if reprOk (e a) = true then some (e a).shown else none
theorem op_repr : Op1 gRepr e eStr .val (reprO e) := fun a r h => by
  unfold reprO at h
  split at h
  · rename_i z
    cases h
    exact ⟨_, by unfold gRepr; rw [if_pos z], rfl⟩
  · cases h

structure EqE [DecidableEq α] (e : α → PyData) (k : Nat) : Prop where
  plain : ∀ a, (e a).plain = true
  deep : ∀ a, (e a).depth ≤ k
  eqv : ∀ a b, PyData.eqv (e a) (e b) = decide (a = b)
theorem eq_int : EqE eInt 0 := ⟨fun _ => rfl, fun _ => Nat.le_refl _, fun a b => PySem.W.Datum.eqv a b⟩
theorem eq_bool : EqE eBool 0 := ⟨fun _ => rfl, fun _ => Nat.le_refl _, fun a b => PySem.W.Datum.eqv a b⟩
theorem eq_str : EqE eStr 0 := ⟨fun _ => rfl, fun _ => Nat.le_refl _, fun a b => PySem.W.Datum.eqv a b⟩
section
variable [DecidableEq α] [DecidableEq β] [DecidableEq γ] [DecidableEq δ] {k l m n : Nat}
theorem plainAll_e (h : EqE e k) : ∀ xs : List α, PyData.plainAll (xs.map e) = true
  | [] => rfl
  | x :: xs => by
    rw [List.map_cons, PyData.plainAll, h.plain x, plainAll_e h xs]
    rfl
theorem depthAll_e (h : EqE e k) : ∀ xs : List α, PyData.depthAll (xs.map e) ≤ k
  | [] => Nat.zero_le _
  | x :: xs => by
    rw [List.map_cons, PyData.depthAll]
    exact Nat.max_le.mpr ⟨h.deep x, depthAll_e h xs⟩
theorem eqvAll_e (h : EqE e k) : ∀ xs ys : List α, PyData.eqvAll (xs.map e) (ys.map e) = decide (xs = ys)
  | [], [] => by simp only [List.map_nil, PyData.eqvAll, decide_true]
  | [], _ :: _ => by simp [PyData.eqvAll]
  | _ :: _, [] => by simp [PyData.eqvAll]
  | x :: xs, y :: ys => by
    rw [List.map_cons, List.map_cons, PyData.eqvAll, h.eqv x y, eqvAll_e h xs ys, ← Bool.decide_and]
    exact decide_eq_decide.mpr (by rw [List.cons.injEq])
theorem eq_lst (h : EqE e k) : EqE (eLst e) (k + 1) where
  plain xs := by simp only [PyData.plain]; exact plainAll_e h xs
  eqv xs ys := by simp only [PyData.eqv]; exact eqvAll_e h xs ys
  deep xs := by simp only [PyData.depth]; exact Nat.succ_le_succ (depthAll_e h xs)
theorem eq_tup (h : EqE e k) : EqE (eTup e) (k + 1) where
  plain xs := by simp only [PyData.plain]; exact plainAll_e h xs
  eqv xs ys := by simp only [PyData.eqv]; exact eqvAll_e h xs ys
  deep xs := by simp only [PyData.depth]; exact Nat.succ_le_succ (depthAll_e h xs)
theorem eq_p2 (h1 : EqE e1 k) (h2 : EqE e2 l) : EqE (eP2 e1 e2) (k + l + 1) where
  plain p := by simp only [PyData.plain, PyData.plainAll, h1.plain, h2.plain, Bool.and_self]
  eqv p q := by
    simp only [PyData.eqv, PyData.eqvAll]
    rw [h1.eqv, h2.eqv, Bool.and_true, ← Bool.decide_and]
    exact decide_eq_decide.mpr ⟨fun e => Prod.ext e.1 e.2, fun e => by rw [e]; exact ⟨rfl, rfl⟩⟩
  deep p := by
    simp only [PyData.depth, PyData.depthAll]
    have := h1.deep p.1
    have := h2.deep p.2
    omega
theorem eq_p3 (h1 : EqE e1 k) (h2 : EqE e2 l) (h3 : EqE e3 m) : EqE (eP3 e1 e2 e3) (k + l + m + 1) where
  plain p := by simp only [PyData.plain, PyData.plainAll, h1.plain, h2.plain, h3.plain, Bool.and_self]
  eqv p q := by
    simp only [PyData.eqv, PyData.eqvAll]
    rw [h1.eqv, h2.eqv, h3.eqv, Bool.and_true, ← Bool.decide_and, ← Bool.decide_and]
    exact decide_eq_decide.mpr ⟨fun e => Prod.ext e.1 (Prod.ext e.2.1 e.2.2), fun e => by rw [e]; exact ⟨rfl, rfl, rfl⟩⟩
  deep p := by
    simp only [PyData.depth, PyData.depthAll]
    have := h1.deep p.1
    have := h2.deep p.2.1
    have := h3.deep p.2.2
    omega
theorem EqE.shp (h : EqE e k) (hk : k ≤ 60) (a : α) : shp (e a) = true := by
  unfold Pd.shp
  rw [h.plain, Bool.true_and]
  exact decide_eq_true (Nat.le_trans (h.deep a) hk)
def eqV (a b : α) : Option Bool := some (decide (a = b))
def neV (a b : α) : Option Bool := some (!decide (a = b))
def inV (a : α) (xs : List α) : Option Bool := some (decide (a ∈ xs))
def niV (a : α) (xs : List α) : Option Bool := some (!decide (a ∈ xs))
theorem op_eq (h : EqE e k) (hk : k ≤ 60) : Op2 gEq e e eBool .val eqV := fun a b r q => by
  cases q
  exact ⟨_, by unfold gEq; rw [h.shp hk, h.shp hk, h.eqv]; rfl, rfl⟩
theorem op_ne (h : EqE e k) (hk : k ≤ 60) : Op2 gNe e e eBool .val neV := fun a b r q => by
  cases q
  exact ⟨_, by unfold gNe; rw [h.shp hk, h.shp hk, h.eqv]; rfl, rfl⟩
theorem any_e (h : EqE e k) (a : α) : ∀ xs : List α, ((xs.map e).any fun z => PyData.eqv z (e a)) = decide (a ∈ xs)
  | [] => by simp
  | x :: xs => by
    rw [List.map_cons, List.any_cons, any_e h a xs, h.eqv, ← Bool.decide_or]
    exact decide_eq_decide.mpr (by rw [List.mem_cons, eq_comm])
theorem op_in {L : β → List α} (q : SeqE e2 L e) (h : EqE e k) (hk : k ≤ 60) : Op2 (gIn false) e e2 eBool .val (fun a x => inV a (L x)) := fun a b r z => by
  cases z
  refine ⟨_, ?_, rfl⟩
  rcases q b with z | z
  · rw [z]
    show (if (Pd.shp (e a) && PyData.plainAll ((L b).map e)) = true then some (Slot.v (.bool (false ^^ ((L b).map e).any fun z => PyData.eqv z (e a)))) else none) = _
    rw [h.shp hk, plainAll_e h, any_e h, Bool.false_xor]
    rfl
  · rw [z]
    show (if (Pd.shp (e a) && PyData.plainAll ((L b).map e)) = true then some (Slot.v (.bool (false ^^ ((L b).map e).any fun z => PyData.eqv z (e a)))) else none) = _
    rw [h.shp hk, plainAll_e h, any_e h, Bool.false_xor]
    rfl
theorem op_ni {L : β → List α} (q : SeqE e2 L e) (h : EqE e k) (hk : k ≤ 60) : Op2 (gIn true) e e2 eBool .val (fun a x => niV a (L x)) := fun a b r z => by
  cases z
  refine ⟨_, ?_, rfl⟩
  rcases q b with z | z
  · rw [z]
    show (if (Pd.shp (e a) && PyData.plainAll ((L b).map e)) = true then some (Slot.v (.bool (true ^^ ((L b).map e).any fun z => PyData.eqv z (e a)))) else none) = _
    rw [h.shp hk, plainAll_e h, any_e h, Bool.true_xor]
    rfl
  · rw [z]
    show (if (Pd.shp (e a) && PyData.plainAll ((L b).map e)) = true then some (Slot.v (.bool (true ^^ ((L b).map e).any fun z => PyData.eqv z (e a)))) else none) = _
    rw [h.shp hk, plainAll_e h, any_e h, Bool.true_xor]
    rfl

structure OrE (e : α → PyData) (k : Nat) (lt : α → α → Bool) : Prop extends EqE e k where
  alike : ∀ a b, PySem.W.alike (e a) (e b) = true
  nn : ∀ a, isNone (e a) = false
  lt_eq : ∀ a b, PySem.W.dataLt (e a) (e b) = lt a b
def ltZ (a b : Int) : Bool := decide (a < b)
theorem or_int : OrE eInt 0 ltZ := ⟨eq_int, PySem.W.DatumOrd.alike (α := Int), fun _ => rfl, fun a b => PySem.W.dataLt_int a b⟩
def ltL (lt : α → α → Bool) : List α → List α → Bool
  | [], [] => false
  | [], _ :: _ => true
  | _ :: _, [] => false
  | x :: xs, y :: ys => if x = y then ltL lt xs ys else lt x y
def ltP (lt : α → α → Bool) (lt' : β → β → Bool) (p q : α × β) : Bool := if p.1 = q.1 then lt' p.2 q.2 else lt p.1 q.1
def ltP3 (lt : α → α → Bool) (lt' : β → β → Bool) (lt'' : γ → γ → Bool) (p q : α × β × γ) : Bool := if p.1 = q.1 then (if p.2.1 = q.2.1 then lt'' p.2.2 q.2.2 else lt' p.2.1 q.2.1) else lt p.1 q.1
variable {lt : α → α → Bool} {lt' : β → β → Bool} {lt'' : γ → γ → Bool}
theorem lex_one (h : OrE e k lt) (x y : α) (ds es : List PyData) : PyProof.Rows.lexLt itemOrd (PySem.W.keyToksAll (e x :: ds)) (PySem.W.keyToksAll (e y :: es)) = if x = y then PyProof.Rows.lexLt itemOrd (PySem.W.keyToksAll ds) (PySem.W.keyToksAll es) else lt x y := by
  by_cases q : x = y
  · rw [if_pos q, PySem.W.dataLt_all_yes (h.alike x y) (by rw [h.eqv, decide_eq_true_eq]; exact q)]
  · rw [if_neg q, PySem.W.dataLt_all_no (h.alike x y) (by rw [h.eqv, decide_eq_false_iff_not]; exact q)]
    exact h.lt_eq x y
theorem lex_end (h : OrE e k lt) (x y : α) : (if x = y then PyProof.Rows.lexLt itemOrd (PySem.W.keyToksAll []) (PySem.W.keyToksAll []) else lt x y) = lt x y := by
  by_cases q : x = y
  · rw [if_pos q, q]
    exact (PySem.W.lexAll_map (α := Int) [] []).trans ((PySem.W.dataLt_self _).symm.trans (h.lt_eq y y))
  · rw [if_neg q]
theorem or_p2 (h1 : OrE e1 k lt) (h2 : OrE e2 l lt') : OrE (eP2 e1 e2) (k + l + 1) (ltP lt lt') where
  toEqE := eq_p2 h1.toEqE h2.toEqE
  alike p q := by
    show PySem.W.alike (.tuple [_, _]) (.tuple [_, _]) = true
    simp only [PySem.W.alike, PySem.W.alikeAll, h1.alike, h2.alike, Bool.and_self]
  nn _ := rfl
  lt_eq p q := by
    refine (PySem.W.dataLt_tuple _ _).trans ?_
    rw [lex_one h1, lex_one h2, lex_end h2]
    rfl
theorem or_p3 (h1 : OrE e1 k lt) (h2 : OrE e2 l lt') (h3 : OrE e3 m lt'') : OrE (eP3 e1 e2 e3) (k + l + m + 1) (ltP3 lt lt' lt'') where
  toEqE := eq_p3 h1.toEqE h2.toEqE h3.toEqE
  alike p q := by
    show PySem.W.alike (.tuple [_, _, _]) (.tuple [_, _, _]) = true
    simp only [PySem.W.alike, PySem.W.alikeAll, h1.alike, h2.alike, h3.alike, Bool.and_self]
  nn _ := rfl
  lt_eq p q := by
    refine (PySem.W.dataLt_tuple _ _).trans ?_
    rw [lex_one h1, lex_one h2, lex_one h3, lex_end h3]
    rfl
/-- the first of the least -/
def minW (lt : α → α → Bool) : List α → Option α
  | [] => none
  | x :: xs => some (xs.foldl (fun a y => if lt y a = true then y else a) x)
theorem alikeB_e (h : OrE e k lt) (hk : k ≤ 60) (xs : List α) : alikeB (xs.map e) = true := by
  unfold alikeB
  rw [Bool.and_eq_true, Bool.and_eq_true]
  refine ⟨⟨List.all_eq_true.mpr fun x hx => List.all_eq_true.mpr fun y hy => ?_, List.all_eq_true.mpr fun x hx => ?_⟩, decide_eq_true (Nat.le_trans (depthAll_e h.toEqE xs) hk)⟩
  · obtain ⟨a, _, rfl⟩ := List.mem_map.mp hx
    obtain ⟨b, _, rfl⟩ := List.mem_map.mp hy
    exact h.alike a b
  · obtain ⟨a, _, rfl⟩ := List.mem_map.mp hx
    rw [h.nn]
    rfl
theorem minD_e (h : OrE e k lt) : ∀ (xs : List α) (x : α), PySem.W.minD (e x) (xs.map e) = e (xs.foldl (fun a y => if lt y a = true then y else a) x)
  | [], x => rfl
  | y :: xs, x => by
    have ih := minD_e h xs (if lt y x = true then y else x)
    unfold PySem.W.minD at ih ⊢
    rw [List.map_cons, List.foldl_cons, List.foldl_cons, h.lt_eq, ← ih]
    split <;> rfl
theorem op_min {L : β → List α} (q : SeqE e2 L e) (h : OrE e k lt) (hk : k ≤ 60) : Op1 gMin e2 e .val (fun x => minW lt (L x)) := fun a r z => by
  have z : minW lt (L a) = some r := z
  cases hL : L a with
  | nil =>
    rw [hL] at z
    cases z
  | cons x xs =>
    rw [hL] at z
    cases z
    refine ⟨_, ?_, rfl⟩
    have := alikeB_e h hk (x :: xs)
    rw [List.map_cons] at this
    rcases q a with z | z
    · rw [z, hL, List.map_cons]
      simp only [gMin, this, if_true, minD_e h]
    · rw [z, hL, List.map_cons]
      simp only [gMin, this, if_true, minD_e h]
/-- sorted -/
def leW (lt : α → α → Bool) (a b : α) : Bool := !lt b a
def sortW (lt : α → α → Bool) (xs : List α) : List α := xs.mergeSort (leW lt)
theorem sortD_e (h : OrE e k lt) (xs : List α) : sortD (xs.map e) = (sortW lt xs).map e := by
  unfold sortD sortW
  refine (List.map_mergeSort (r := leW lt) (s := PySem.W.dataLe false id) (f := e) (l := xs) (fun a _ b _ => ?_)).symm
  show (!lt b a) = PySem.W.dataLe false id (e a) (e b)
  rw [PySem.W.dataLe_eq]
  show _ = (!PySem.W.dataLt (e b) (e a))
  rw [h.lt_eq]
/-- which kind of items: tuples with something in them; neither tuples nor None -/
def kindT : PyData → Bool
  | .tuple _ => true
  | _ => false
def kindN : PyData → Bool
  | .none => false
  | .tuple _ => false
  | _ => true
theorem sortB_e (h : OrE e k lt) (hk : k ≤ 60) {xs : List α} (hh : (∀ x ∈ xs, kindT (e x) = true) ∨ (∀ x ∈ xs, kindN (e x) = true)) : sortB (xs.map e) = true := by
  unfold sortB
  rw [Bool.and_eq_true, Bool.and_eq_true, Bool.or_eq_true]
  refine ⟨⟨List.all_eq_true.mpr fun x hx => List.all_eq_true.mpr fun y hy => ?_, ?_⟩, List.all_eq_true.mpr fun x hx => ?_⟩
  · obtain ⟨a, _, rfl⟩ := List.mem_map.mp hx
    obtain ⟨b, _, rfl⟩ := List.mem_map.mp hy
    exact h.alike a b
  · rcases hh with hh | hh
    · exact .inl (List.all_eq_true.mpr fun x hx => by
        obtain ⟨a, ha, rfl⟩ := List.mem_map.mp hx
        exact hh a ha)
    · exact .inr (List.all_eq_true.mpr fun x hx => by
        obtain ⟨a, ha, rfl⟩ := List.mem_map.mp hx
        exact hh a ha)
  · obtain ⟨a, _, rfl⟩ := List.mem_map.mp hx
    exact decide_eq_true (Nat.le_trans (h.deep a) hk)
theorem gSorted_e (h : OrE e k lt) (hk : k ≤ 60) {L : β → List α} (q : SeqE e2 L e) (a : β) (hh : (∀ x ∈ L a, kindT (e x) = true) ∨ (∀ x ∈ L a, kindN (e x) = true)) : gSorted (e2 a) = some (.o (eLst e (sortW lt (L a)))) := by
  have sb := sortB_e h hk hh
  rcases q a with z | z
  · rw [z]
    show (if sortB ((L a).map e) = true then some (Slot.o (.list (sortD ((L a).map e)))) else none) = _
    rw [if_pos sb, sortD_e h]
  · rw [z]
    show (if sortB ((L a).map e) = true then some (Slot.o (.list (sortD ((L a).map e)))) else none) = _
    rw [if_pos sb, sortD_e h]
theorem op_sort {L : β → List α} (q : SeqE e2 L e) (h : OrE e k lt) (hk : k ≤ 60) (hh : (∀ x, kindT (e x) = true) ∨ (∀ x, kindN (e x) = true)) : Op1 gSorted e2 (eLst e) .own (fun x => some (sortW lt (L x))) := fun a r z => by
  cases z
  exact ⟨_, gSorted_e h hk q a (hh.imp (fun f x _ => f x) (fun f x _ => f x)), rfl⟩
/-- of tuples of any length: none empty -/
def sortT (lt : List α → List α → Bool) (xs : List (List α)) : Option (List (List α)) := if xs.all (fun x => !x.isEmpty) = true then some (sortW lt xs) else none
/-- order of tuples -/
theorem op_ltT (h : OrE (eTup e) k (ltL lt)) (hk : k ≤ 60) : Op2 gLt (eTup e) (eTup e) eBool .val (fun a b => some (ltL lt a b)) := fun a b r z => by
  cases z
  refine ⟨_, ?_, rfl⟩
  have q1 := h.alike a b
  have q2 := h.toEqE.shp hk a
  show (if (PySem.W.alike (eTup e a) (eTup e b) && shp (eTup e a)) = true then some (Slot.v (.bool (PySem.W.dataLt (eTup e a) (eTup e b)))) else none) = _
  rw [q1, q2, h.lt_eq]
  rfl
end

section
variable {m : S → R Opd}
theorem ev_2_0 {c : M (α × β)} (h : EvP m ρ c (eP2 e1 e2)) : Ev (m2 gIx m (mO (mC (.int 0)))) ρ (bnd c fun p => ret p.1) e1 .val := fun ss src r src' hs hr => by
  obtain ⟨a, s1, r1, r2⟩ := run_bnd_some hr
  obtain ⟨rfl, rfl⟩ := run_ret_some r2
  obtain ⟨x, ss1, h1, h2, h3, h4⟩ := h ss src a _ hs r1
  refine ⟨.v (e1 a.1), ss1, ?_, h2, rfl⟩
  unfold m2
  simp only [h1, mO, mC]
  rw [if_pos (h4.still h2), h3]
  rfl
theorem ev_2_1 {c : M (α × β)} (h : EvP m ρ c (eP2 e1 e2)) : Ev (m2 gIx m (mO (mC (.int 1)))) ρ (bnd c fun p => ret p.2) e2 .val := fun ss src r src' hs hr => by
  obtain ⟨a, s1, r1, r2⟩ := run_bnd_some hr
  obtain ⟨rfl, rfl⟩ := run_ret_some r2
  obtain ⟨x, ss1, h1, h2, h3, h4⟩ := h ss src a _ hs r1
  refine ⟨.v (e2 a.2), ss1, ?_, h2, rfl⟩
  unfold m2
  simp only [h1, mO, mC]
  rw [if_pos (h4.still h2), h3]
  rfl
end

def appF (xs : List α) (a : α) : Option (Unit × List α) := if okLen (xs.length + 1) = true then some ((), xs ++ [a]) else none
end Td
end
set_option linter.all false
set_option maxRecDepth 100000
noncomputable section
namespace Td
open PySem PySem.Spec PyProof.Rows L2 Pd PM
variable {α β γ δ τ ζ : Type}

theorem o_ret (a : α) : (ret a : Option α) = some a := rfl
theorem o_bnd (a : α) (f : α → Option β) : bnd (some a) f = f a := rfl
theorem o_out (o : Option α) : (out o : Option α) = o := rfl
theorem cnd_t {M : Type → Type} {a b : M α} : cnd true a b = a := rfl
theorem cnd_f {M : Type → Type} {a b : M α} : cnd false a b = b := rfl
theorem o_and (z y : Bool) : andB (some z) (some y) = some (z && y) := by
  cases z <;> rfl
theorem o_or (z y : Bool) : orB (some z) (some y) = some (z || y) := by
  cases z <;> rfl
theorem lenOk_of {xs : List α} (h : xs.length ≤ 16777216) : lenOk xs = some xs := by
  unfold lenOk
  rw [okLen_of h]
  rfl
theorem cat_of {xs ys : List α} (h : xs.length + ys.length ≤ 16777216) : cat xs ys = some (xs ++ ys) := by
  unfold cat
  rw [okLen_of h]
  rfl
theorem rngO_of {a b : Int} (h1 : -16777216 ≤ a) (h2 : a ≤ 16777216) (h3 : -16777216 ≤ b) (h4 : b ≤ 16777216) (h5 : b - a ≤ 16777216) : rngO a b = some (rng a b) := by
  unfold rngO
  rw [rgOk_of h1 h2 h3 h4 h5]
  rfl
theorem lcG_some {ct : α → Option Bool} {ce : α → Option β} {p : α → Bool} {f : α → β} : ∀ {xs : List α}, (∀ x ∈ xs, ct x = some (p x)) → (∀ x ∈ xs, p x = true → ce x = some (f x)) → lcG ct ce xs = some ((xs.filter p).map f)
  | [], _, _ => rfl
  | x :: xs, h1, h2 => by
    have ih := lcG_some (fun y hy => h1 y (List.mem_cons_of_mem _ hy)) fun y hy => h2 y (List.mem_cons_of_mem _ hy)
    unfold lcG
    rw [h1 x List.mem_cons_self, o_bnd]
    cases q : p x with
    | false =>
      rw [cnd_f, ih, List.filter_cons_of_neg (by rw [q]; exact Bool.false_ne_true)]
    | true =>
      rw [cnd_t, h2 x List.mem_cons_self q, o_bnd, ih, o_bnd, List.filter_cons_of_pos q]
      rfl
theorem lcM_some {xs : List α} {ct : α → Option Bool} {ce : α → Option β} {p : α → Bool} {f : α → β} (hl : xs.length ≤ 16777216) (h1 : ∀ x ∈ xs, ct x = some (p x)) (h2 : ∀ x ∈ xs, p x = true → ce x = some (f x)) : lcM xs ct ce = some ((xs.filter p).map f) := by
  unfold lcM
  rw [lenOk_of hl]
  exact lcG_some h1 h2
/-- all items, no test -/
theorem lcM_all {xs : List α} {ce : α → Option β} {f : α → β} (hl : xs.length ≤ 16777216) (h2 : ∀ x ∈ xs, ce x = some (f x)) : lcM xs (fun _ => some true) ce = some (xs.map f) := by
  rw [lcM_some (p := fun _ => true) (f := f) hl (fun _ _ => rfl) fun x hx _ => h2 x hx, List.filter_eq_self.mpr fun _ _ => rfl]
theorem lcM_pp {xs : List α} {p : α → Bool} {f : α → β} (hl : xs.length ≤ 16777216) : lcM xs (fun x => some (p x)) (fun x => some (f x)) = some ((xs.filter p).map f) := lcM_some hl (fun _ _ => rfl) fun _ _ _ => rfl
theorem lcM_p {xs : List α} {p : α → Bool} (hl : xs.length ≤ 16777216) : lcM xs (fun x => some (p x)) (fun x => some x) = some (xs.filter p) := by
  rw [lcM_pp hl, List.map_id']
theorem lcM_f {xs : List α} {f : α → β} (hl : xs.length ≤ 16777216) : lcM xs (fun _ => some true) (fun x => some (f x)) = some (xs.map f) := lcM_all hl fun _ _ => rfl
theorem lcG2_some {ct : α → Option Bool} {ci : α → Option (List β)} {ct1 : α → β → Option Bool} {ce : α → β → Option γ} {p : α → Bool} {l : α → List β} {p1 : α → β → Bool} {f : α → β → γ} : ∀ {xs : List α}, (∀ x ∈ xs, ct x = some (p x)) → (∀ x ∈ xs, p x = true → ci x = some (l x) ∧ ∀ y ∈ l x, ct1 x y = some (p1 x y) ∧ (p1 x y = true → ce x y = some (f x y))) → lcG2 ct ci ct1 ce xs = some ((xs.filter p).flatMap fun x => ((l x).filter (p1 x)).map (f x))
  | [], _, _ => rfl
  | x :: xs, h1, h2 => by
    have ih := lcG2_some (fun y hy => h1 y (List.mem_cons_of_mem _ hy)) fun y hy => h2 y (List.mem_cons_of_mem _ hy)
    unfold lcG2
    rw [h1 x List.mem_cons_self, o_bnd]
    cases q : p x with
    | false =>
      rw [cnd_f, ih, List.filter_cons_of_neg (by rw [q]; exact Bool.false_ne_true)]
    | true =>
      obtain ⟨k1, k2⟩ := h2 x List.mem_cons_self q
      rw [cnd_t, k1, o_bnd, lcG_some (fun y hy => (k2 y hy).1) fun y hy => (k2 y hy).2, o_bnd, ih, o_bnd, List.filter_cons_of_pos q]
      rfl
theorem lcM2_some {xs : List α} {ct : α → Option Bool} {ci : α → Option (List β)} {ct1 : α → β → Option Bool} {ce : α → β → Option γ} {p : α → Bool} {l : α → List β} {p1 : α → β → Bool} {f : α → β → γ} (h1 : ∀ x ∈ xs, ct x = some (p x)) (h2 : ∀ x ∈ xs, p x = true → ci x = some (l x) ∧ ∀ y ∈ l x, ct1 x y = some (p1 x y) ∧ (p1 x y = true → ce x y = some (f x y)))
    (hl : ((xs.filter p).flatMap fun x => ((l x).filter (p1 x)).map (f x)).length ≤ 16777216) : lcM2 xs ct ci ct1 ce = some ((xs.filter p).flatMap fun x => ((l x).filter (p1 x)).map (f x)) := by
  unfold lcM2
  rw [lcG2_some h1 h2]
  exact lenOk_of hl
theorem foldM_some {cb : β → α → Option β} {f : β → α → β} (Inv : Nat → β → Prop) : ∀ (xs : List α) (n : Nat) (b : β), Inv n b → (∀ i x b, xs[i]? = some x → Inv (n + i) b → cb b x = some (f b x) ∧ Inv (n + i + 1) (f b x)) → foldM cb xs b = some (xs.foldl f b) ∧ Inv (n + xs.length) (xs.foldl f b)
  | [], n, b, h, _ => ⟨rfl, h⟩
  | x :: xs, n, b, h, k => by
    obtain ⟨k1, k2⟩ := k 0 x b rfl h
    obtain ⟨h1, h2⟩ := foldM_some Inv xs (n + 1) (f b x) k2 fun i y b' hy hi => by
      have e : n + 1 + i = n + (i + 1) := by omega
      rw [e] at hi ⊢
      exact k (i + 1) y b' (by simpa using hy) hi
    refine ⟨?_, by
      rw [List.length_cons, List.foldl_cons, show n + (xs.length + 1) = n + 1 + xs.length by omega]
      exact h2⟩
    unfold foldM
    rw [k1, o_bnd, h1]
    rfl
/-- a loop that goes through -/
theorem foldM_inv {cb : β → α → Option β} (Inv : Nat → β → Prop) : ∀ (xs : List α) (n : Nat) (b : β), Inv n b → (∀ i x b, xs[i]? = some x → Inv (n + i) b → ∃ b', cb b x = some b' ∧ Inv (n + i + 1) b') → ∃ b', foldM cb xs b = some b' ∧ Inv (n + xs.length) b'
  | [], n, b, h, _ => ⟨b, rfl, h⟩
  | x :: xs, n, b, h, k => by
    obtain ⟨b1, k1, k2⟩ := k 0 x b rfl h
    obtain ⟨b2, h1, h2⟩ := foldM_inv Inv xs (n + 1) b1 k2 fun i y b' hy hi => by
      have e : n + 1 + i = n + (i + 1) := by omega
      rw [e] at hi ⊢
      exact k (i + 1) y b' (by simpa using hy) hi
    refine ⟨b2, ?_, by
      rw [List.length_cons, show n + (xs.length + 1) = n + 1 + xs.length by omega]
      exact h2⟩
    unfold foldM
    rw [k1, o_bnd, h1]
theorem outK_nx {M : Type → Type} (b : β) (f : β → M τ) (g : γ → M τ) : outK (.nx b) f g = f b := rfl
theorem limO_eq {f : Nat → α → Option β} {a : α} {r : β} (h : ∃ k, f k a = some r) (u : ∀ k l x y, f k a = some x → f l a = some y → x = y) : limO f a = some r := by
  obtain ⟨k, hk⟩ := h
  have ex : ∃ k, (f k a).isSome = true := ⟨k, by rw [hk]; rfl⟩
  unfold limO
  rw [dif_pos ex]
  have hs := ex.choose_spec
  cases q : f ex.choose a with
  | none =>
    rw [q] at hs
    cases hs
  | some x => rw [u _ _ _ _ q hk]
theorem whK_more {c : β → Option Bool} {cb : β → Option β} : ∀ (k : Nat) (b x : β), whK c cb k b = some x → whK c cb (k + 1) b = some x
  | 0, b, x, h => by cases h
  | k + 1, b, x, h => by
    unfold whK at h ⊢
    cases q : c b with
    | none =>
      rw [q] at h
      cases h
    | some z =>
      rw [q] at h
      rw [o_bnd] at h ⊢
      cases z with
      | false => exact h
      | true =>
        rw [cnd_t] at h ⊢
        cases y : cb b with
        | none =>
          rw [y] at h
          cases h
        | some b' =>
          rw [y] at h
          rw [o_bnd] at h ⊢
          exact whK_more k b' x h
theorem whK_up {c : β → Option Bool} {cb : β → Option β} {b x : β} {k l : Nat} (h : whK c cb k b = some x) (hl : k ≤ l) : whK c cb l b = some x := by
  induction l with
  | zero =>
    have : k = 0 := by omega
    subst this
    exact h
  | succ l ih =>
    by_cases e : k = l + 1
    · subst e
      exact h
    · exact whK_more l b x (ih (by omega))
theorem wh_of {c : β → Option Bool} {cb : β → Option β} {b x : β} {k : Nat} (h : whK c cb k b = some x) : (lim fun k => whK c cb k b : Option β) = some x :=
  limO_eq (f := fun k (_ : Unit) => whK c cb k b) ⟨k, h⟩ fun k l x y h1 h2 => by
    have a := whK_up h1 (Nat.le_max_left k l)
    have b := whK_up h2 (Nat.le_max_right k l)
    rw [a] at b
    cases b
    rfl
/-- a while, by a measure that falls and what holds at each turn -/
theorem wh_inv {c : β → Option Bool} {cb : β → Option β} (Inv : β → Prop) (μ : β → Nat) (hc : ∀ b, Inv b → c b = some true ∧ (∃ b', cb b = some b' ∧ Inv b' ∧ μ b' < μ b) ∨ c b = some false) : ∀ (n : Nat) (b : β), μ b ≤ n → Inv b → ∃ k x, whK c cb k b = some x ∧ Inv x ∧ c x = some false
  | 0, b, hn, hi => by
    rcases hc b hi with ⟨_, b', _, _, h3⟩ | h
    · omega
    · exact ⟨1, b, by unfold whK; rw [h]; rfl, hi, h⟩
  | n + 1, b, hn, hi => by
    rcases hc b hi with ⟨h0, b', h1, h2, h3⟩ | h
    · obtain ⟨k, x, k1, k2, k3⟩ := wh_inv Inv μ hc n b' (by omega) h2
      exact ⟨k + 1, x, by unfold whK; rw [h0, o_bnd, cnd_t, h1, o_bnd]; exact k1, k2, k3⟩
    · exact ⟨1, b, by unfold whK; rw [h]; rfl, hi, h⟩
theorem while_inv {c : β → Option Bool} {cb : β → Option β} {b : β} (Inv : β → Prop) (μ : β → Nat) (h0 : Inv b) (hc : ∀ b, Inv b → c b = some true ∧ (∃ b', cb b = some b' ∧ Inv b' ∧ μ b' < μ b) ∨ c b = some false) : ∃ x, (lim fun k => whK c cb k b : Option β) = some x ∧ Inv x ∧ c x = some false := by
  obtain ⟨k, x, h1, h2, h3⟩ := wh_inv Inv μ hc (μ b) b (Nat.le_refl _) h0
  exact ⟨x, wh_of h1, h2, h3⟩

/-- however is drawn, it ends, and with something of which P holds -/
def Tri (c : DM α) (P : α → Prop) : Prop := ∀ s, ∃ a s', c s = some (a, s') ∧ P a
theorem Tri.ret {a : α} {P : α → Prop} (h : P a) : Tri (ret a) P := fun s => ⟨a, s, rfl, h⟩
theorem Tri.out {o : Option α} {a : α} {P : α → Prop} (e : o = some a) (h : P a) : Tri (out o) P := fun s => ⟨a, s, by subst e; rfl, h⟩
theorem Tri.bnd {c : DM α} {f : α → DM β} {P : α → Prop} {Q : β → Prop} (h : Tri c P) (k : ∀ a, P a → Tri (f a) Q) : Tri (bnd c f) Q := fun s => by
  obtain ⟨a, s1, h1, h2⟩ := h s
  obtain ⟨b, s2, k1, k2⟩ := k a h2 s1
  exact ⟨b, s2, by
    show (c s).bind (fun p => f p.1 p.2) = _
    exact (congrArg (Option.bind · fun p : α × Src => f p.1 p.2) h1).trans k1, k2⟩
theorem Tri.imp {c : DM α} {P Q : α → Prop} (h : Tri c P) (k : ∀ a, P a → Q a) : Tri c Q := fun s => by
  obtain ⟨a, s1, h1, h2⟩ := h s
  exact ⟨a, s1, h1, k a h2⟩
theorem d_bnd (a : α) (f : α → DM β) : bnd (ret a : DM α) f = f a := rfl
theorem d_out (a : α) : (out (some a) : DM α) = ret a := rfl
theorem Tri.cnd {z : Bool} {c c' : DM α} {P : α → Prop} (h : z = true → Tri c P) (h' : z = false → Tri c' P) : Tri (cnd z c c') P := by
  cases z with
  | true => exact h rfl
  | false => exact h' rfl
theorem Tri.lcG {ct : α → DM Bool} {ce : α → DM β} {P : β → Prop} : ∀ {xs : List α}, (∀ x ∈ xs, Tri (ct x) fun z => z = true → Tri (ce x) P) → Tri (lcG ct ce xs) fun ys => ∀ y ∈ ys, P y
  | [], _ => Tri.ret fun y h => nomatch h
  | x :: xs, h => by
    have ih := Tri.lcG fun y hy => h y (List.mem_cons_of_mem _ hy)
    unfold Td.lcG
    refine Tri.bnd (h x List.mem_cons_self) fun z hz => Tri.cnd (fun e => ?_) fun _ => ih
    refine Tri.bnd (hz e) fun y hy => Tri.bnd ih fun ys hys => Tri.ret fun y' h' => ?_
    rcases List.mem_cons.mp h' with rfl | h'
    · exact hy
    · exact hys y' h'
/-- a comprehension that draws, no test: as many items -/
theorem Tri.lcAll {ce : α → DM β} {P : β → Prop} : ∀ {xs : List α}, (∀ x ∈ xs, Tri (ce x) P) → Tri (Td.lcG (fun _ => PM.ret true) ce xs) fun ys => ys.length = xs.length ∧ ∀ y ∈ ys, P y
  | [], _ => Tri.ret ⟨rfl, fun y h => nomatch h⟩
  | x :: xs, h => by
    have ih := Tri.lcAll fun y hy => h y (List.mem_cons_of_mem _ hy)
    unfold Td.lcG
    refine Tri.bnd (Tri.ret (P := fun z => z = true) rfl) fun z hz => ?_
    subst hz
    refine Tri.bnd (h x List.mem_cons_self) fun y hy => Tri.bnd ih fun ys hys => Tri.ret ⟨by rw [List.length_cons, List.length_cons, hys.1], fun y' h' => ?_⟩
    rcases List.mem_cons.mp h' with rfl | h'
    · exact hy
    · exact hys.2 y' h'
theorem Tri.lcM {xs : List α} {ct : α → DM Bool} {ce : α → DM β} {P : List β → Prop} (hl : xs.length ≤ 16777216) (h : Tri (Td.lcG ct ce xs) P) : Tri (lcM xs ct ce) P := by
  unfold Td.lcM
  rw [lenOk_of hl]
  exact h
theorem Tri.foldM {cb : β → α → DM β} (Inv : Nat → β → Prop) : ∀ (xs : List α) (n : Nat) (b : β), Inv n b → (∀ i x b, xs[i]? = some x → Inv (n + i) b → Tri (cb b x) fun b' => Inv (n + i + 1) b') → Tri (foldM cb xs b) fun b' => Inv (n + xs.length) b'
  | [], n, b, h, _ => Tri.ret h
  | x :: xs, n, b, h, k => by
    unfold Td.foldM
    refine Tri.bnd (k 0 x b rfl h) fun b1 h1 => ?_
    rw [List.length_cons, show n + (xs.length + 1) = n + 1 + xs.length by omega]
    exact Tri.foldM Inv xs (n + 1) b1 h1 fun i y b' hy hi => by
      have e : n + 1 + i = n + (i + 1) := by omega
      rw [e] at hi ⊢
      exact k (i + 1) y b' (by simpa using hy) hi
theorem Tri.foldO {cb : β → α → DM (Out β γ)} (Inv : Nat → β → Prop) : ∀ (xs : List α) (n : Nat) (b : β), Inv n b → (∀ i x b, xs[i]? = some x → Inv (n + i) b → Tri (cb b x) fun o => ∃ b', o = .nx b' ∧ Inv (n + i + 1) b') → Tri (foldO cb xs b) fun o => ∃ b', o = .nx b' ∧ Inv (n + xs.length) b'
  | [], n, b, h, _ => Tri.ret ⟨b, rfl, h⟩
  | x :: xs, n, b, h, k => by
    unfold Td.foldO
    refine Tri.bnd (k 0 x b rfl h) fun o ⟨b1, e, h1⟩ => ?_
    subst e
    rw [List.length_cons, show n + (xs.length + 1) = n + 1 + xs.length by omega]
    exact Tri.foldO Inv xs (n + 1) b1 h1 fun i y b' hy hi => by
      have e : n + 1 + i = n + (i + 1) := by omega
      rw [e] at hi ⊢
      exact k (i + 1) y b' (by simpa using hy) hi
/-- the draw of a number -/
def pickD (m : Int) : DM Int := fun s => match gOf 6 pick2 [.src, .v (.int m)] (some s) with
  | some (.v (.int r), some s') => some (r, s')
  | _ => none
theorem fn_pick (m : Int) : FnD (gOf 6 pick2) [.src, .v (.int m)] (pickD m) eInt .val := fun s r s' h => by
  unfold pickD at h
  split at h
  · rename_i q
    cases h
    exact ⟨_, q, rfl⟩
  · cases h
theorem Tri.pick {m : Int} (hm : m < 1073741824) : Tri (pickD m) fun r => 0 ≤ r ∧ (2 ≤ m → r < m) ∧ (m < 2 → r = 0) := fun s => by
  obtain ⟨r, s', h1, h2⟩ := pick2_is m hm s
  exact ⟨r, s', by unfold pickD; rw [h1], h2⟩
theorem Tri.pick' {m : Int} (h0 : 1 ≤ m) (hm : m < 1073741824) : Tri (pickD m) fun r => 0 ≤ r ∧ r < m := (Tri.pick hm).imp fun r h => ⟨h.1, by
  rcases Int.lt_or_le m 2 with z | z
  · have := h.2.2 z
    omega
  · exact h.2.1 z⟩
/-- things in a drawn order -/
def anyD (e : α → PyData) (xs : List α) : DM (List α) := by
  classical
  exact fun s => if h : ∃ p : List α × Src, gOf 4 anyM [.src, .v (eLst e xs)] (some s) = some (.o (eLst e p.1), some p.2) ∧ p.1.Perm xs then some h.choose else none
theorem fn_any (e : α → PyData) (xs : List α) : FnD (gOf 4 anyM) [.src, .v (eLst e xs)] (anyD e xs) (eLst e) .own := fun s r s' h => by
  unfold anyD at h
  split at h
  · rename_i q
    have z := q.choose_spec.1
    rw [Option.some.inj h] at z
    exact ⟨_, z, rfl⟩
  · cases h
theorem perm_of_map {e : α → PyData} {l : List PyData} {ks : List PyData} (h : l.Perm ks) : ∀ xs : List α, ks = xs.map e → ∃ ys : List α, l = ys.map e ∧ ys.Perm xs := by
  induction h with
  | nil =>
    intro xs h
    have : xs = [] := List.map_eq_nil_iff.mp h.symm
    subst this
    exact ⟨[], rfl, .nil⟩
  | cons x _ ih =>
    intro xs h
    cases xs with
    | nil => cases h
    | cons a xs =>
      rw [List.map_cons] at h
      injection h with h1 h2
      obtain ⟨ys, k1, k2⟩ := ih xs h2
      exact ⟨a :: ys, by rw [List.map_cons, h1, k1], k2.cons a⟩
  | swap x y l =>
    intro xs h
    cases xs with
    | nil => cases h
    | cons a xs =>
      cases xs with
      | nil => cases h
      | cons b xs =>
        rw [List.map_cons, List.map_cons] at h
        injection h with h1 h2
        injection h2 with h2 h3
        exact ⟨b :: a :: xs, by rw [List.map_cons, List.map_cons, h1, h2, h3], .swap a b xs⟩
  | trans _ _ ih1 ih2 =>
    intro xs h
    obtain ⟨ys, k1, k2⟩ := ih2 xs h
    obtain ⟨zs, l1, l2⟩ := ih1 ys k1
    exact ⟨zs, l1, l2.trans k2⟩
theorem Tri.any {e : α → PyData} {xs : List α} (hl : xs.length ≤ 1000) : Tri (anyD e xs) fun ys => ys.Perm xs := fun s => by
  obtain ⟨l', s', h1, h2⟩ := any_is (xs.map e) (by rw [List.length_map]; exact hl) s
  obtain ⟨ys, rfl, k2⟩ := perm_of_map h2 xs rfl
  have ex : ∃ p : List α × Src, gOf 4 anyM [.src, .v (eLst e xs)] (some s) = some (.o (eLst e p.1), some p.2) ∧ p.1.Perm xs := ⟨(ys, s'), h1, k2⟩
  refine ⟨ex.choose.1, ex.choose.2, ?_, ex.choose_spec.2⟩
  unfold anyD
  rw [dif_pos ex]
/-- the law: its source, then the rest -/
theorem law_ends' {n : Nat} {rest : S → RS} {c : DM Bool} {ρ : List Kn} {i : Nat} (ns : List Int) (hn : ns.length ≤ 63) (hρ : ∀ sl, sl = .src → Hs ρ ((startS n [.scr ns]).set i sl)) (h0 : (startS n [.scr ns])[0]? = some (.scr ns)) (h : EvK (M := DM) rest ρ c (kF eBool .val)) (good : Tri c fun r => r = true) :
    ∃ s, gOf n (sSeq (sSet i (mCall (gOf 4 openM) (xSrc 0 xNil))) rest) [.scr ns] none = some (.v (.bool true), s) := by
  obtain ⟨s1, h1⟩ := openM_is ns hn
  obtain ⟨r, s2, k1, k2⟩ := good s1
  subst k2
  have k := h _ (some s1) true (some s2) (hρ _ rfl) (DM.run_of k1)
  have e : sSet i (mCall (gOf 4 openM) (xSrc 0 xNil)) ⟨startS n [.scr ns], none⟩ = .nx ⟨(startS n [.scr ns]).set i .src, some s1⟩ := by
    unfold sSet mCall xSrc xNil
    simp only [h0]
    have : [Slot.scr ns].any Slot.isSrc = false := rfl
    simp only [this, h1]
    rfl
  have e2 : sSeq (sSet i (mCall (gOf 4 openM) (xSrc 0 xNil))) rest ⟨startS n [.scr ns], none⟩ = rest ⟨(startS n [.scr ns]).set i .src, some s1⟩ := by
    unfold sSeq
    rw [e]
  rcases k with ⟨s, ss', q1, q2⟩ | ⟨ss', q1, q2⟩
  · cases q2
    refine ⟨some s2, ?_⟩
    rw [← e2] at q1
    show (match sSeq (sSet i (mCall (gOf 4 openM) (xSrc 0 xNil))) rest ⟨startS n [.scr ns], none⟩ with
      | .ret .cel _ => none
      | .ret r st' => some (r, st'.src)
      | .nx st' => some (.v .none, st'.src)
      | _ => none) = _
    rw [q1]
  · cases q2
theorem law_ends {g go : GFn} {n : Nat} {rest : S → RS} {c : DM Bool} {ρ : List Kn} {i : Nat} (hg : g = gOf n (sSeq (sSet i (mCall go (xSrc 0 xNil))) rest)) (ho : go = gOf 4 openM) (hρ : ∀ ns sl, sl = .src → Hs ρ ((startS n [.scr ns]).set i sl)) (h0 : ∀ ns, (startS n [.scr ns])[0]? = some (.scr ns)) (h : EvK (M := DM) rest ρ c (kF eBool .val)) (good : Tri c fun r => r = true) (ns : List Int) (hn : ns.length ≤ 63) :
    ∃ s, g [.scr ns] none = some (.v (.bool true), s) := by
  subst hg ho
  exact law_ends' ns hn (hρ ns) (h0 ns) h good
end Td
end
set_option linter.all false
set_option maxRecDepth 100000
noncomputable section
namespace Td
open PySem PySem.Spec PyProof.Rows L2 Pd PM
variable {M : Type → Type} [PM M] {α β γ δ τ ζ : Type}
variable {ρ ρ1 : List Kn} {e : α → PyData} {e1 : α → PyData} {e2 : β → PyData} {w w' : Wf}
def two : List α → Option (α × α)
  | [a, b] => some (a, b)
  | _ => none
theorem two_some {xs : List α} {p : α × α} (h : two xs = some p) : xs = [p.1, p.2] := by
  unfold two at h
  split at h
  · cases h
    rfl
  · cases h
theorem ev_two {m : S → R Slot} {c : M (List α)} (h : Ev m ρ c (eTup e) w) : Ev m ρ (bnd c fun xs => out (two xs)) (eP2 e e) w := fun ss src r src' hs hr => by
  obtain ⟨a, s1, r1, r2⟩ := run_bnd_some hr
  obtain ⟨r3, rfl⟩ := run_out_some r2
  obtain ⟨x, ss1, h1, h2, h3⟩ := h ss src a _ hs r1
  cases two_some r3
  exact ⟨x, ss1, h1, h2, h3⟩
def three : List α → Option (α × α × α)
  | [a, b, c] => some (a, b, c)
  | _ => none
def four : List α → Option (α × α × α × α)
  | [a, b, c, d] => some (a, b, c, d)
  | _ => none
variable {e3 : γ → PyData} {e4 : δ → PyData}
section
variable {mf mf' mf'' mf3 : S → R PyData} {c : M α} {c' : M β} {c'' : M γ} {c3 : M δ}
end
section
variable [DecidableEq α] [DecidableEq β] [DecidableEq γ] [DecidableEq δ] {k l m n : Nat}
end
end Td
end
set_option linter.all false
set_option maxRecDepth 100000
noncomputable section
namespace Td
open PySem PySem.Spec PyProof.Rows L2 Pd PM
variable {α β γ δ τ ζ : Type}
theorem d_and (z y : Bool) : (andB (ret z) (ret y) : DM Bool) = ret (z && y) := by
  cases z <;> rfl
theorem d_or (z y : Bool) : (orB (ret z) (ret y) : DM Bool) = ret (z || y) := by
  cases z <;> rfl
theorem d_bndB (c : DM α) (f : α → DM β) (g : β → DM γ) : bnd (bnd c f) g = bnd c fun a => bnd (f a) g := by
  funext s
  show ((c s).bind (fun p => f p.1 p.2)).bind (fun p => g p.1 p.2) = (c s).bind fun p => ((f p.1 p.2).bind fun p => g p.1 p.2)
  cases c s <;> rfl
theorem d_lcG {xs : List α} {ct : α → DM Bool} {ce : α → DM β} {p : α → Bool} {f : α → β} (h1 : ∀ x ∈ xs, ct x = ret (p x)) (h2 : ∀ x ∈ xs, p x = true → ce x = ret (f x)) : (lcG ct ce xs : DM (List β)) = ret ((xs.filter p).map f) := by
  induction xs with
  | nil => rfl
  | cons x xs ih =>
    have ih := ih (fun y hy => h1 y (List.mem_cons_of_mem _ hy)) fun y hy => h2 y (List.mem_cons_of_mem _ hy)
    unfold lcG
    rw [h1 x List.mem_cons_self, d_bnd]
    cases q : p x with
    | false =>
      rw [cnd_f, ih, List.filter_cons_of_neg (by rw [q]; exact Bool.false_ne_true)]
    | true =>
      rw [cnd_t, h2 x List.mem_cons_self q, d_bnd, ih, d_bnd, List.filter_cons_of_pos q]
      rfl
theorem d_lcM {xs : List α} {ct : α → DM Bool} {ce : α → DM β} {p : α → Bool} {f : α → β} (hl : xs.length ≤ 16777216) (h1 : ∀ x ∈ xs, ct x = ret (p x)) (h2 : ∀ x ∈ xs, p x = true → ce x = ret (f x)) : (lcM xs ct ce : DM (List β)) = ret ((xs.filter p).map f) := by
  unfold lcM
  rw [lenOk_of hl, d_out, d_bnd]
  exact d_lcG h1 h2
theorem d_lcM_all {xs : List α} {ce : α → DM β} {f : α → β} (hl : xs.length ≤ 16777216) (h2 : ∀ x ∈ xs, ce x = ret (f x)) : (lcM xs (fun _ => ret true) ce : DM (List β)) = ret (xs.map f) := by
  rw [d_lcM (p := fun _ => true) (f := f) hl (fun _ _ => rfl) fun x hx _ => h2 x hx, List.filter_eq_self.mpr fun _ _ => rfl]
theorem d_lcM_pp {xs : List α} {p : α → Bool} {f : α → β} (hl : xs.length ≤ 16777216) : (lcM xs (fun x => ret (p x)) (fun x => ret (f x)) : DM (List β)) = ret ((xs.filter p).map f) := d_lcM hl (fun _ _ => rfl) fun _ _ _ => rfl
theorem d_lcM_p {xs : List α} {p : α → Bool} (hl : xs.length ≤ 16777216) : (lcM xs (fun x => ret (p x)) (fun x => ret x) : DM (List α)) = ret (xs.filter p) := by
  rw [d_lcM_pp hl, List.map_id']
theorem o_bndS (c : Option α) : bnd c (fun a => some a) = c := by
  cases c <;> rfl
theorem foldM_eq {cb : β → α → Option β} {f : β → α → β} (Inv : Nat → β → Prop) {xs : List α} {b : β} (h0 : Inv 0 b) (k : ∀ i x b, xs[i]? = some x → Inv i b → cb b x = some (f b x) ∧ Inv (i + 1) (f b x)) : foldM cb xs b = some (xs.foldl f b) :=
  (foldM_some Inv xs 0 b h0 fun i x b h1 h2 => by
    rw [Nat.zero_add] at h2 ⊢
    exact k i x b h1 h2).1
/-- the lots of some stations, as many as they are -/
theorem foldl_step_len : ∀ (xs : List Int) (L : List (List Int)), (xs.foldl stepL L).length = L.length * 2 ^ xs.length
  | [], L => by simp
  | x :: xs, L => by
    rw [List.foldl_cons, foldl_step_len xs, stepL_len, List.length_cons, Nat.pow_succ, ← Nat.two_mul]
    simp only [Nat.mul_comm, Nat.mul_left_comm, Nat.mul_assoc]
theorem modI_of (a : Int) {b : Int} (h : 0 < b) : modI a b = some (a % b) := by
  unfold modI
  rw [if_pos h]
theorem divI_of (a : Int) {b : Int} (h : 0 < b) (h2 : b < 1073741824) : divI a b = some (a / b) := by
  unfold divI
  rw [if_pos ⟨h, h2⟩]
theorem at_pos {xs : List α} {i : Int} (h0 : 0 ≤ i) (h1 : i < xs.length) : at_ xs i = xs[i.toNat]? := by
  show L2.atI xs i = _
  unfold L2.atI
  have : ixN xs.length i = some i.toNat := by
    unfold ixN
    rw [if_pos h0, if_pos h1]
  rw [this]
  rfl
theorem at_0 (x : α) (xs : List α) : at_ (x :: xs) 0 = some x := by
  rw [at_pos (Int.le_refl 0) (by rw [List.length_cons]; omega)]
  rfl
theorem rng0 (n : Int) : rng 0 n = rngL n := by
  unfold rng rngL
  rw [show n - 0 = n by omega]
theorem rngO_0 {n : Int} (h : -16777216 ≤ n) (h2 : n ≤ 16777216) : rngO 0 n = some (rngL n) := by
  rw [rngO_of (by omega) (by omega) h h2 (by omega), rng0]
theorem rng_mem {a b x : Int} : x ∈ rng a b ↔ a ≤ x ∧ x < b := by
  unfold rng
  rw [List.mem_map]
  constructor
  · rintro ⟨i, hi, rfl⟩
    have := List.mem_range.mp hi
    omega
  · intro h
    exact ⟨(x - a).toNat, List.mem_range.mpr (by omega), by omega⟩
theorem appF_of {xs : List α} {a : α} (h : xs.length + 1 ≤ 16777216) : appF xs a = some ((), xs ++ [a]) := by
  unfold appF
  rw [okLen_of h]
  rfl
theorem minW_int {l : List Int} (h : l ≠ []) : minW ltZ l = some (leastI l) := by
  cases l with
  | nil => exact absurd rfl h
  | cons x xs =>
    have : ∀ (xs : List Int) (x : Int), xs.foldl (fun a y => if ltZ y a = true then y else a) x = xs.foldl min x := by
      intro xs
      induction xs with
      | nil => intro x; rfl
      | cons y ys ih =>
        intro x
        rw [List.foldl_cons, List.foldl_cons, ih]
        congr 1
        unfold ltZ
        by_cases q : y < x
        · rw [if_pos (decide_eq_true q)]
          omega
        · rw [if_neg (by simpa using q)]
          omega
    exact congrArg some (this xs x)
theorem sortW_int (l : List Int) : sortW ltZ l = srtI l := by
  unfold sortW srtI
  congr 1
  funext a b
  unfold leW ltZ leI
  rw [Bool.eq_iff_iff]
  simp
theorem d_bndR (c : DM α) : bnd c (fun a => (ret a : DM α)) = c := by
  funext s
  show (c s).bind (fun p => some (p.1, p.2)) = c s
  cases c s <;> rfl
theorem cut_take (xs : List α) {k : Int} (h : 0 ≤ k) : cut xs none (some k) = xs.take k.toNat := by
  unfold cut HT.sIx
  simp only [List.drop_zero, Nat.sub_zero]
  rw [if_neg (by omega), ← List.take_take, List.take_length]
theorem cut_drop (xs : List α) {k : Int} (h : 0 ≤ k) : cut xs (some k) none = xs.drop k.toNat := by
  unfold cut HT.sIx
  simp only
  rw [if_neg (by omega)]
  by_cases z : k.toNat ≤ xs.length
  · rw [Nat.min_eq_left z]
    exact List.take_of_length_le (by rw [List.length_drop]; omega)
  · rw [Nat.min_eq_right (by omega), List.drop_length, List.drop_eq_nil_of_le (by omega)]
    exact List.take_nil
theorem Tri.both {c : DM α} {P Q : α → Prop} (h : Tri c P) (k : Tri c Q) : Tri c fun a => P a ∧ Q a := fun s => by
  obtain ⟨a, s1, h1, h2⟩ := h s
  obtain ⟨b, s2, k1, k2⟩ := k s
  rw [h1] at k1
  cases k1
  exact ⟨a, s1, h1, h2, k2⟩
/-- an item at a drawn place -/
theorem Tri.at_ {l : List α} (h : l ≠ []) (hl : l.length ≤ 1000) {P : α → Prop} (hp : ∀ x ∈ l, P x) : Tri (PM.bnd (pickD (l.length : Int)) fun b => PM.out (Td.at_ l b)) P := by
  have h0 : 0 < l.length := List.length_pos_iff.mpr h
  refine Tri.bnd (Tri.pick' (by omega) (by omega)) fun r hr => ?_
  have e : Td.at_ l r = some (l[r.toNat]'(by omega)) := by
    rw [at_pos hr.1 hr.2]
    exact List.getElem?_eq_getElem (by omega)
  exact Tri.out e (hp _ (List.getElem_mem _))
/-- the first two of a drawn order, put in order -/
theorem two_sorted {n : Int} {ys : List Int} (h : ys.Perm (rngL n)) (h2 : 2 ≤ n) : ∃ a b, srtI (ys.take 2) = [a, b] ∧ 0 ≤ a ∧ a < b ∧ b < n := by
  have nd : ys.Nodup := h.nodup_iff.mpr (rngL_nodup n)
  have len : ys.length = n.toNat := by rw [h.length_eq, rngL_len]
  match ys, nd, len with
  | [], _, len => simp at len; omega
  | [_], _, len => simp at len; omega
  | x :: y :: r, nd, _ =>
    have hx := rngL_mem.mp (h.mem_iff.mp (List.mem_cons_self (a := x) (l := y :: r)))
    have hy := rngL_mem.mp (h.mem_iff.mp (List.mem_cons_of_mem x (List.mem_cons_self (a := y) (l := r))))
    have ne : x ≠ y := fun e => by
      have := (List.nodup_cons.mp nd).1
      rw [e] at this
      exact this List.mem_cons_self
    rw [show List.take 2 (x :: y :: r) = [x, y] from rfl, srt2]
    by_cases q : x ≤ y
    · rw [if_pos q, if_pos q]
      exact ⟨x, y, rfl, hx.1, by omega, hy.2⟩
    · rw [if_neg q, if_neg q]
      exact ⟨y, x, rfl, hy.1, by omega, hx.2⟩
theorem nodup_le {α : Type} [DecidableEq α] : ∀ {l m : List α}, l.Nodup → (∀ x ∈ l, x ∈ m) → l.length ≤ m.length
  | [], _, _, _ => Nat.zero_le _
  | x :: l, m, nd, h => by
    obtain ⟨n1, n2⟩ := List.nodup_cons.mp nd
    have hx := h x List.mem_cons_self
    have := nodup_le (m := m.erase x) n2 fun y hy => (List.mem_erase_of_ne (fun (e : y = x) => n1 (e ▸ hy))).mpr (h y (List.mem_cons_of_mem _ hy))
    rw [List.length_erase_of_mem hx] at this
    have := List.length_pos_of_mem hx
    rw [List.length_cons]
    omega
structure OrdL (lt : α → α → Bool) : Prop where
  asym : ∀ a b, lt a b = true → lt b a = false
  tr : ∀ a b c, lt a b = false → lt b c = false → lt a c = false
  tot : ∀ a b, lt a b = false → lt b a = false → a = b
theorem OrdL.irr {lt : α → α → Bool} (h : OrdL lt) (a : α) : lt a a = false := by
  cases z : lt a a with
  | false => rfl
  | true => exact z ▸ h.asym a a z
theorem ord_Z : OrdL ltZ := ⟨fun a b h => by
    unfold ltZ at h ⊢
    have := of_decide_eq_true h
    exact decide_eq_false (by omega), fun a b c h1 h2 => by
    unfold ltZ at h1 h2 ⊢
    have := of_decide_eq_false h1
    have := of_decide_eq_false h2
    exact decide_eq_false (by omega), fun a b h1 h2 => by
    unfold ltZ at h1 h2
    have := of_decide_eq_false h1
    have := of_decide_eq_false h2
    omega⟩
section
variable [DecidableEq α] [DecidableEq β] [DecidableEq γ] {lt : α → α → Bool} {lt' : β → β → Bool} {lt'' : γ → γ → Bool}
theorem ord_P (h : OrdL lt) (h' : OrdL lt') : OrdL (ltP lt lt') := by
  refine ⟨fun a b q => ?_, fun a b c q1 q2 => ?_, fun a b q1 q2 => ?_⟩
  · unfold ltP at q ⊢
    by_cases e : a.1 = b.1
    · rw [if_pos e] at q
      rw [if_pos e.symm]
      exact h'.asym _ _ q
    · rw [if_neg e] at q
      rw [if_neg fun z => e z.symm]
      exact h.asym _ _ q
  · unfold ltP at q1 q2 ⊢
    by_cases e : a.1 = b.1
    · rw [if_pos e] at q1
      by_cases e2 : b.1 = c.1
      · rw [if_pos e2] at q2
        rw [if_pos (e.trans e2)]
        exact h'.tr _ _ _ q1 q2
      · rw [if_neg e2] at q2
        rw [if_neg fun z => e2 (e.symm.trans z), e]
        exact q2
    · rw [if_neg e] at q1
      by_cases e2 : b.1 = c.1
      · rw [if_neg fun z => e (z.trans e2.symm), ← e2]
        exact q1
      · rw [if_neg e2] at q2
        by_cases e3 : a.1 = c.1
        · exact absurd (h.tot _ _ q1 (e3 ▸ q2)) e
        · rw [if_neg e3]
          exact h.tr _ _ _ q1 q2
  · unfold ltP at q1 q2
    by_cases e : a.1 = b.1
    · rw [if_pos e] at q1
      rw [if_pos e.symm] at q2
      exact Prod.ext e (h'.tot _ _ q1 q2)
    · rw [if_neg e] at q1
      rw [if_neg fun z => e z.symm] at q2
      exact absurd (h.tot _ _ q1 q2) e
theorem ord_P3 (h : OrdL lt) (h' : OrdL lt') (h'' : OrdL lt'') : OrdL (ltP3 lt lt' lt'') := ord_P h (ord_P h' h'')
end
theorem minW_go {lt : α → α → Bool} (h : OrdL lt) : ∀ (xs : List α) (x : α), xs.foldl (fun a y => if lt y a = true then y else a) x ∈ x :: xs ∧ ∀ y ∈ x :: xs, lt y (xs.foldl (fun a y => if lt y a = true then y else a) x) = false
  | [], x => ⟨List.mem_singleton.mpr rfl, fun y hy => by
    rw [List.mem_singleton.mp hy]
    exact h.irr x⟩
  | z :: xs, x => by
    rw [List.foldl_cons]
    obtain ⟨h1, h2⟩ := minW_go h xs (if lt z x = true then z else x)
    refine ⟨?_, fun y hy => ?_⟩
    · rcases List.mem_cons.mp h1 with e | e
      · rw [e]
        split
        · exact List.mem_cons_of_mem _ List.mem_cons_self
        · exact List.mem_cons_self
      · exact List.mem_cons_of_mem _ (List.mem_cons_of_mem _ e)
    · have m := h2 _ List.mem_cons_self
      rcases List.mem_cons.mp hy with e | hy
      · rw [e]
        refine h.tr _ _ _ ?_ m
        split
        · rename_i q
          exact h.asym _ _ q
        · exact h.irr x
      · rcases List.mem_cons.mp hy with e | hy
        · rw [e]
          refine h.tr _ _ _ ?_ m
          split
          · exact h.irr z
          · rename_i q
            simpa using q
        · exact h2 y (List.mem_cons_of_mem _ hy)
/-- the least item -/
theorem minW_is {lt : α → α → Bool} (h : OrdL lt) {xs : List α} {x : α} (hx : x ∈ xs) (hl : ∀ y ∈ xs, lt y x = false) : minW lt xs = some x := by
  cases xs with
  | nil => cases hx
  | cons z xs =>
    obtain ⟨h1, h2⟩ := minW_go h xs z
    exact congrArg some (h.tot _ _ (hl _ h1) (h2 x hx))
/-- repr: what is shown is one thing -/
theorem reprO_of {e : α → PyData} {k w : Nat} {a : α} (h : Sh k w (e a)) (hk : k ≤ 60) (hw : w ≤ 1048576) : reprO e a = some (e a).shown := by
  unfold reprO
  rw [if_pos (h.ok hk hw)]
end Td
end
set_option linter.all false
set_option maxRecDepth 100000
noncomputable section
namespace Td
open PySem PySem.Spec PyProof.Rows L2 Pd PM
variable {M : Type → Type} [PM M] {α β γ δ τ ζ : Type}
variable {ρ ρ1 : List Kn} {e : α → PyData} {e1 : α → PyData} {e2 : β → PyData} {e3 : γ → PyData} {e4 : δ → PyData} {e5 : ζ → PyData} {w w' : Wf}
theorem o_bndB (c : Option α) (f : α → Option β) (g : β → Option γ) : bnd (bnd c f) g = bnd c fun a => bnd (f a) g := by
  cases c <;> rfl
def EvV (m : S → R Opd) (ρ : List Kn) (c : M α) (e : α → PyData) : Prop := EvG m ρ c fun a x => x = .v (e a)
theorem EvV.p {m : S → R Opd} {c : M α} (h : EvV m ρ c e) : EvP m ρ c e := fun ss src a src' hs hr => by
  obtain ⟨x, ss', h1, h2, rfl⟩ := h ss src a src' hs hr
  exact ⟨_, ss', h1, h2, rfl, True.intro⟩
def repL (xs : List α) (k : Int) : Option (List α) := if -(2 ^ 63) ≤ k ∧ k < 2 ^ 63 ∧ okLen (xs.length * k.toNat) = true then some (List.replicate k.toNat xs).flatten else none
theorem op_repL : Op2 gMul (eLst e) eInt (eLst e) .own repL := fun xs k r h => by
  unfold repL at h
  split at h
  · rename_i z
    cases h
    refine ⟨.o (eLst e (List.replicate k.toNat xs).flatten), ?_, rfl⟩
    show (if (decide (-(2 ^ 63) ≤ k) && decide (k < 2 ^ 63) && okLen ((xs.map e).length * k.toNat)) = true then some (Slot.o (.list (List.replicate k.toNat (xs.map e)).flatten)) else none) = _
    rw [List.length_map, decide_eq_true z.1, decide_eq_true z.2.1, z.2.2]
    show some (Slot.o (.list _)) = some (Slot.o (.list _))
    rw [List.map_flatten, List.map_replicate]
  · cases h
theorem repL_of {xs : List α} {k : Int} (h1 : -1000000 ≤ k) (h2 : k ≤ 1000000) (h3 : xs.length * k.toNat ≤ 16777216) : repL xs k = some (List.replicate k.toNat xs).flatten := by
  unfold repL
  rw [if_pos ⟨by omega, by omega, okLen_of h3⟩]
def pickG (pk : GFn) (m : Int) : DM Int := fun s => match pk [.src, .v (.int m)] (some s) with
  | some (.v (.int r), some s') => some (r, s')
  | _ => none
theorem Tri.pickG {pk : GFn} (ok : PickOk pk) {m : Int} (hm : m < 1073741824) : Tri (pickG pk m) fun r => 0 ≤ r ∧ (2 ≤ m → r < m) ∧ (m < 2 → r = 0) := fun s => by
  obtain ⟨r, s', h1, h2⟩ := ok m s hm
  exact ⟨r, s', by unfold Td.pickG; rw [h1], h2⟩
def pick1D : Int → DM Int := Td.pickG (gOf 4 pick1)
theorem Tri.pick1 {m : Int} (h0 : 1 ≤ m) (hm : m < 1073741824) : Tri (pick1D m) fun r => 0 ≤ r ∧ r < m := (Tri.pickG pick1_ok hm).imp fun r h => ⟨h.1, by
  rcases Int.lt_or_le m 2 with z | z
  · have := h.2.2 z
    omega
  · exact h.2.1 z⟩
/-- an item at a drawn place -/
theorem Tri.at1 {l : List α} (h : l ≠ []) (hl : l.length ≤ 1000) {P : α → Prop} (hp : ∀ x ∈ l, P x) : Tri (PM.bnd (pick1D (l.length : Int)) fun b => PM.out (Td.at_ l b)) P := by
  have h0 : 0 < l.length := List.length_pos_iff.mpr h
  refine Tri.bnd (Tri.pick1 (by omega) (by omega)) fun r hr => ?_
  have e : Td.at_ l r = some (l[r.toNat]'(by omega)) := by
    rw [at_pos hr.1 hr.2]
    exact List.getElem?_eq_getElem (by omega)
  exact Tri.out e (hp _ (List.getElem_mem _))
/-- the law: its source, then the rest -/
theorem law_endsG' {go : GFn} {n : Nat} {rest : S → RS} {c : DM Bool} {ρ : List Kn} {i : Nat} (ns : List Int) (hgo : ∃ s', go [.scr ns] none = some (.src, some s')) (hρ : ∀ sl, sl = .src → Hs ρ ((startS n [.scr ns]).set i sl)) (h0 : (startS n [.scr ns])[0]? = some (.scr ns)) (h : EvK (M := DM) rest ρ c (kF eBool .val)) (good : Tri c fun r => r = true) :
    ∃ s, gOf n (sSeq (sSet i (mCall go (xSrc 0 xNil))) rest) [.scr ns] none = some (.v (.bool true), s) := by
  obtain ⟨s1, h1⟩ := hgo
  obtain ⟨r, s2, k1, k2⟩ := good s1
  subst k2
  have k := h _ (some s1) true (some s2) (hρ _ rfl) (DM.run_of k1)
  have e : sSet i (mCall go (xSrc 0 xNil)) ⟨startS n [.scr ns], none⟩ = .nx ⟨(startS n [.scr ns]).set i .src, some s1⟩ := by
    unfold sSet mCall xSrc xNil
    simp only [h0]
    have : [Slot.scr ns].any Slot.isSrc = false := rfl
    simp only [this, h1]
    rfl
  have e2 : sSeq (sSet i (mCall go (xSrc 0 xNil))) rest ⟨startS n [.scr ns], none⟩ = rest ⟨(startS n [.scr ns]).set i .src, some s1⟩ := by
    unfold sSeq
    rw [e]
  rcases k with ⟨s, ss', q1, q2⟩ | ⟨ss', q1, q2⟩
  · cases q2
    refine ⟨some s2, ?_⟩
    rw [← e2] at q1
    show (match sSeq (sSet i (mCall go (xSrc 0 xNil))) rest ⟨startS n [.scr ns], none⟩ with
      | .ret .cel _ => none
      | .ret r st' => some (r, st'.src)
      | .nx st' => some (.v .none, st'.src)
      | _ => none) = _
    rw [q1]
  · cases q2
end Td
end
set_option linter.all false
set_option maxRecDepth 100000
set_option maxHeartbeats 4000000
noncomputable section
namespace K70
open PySem PySem.Spec PyProof.Rows L2 Pd
def lotsG (n : Int) : List (List Int) := (rngL n).foldl stepL [[]]
theorem lots_all (n : Int) (p : Int → Bool) : (rngL n).filter p ∈ lotsG n := by
  have := fold_in (rngL n) [[]] [] p List.mem_cons_self
  rwa [List.nil_append] at this
/-- all lots stand there once -/
theorem fold_nodup : ∀ (xs : List Int) (L : List (List Int)), L.Nodup → xs.Nodup → (∀ x ∈ xs, ∀ l ∈ L, x ∉ l) → (xs.foldl stepL L).Nodup
  | [], L, h, _, _ => h
  | x :: xs, L, h, nd, hx => by
    obtain ⟨nx, nd'⟩ := List.nodup_cons.mp nd
    rw [List.foldl_cons]
    refine fold_nodup xs _ ?_ nd' fun y hy l hl => ?_
    · unfold stepL
      refine List.nodup_append.mpr ⟨h, ?_, ?_⟩
      · refine List.Pairwise.map _ (fun a b hab e => hab ?_) h
        exact (List.append_inj' e rfl).1
      · intro a ha b hb e
        obtain ⟨m, _, rfl⟩ := List.mem_map.mp hb
        exact hx x List.mem_cons_self a ha (by rw [e]; simp)
    · rcases stepL_mem hl with z | ⟨m, z1, z2⟩
      · exact hx y (List.mem_cons_of_mem _ hy) l z
      · rw [z2]
        intro w
        rcases List.mem_append.mp w with w | w
        · exact hx y (List.mem_cons_of_mem _ hy) m z1 w
        · rw [List.mem_singleton] at w
          rw [w] at hy
          exact nx hy
def isAbout (T : List Int) (t : Int) (l : List Int) : Bool := decide ((T.filter fun u => decide (u ∈ l)) = [t])
def abL (n : Int) (T : List Int) (t : Int) : List (List Int) := (lotsG n).filter (isAbout T t)
def cutZ (E : List (Int × Int)) (l : List Int) : Int := (cutC E l : Nat)
def leastN (n : Int) (E : List (Int × Int)) (T : List Int) (t : Int) : Int := leastI ((abL n T t).map (cutZ E))
def leastS (n : Int) (E : List (Int × Int)) (T : List Int) (t : Int) : List (List Int) := (abL n T t).filter fun l => decide (cutZ E l = leastN n E T t)
theorem about_iff {T : List Int} {t : Int} {l : List Int} (nd : T.Nodup) (ht : t ∈ T) : isAbout T t l = true ↔ ∀ u ∈ T, (u ∈ l ↔ u = t) := by
  unfold isAbout
  rw [decide_eq_true_eq]
  constructor
  · intro e u hu
    have : u ∈ (T.filter fun u => decide (u ∈ l)) ↔ u ∈ [t] := by rw [e]
    rw [List.mem_filter, List.mem_singleton, decide_eq_true_eq] at this
    exact ⟨fun h => this.mp ⟨hu, h⟩, fun h => (this.mpr h).2⟩
  · intro h
    have e : (T.filter fun u => decide (u ∈ l)) = T.filter fun u => decide (u = t) := List.filter_congr fun u hu => decide_eq_decide.mpr (h u hu)
    rw [e]
    clear e h
    induction T with
    | nil => cases ht
    | cons a T ih =>
      obtain ⟨na, nd'⟩ := List.nodup_cons.mp nd
      by_cases z : a = t
      · subst z
        rw [List.filter_cons_of_pos (by simp)]
        have : (T.filter fun u => decide (u = a)) = [] := List.filter_eq_nil_iff.mpr fun u hu => by
          simp only [decide_eq_true_eq]
          intro w
          rw [w] at hu
          exact na hu
        rw [this]
      · rw [List.filter_cons_of_neg (by simpa using z)]
        exact ih nd' ((List.mem_cons.mp ht).resolve_left fun w => z w.symm)
theorem abL_mem {n : Int} {T : List Int} {t : Int} {l : List Int} : l ∈ abL n T t ↔ l ∈ lotsG n ∧ isAbout T t l = true := by
  unfold abL
  rw [List.mem_filter]
theorem leastS_mem {n : Int} {E : List (Int × Int)} {T : List Int} {t : Int} {l : List Int} : l ∈ leastS n E T t ↔ l ∈ abL n T t ∧ cutZ E l = leastN n E T t := by
  unfold leastS
  rw [List.mem_filter, decide_eq_true_eq]
theorem least_le {n : Int} {E : List (Int × Int)} {T : List Int} {t : Int} {l : List Int} (h : l ∈ abL n T t) : leastN n E T t ≤ cutZ E l := leastI_le (List.mem_map.mpr ⟨l, h, rfl⟩)
structure Td (n : Int) (T : List Int) : Prop where
  nd : T.Nodup
  at_ : ∀ t ∈ T, 0 ≤ t ∧ t < n
section
variable {n : Int} {E : List (Int × Int)} {T : List Int} (td : Td n T) (ok : Ok n E)
include td
include ok
/-- what two least lots have in common is least, too -/
theorem least_inter {t : Int} (ht : t ∈ T) {A B : List Int} (hA : A ∈ leastS n E T t) (hB : B ∈ leastS n E T t) : ((rngL n).filter fun x => decide (x ∈ A) && decide (x ∈ B)) ∈ leastS n E T t := by
  obtain ⟨a1, a2⟩ := leastS_mem.mp hA
  obtain ⟨b1, b2⟩ := leastS_mem.mp hB
  obtain ⟨a3, a4⟩ := abL_mem.mp a1
  obtain ⟨b3, b4⟩ := abL_mem.mp b1
  have a5 := (about_iff td.nd ht).mp a4
  have b5 := (about_iff td.nd ht).mp b4
  have i1 : ((rngL n).filter fun x => decide (x ∈ A) && decide (x ∈ B)) ∈ abL n T t := abL_mem.mpr ⟨lots_all n _, (about_iff td.nd ht).mpr fun u hu => by
    simp only [List.mem_filter, rngL_mem, Bool.and_eq_true, decide_eq_true_eq]
    rw [a5 u hu, b5 u hu]
    exact ⟨fun h => h.2.1, fun h => ⟨td.at_ u hu, h, h⟩⟩⟩
  have u1 : ((rngL n).filter fun x => decide (x ∈ A) || decide (x ∈ B)) ∈ abL n T t := abL_mem.mpr ⟨lots_all n _, (about_iff td.nd ht).mpr fun u hu => by
    simp only [List.mem_filter, rngL_mem, Bool.or_eq_true, decide_eq_true_eq]
    rw [a5 u hu, b5 u hu]
    exact ⟨fun h => h.2.elim id id, fun h => ⟨td.at_ u hu, .inl h⟩⟩⟩
  have m1 := least_le (E := E) i1
  have m2 := least_le (E := E) u1
  refine leastS_mem.mpr ⟨i1, ?_⟩
  unfold cutZ at *
  rw [cnt_cut ok A B A (fun a _ => a) (fun x _ _ => rfl)] at a2
  rw [cnt_cut ok A B B (fun _ b => b) (fun x _ _ => rfl)] at b2
  have ci := cnt_cut ok A B ((rngL n).filter fun x => decide (x ∈ A) && decide (x ∈ B)) (fun a b => a && b) (fun x h1 h2 => by
    rw [Bool.eq_iff_iff, decide_eq_true_eq, List.mem_filter, rngL_mem]
    exact ⟨fun h => h.2, fun h => ⟨⟨h1, h2⟩, h⟩⟩)
  have cu := cnt_cut ok A B ((rngL n).filter fun x => decide (x ∈ A) || decide (x ∈ B)) (fun a b => a || b) (fun x h1 h2 => by
    rw [Bool.eq_iff_iff, decide_eq_true_eq, List.mem_filter, rngL_mem]
    exact ⟨fun h => h.2, fun h => ⟨⟨h1, h2⟩, h⟩⟩)
  rw [ci] at m1 ⊢
  rw [cu] at m2
  have I1 := cnt4_id A B (f1 := fun a b c d => a != c) (f2 := fun a b c d => b != d) (f3 := fun a b c d => (a && b) != (c && d)) (f4 := fun a b c d => (a || b) != (c || d)) (f5 := fun a b c d => ((a == true && b == false) && (c == false && d == true)) || ((a == false && b == true) && (c == true && d == false))) (by decide) E
  omega
end
end K70
end
set_option linter.all false
set_option maxRecDepth 100000
set_option maxHeartbeats 1000000
noncomputable section
namespace Td
open PySem PySem.Spec PyProof.Rows L2 Pd PM
variable {α β γ δ : Type}
/-- a turn: lot + (x,) -/
theorem lots_turn (L : List (List Int)) (x : Int) (h1 : L.length ≤ 256) (h2 : ∀ l ∈ L, l.length ≤ 8) : (bnd (lcM L (fun _ => some true) fun a => bnd (lenOk [x]) fun b => cat a b) fun b => cat L b : Option (List (List Int))) = some (stepL L x) := by
  rw [lcM_all (f := fun l => l ++ [x]) (by omega) fun l hl => ?_]
  · simp only [o_ret, o_bnd, o_out, o_and, o_or, o_bndS, o_bndB, Td.addI, Td.subI, Td.ltI, Td.gtI, Td.leI', Td.geI, Td.negI, Td.absI, Td.intB, Td.min2, Td.max2, Td.eqV, Td.neV, Td.inV, Td.niV]
    rw [cat_of (by rw [List.length_map]; omega)]
    rfl
  · have := h2 l hl
    rw [lenOk_of (xs := [x]) (Nat.le_of_ble_eq_true rfl)]
    simp only [o_ret, o_bnd, o_out, o_and, o_or, o_bndS, o_bndB, Td.addI, Td.subI, Td.ltI, Td.gtI, Td.leI', Td.geI, Td.negI, Td.absI, Td.intB, Td.min2, Td.max2, Td.eqV, Td.neV, Td.inV, Td.niV]
    exact cat_of (by rw [List.length_singleton]; omega)
/-- a turn: (*lot, x) -/
theorem lots_turnS (L : List (List Int)) (x : Int) (h1 : L.length ≤ 256) (h2 : ∀ l ∈ L, l.length ≤ 8) : (bnd (lcM L (fun _ => some true) fun a => lenOk (a ++ [x])) fun b => cat L b : Option (List (List Int))) = some (stepL L x) := by
  rw [lcM_all (f := fun l => l ++ [x]) (by omega) fun l hl => ?_]
  · simp only [o_ret, o_bnd, o_out, o_and, o_or, o_bndS, o_bndB, Td.addI, Td.subI, Td.ltI, Td.gtI, Td.leI', Td.geI, Td.negI, Td.absI, Td.intB, Td.min2, Td.max2, Td.eqV, Td.neV, Td.inV, Td.niV]
    rw [cat_of (by rw [List.length_map]; omega)]
    rfl
  · have := h2 l hl
    exact lenOk_of (by rw [List.length_append, List.length_singleton]; omega)
theorem rngL_at {n i : Int} (h0 : 0 ≤ i) (h1 : i < n) : (rngL n)[i.toNat]? = some i := by
  unfold rngL
  rw [List.getElem?_map, List.getElem?_range (by omega)]
  simp only [Option.map_some]
  congr 1
  omega
theorem at_tab {n i : Int} (f : Int → α) (h0 : 0 ≤ i) (h1 : i < n) : at_ ((rngL n).map f) i = some (f i) := by
  rw [at_pos h0 (by rw [List.length_map, rngL_len]; omega), List.getElem?_map, rngL_at h0 h1]
  rfl
theorem sum_add (f g : α → Int) : ∀ l : List α, (l.map fun x => f x + g x).sum = (l.map f).sum + (l.map g).sum
  | [] => rfl
  | x :: l => by
    rw [List.map_cons, List.sum_cons, sum_add f g l, List.map_cons, List.map_cons, List.sum_cons, List.sum_cons]
    omega
theorem sum_le {f g : α → Int} : ∀ {l : List α}, (∀ x ∈ l, f x ≤ g x) → (l.map f).sum ≤ (l.map g).sum
  | [], _ => Int.le_refl _
  | x :: l, h => by
    have := sum_le fun y hy => h y (List.mem_cons_of_mem x hy)
    have := h x List.mem_cons_self
    rw [List.map_cons, List.map_cons, List.sum_cons, List.sum_cons]
    omega
/-- numbers of things, and what stands beside them -/
theorem enum_beside (p : α → Bool) (dflt : β) : ∀ (E : List α) (R pre : List β), R.length = E.length → ((E.zipIdx pre.length).filter fun q => p q.1).map (fun q => (pre ++ R).getD q.2 dflt) = ((E.zip R).filter fun q => p q.1).map (·.2)
  | [], R, pre, h => rfl
  | x :: E, [], pre, h => by simp at h
  | x :: E, r :: R, pre, h => by
    have ih := enum_beside p dflt E R (pre ++ [r]) (by simpa using h)
    rw [List.length_append, List.length_singleton, List.append_assoc, List.singleton_append] at ih
    rw [List.zipIdx_cons, List.zip_cons_cons]
    have g : (pre ++ r :: R).getD pre.length dflt = r := by simp
    cases q : p x with
    | true =>
      rw [List.filter_cons_of_pos (p := fun q => p q.1) (a := (x, pre.length)) q, List.filter_cons_of_pos (p := fun q => p q.1) (a := (x, r)) q, List.map_cons, List.map_cons, ih, g]
    | false =>
      rw [List.filter_cons_of_neg (p := fun q => p q.1) (a := (x, pre.length)) (by simp only [q]; exact Bool.false_ne_true), List.filter_cons_of_neg (p := fun q => p q.1) (a := (x, r)) (by simp only [q]; exact Bool.false_ne_true), ih]
theorem enumL_mem {xs : List α} {q : Int × α} (h : q ∈ enumL xs) : ∃ i : Nat, q.1 = (i : Int) ∧ i < xs.length ∧ xs[i]? = some q.2 := by
  unfold enumL at h
  obtain ⟨p, hp, rfl⟩ := List.mem_map.mp h
  have := List.mem_zipIdx_iff_getElem?.mp hp
  exact ⟨p.2, rfl, (List.getElem?_eq_some_iff.mp this).1, this⟩
theorem enumL_len (xs : List α) : (enumL xs).length = xs.length := by
  unfold enumL
  rw [List.length_map, List.length_zipIdx]
/-- a row grown item by item -/
theorem foldM_app {cb : List β → α → Option (List β)} {f : α → β} {xs : List α} (hl : xs.length ≤ 100000) (hc : ∀ (b : List β) x, x ∈ xs → b.length ≤ 200000 → cb b x = some (b ++ [f x])) : foldM cb xs [] = some (xs.map f) := by
  rw [foldM_eq (f := fun b x => b ++ [f x]) (fun i b => b.length = i) rfl ?_]
  · congr 1
    have : ∀ (l : List α) (acc : List β), l.foldl (fun b x => b ++ [f x]) acc = acc ++ l.map f := by
      intro l
      induction l with
      | nil => intro acc; simp
      | cons x l ih => intro acc; rw [List.foldl_cons, ih]; simp
    rw [this]
    rfl
  · intro i x b hx hb
    have hi := (List.getElem?_eq_some_iff.mp hx).1
    exact ⟨hc b x (List.mem_of_getElem? hx) (by omega), by rw [List.length_append, List.length_singleton, hb]⟩
end Td
end
set_option linter.all false
set_option maxRecDepth 100000
noncomputable section
namespace Td
open PySem PySem.Spec PyProof.Rows L2 Pd PM
variable {α β γ δ : Type} {e : α → PyData} {e1 : α → PyData} {e2 : β → PyData} {e3 : γ → PyData} {e4 : δ → PyData} {k k' k'' w w' w'' : Nat}
theorem sh_small {x : Int} (h : 0 ≤ x) (h' : x ≤ 1000) : Sh 0 10 (eInt x) := Sh.small h h'
theorem sh_tup {xs : List α} (m : Nat) (h : ∀ x ∈ xs, Sh k w (e x)) (hl : xs.length ≤ m) : Sh (k + 1) (m * (w + 1)) (eTup e xs) := Sh.tup (fun d hd => by
  obtain ⟨x, hx, rfl⟩ := List.mem_map.mp hd
  exact h x hx) (by
  rw [List.length_map]
  exact Nat.mul_le_mul_right _ hl)
theorem mem2 {d a b : PyData} (h : d ∈ [a, b]) : d = a ∨ d = b := by simpa using h
theorem sh_p2 {a : α} {b : β} (K W : Nat) (h1 : Sh k w (e1 a)) (h2 : Sh k' w' (e2 b)) (hk : max k k' ≤ K) (hw : max w w' ≤ W) : Sh (K + 1) (2 * (W + 1)) (eP2 e1 e2 (a, b)) := Sh.tup (k := K) (w := W) (fun d hd => by
  rcases mem2 hd with rfl | rfl
  · exact h1.more (by omega) (by omega)
  · exact h2.more (by omega) (by omega)) (by simp)
theorem shown {a : α} (h : Sh k w (e a)) (hk : k ≤ 60) (hw : w ≤ 1048576) : ∃ s, reprO e a = some s := ⟨_, reprO_of h hk hw⟩
/-- the first two of a drawn order -/
theorem two_first {n : Int} {ys : List Int} (h : ys.Perm (rngL n)) (h2 : 2 ≤ n) : ∃ a b, ys.take 2 = [a, b] ∧ (0 ≤ a ∧ a < n) ∧ (0 ≤ b ∧ b < n) ∧ a ≠ b := by
  have nd : ys.Nodup := h.nodup_iff.mpr (rngL_nodup n)
  have len : ys.length = n.toNat := by rw [h.length_eq, rngL_len]
  match ys, nd, len with
  | [], _, len => simp at len; omega
  | [_], _, len => simp at len; omega
  | x :: y :: r, nd, _ =>
    have hx := rngL_mem.mp (h.mem_iff.mp (List.mem_cons_self (a := x) (l := y :: r)))
    have hy := rngL_mem.mp (h.mem_iff.mp (List.mem_cons_of_mem x (List.mem_cons_self (a := y) (l := r))))
    have ne : x ≠ y := fun e => by
      have := (List.nodup_cons.mp nd).1
      rw [e] at this
      exact this List.mem_cons_self
    exact ⟨x, y, rfl, hx, hy, ne⟩
theorem Tri.foldO0 {cb : Unit → α → DM (Out Unit γ)} {xs : List α} (h : ∀ x ∈ xs, Tri (cb () x) fun o => o = .nx ()) : Tri (Td.foldO cb xs ()) fun o => o = .nx () :=
  (Tri.foldO (fun _ (_ : Unit) => True) xs 0 () True.intro fun i x b hx _ => (h x (List.mem_of_getElem? hx)).imp fun o e => ⟨(), e, True.intro⟩).imp fun o ⟨b, e, _⟩ => e
end Td
end
set_option linter.all false
set_option maxRecDepth 100000
noncomputable section
namespace Td
open PySem PySem.Spec PyProof.Rows L2 Pd PM
variable {M : Type → Type} [PM M] {α β γ δ τ ζ : Type}
variable {ρ ρ1 : List Kn} {e : α → PyData} {e1 : α → PyData} {e2 : β → PyData} {e3 : γ → PyData} {e4 : δ → PyData} {w w' : Wf}
def eOpt (e : α → PyData) : Option α → PyData
  | none => .none
  | some a => e a
/-- never None -/
structure NN (e : α → PyData) : Prop where
  l : ∀ a, PyData.eqv (e a) .none = false
  r : ∀ a, PyData.eqv .none (e a) = false
  i : ∀ a, isNone (e a) = false
theorem nn_p3 : NN (eP3 e1 e2 e3) := ⟨fun _ => by simp [PyData.eqv], fun _ => by simp [PyData.eqv], fun _ => rfl⟩
theorem ev_some {m : S → R Slot} {c : M α} (h : Ev m ρ c e w) : Ev m ρ (bnd c fun a => ret (some a)) (eOpt e) w := fun ss src r src' hs hr => by
  obtain ⟨a, s1, r1, r2⟩ := run_bnd_some hr
  obtain ⟨rfl, rfl⟩ := run_ret_some r2
  exact h ss src a _ hs r1
theorem ev_none {m : S → R Slot} {c : M Unit} (h : Ev m ρ c eNon w) : Ev m ρ (bnd c fun _ => ret (none : Option α)) (eOpt e) w := fun ss src r src' hs hr => by
  obtain ⟨a, s1, r1, r2⟩ := run_bnd_some hr
  obtain ⟨rfl, rfl⟩ := run_ret_some r2
  exact h ss src a _ hs r1
def isN (o : Option α) (_ : Unit) : Option Bool := some o.isNone
theorem op_is (n : NN e) : Op2 (gIs false) (eOpt e) eNon eBool .val isN := fun o u r h => by
  cases h
  cases o with
  | none => exact ⟨_, rfl, rfl⟩
  | some a =>
    refine ⟨.v (.bool false), ?_, rfl⟩
    show some (Slot.v (.bool (false ^^ isNone (e a)))) = _
    rw [n.i]
    rfl
end Td
end
set_option linter.all false
set_option maxRecDepth 100000
noncomputable section
namespace Td
open PySem PySem.Spec PyProof.Rows L2 Pd PM
section
variable {α β : Type} {e : α → PyData} {e2 : β → PyData} {k : Nat} [DecidableEq α]
end
end Td
end
set_option linter.all false
set_option maxRecDepth 100000
noncomputable section
namespace Td
open PySem PySem.Spec PyProof.Rows L2 Pd PM
variable {M : Type → Type} [PM M] {α β γ κ : Type} {ρ : List Kn} {e : α → PyData} {e1 : α → PyData} {e2 : β → PyData} {e3 : γ → PyData} {ek : κ → PyData}
structure KeyE (ek : κ → PyData) : Prop where
  inj : ∀ a b, ek a = ek b → a = b
  kind : (∀ a, isK (ek a) = true) ∨ (∀ a, isT (ek a) = true)
section
variable [DecidableEq κ]
def putM (kvs : List (κ × α)) (k : κ) (v : α) : List (κ × α) := if (kvs.any fun p => decide (p.1 = k)) = true then kvs.map (fun p => if p.1 = k then (p.1, v) else p) else kvs ++ [(k, v)]
def getM (kvs : List (κ × α)) (k : κ) : Option α := (kvs.find? fun p => decide (p.1 = k)).map (·.2)
def niM (k : κ) (kvs : List (κ × α)) : Option Bool := some (!(getM kvs k).isSome)
def dputO (kvs : List (κ × α)) (k : κ) (v : α) : Option (List (κ × α)) := if okLen (kvs.length + 1) = true then some (putM kvs k v) else none
end
section
variable [DecidableEq κ]
theorem dputO_of {kvs : List (κ × α)} {k : κ} {v : α} (h : kvs.length + 1 ≤ 16777216) : dputO kvs k v = some (putM kvs k v) := by
  unfold dputO
  rw [if_pos (okLen_of h)]
end
end Td
end
set_option linter.all false
set_option maxRecDepth 100000
noncomputable section
namespace Td
open PySem PySem.Spec PyProof.Rows L2 Pd PM
end Td
end
set_option linter.all false
set_option maxRecDepth 100000
noncomputable section
namespace Td
open PySem PySem.Spec PyProof.Rows L2 Pd PM
variable {M : Type → Type} [PM M] {α β γ κ : Type} {ρ : List Kn} {e : α → PyData} {e1 : α → PyData} {e2 : β → PyData} {e3 : γ → PyData} {ek : κ → PyData}
section
variable [DecidableEq κ]
def mkDict (ps : List (κ × β)) : List (κ × β) := ps.foldl (fun acc p => putM acc p.1 p.2) []
end
end Td
end
set_option linter.all false
set_option maxRecDepth 100000
noncomputable section
namespace Td
open PySem PySem.Spec PyProof.Rows L2 Pd PM
variable {M : Type → Type} [PM M] {α β γ κ τ : Type} {ρ : List Kn} {e : α → PyData} {e1 : α → PyData} {e2 : β → PyData} {e3 : γ → PyData} {w : Wf}
/-- as a value of a type, if it is one -/
def downO (e : α → PyData) (d : PyData) : Option α := open Classical in if h : ∃ a, d = e a then some h.choose else none
theorem EqE.inj [DecidableEq α] {k : Nat} (h : EqE e k) : ∀ a b, e a = e b → a = b := fun a b q => by
  have h1 := h.eqv a b
  rw [← q, h.eqv a a, decide_eq_true rfl] at h1
  exact of_decide_eq_true h1.symm
/-- an operation on any value, by its answer -/
def ansB (g : PyData → Option Slot) (d : PyData) : Option Bool := match g d with
  | some (.v (.bool b)) => some b
  | _ => none
section
variable [DecidableEq α] {k : Nat} {lt : α → α → Bool}
end
end Td
namespace Td
open PySem PySem.Spec PyProof.Rows L2 Pd PM
variable {α : Type} {e : α → PyData}
def repT (xs : List α) (k : Int) : Option (List α) := if (decide (2 ≤ k) && decide (k ≤ 1000) && decide (xs.length ≤ 1000) && !xs.isEmpty) = true then some (List.replicate k.toNat xs).flatten else none
theorem op_repT : Op2 gMul (eTup e) eInt (eTup e) .val repT := fun xs k r h => by
  unfold repT at h
  split at h
  · rename_i z
    cases h
    refine ⟨.v (eTup e (List.replicate k.toNat xs).flatten), ?_, rfl⟩
    show (if (decide (2 ≤ k) && decide (k ≤ 1000) && decide ((xs.map e).length ≤ 1000) && !(xs.map e).isEmpty) = true then some (Slot.v (.tuple (List.replicate k.toNat (xs.map e)).flatten)) else none) = _
    rw [List.length_map, List.isEmpty_map, z]
    show some (Slot.v (.tuple _)) = some (Slot.v (.tuple _))
    rw [List.map_flatten, List.map_replicate]
  · cases h
end Td
namespace Td
open PySem PySem.Spec PyProof.Rows L2 Pd PM
variable {α : Type} {e : α → PyData}
def sortKeys (kvs : List (Int × α)) : Option (List Int) := if decide (kvs.length < 64) = true then some (srtI (kvs.map (·.1))) else none
theorem sortKeys_of {kvs : List (Int × α)} (h : kvs.length < 64) : sortKeys kvs = some (srtI (kvs.map (·.1))) := by
  unfold sortKeys
  rw [if_pos (decide_eq_true h)]
end Td
end
set_option linter.all false
set_option maxRecDepth 100000
noncomputable section
namespace Td
open PySem PySem.Spec PyProof.Rows L2 Pd PM
variable {α : Type} {e : α → PyData}
end Td
namespace Td
open PySem PySem.Spec PyProof.Rows L2 Pd PM
end Td
namespace Td
open PySem PySem.Spec PyProof.Rows L2 Pd PM
theorem isE_eqv {d e : PyData} {b : Bool} (h : isE d e = some b) : PyData.eqv d e = b := by
  rcases e_cases h with ⟨xs, rfl, rfl, rfl⟩ | ⟨xs, rfl, rfl, rfl⟩ | ⟨xs, rfl, rfl, rfl⟩ | ⟨xs, rfl, rfl, rfl⟩ | ⟨hd, rfl, rfl⟩
  · cases xs <;> rfl
  · cases xs <;> rfl
  · simp [PyData.eqv]
  · simp [PyData.eqv]
  · cases d <;> first | rfl | cases hd | simp [PyData.eqv]
section
variable {α : Type} [DecidableEq α] {e : α → PyData} {k : Nat}
theorem op_ne0 (h : EqE e k) (hk : k ≤ 60) : Op2 gNe0 e e eBool .val neV := fun a b r q => by
  obtain ⟨s, h1, h2⟩ := op_ne h hk a b r q
  refine ⟨s, ?_, h2⟩
  unfold gNe0
  cases z : isE (e a) (e b) with
  | none => exact h1
  | some c =>
    have := isE_eqv z
    unfold gNe at h1
    rw [h.shp hk, h.shp hk, this] at h1
    exact h1
end
end Td
end
set_option linter.all false
set_option maxRecDepth 100000
noncomputable section
namespace Td
open PySem PySem.Spec PyProof.Rows L2 Pd PM
end Td
end
set_option linter.all false
set_option maxRecDepth 100000
noncomputable section
namespace Td
open PySem PySem.Spec PyProof.Rows L2 Pd PM
section
variable {M : Type → Type} [PM M] {α β γ δ : Type} {ρ : List Kn} {e1 : α → PyData} {e2 : β → PyData} {e3 : γ → PyData} {e4 : δ → PyData}
end
end Td
end
set_option linter.all false
set_option maxRecDepth 100000
noncomputable section
namespace Td
open PySem PySem.Spec PyProof.Rows L2 Pd PM
variable {M : Type → Type} [PM M] {α κ : Type} {ρ : List Kn} {e : α → PyData} {ek : κ → PyData}
end Td
end
set_option linter.all false
set_option maxRecDepth 100000
noncomputable section
namespace Td
open PySem PySem.Spec PyProof.Rows L2 Pd PM
variable {M : Type → Type} [PM M] {α κ γ : Type} {ρ : List Kn} {e : α → PyData} {ek : κ → PyData} {e3 : γ → PyData} {w : Wf}
end Td
end
set_option linter.all false
set_option maxRecDepth 100000
noncomputable section
namespace Td
open PySem PySem.Spec PyProof.Rows L2 Pd PM
variable {α κ : Type} {e : α → PyData} {ek : κ → PyData} {kk : κ → List Key}
structure KeyT (ek : κ → PyData) (kk : κ → List Key) : Prop where
  inj : ∀ a b, kk a = kk b → a = b
  of : ∀ a, keysOf (ek a) = some (kk a)
  no : ∀ a, keyOf (ek a) = none
  eq : ∀ a, tD (kk a) = ek a
section
variable [DecidableEq κ]
end
end Td
end
set_option linter.all false
set_option maxRecDepth 100000
noncomputable section
namespace Td
open PySem PySem.Spec PyProof.Rows L2 Pd PM
variable {M : Type → Type} [PM M] {α β γ δ τ : Type}
variable {ρ : List Kn} {ρ' : β → List Kn} {e : α → PyData} {e1 : α → PyData} {e3 : γ → PyData} {w : Wf}
end Td
end
set_option linter.all false
set_option maxRecDepth 100000
noncomputable section
namespace Td
open PySem PySem.Spec PyProof.Rows L2 Pd PM
variable {M : Type → Type} [PM M] {α β γ δ τ : Type}
variable {ρ : List Kn} {e : α → PyData} {e1 : α → PyData} {e2 : β → PyData} {e3 : γ → PyData} {e4 : δ → PyData} {w : Wf}
/-- a, b = xs.pop() -/
theorem k_asgW {g : List PyData → List PyData → Option (PyData × List PyData)} {i : Nat} {ma : S → R (List PyData)} {tg : PyData → S → Option S} {cb : M β} {as : β → List PyData} {F : List α → β → Option (γ × List α)} {xs : List α} {ρ' : γ × List α → List Kn} (o : MutE g e as e3 F) (hi : ρ[i]? = some (.own (eLst e xs))) (h : EvA ma ρ cb as)
    (hg : ∀ r, Tg tg (ρ.set i (.own (eLst e r.2))) (e3 r.1) (ρ' r)) : EvK (sAsg (mF (mMut g i ma)) tg) ρ (bnd cb fun b => out (F xs b)) (kN ρ') := fun ss src r src' hs hr => by
  obtain ⟨ss', h1, h2⟩ := mut_ev o hi h ss src r src' hs hr
  obtain ⟨ss2, k1, k2⟩ := hg r ss' src' h2
  exact ⟨ss2, by unfold sAsg mF; simp only [h1, k1], k2⟩
end Td
end
set_option linter.all false
set_option maxRecDepth 100000
noncomputable section
namespace Td
open PySem PySem.Spec PyProof.Rows L2 Pd PM
variable {α β γ : Type} {e : α → PyData}
end Td
end
set_option linter.all false
set_option maxRecDepth 100000
noncomputable section
namespace Td
open PySem PySem.Spec PyProof.Rows L2 Pd PM
end Td
end
set_option linter.all false
set_option maxRecDepth 100000
noncomputable section
namespace Td
open PySem PySem.Spec PyProof.Rows L2 Pd PM
variable {M : Type → Type} [PM M] {α β γ δ τ ζ : Type}
variable {ρ ρ1 : List Kn} {e : α → PyData} {e1 : α → PyData} {e2 : β → PyData}
def ddS (acc : List Int) (i : Int) : List Int := if i ∈ acc then acc else acc ++ [i]
/-- each once, in the order of coming -/
def ddI (l : List Int) : List Int := l.foldl ddS []
end Td
end
set_option linter.all false
noncomputable section
namespace Td
open PySem PySem.Spec PyProof.Rows L2 Pd PM
variable {M : Type → Type} [PM M] {α β γ δ τ ζ : Type}
variable {ρ ρ1 : List Kn} {e : α → PyData} {e2 : β → PyData} {e3 : γ → PyData} {e4 : δ → PyData} {w w' w'' w3 : Wf} {c : M α}
section
variable {mi : S → R (List PyData)} {ci : M (List α)} {e1 : α → PyData} {g : PyData → S → Option S} {mb : S → RS} {ρL : β → List Kn} {ρa0 : α → List Kn} {ρa : β → α → List Kn} {c1 : α → M β} {cb : β → α → M β}
end
end Td
end
set_option linter.all false
noncomputable section
namespace Td
open PySem PySem.Spec PyProof.Rows L2 Pd PM
variable {M : Type → Type} [PM M] {α β γ δ τ ζ : Type}
variable {ρ ρ1 : List Kn}
end Td
end
set_option linter.all false
noncomputable section
namespace Td
open PySem PySem.Spec PyProof.Rows L2 Pd PM
variable {α : Type} {e1 : α → PyData}
def lenSetO (xs : List Int) : Option Int := if xs.length < 4000 then some ((xs.foldl stepI []).length : Nat) else none
theorem op_lenSet {L : α → List Int} (q : ∀ a, e1 a = .list ((L a).map eInt)) : Op1 gLenSet e1 eInt .val (fun x => lenSetO (L x)) := fun a r h => by
  dsimp only at h
  unfold lenSetO at h
  split at h
  · rename_i z
    cases h
    refine ⟨_, ?_, rfl⟩
    rw [q a]
    show (intsD _).bind _ = _
    rw [show (L a).map eInt = (L a).map PyData.int from rfl, intsD_map]
    show (if _ then _ else _) = _
    rw [if_pos z]
  · cases h
section
variable {M : Type → Type} [PM M] {e : α → PyData} {ρ : List Kn} {m : S → R Slot} {k : Wf}
/-- a branch that is not come to -/
theorem ev_fail : Ev m ρ (out none : M α) e k := fun ss src r src' h0 hr => by
  obtain ⟨r3, _⟩ := run_out_some hr
  cases r3
end
end Td
end
set_option linter.all false
set_option maxRecDepth 100000
noncomputable section
namespace Td
open PySem PySem.Spec PyProof.Rows L2 Pd PM
variable {α : Type} {e : α → PyData}
def reprZO (e : α → PyData) (a : α) : Option Str := if reprOkZ (e a) = true then some (e a).shown else none
/-- any value compared with a text -/
def isStrD (w : Str) : PyData → Bool
  | .str t => decide (t = w)
  | _ => false
end Td
end
set_option linter.all false
set_option maxRecDepth 100000
set_option maxHeartbeats 1000000
noncomputable section
namespace Nt
open PySem PySem.Spec PyProof.Rows L2 Pd Td PM K70
def allL (S : List Int) : List (List Int) := S.foldl stepL [[]]
theorem allL_filter (S : List Int) (p : Int → Bool) : S.filter p ∈ allL S := by
  have := fold_in S [[]] [] p (List.mem_singleton.mpr rfl)
  simpa [allL] using this
theorem allL_form {S l : List Int} (nd : S.Nodup) (h : l ∈ allL S) : ∃ p : Int → Bool, l = S.filter p := by
  obtain ⟨m, hm, p, e⟩ := fold_out S [[]] l nd h
  rw [List.mem_singleton.mp hm] at e
  exact ⟨p, by simpa using e⟩
def cr (l : List Int) (e : Int × Int) : Int := if crosses l e = true then 1 else 0
theorem cut_sum (E : List (Int × Int)) (l : List Int) : cutZ E l = (E.map (cr l)).sum := by
  unfold cutZ cutC
  induction E with
  | nil => rfl
  | cons e E ih =>
    rw [List.countP_cons, List.map_cons, List.sum_cons, ← ih]
    unfold cr
    by_cases c : crosses l e = true <;> simp only [c, if_true, if_false, Bool.false_eq_true] <;> omega
theorem cut_perm {E E' : List (Int × Int)} (h : E.Perm E') (l : List Int) : cutZ E l = cutZ E' l := by
  unfold cutZ cutC
  rw [h.countP_eq]
theorem cut_cons (e : Int × Int) (E : List (Int × Int)) (l : List Int) : cutZ (e :: E) l = cr l e + cutZ E l := by
  rw [cut_sum, cut_sum, List.map_cons, List.sum_cons]
theorem cut_app (E E' : List (Int × Int)) (l : List Int) : cutZ (E ++ E') l = cutZ E l + cutZ E' l := by
  unfold cutZ cutC
  rw [List.countP_append]
  omega
def tie (a b : Int) : Int × Int := (min a b, max a b)
theorem cross_tie (l : List Int) (a b : Int) : crosses l (tie a b) = (decide (a ∈ l) != decide (b ∈ l)) := by
  unfold crosses tie
  by_cases h : a ≤ b
  · rw [Int.min_eq_left h, Int.max_eq_right h]
  · rw [Int.min_eq_right (by omega), Int.max_eq_left (by omega)]
    show (decide (b ∈ l) != decide (a ∈ l)) = _
    cases decide (b ∈ l) <;> cases decide (a ∈ l) <;> rfl
theorem idx_perm {α : Type} : ∀ (E : List α) (i : Nat) (x : α), E[i]? = some x → E.Perm (x :: E.eraseIdx i)
  | [], _, _, h => by cases h
  | y :: E, 0, x, h => by
    rw [List.getElem?_cons_zero] at h
    cases h
    exact .refl _
  | y :: E, i + 1, x, h => by
    rw [List.getElem?_cons_succ] at h
    have ih := idx_perm E i x h
    rw [List.eraseIdx_cons_succ]
    exact (ih.cons y).trans (.swap x y _)
theorem two_perm {E : List (Int × Int)} {i j : Nat} {x y : Int × Int} (hij : i ≠ j) (hx : E[i]? = some x) (hy : E[j]? = some y) : ∃ R, E.Perm (x :: y :: R) := by
  have p1 := idx_perm E i x hx
  have m : y ∈ E.eraseIdx i := List.mem_eraseIdx_iff_getElem?.mpr ⟨j, fun z => hij z.symm, hy⟩
  exact ⟨(E.eraseIdx i).erase y, p1.trans ((List.perm_cons_erase m).cons x)⟩
def NetOk (n : Int) (E : List (Int × Int)) : Prop := ∀ q ∈ E, 0 ≤ q.1 ∧ q.1 < q.2 ∧ q.2 < n
theorem least_of {α : Type} (C : List α → Prop) : ∀ (n : Nat) (F : List α), F.length ≤ n → C F → ∃ F, C F ∧ ∀ G, C G → F.length ≤ G.length
  | 0, F, h, c => ⟨F, c, fun G _ => by omega⟩
  | n + 1, F, h, c => by
    by_cases q : ∃ G, C G ∧ G.length < F.length
    · obtain ⟨G, g1, g2⟩ := q
      exact least_of C n G (by omega) g1
    · exact ⟨F, c, fun G g => Nat.le_of_not_lt fun z => q ⟨G, g, z⟩⟩
theorem sum_more {α : Type} {f g : α → Int} {E : List α} {e : α} {d : Int} (he : e ∈ E) (h : ∀ x ∈ E, f x ≤ g x) (hd : f e + d ≤ g e) : (E.map f).sum + d ≤ (E.map g).sum := by
  induction E with
  | nil => cases he
  | cons x E ih =>
    rw [List.map_cons, List.map_cons, List.sum_cons, List.sum_cons]
    have hx := h x List.mem_cons_self
    rcases List.mem_cons.mp he with rfl | m
    · have := sum_le (l := E) (f := f) (g := g) fun y hy => h y (List.mem_cons_of_mem _ hy)
      omega
    · have := ih m fun y hy => h y (List.mem_cons_of_mem _ hy)
      omega
theorem cr_is (l : List Int) (e : Int × Int) : cr l e = if decide (e.1 ∈ l) = decide (e.2 ∈ l) then 0 else 1 := by
  unfold cr crosses
  cases decide (e.1 ∈ l) <;> cases decide (e.2 ∈ l) <;> rfl
theorem srtL_mem {L : List (List Int)} {l : List Int} : l ∈ srtL L ↔ l ∈ L := by
  unfold srtL
  exact List.mem_mergeSort
/-- rows put one behind another, some of them empty -/
theorem foldM_cat {β γ : Type} {cb : List β → γ → Option (List β)} {f : γ → List β} {xs : List γ} (hl : xs.length ≤ 100000) (hf : ∀ x ∈ xs, (f x).length ≤ 100) (hc : ∀ (b : List β) x, x ∈ xs → b.length ≤ 16000000 → cb b x = some (b ++ f x)) : foldM cb xs [] = some (xs.flatMap f) := by
  have key : ∀ (ys : List γ) (b : List β), (∀ y ∈ ys, y ∈ xs) → b.length + 100 * ys.length ≤ 10000000 → foldM cb ys b = some (b ++ ys.flatMap f) := by
    intro ys
    induction ys with
    | nil =>
      intro b _ _
      unfold foldM
      simp
      rfl
    | cons y ys ih =>
      intro b hy hb
      rw [List.length_cons] at hb
      have h1 := hf y (hy y List.mem_cons_self)
      unfold foldM
      rw [hc b y (hy y List.mem_cons_self) (by omega), o_bnd, ih _ (fun z hz => hy z (List.mem_cons_of_mem _ hz)) (by rw [List.length_append]; omega), List.flatMap_cons, List.append_assoc]
  have := key xs [] (fun _ h => h) (by simp; omega)
  simpa using this
end Nt
end
set_option linter.all false
set_option maxRecDepth 100000
set_option maxHeartbeats 1000000
noncomputable section
namespace Nt
open PySem PySem.Spec PyProof.Rows L2 Pd Td PM K70
/-- the ends at a station -/
def at_st (st : Int) (q : Int × Int) : Bool := decide (st ∈ [q.1, q.2])
def endsL (E : List (Int × Int)) (st : Int) : List (Int × Int) := ((enumL E).filter fun q => at_st st q.2).map fun q => (q.1, [q.2.1, q.2.2].sum - st)
theorem ends_mem {E : List (Int × Int)} {st : Int} {q : Int × Int} : q ∈ endsL E st ↔ ∃ (i : Nat) (e : Int × Int), E[i]? = some e ∧ at_st st e = true ∧ q = ((i : Int), e.1 + e.2 - st) := by
  unfold endsL
  rw [List.mem_map]
  constructor
  · rintro ⟨p, hp, rfl⟩
    obtain ⟨p1, p2⟩ := List.mem_filter.mp hp
    obtain ⟨i, e1, e2, e3⟩ := enumL_mem p1
    refine ⟨i, p.2, e3, p2, ?_⟩
    rw [e1]
    simp
  · rintro ⟨i, e, e1, e2, rfl⟩
    refine ⟨((i : Int), e), List.mem_filter.mpr ⟨?_, e2⟩, by simp⟩
    unfold enumL
    refine List.mem_map.mpr ⟨(e, i), ?_, rfl⟩
    exact List.mk_mem_zipIdx_iff_getElem?.mpr e1
theorem end_tie {n st : Int} {e : Int × Int} (h : e.1 < e.2) (hs : at_st st e = true) : e = tie st (e.1 + e.2 - st) ∧ e.1 + e.2 - st ≠ st := by
  obtain ⟨a, b⟩ := e
  unfold at_st at hs
  simp only [List.mem_cons, List.mem_nil_iff, or_false, decide_eq_true_eq] at hs h ⊢
  unfold tie
  rcases hs with rfl | rfl
  · refine ⟨Prod.ext ?_ ?_, ?_⟩ <;> (try simp only) <;> omega
  · refine ⟨Prod.ext ?_ ?_, ?_⟩ <;> (try simp only) <;> omega
def oe (st : Int) (e : Int × Int) : Int := e.1 + e.2 - st
def atI (st : Int) (e : Int × Int) : Int := if at_st st e = true then 1 else 0
def dI (st : Int) (l : List Int) (e : Int × Int) : Int := if at_st st e = true ∧ oe st e ∈ l then 1 else 0
theorem deg_is (E : List (Int × Int)) (st : Int) : ((endsL E st).length : Int) = (E.map (atI st)).sum := by
  unfold endsL
  rw [List.length_map]
  have : ∀ (E : List (Int × Int)) (j : Nat), (((E.zipIdx j).map fun q => ((q.2 : Int), q.1)).filter fun q => at_st st q.2).length = E.countP (at_st st) := by
    intro E
    induction E with
    | nil => intro j; rfl
    | cons e E ih =>
      intro j
      rw [List.zipIdx_cons, List.map_cons, List.countP_cons]
      by_cases c : at_st st e = true
      · simp only [List.filter_cons, c, if_true]
        rw [List.length_cons, ih]
      · simp only [List.filter_cons, c, if_false, Bool.false_eq_true]
        rw [ih]
        rfl
  unfold enumL
  rw [this E 0]
  induction E with
  | nil => rfl
  | cons e E ih =>
    rw [List.countP_cons, List.map_cons, List.sum_cons, ← ih]
    unfold atI
    by_cases c : at_st st e = true <;> simp only [c, if_true, if_false, Bool.false_eq_true] <;> omega
theorem enum_snd (E : List (Int × Int)) : (enumL E).map (·.2) = E := by
  unfold enumL
  rw [List.map_map]
  exact List.zipIdx_map_fst 0 E
end Nt
end
set_option linter.all false
set_option maxRecDepth 100000
set_option maxHeartbeats 1000000
noncomputable section
namespace Nt
open PySem PySem.Spec PyProof.Rows L2 Pd Td PM K70
/-- a number below m -/
def isNumA (m : Int) : PyData → Bool
  | .int i => decide (0 ≤ i) && decide (i < m)
  | _ => false
def ascB (L : List Int) : Bool := (rng 1 (L.length : Int)).all fun k => decide (L.getD (k - 1).toNat 0 < L.getD k.toNat 0)
/-- an ascending tuple of numbers below m -/
def isLotA (m : Int) : PyData → Bool
  | .tuple ds => ds.all (isNumA m) && ascB (ds.map fun d => (downO eInt d).getD 0)
  | _ => false
theorem at_some {L : List Int} {k : Int} (h0 : 0 ≤ k) (h1 : k < L.length) : at_ L k = some (L.getD k.toNat 0) := by
  rw [at_pos h0 h1, List.getD_eq_getElem?_getD, List.getElem?_eq_getElem (by omega)]
  rfl
/-- the look one by one, as a loop that leaves -/
theorem foldO_all {α : Type} {cb : Unit → α → Option (Out Unit Bool)} {p : α → Bool} : ∀ {xs : List α}, (∀ x ∈ xs, cb () x = some (if p x = true then .nx () else .rt false)) → foldO cb xs () = some (if xs.all p = true then .nx () else .rt false)
  | [], _ => rfl
  | x :: xs, h => by
    unfold foldO
    rw [h x List.mem_cons_self, o_bnd, List.all_cons]
    cases q : p x with
    | true =>
      rw [if_pos rfl, Bool.true_and]
      exact foldO_all fun y hy => h y (List.mem_cons_of_mem _ hy)
    | false => rfl
end Nt
namespace Nt
open PySem PySem.Spec PyProof.Rows L2 Pd Td PM K70
theorem Sh.shp {k w : Nat} {d : PyData} (h : Sh k w d) (hk : k ≤ 60) : Pd.shp d = true := by
  unfold Pd.shp
  rw [PyData.plain_of_canLay0 d h.lay, decide_eq_true (Nat.le_trans h.dep hk)]
  rfl
theorem weight_len : ∀ ds : List PyData, ds.length ≤ PyData.weightAll ds
  | [] => Nat.le_refl _
  | d :: ds => by
    rw [PyData.weightAll, List.length_cons]
    have := weight_len ds
    omega
theorem Sh.len {k w : Nat} {ds : List PyData} (h : Sh k w (.tuple ds)) : ds.length ≤ w := by
  have := h.wt
  rw [PyData.weight] at this
  have := weight_len ds
  omega
theorem all_mem {ds : List PyData} : ∀ {d : PyData}, d ∈ ds → (PyData.canLayAll0 ds = true → PyData.canLay0 d = true) ∧ (PyData.intsShortAll 13 ds = true → PyData.intsShort 13 d = true) ∧ (PyData.showableAll ds = true → PyData.showable d = true) ∧ PyData.depth d ≤ PyData.depthAll ds ∧ PyData.weight d ≤ PyData.weightAll ds ∧ (PyData.hasDictAll ds = false → PyData.hasDict d = false) := by
  induction ds with
  | nil => intro d h; cases h
  | cons x ds ih =>
    intro d h
    rw [PyData.canLayAll0, PyData.intsShortAll, PyData.showableAll, PyData.depthAll, PyData.weightAll, PyData.hasDictAll]
    simp only [Bool.and_eq_true, Bool.or_eq_false_iff]
    rcases List.mem_cons.mp h with rfl | h
    · exact ⟨fun z => z.1, fun z => z.1, fun z => z.1, Nat.le_max_left _ _, by omega, fun z => z.1⟩
    · obtain ⟨a, b, c, d', e, f⟩ := ih h
      exact ⟨fun z => a z.2, fun z => b z.2, fun z => c z.2, Nat.le_trans d' (Nat.le_max_right _ _), by omega, fun z => f z.2⟩
theorem Sh.mem {k w : Nat} {ds : List PyData} (h : Sh k w (.tuple ds)) {d : PyData} (hd : d ∈ ds) : Sh k w d := by
  obtain ⟨a, b, c, d', e, f⟩ := all_mem hd
  have h1 := h.lay
  have h2 := h.short
  have h3 := h.sh
  have h4 := h.dep
  have h5 := h.wt
  have h6 := h.nd
  rw [PyData.canLay0] at h1
  rw [PyData.intsShort] at h2
  rw [PyData.showable] at h3
  rw [PyData.depth] at h4
  rw [PyData.weight] at h5
  rw [PyData.hasDict] at h6
  exact ⟨a h1, b h2, c h3, by omega, by omega, f h6⟩
end Nt
end
set_option linter.all false
set_option maxRecDepth 100000
set_option maxHeartbeats 1000000
noncomputable section
namespace Nt
open PySem PySem.Spec PyProof.Rows L2 Pd Td PM K70
def okC (c : Bool) (d : PyData) : Bool := if c = true then !PyData.hasDict d else Pd.noList d
/-- can be shown: c tells whether it has no dict, or no list -/
structure ShD (c : Bool) (k w : Nat) (d : PyData) : Prop where
  lv : PyData.leavesShort 50 d = true
  wt : PyData.weight d ≤ w
  sh : PyData.showable d = true
  dep : PyData.depth d ≤ k
  ok : okC c d = true
theorem ShD.more {c : Bool} {k w k' w' : Nat} {d : PyData} (h : ShD c k w d) (hk : k ≤ k') (hw : w ≤ w') : ShD c k' w' d := ⟨h.lv, Nat.le_trans h.wt hw, h.sh, Nat.le_trans h.dep hk, h.ok⟩
theorem ShD.shown {c : Bool} {k w : Nat} {d : PyData} (h : ShD c k w d) (hk : k ≤ 60) (hw : w ≤ 300000) : ∃ s, reprO eAny d = some s := by
  refine ⟨d.shown, ?_⟩
  unfold reprO
  rw [if_pos]
  show reprOk d = true
  have a := PyData.shown_le 50 (by decide) d h.lv
  have b := h.wt
  have e := h.dep
  have f := h.ok
  unfold reprOk
  rw [h.sh, okLen_of (by omega), decide_eq_true (by omega : PyData.depth d ≤ 60)]
  unfold okC at f
  cases c with
  | true =>
    rw [if_pos rfl] at f
    simp [f]
  | false =>
    rw [if_neg Bool.false_ne_true] at f
    simp [f]
theorem d_int (c : Bool) {i : Int} (h1 : -999999999999 ≤ i) (h2 : i ≤ 999999999999) : ShD c 0 40 (.int i) := by
  have s := Sh.int h1 h2
  refine ⟨?_, s.wt, s.sh, s.dep, by cases c <;> rfl⟩
  have := PyData.shown_int_le2 h1 h2
  simp only [PyData.leavesShort, decide_eq_true_eq]
  exact Nat.le_trans this (by decide)
theorem d_bool (c b : Bool) : ShD c 0 0 (.bool b) := by
  cases b <;> cases c <;> exact ⟨by decide, by decide, by decide, by decide, by decide⟩
theorem d_non (c : Bool) : ShD c 0 0 .none := by
  cases c <;> exact ⟨by decide, by decide, by decide, by decide, by decide⟩
theorem d_all {c : Bool} {k w : Nat} : ∀ {ds : List PyData}, (∀ d ∈ ds, ShD c k w d) → PyData.leavesShortAll 50 ds = true ∧ PyData.weightAll ds ≤ ds.length * (w + 1) ∧ PyData.showableAll ds = true ∧ PyData.depthAll ds ≤ k ∧ (if c = true then PyData.hasDictAll ds = false else Pd.noListAll ds = true)
  | [], _ => by cases c <;> simp [PyData.leavesShortAll, PyData.weightAll, PyData.showableAll, PyData.depthAll, PyData.hasDictAll, Pd.noListAll]
  | d :: ds, h => by
    have hx := h d List.mem_cons_self
    obtain ⟨a, b, e, f, g⟩ := d_all (ds := ds) fun y hy => h y (List.mem_cons_of_mem _ hy)
    refine ⟨?_, ?_, ?_, ?_, ?_⟩
    · rw [PyData.leavesShortAll, hx.lv, a]
      rfl
    · rw [PyData.weightAll, List.length_cons, Nat.add_mul]
      have := hx.wt
      omega
    · rw [PyData.showableAll, hx.sh, e]
      rfl
    · rw [PyData.depthAll]
      exact Nat.max_le.mpr ⟨hx.dep, f⟩
    · have o := hx.ok
      unfold okC at o
      cases c with
      | true =>
        rw [if_pos rfl] at o g ⊢
        rw [PyData.hasDictAll, g]
        simpa using o
      | false =>
        rw [if_neg Bool.false_ne_true] at o g ⊢
        rw [Pd.noListAll, o, g]
        rfl
theorem d_tup {c : Bool} {k w : Nat} {ds : List PyData} (m : Nat) (h : ∀ d ∈ ds, ShD c k w d) (hm : ds.length ≤ m) : ShD c (k + 1) (m * (w + 1)) (.tuple ds) := by
  obtain ⟨a, b, e, f, g⟩ := d_all h
  refine ⟨by rw [PyData.leavesShort]; exact a, ?_, by rw [PyData.showable]; exact e, by rw [PyData.depth]; omega, ?_⟩
  · rw [PyData.weight]
    exact Nat.le_trans b (Nat.mul_le_mul_right _ hm)
  · unfold okC
    cases c with
    | true =>
      rw [if_pos rfl] at g ⊢
      rw [PyData.hasDict, g]
      rfl
    | false =>
      rw [if_neg Bool.false_ne_true] at g ⊢
      rw [Pd.noList]
      exact g
theorem d_lst {k w : Nat} {ds : List PyData} (m : Nat) (h : ∀ d ∈ ds, ShD true k w d) (hm : ds.length ≤ m) : ShD true (k + 1) (m * (w + 1)) (.list ds) := by
  obtain ⟨a, b, e, f, g⟩ := d_all h
  refine ⟨by rw [PyData.leavesShort]; exact a, ?_, by rw [PyData.showable]; exact e, by rw [PyData.depth]; omega, ?_⟩
  · rw [PyData.weight]
    exact Nat.le_trans b (Nat.mul_le_mul_right _ hm)
  · unfold okC
    rw [if_pos rfl] at g ⊢
    rw [PyData.hasDict, g]
    rfl
theorem d_dict0 : ShD false 1 0 (.dict []) := ⟨by decide, by decide, by decide, by decide, by decide⟩
theorem d_mem {c : Bool} {k w : Nat} : ∀ {ds : List PyData}, PyData.leavesShortAll 50 ds = true → PyData.weightAll ds ≤ w → PyData.showableAll ds = true → PyData.depthAll ds ≤ k → (if c = true then PyData.hasDictAll ds = false else Pd.noListAll ds = true) → ∀ d ∈ ds, ShD c k w d
  | [], _, _, _, _, _ => fun d h => by cases h
  | x :: ds, h1, h2, h3, h4, h5 => fun d h => by
    rw [PyData.leavesShortAll, Bool.and_eq_true] at h1
    rw [PyData.weightAll] at h2
    rw [PyData.showableAll, Bool.and_eq_true] at h3
    rw [PyData.depthAll] at h4
    have h5' : okC c x = true ∧ (if c = true then PyData.hasDictAll ds = false else Pd.noListAll ds = true) := by
      unfold okC
      cases c with
      | true =>
        rw [if_pos rfl] at h5 ⊢
        rw [PyData.hasDictAll, Bool.or_eq_false_iff] at h5
        exact ⟨by rw [h5.1]; rfl, by rw [if_pos rfl]; exact h5.2⟩
      | false =>
        rw [if_neg Bool.false_ne_true] at h5 ⊢
        rw [Pd.noListAll, Bool.and_eq_true] at h5
        exact ⟨h5.1, by rw [if_neg Bool.false_ne_true]; exact h5.2⟩
    rcases List.mem_cons.mp h with rfl | h
    · exact ⟨h1.1, by omega, h3.1, Nat.le_trans (Nat.le_max_left _ _) h4, h5'.1⟩
    · exact d_mem h1.2 (by omega) h3.2 (Nat.le_trans (Nat.le_max_right _ _) h4) h5'.2 d h
theorem ShD.mem {c : Bool} {k w : Nat} {ds : List PyData} (h : ShD c k w (.tuple ds)) {d : PyData} (hd : d ∈ ds) : ShD c k w d := by
  have h1 := h.lv
  have h2 := h.wt
  have h3 := h.sh
  have h4 := h.dep
  have h5 := h.ok
  rw [PyData.leavesShort] at h1
  rw [PyData.weight] at h2
  rw [PyData.showable] at h3
  rw [PyData.depth] at h4
  refine d_mem h1 h2 h3 (by omega) ?_ d hd
  unfold okC at h5
  cases c with
  | true =>
    rw [if_pos rfl] at h5 ⊢
    rw [PyData.hasDict] at h5
    simpa using h5
  | false =>
    rw [if_neg Bool.false_ne_true] at h5 ⊢
    rw [Pd.noList] at h5
    exact h5
end Nt
end
set_option linter.all false
set_option maxRecDepth 100000
set_option maxHeartbeats 1000000
noncomputable section
namespace Nt
open PySem PySem.Spec PyProof.Rows L2 Pd Td PM K70
theorem d_at {β α : Type} (c : DM α) (f : α → DM β) (s : Src) : (bnd c f : DM β) s = (c s).bind fun p => f p.1 p.2 := rfl
theorem whD_more {β : Type} {c : β → DM Bool} {cb : β → DM β} : ∀ (k : Nat) (b : β) (s : Src) (x : β × Src), whK c cb k b s = some x → whK c cb (k + 1) b s = some x
  | 0, b, s, x, h => by cases h
  | k + 1, b, s, x, h => by
    have e : ∀ k, (whK c cb (k + 1) b : DM β) = bnd (c b) fun z => cnd z (bnd (cb b) fun b' => whK c cb k b') (ret b) := fun _ => rfl
    rw [e] at h ⊢
    rw [d_at] at h ⊢
    cases h1 : c b s with
    | none =>
      rw [h1] at h
      cases h
    | some p =>
      rw [h1] at h
      simp only [Option.bind_some] at h ⊢
      obtain ⟨z, s1⟩ := p
      cases z with
      | false => exact h
      | true =>
        have h : (bnd (cb b) fun b' => whK c cb k b' : DM β) s1 = some x := h
        show (bnd (cb b) fun b' => whK c cb (k + 1) b' : DM β) s1 = some x
        rw [d_at] at h ⊢
        cases h2 : cb b s1 with
        | none =>
          rw [h2] at h
          cases h
        | some q =>
          rw [h2] at h
          simp only [Option.bind_some] at h ⊢
          exact whD_more k q.1 q.2 x h
theorem whD_up {β : Type} {c : β → DM Bool} {cb : β → DM β} {b : β} {s : Src} {x : β × Src} {k l : Nat} (h : whK c cb k b s = some x) (hl : k ≤ l) : whK c cb l b s = some x := by
  induction hl with
  | refl => exact h
  | step _ ih => exact whD_more _ _ _ _ ih
theorem Tri.while {β : Type} {c : β → DM Bool} {cb : β → DM β} {b : β} (Inv : β → Prop) (μ : β → Nat) (h0 : Inv b) (hc : ∀ b, Inv b → (c b = ret true ∧ Tri (cb b) fun b' => Inv b' ∧ μ b' < μ b) ∨ c b = ret false) :
    Tri (lim fun k => whK c cb k b : DM β) fun x => Inv x ∧ c x = ret false := fun s => by
  have key : ∀ (n : Nat) (b : β) (s : Src), μ b ≤ n → Inv b → ∃ k x s', whK c cb k b s = some (x, s') ∧ Inv x ∧ c x = ret false := by
    intro n
    induction n with
    | zero =>
      intro b s hn hb
      rcases hc b hb with ⟨h1, h2⟩ | h1
      · obtain ⟨b', s', _, _, h3⟩ := h2 s
        omega
      · refine ⟨1, b, s, ?_, hb, h1⟩
        show (bnd (c b) fun z => cnd z (bnd (cb b) fun b' => whK c cb 0 b') (ret b) : DM β) s = _
        rw [h1]
        rfl
    | succ n ih =>
      intro b s hn hb
      rcases hc b hb with ⟨h1, h2⟩ | h1
      · obtain ⟨b', s', h3, h4, h5⟩ := h2 s
        obtain ⟨k, x, s'', h6, h7⟩ := ih b' s' (by omega) h4
        refine ⟨k + 1, x, s'', ?_, h7⟩
        show (bnd (c b) fun z => cnd z (bnd (cb b) fun b' => whK c cb k b') (ret b) : DM β) s = _
        rw [h1]
        show (bnd (cb b) fun b' => whK c cb k b' : DM β) s = _
        rw [d_at, h3]
        exact h6
      · refine ⟨1, b, s, ?_, hb, h1⟩
        show (bnd (c b) fun z => cnd z (bnd (cb b) fun b' => whK c cb 0 b') (ret b) : DM β) s = _
        rw [h1]
        rfl
  obtain ⟨k, x, s', h1, h2⟩ := key (μ b) b s (Nat.le_refl _) h0
  refine ⟨x, s', ?_, h2⟩
  show limO (fun k s => whK c cb k b s) s = _
  refine limO_eq ⟨k, h1⟩ fun k l x y hx hy => ?_
  rcases Nat.le_total k l with q | q
  · have := whD_up hx q
    rw [this] at hy
    injection hy
  · have := whD_up hy q
    rw [this] at hx
    injection hx with hx
    exact hx.symm
end Nt
end
set_option linter.all false
set_option maxRecDepth 100000
set_option maxHeartbeats 1000000
noncomputable section
namespace Nt
open PySem PySem.Spec PyProof.Rows L2 Pd Td PM K70
section
variable {κ α : Type} [DecidableEq κ]
theorem put_keys (kvs : List (κ × α)) (k : κ) (v : α) : (putM kvs k v).map (·.1) = if k ∈ kvs.map (·.1) then kvs.map (·.1) else kvs.map (·.1) ++ [k] := by
  unfold putM
  have e : ((kvs.any fun p => decide (p.1 = k)) = true) ↔ k ∈ kvs.map (·.1) := by
    rw [List.any_eq_true, List.mem_map]
    constructor
    · rintro ⟨p, hp, h⟩
      exact ⟨p, hp, of_decide_eq_true h⟩
    · rintro ⟨p, hp, h⟩
      exact ⟨p, hp, decide_eq_true h⟩
  by_cases c : k ∈ kvs.map (·.1)
  · rw [if_pos (e.mpr c), if_pos c, List.map_map]
    refine List.map_congr_left fun p hp => ?_
    simp only [Function.comp]
    split <;> rfl
  · rw [if_neg (fun z => c (e.mp z)), if_neg c, List.map_append]
    rfl
theorem fold_keys : ∀ (ps acc : List (κ × α)), (acc.map (·.1)).Nodup → (((ps.foldl (fun acc p => putM acc p.1 p.2) acc).map (·.1)).Nodup ∧ (∀ k, k ∈ (ps.foldl (fun acc p => putM acc p.1 p.2) acc).map (·.1) ↔ k ∈ acc.map (·.1) ∨ k ∈ ps.map (·.1)) ∧ (ps.foldl (fun acc p => putM acc p.1 p.2) acc).length ≤ acc.length + ps.length ∧
    ((acc.map (·.1) ++ ps.map (·.1)).Nodup → (ps.foldl (fun acc p => putM acc p.1 p.2) acc).map (·.1) = acc.map (·.1) ++ ps.map (·.1)) ∧ ((ps.foldl (fun acc p => putM acc p.1 p.2) acc).length = acc.length + ps.length → (acc.map (·.1) ++ ps.map (·.1)).Nodup))
  | [], acc, h => by
    simp only [List.foldl_nil, List.map_nil, List.append_nil, List.length_nil, Nat.add_zero, List.not_mem_nil, or_false]
    exact ⟨h, fun k => True.intro, Nat.le_refl _, fun _ => True.intro, fun _ => h⟩
  | p :: ps, acc, h => by
    have pk := put_keys acc p.1 p.2
    rw [List.foldl_cons]
    by_cases c : p.1 ∈ acc.map (·.1)
    · rw [if_pos c] at pk
      have pl : (putM acc p.1 p.2).length = acc.length := by
        have := congrArg List.length pk
        rwa [List.length_map, List.length_map] at this
      obtain ⟨a1, a2, a3, a4, a5⟩ := fold_keys ps (putM acc p.1 p.2) (by rw [pk]; exact h)
      rw [pl] at a3 a5
      refine ⟨a1, fun k => ?_, by rw [List.length_cons]; omega, fun z => ?_, fun z => ?_⟩
      · rw [a2 k, pk, List.map_cons, List.mem_cons]
        constructor
        · rintro (q | q)
          · exact .inl q
          · exact .inr (.inr q)
        · rintro (q | q | q)
          · exact .inl q
          · exact .inl (q ▸ c)
          · exact .inr q
      · exact absurd rfl ((List.nodup_append.mp z).2.2 _ c _ (by rw [List.map_cons]; exact List.mem_cons_self))
      · rw [List.length_cons] at z
        omega
    · rw [if_neg c] at pk
      have pl : (putM acc p.1 p.2).length = acc.length + 1 := by
        have := congrArg List.length pk
        rwa [List.length_map, List.length_append, List.length_map, List.length_singleton] at this
      have nd : (acc.map (·.1) ++ [p.1]).Nodup := by
        rw [List.nodup_append]
        refine ⟨h, by simp, fun x hx y hy z => c ?_⟩
        rw [List.mem_singleton.mp hy] at z
        rw [← z]
        exact hx
      obtain ⟨a1, a2, a3, a4, a5⟩ := fold_keys ps (putM acc p.1 p.2) (by rw [pk]; exact nd)
      rw [pl] at a3 a5
      rw [pk, List.append_assoc, List.singleton_append] at a4 a5
      refine ⟨a1, fun k => ?_, by rw [List.length_cons]; omega, fun z => ?_, fun z => ?_⟩
      · rw [a2 k, pk, List.mem_append, List.mem_singleton, List.map_cons, List.mem_cons, or_assoc]
      · rw [List.map_cons] at z ⊢
        exact a4 z
      · rw [List.map_cons]
        rw [List.length_cons] at z
        exact a5 (by omega)
end
def incB : List Int → Bool
  | [] => true
  | [_] => true
  | x :: y :: L => decide (x < y) && incB (y :: L)
theorem inc_pair : ∀ {L : List Int}, incB L = true → L.Pairwise (· < ·)
  | [], _ => .nil
  | [x], _ => by simp
  | x :: y :: L, h => by
    unfold incB at h
    rw [Bool.and_eq_true, decide_eq_true_eq] at h
    have ih := inc_pair h.2
    refine List.Pairwise.cons (fun z hz => ?_) ih
    rcases List.mem_cons.mp hz with rfl | hz
    · exact h.1
    · have := (List.pairwise_cons.mp ih).1 z hz
      omega
theorem pair_inc : ∀ {L : List Int}, L.Pairwise (· < ·) → incB L = true
  | [], _ => rfl
  | [x], _ => rfl
  | x :: y :: L, h => by
    unfold incB
    obtain ⟨a, b⟩ := List.pairwise_cons.mp h
    rw [decide_eq_true (a y List.mem_cons_self), pair_inc b]
    rfl
theorem srtI_of {L : List Int} (h : L.Pairwise (· < ·)) : srtI L = L := by
  unfold srtI
  exact List.mergeSort_of_pairwise (h.imp fun {a b} hab => by simp; omega)
/-- a row is what its dict's keys sorted are, where it ascends -/
theorem sort_dict (L : List Int) (v : Int) (h : (mkDict (L.map fun x => (x, v))).length < 64) : ∃ K, sortKeys (mkDict (L.map fun x => (x, v))) = some K ∧ decide (L = K) = incB L := by
  have m : (L.map fun x => (x, v)).map (·.1) = L := by rw [List.map_map]; exact List.map_id L
  obtain ⟨a1, a2, a3, a4, a5⟩ := fold_keys (L.map fun x => (x, v)) [] (by simp)
  refine ⟨_, sortKeys_of h, ?_⟩
  rw [Bool.eq_iff_iff, decide_eq_true_eq]
  constructor
  · intro e
    refine pair_inc ?_
    have nd : (srtI ((mkDict (L.map fun x => (x, v))).map (·.1))).Nodup := (List.mergeSort_perm _ _).nodup_iff.mpr a1
    have so : (srtI ((mkDict (L.map fun x => (x, v))).map (·.1))).Pairwise (· ≤ ·) := by
      unfold srtI
      refine (List.pairwise_mergeSort (le := fun a b => decide (a ≤ b)) (fun a b c h1 h2 => ?_) (fun a b => ?_) _).imp fun {a b} hab => by simpa using hab
      · simp only [decide_eq_true_eq] at *
        omega
      · simp only [Bool.or_eq_true, decide_eq_true_eq]
        omega
    rw [← e] at nd so
    exact (so.and nd).imp fun {a b} ⟨h1, h2⟩ => by omega
  · intro h
    have p := inc_pair h
    have nd : L.Nodup := p.imp fun {a b} hab => by omega
    rw [m, List.map_nil, List.nil_append] at a4
    have := a4 nd
    have e : (mkDict (L.map fun x => (x, v))).map (·.1) = L := this
    rw [e, srtI_of p]
theorem at_last' {α : Type} {xs : List α} (h : 0 < xs.length) : at_ xs (-1) = xs[xs.length - 1]? := by
  unfold at_ L2.atI
  have e : ixN xs.length (-1) = some (xs.length - 1) := by
    unfold ixN
    have a : ¬ (0 : Int) ≤ -1 := by decide
    simp only [a, if_false, false_and]
    first
      | rw [if_pos (by omega)]; congr 1; omega
      | (simp; omega)
  rw [e]
  rfl
theorem at_end {α : Type} (xs : List α) (x : α) : at_ (xs ++ [x]) (-1) = some x := by
  rw [at_last' (by rw [List.length_append, List.length_singleton]; omega), List.length_append, List.length_singleton, Nat.add_sub_cancel, List.getElem?_append_right (Nat.le_refl _), Nat.sub_self]
  rfl
/-- a row without its ends -/
theorem cut_inner {α : Type} (x y : α) (xs : List α) : cut (x :: (xs ++ [y])) (some 1) (some (-1)) = xs := by
  unfold cut HT.sIx
  have l : (x :: (xs ++ [y])).length = xs.length + 2 := by simp
  rw [l]
  simp only [show ¬ ((1 : Int) < 0) by decide, if_false, show ((-1 : Int) < 0) by decide, if_true]
  rw [show min (1 : Int).toNat (xs.length + 2) = 1 by omega, show (-1 + ((xs.length + 2 : Nat) : Int)).toNat - 1 = xs.length by omega, List.drop_succ_cons, List.drop_zero, List.take_left']
  rfl
end Nt
end
set_option linter.all false
set_option maxRecDepth 100000
set_option maxHeartbeats 1000000
noncomputable section
namespace Nt
open PySem PySem.Spec PyProof.Rows L2 Pd Td PM K70
/-- can be shown, whatever its weight -/
structure Fit (c : Bool) (k : Nat) (d : PyData) : Prop where
  lv : PyData.leavesShort 50 d = true
  sh : PyData.showable d = true
  dep : PyData.depth d ≤ k
  ok : okC c d = true
theorem Fit.more {c : Bool} {k l : Nat} {d : PyData} (h : Fit c k d) (hl : k ≤ l) : Fit c l d := ⟨h.lv, h.sh, Nat.le_trans h.dep hl, h.ok⟩
theorem Fit.shd {c : Bool} {k w : Nat} {d : PyData} (h : Fit c k d) (hw : PyData.weight d ≤ w) : ShD c k w d := ⟨h.lv, hw, h.sh, h.dep, h.ok⟩
theorem ShD.fit {c : Bool} {k w : Nat} {d : PyData} (h : ShD c k w d) : Fit c k d := ⟨h.lv, h.sh, h.dep, h.ok⟩
theorem fit_tup {c : Bool} {k : Nat} {ds : List PyData} (h : ∀ d ∈ ds, Fit c k d) : Fit c (k + 1) (.tuple ds) := by
  have : ∃ w, ∀ d ∈ ds, ShD c k w d := ⟨PyData.weightAll ds, fun d hd => (h d hd).shd (by
    clear h
    induction ds with
    | nil => cases hd
    | cons x xs ih =>
      rw [PyData.weightAll]
      rcases List.mem_cons.mp hd with rfl | hd
      · omega
      · have := ih hd
        omega)⟩
  obtain ⟨w, hw⟩ := this
  exact (d_tup ds.length hw (Nat.le_refl _)).fit
theorem weight_app : ∀ A B : List PyData, PyData.weightAll (A ++ B) = PyData.weightAll A + PyData.weightAll B
  | [], B => by rw [List.nil_append, PyData.weightAll]; omega
  | x :: A, B => by rw [List.cons_append, PyData.weightAll, PyData.weightAll, weight_app A B]; omega
theorem weight_at {A : List PyData} {i : Nat} (h : i < A.length) : PyData.weightAll A = PyData.weightAll (A.take i) + (PyData.weight A[i] + 1) + PyData.weightAll (A.drop (i + 1)) := by
  have e : A = A.take i ++ (A[i] :: A.drop (i + 1)) := by rw [List.getElem_cons_drop, List.take_append_drop]
  have := congrArg PyData.weightAll e
  rw [weight_app, PyData.weightAll] at this
  omega
/-- values of tuples and small ints -/
inductive Bs : Nat → PyData → Prop
  | int {k : Nat} {i : Int} (h1 : -1000000 ≤ i) (h2 : i ≤ 1000000) : Bs k (.int i)
  | tup {k : Nat} {ds : List PyData} (h : ∀ d ∈ ds, Bs k d) : Bs (k + 1) (.tuple ds)
theorem Bs.fit (c : Bool) {k : Nat} {d : PyData} (h : Bs k d) : Fit c k d := by
  induction h with
  | int h1 h2 => exact ((d_int c (i := _) (by omega) (by omega)).fit).more (Nat.zero_le _)
  | tup h ih => exact fit_tup ih
theorem Bs.more {k l : Nat} {d : PyData} (h : Bs k d) (hl : k ≤ l) : Bs l d := by
  induction h generalizing l with
  | int h1 h2 => exact .int h1 h2
  | tup h ih =>
    obtain ⟨m, rfl⟩ : ∃ m, l = m + 1 := ⟨l - 1, by omega⟩
    exact .tup fun d hd => ih d hd (by omega)
theorem Bs.ints {L : List Int} (h : ∀ i ∈ L, -1000000 ≤ i ∧ i ≤ 1000000) : Bs 1 (eTup eInt L) := .tup fun d hd => by
  obtain ⟨i, hi, rfl⟩ := List.mem_map.mp hd
  exact .int (h i hi).1 (h i hi).2
/-- a value of any kind that can be shown -/
def Vl (k w : Nat) (d : PyData) : Prop := ∃ c, ShD c k w d
theorem Vl.more {k w k' w' : Nat} {d : PyData} (h : Vl k w d) (hk : k ≤ k') (hw : w ≤ w') : Vl k' w' d := by
  obtain ⟨c, h⟩ := h
  exact ⟨c, h.more hk hw⟩
theorem Vl.shown {k w : Nat} {d : PyData} (h : Vl k w d) (hk : k ≤ 60) (hw : w ≤ 300000) : ∃ s, reprO eAny d = some s := by
  obtain ⟨c, h⟩ := h
  exact h.shown hk hw
/-- a part of a tuple replaced -/
theorem bent_at {k w : Nat} {ds : List PyData} {i : Nat} {d : PyData} (h : ∀ x ∈ ds, Bs k x) (hi : i < ds.length) (hd : Vl (k + 3) (2 * PyData.weight ds[i] + w) d) :
    Vl (k + 1 + 3) (2 * PyData.weight (.tuple ds) + w) (.tuple (ds.take i ++ [d] ++ ds.drop (i + 1))) := by
  obtain ⟨c, hd⟩ := hd
  refine ⟨c, (fit_tup (k := k + 3) fun x hx => ?_).shd ?_⟩
  · simp only [List.mem_append, List.mem_singleton] at hx
    rcases hx with (q | q) | q
    · exact ((h x (List.mem_of_mem_take q)).fit c).more (by omega)
    · exact q ▸ hd.fit
    · exact ((h x (List.mem_of_mem_drop q)).fit c).more (by omega)
  · have a := weight_at hi
    have b := hd.wt
    rw [PyData.weight, PyData.weight, weight_app, weight_app, PyData.weightAll, PyData.weightAll]
    omega
/-- the first wrong one, or what comes behind -/
theorem first_or {α β γ : Type} [DecidableEq β] (xs : List α) (p : α → Bool) (g : α → β) (f : β → Option γ) (r : Option γ) :
    (cnd (!decide (((xs.filter p).map g) = [])) (bnd (Td.at_ ((xs.filter p).map g) 0) f) r : Option γ) = match xs.find? p with | some x => f (g x) | none => r := by
  induction xs with
  | nil => rfl
  | cons x xs ih =>
    rw [List.filter_cons, List.find?_cons]
    cases c : p x with
    | true =>
      rw [if_pos rfl, List.map_cons, decide_eq_false (by simp), Bool.not_false, cnd_t, at_pos (by decide) (by simp)]
      rfl
    | false => rw [if_neg (by simp), ih]
theorem Tri.outB {α β : Type} {o : Option α} {f : α → DM β} {a : α} {P : β → Prop} (h : o = some a) (k : Tri (f a) P) : Tri (bnd (out o) f) P := by
  rw [h]
  exact k
end Nt
end
set_option linter.all false
set_option maxRecDepth 100000
set_option maxHeartbeats 2000000
noncomputable section
namespace Nt
open PySem PySem.Spec PyProof.Rows L2 Pd Td PM
end Nt
end
set_option linter.all false
set_option maxRecDepth 100000
set_option maxHeartbeats 2000000
noncomputable section
namespace Nt
open PySem PySem.Spec PyProof.Rows L2 Pd Td PM
section
variable {β γ : Type} {c : β → Option Bool} {cb : β → Option (Out β γ)}
end
end Nt
end
set_option linter.all false
set_option maxRecDepth 100000
set_option maxHeartbeats 2000000
noncomputable section
namespace Nt
open PySem PySem.Spec PyProof.Rows L2 Pd Td PM
inductive Rg (near : Int → List Int) (gone : List Int) (x : Int) : Int → Prop
  | refl : Rg near gone x x
  | step {y z : Int} : Rg near gone x y → z ∈ near y → z ∉ gone → Rg near gone x z
open Classical in
/-- the stations that are come to, ascending -/
def clsL (near : Int → List Int) (gone : List Int) (n s : Int) : List Int := (rngL n).filter fun y => decide (Rg near gone s y)
theorem pw_eq {A B : List Int} (hA : A.Pairwise (· < ·)) (hB : B.Pairwise (· < ·)) (h : ∀ x, x ∈ A ↔ x ∈ B) : A = B :=
  List.Perm.eq_of_pairwise (le := fun a b : Int => a < b) (fun a b _ _ h1 h2 => by omega) hA hB ((List.perm_ext_iff_of_nodup (hA.imp fun h z => by omega) (hB.imp fun h z => by omega)).mpr h)
section
variable {near : Int → List Int} {gone : List Int} {n s : Int}
open Classical in
theorem clsL_mem {y : Int} : y ∈ clsL near gone n s ↔ (0 ≤ y ∧ y < n) ∧ Rg near gone s y := by
  unfold clsL
  rw [List.mem_filter, rngL_mem, decide_eq_true_eq]
theorem Rg.trans {x y z : Int} (h : Rg near gone x y) (k : Rg near gone y z) : Rg near gone x z := by
  induction k with
  | refl => exact h
  | step _ e g ih => exact .step ih e g
variable (hin : ∀ x, 0 ≤ x ∧ x < n → ∀ y ∈ near x, 0 ≤ y ∧ y < n)
include hin
theorem Rg.rng {x y : Int} (hx : 0 ≤ x ∧ x < n) (h : Rg near gone x y) : 0 ≤ y ∧ y < n := by
  induction h with
  | refl => exact hx
  | step _ e _ ih => exact hin _ ih _ e
theorem Rg.symm (sy : ∀ x y, (0 ≤ x ∧ x < n) → y ∈ near x → x ∈ near y) {x y : Int} (hx : 0 ≤ x ∧ x < n) (gx : x ∉ gone) (h : Rg near gone x y) : Rg near gone y x := by
  have : Rg near gone y x ∧ y ∉ gone := by
    induction h with
    | refl => exact ⟨.refl, gx⟩
    | step h1 e g ih =>
      have hy := Rg.rng hin hx h1
      exact ⟨Rg.trans (.step .refl (sy _ _ hy e) ih.2) ih.1, g⟩
  exact this.1
end
section
variable {α : Type} (v : α) {near : Int → List Int} {nb : Int → Option (List Int)} {gone : List Int} {n s : Int}
structure Sn (near : Int → List Int) (gone : List Int) (n s : Int) (b : List (Int × α) × List Int) : Prop where
  nd : (b.1.map (·.1)).Nodup
  hs : s ∈ b.1.map (·.1)
  rn : b.2.Nodup
  sub : ∀ y ∈ b.2, y ∈ b.1.map (·.1)
  to : ∀ y ∈ b.1.map (·.1), Rg near gone s y
  cl : ∀ y ∈ b.1.map (·.1), y ∉ b.2 → ∀ z ∈ near y, z ∉ gone → z ∈ b.1.map (·.1)
end
section
variable {near : Int → List Int} {gone : List Int} {n : Int}
/-- no lesser one comes to it -/
def IsLeast (near : Int → List Int) (gone : List Int) (s : Int) : Prop := s ∉ gone ∧ ∀ t, 0 ≤ t → t < s → t ∉ gone → ¬ Rg near gone t s
open Classical in
def leastsL (near : Int → List Int) (gone : List Int) (m : Int) : List Int := (rngL m).filter fun s => decide (IsLeast near gone s)
def pcsL (near : Int → List Int) (gone : List Int) (n m : Int) : List (List Int) := (leastsL near gone m).map (clsL near gone n)
open Classical in
theorem leasts_mem {m s : Int} : s ∈ leastsL near gone m ↔ (0 ≤ s ∧ s < m) ∧ IsLeast near gone s := by
  unfold leastsL
  rw [List.mem_filter, rngL_mem, decide_eq_true_eq]
theorem rng_succ {m : Int} (h : 0 ≤ m) : rngL (m + 1) = rngL m ++ [m] := by
  unfold rngL
  rw [show (m + 1).toNat = m.toNat + 1 by omega, List.range_succ, List.map_append]
  simp only [List.map_cons, List.map_nil]
  rw [show (0 : Int) + (m.toNat : Int) = m by omega]
open Classical in
theorem leasts_succ {m : Int} (h : 0 ≤ m) : (IsLeast near gone m → leastsL near gone (m + 1) = leastsL near gone m ++ [m]) ∧ (¬ IsLeast near gone m → leastsL near gone (m + 1) = leastsL near gone m) := by
  unfold leastsL
  rw [rng_succ h, List.filter_append]
  refine ⟨fun z => ?_, fun z => ?_⟩
  · rw [List.filter_cons, if_pos (decide_eq_true z)]
    rfl
  · rw [List.filter_cons, if_neg (fun q => z (of_decide_eq_true q))]
    exact List.append_nil _
theorem has_least {s : Int} (h0 : 0 ≤ s) (g : s ∉ gone) : ∃ t, 0 ≤ t ∧ t ≤ s ∧ IsLeast near gone t ∧ Rg near gone t s := by
  have : ∀ (k : Nat) (s : Int), s.toNat ≤ k → 0 ≤ s → s ∉ gone → ∃ t, 0 ≤ t ∧ t ≤ s ∧ IsLeast near gone t ∧ Rg near gone t s := by
    intro k
    induction k with
    | zero => intro s hk h0 g; exact ⟨s, h0, by omega, ⟨g, fun t t0 t1 => by omega⟩, .refl⟩
    | succ k ih =>
      intro s hk h0 g
      by_cases c : IsLeast near gone s
      · exact ⟨s, h0, by omega, c, .refl⟩
      · obtain ⟨t, t0, t1, t2, t3⟩ : ∃ t, 0 ≤ t ∧ t < s ∧ t ∉ gone ∧ Rg near gone t s := Classical.byContradiction fun z => c ⟨g, fun t a b d e => z ⟨t, a, b, d, e⟩⟩
        obtain ⟨u, u0, u1, u2, u3⟩ := ih t (by omega) t0 t2
        exact ⟨u, u0, by omega, u2, Rg.trans u3 t3⟩
  exact this s.toNat s (Nat.le_refl _) h0 g
theorem leasts_len (m : Int) : (leastsL near gone m).length ≤ m.toNat := by
  have := List.length_filter_le (fun s => @decide (IsLeast near gone s) (Classical.propDecidable _)) (rngL m)
  rw [rngL_len] at this
  exact this
variable (sy : ∀ x y, (0 ≤ x ∧ x < n) → y ∈ near x → x ∈ near y) (hin : ∀ x, 0 ≤ x ∧ x < n → ∀ y ∈ near x, 0 ≤ y ∧ y < n)
/-- a station is in a piece begun ahead just if it isn't the least of its own -/
theorem in_ahead {m : Int} (h0 : 0 ≤ m) (hm : m < n) (g : m ∉ gone) : (∃ X ∈ pcsL near gone n m, m ∈ X) ↔ ¬ IsLeast near gone m := by
  constructor
  · rintro ⟨X, hX, hx⟩ c
    obtain ⟨t, ht, rfl⟩ := List.mem_map.mp hX
    obtain ⟨⟨t0, t1⟩, t2⟩ := leasts_mem.mp ht
    exact c.2 t t0 t1 t2.1 (clsL_mem.mp hx).2
  · intro c
    obtain ⟨t, t0, t1, t2, t3⟩ := has_least (near := near) h0 g
    have : t ≠ m := fun e => c (e ▸ t2)
    exact ⟨_, List.mem_map.mpr ⟨t, leasts_mem.mpr ⟨⟨t0, by omega⟩, t2⟩, rfl⟩, clsL_mem.mpr ⟨⟨h0, hm⟩, t3⟩⟩
/-- by going through all stations -/
theorem piecesA {come : Int → Option (List Int)} (hn0 : 0 ≤ n) (hn : n ≤ 1000) (hc : ∀ s, 0 ≤ s ∧ s < n → s ∉ gone → come s = some (clsL near gone n s)) :
    (foldM (fun (b1 : List (List Int)) (q2 : Int) => bnd (andB (some !decide (q2 ∈ gone)) (bnd (lcM b1 (fun q3 => some true) fun q3 => some (decide (q2 ∈ q3))) fun a => some !a.any id)) fun z => cnd z (bnd (come q2) fun a => bnd (appF b1 a) fun b4 => some b4.2) (some b1)) (rngL n) [] : Option (List (List Int))) = some (pcsL near gone n n) := by
  obtain ⟨b, e, hb⟩ := foldM_inv (cb := fun (b1 : List (List Int)) (q2 : Int) => bnd (andB (some !decide (q2 ∈ gone)) (bnd (lcM b1 (fun q3 => some true) fun q3 => some (decide (q2 ∈ q3))) fun a => some !a.any id)) fun z => cnd z (bnd (come q2) fun a => bnd (appF b1 a) fun b4 => some b4.2) (some b1)) (fun i b => b = pcsL near gone n (i : Int)) (rngL n) 0 [] (by unfold pcsL leastsL; rfl) fun i q b hq hb => by
    rw [Nat.zero_add] at hb ⊢
    have hi := (List.getElem?_eq_some_iff.mp hq).1
    rw [rngL_len] at hi
    have eq : q = (i : Int) := by
      unfold rngL at hq
      rw [List.getElem?_map, List.getElem?_range hi] at hq
      have : (0 : Int) + (i : Int) = q := Option.some.inj hq
      omega
    subst eq
    have bl : b.length ≤ 1000 := by
      rw [hb]
      unfold pcsL
      rw [List.length_map]
      have := leasts_len (near := near) (gone := gone) (i : Int)
      omega
    obtain ⟨ls1, ls2⟩ := leasts_succ (near := near) (gone := gone) (m := (i : Int)) (by omega)
    have cs : ((i + 1 : Nat) : Int) = (i : Int) + 1 := by omega
    by_cases g : (i : Int) ∈ gone
    · refine ⟨b, ?_, ?_⟩
      · rw [decide_eq_true g]
        rfl
      · rw [hb, cs]
        unfold pcsL
        rw [ls2 fun z => z.1 g]
    · have tst : (bnd (andB (some !decide ((i : Int) ∈ gone)) (bnd (lcM b (fun q3 => some true) fun q3 => some (decide ((i : Int) ∈ q3))) fun a => some !a.any id)) fun z => some z : Option Bool) = some (!b.any fun X => decide ((i : Int) ∈ X)) := by
        rw [decide_eq_false g, lcM_f (by omega)]
        show some (!((b.map fun X => decide ((i : Int) ∈ X)).any id)) = _
        rw [List.any_map]
        rfl
      rw [o_bndS] at tst
      rw [tst, o_bnd]
      have ia := in_ahead (near := near) (gone := gone) (n := n) (m := (i : Int)) (by omega) (by omega) g
      rw [← hb] at ia
      by_cases c : IsLeast near gone (i : Int)
      · have z : (b.any fun X => decide ((i : Int) ∈ X)) = false := by
          rw [List.any_eq_false]
          intro X hX w
          exact ia.mp ⟨X, hX, of_decide_eq_true w⟩ c
        refine ⟨b ++ [clsL near gone n (i : Int)], ?_, ?_⟩
        · rw [z, Bool.not_false, cnd_t, hc _ ⟨by omega, by omega⟩ g, o_bnd, appF_of (by omega)]
          rfl
        · rw [hb, cs]
          unfold pcsL
          rw [ls1 c, List.map_append]
          rfl
      · have z : (b.any fun X => decide ((i : Int) ∈ X)) = true := by
          obtain ⟨X, hX, w⟩ := ia.mpr c
          exact List.any_eq_true.mpr ⟨X, hX, decide_eq_true w⟩
        refine ⟨b, ?_, ?_⟩
        · rw [z]
          rfl
        · rw [hb, cs]
          unfold pcsL
          rw [ls2 c]
  rw [e, hb, Nat.zero_add, rngL_len, Int.toNat_of_nonneg hn0]
include sy hin in
/-- by taking away piece by piece -/
theorem piecesB {come : Int → Option (List Int)} (hn0 : 0 ≤ n) (hn : n ≤ 1000) (hc : ∀ s, 0 ≤ s ∧ s < n → s ∉ gone → come s = some (clsL near gone n s)) :
    ∃ b : List (List Int) × List Int, (lim fun k => whK (fun b3 : List (List Int) × List Int => bnd (lenOk ([] : List Int)) fun b => some !decide (b3.2 = b)) (fun b3 => bnd (at_ b3.2 0) fun a => bnd (come a) fun a => bnd (appF b3.1 a) fun b4 => bnd (lcM b3.2 (fun a => bnd (at_ b4.2 (-1)) fun b => some !decide (a ∈ b)) fun q1 => some q1) fun rest_ => some (b4.2, rest_)) k ([], (rngL n).filter fun q => !decide (q ∈ gone)) : Option (List (List Int) × List Int)) = some b ∧ b.1 = pcsL near gone n n := by
  obtain ⟨b, e, ⟨m, m0, m1, hb, hr⟩, c⟩ := while_inv (b := (([] : List (List Int)), (rngL n).filter fun q => !decide (q ∈ gone))) (c := fun b3 : List (List Int) × List Int => bnd (lenOk ([] : List Int)) fun b => some !decide (b3.2 = b)) (cb := fun b3 => bnd (at_ b3.2 0) fun a => bnd (come a) fun a => bnd (appF b3.1 a) fun b4 => bnd (lcM b3.2 (fun a => bnd (at_ b4.2 (-1)) fun b => some !decide (a ∈ b)) fun q1 => some q1) fun rest_ => some (b4.2, rest_))
    (fun b => ∃ m, 0 ≤ m ∧ m ≤ n ∧ b.1 = pcsL near gone n m ∧ b.2 = (rngL n).filter fun q => !decide (q ∈ gone) && !b.1.any fun X => decide (q ∈ X)) (fun b => b.2.length)
    ⟨0, by omega, hn0, by unfold pcsL leastsL; rfl, by simp⟩ fun b ⟨m, m0, m1, hb, hr⟩ => by
    rw [lenOk_of (α := Int) (xs := []) (by decide), o_bnd]
    cases hb2 : b.2 with
    | nil => exact .inr (by rw [decide_eq_true rfl]; rfl)
    | cons h t =>
      refine .inl ⟨by rw [decide_eq_false (by simp)]; rfl, ?_⟩
      have hm : h ∈ b.2 := by rw [hb2]; exact List.mem_cons_self
      rw [hr] at hm
      obtain ⟨h1, h2⟩ := List.mem_filter.mp hm
      have h1 := rngL_mem.mp h1
      rw [Bool.and_eq_true, Bool.not_eq_true', Bool.not_eq_true', decide_eq_false_iff_not] at h2
      obtain ⟨hg, hu⟩ := h2
      have bl : b.1.length ≤ 1000 := by
        rw [hb]
        unfold pcsL
        rw [List.length_map]
        have := leasts_len (near := near) (gone := gone) m
        omega
      have rl : b.2.length ≤ 1000 := by
        have := List.length_filter_le (fun q => !decide (q ∈ gone) && !b.1.any fun X => decide (q ∈ X)) (rngL n)
        rw [← hr, rngL_len] at this
        omega
      -- what is less than h is gone or covered
      have below : ∀ x, 0 ≤ x → x < h → x ∉ gone → ∃ X ∈ b.1, x ∈ X := fun x x0 x1 xg => Classical.byContradiction fun z => by
        have pw : b.2.Pairwise (· < ·) := by rw [hr]; exact (rngL_lt n).filter _
        have xm : x ∈ b.2 := by
          rw [hr]
          refine List.mem_filter.mpr ⟨rngL_mem.mpr ⟨x0, by omega⟩, ?_⟩
          rw [decide_eq_false xg, Bool.not_false, Bool.true_and, Bool.not_eq_true', List.any_eq_false]
          exact fun X hX w => z ⟨X, hX, of_decide_eq_true w⟩
        rw [hb2] at xm pw
        rcases List.mem_cons.mp xm with q | q
        · omega
        · have := (List.pairwise_cons.mp pw).1 x q
          omega
      have nb : ∀ t, 0 ≤ t → t < m → IsLeast near gone t → ¬ Rg near gone t h := fun t t0 t1 t2 t3 => by
        have : (b.1.any fun X => decide (h ∈ X)) = true := List.any_eq_true.mpr ⟨clsL near gone n t, by rw [hb]; exact List.mem_map.mpr ⟨t, leasts_mem.mpr ⟨⟨t0, t1⟩, t2⟩, rfl⟩, decide_eq_true (clsL_mem.mpr ⟨h1, t3⟩)⟩
        rw [this] at hu
        cases hu
      -- none between m and h is least, nor below h one that leads to it
      have nol : ∀ t, 0 ≤ t → t < h → IsLeast near gone t → t < m := fun t t0 t1 t2 => by
        obtain ⟨X, hX, hx⟩ := below t t0 t1 t2.1
        rw [hb] at hX
        obtain ⟨u, hu', rfl⟩ := List.mem_map.mp hX
        obtain ⟨⟨u0, u1⟩, u2⟩ := leasts_mem.mp hu'
        have ur := (clsL_mem.mp hx).2
        rcases Int.lt_trichotomy u t with q | q | q
        · exact absurd ur (t2.2 u u0 q u2.1)
        · omega
        · have := Rg.symm (near := near) hin sy ⟨u0, by omega⟩ u2.1 ur
          exact absurd this (u2.2 t t0 q t2.1)
      have hl : IsLeast near gone h := ⟨hg, fun t t0 t1 tg tr => by
        obtain ⟨u, u0, u1, u2, u3⟩ := has_least (near := near) t0 tg
        exact nb u u0 (nol u u0 (by omega) u2) u2 (Rg.trans u3 tr)⟩
      have mh : m ≤ h := Classical.byContradiction fun z => nb h h1.1 (by omega) hl .refl
      have le : leastsL near gone h = leastsL near gone m := by
        refine pw_eq ((rngL_lt h).filter _) ((rngL_lt m).filter _) fun x => ?_
        show x ∈ leastsL near gone h ↔ x ∈ leastsL near gone m
        rw [leasts_mem, leasts_mem]
        exact ⟨fun ⟨⟨a1, a2⟩, a3⟩ => ⟨⟨a1, nol x a1 a2 a3⟩, a3⟩, fun ⟨⟨a1, a2⟩, a3⟩ => ⟨⟨a1, by omega⟩, a3⟩⟩
      have nx : b.1 ++ [clsL near gone n h] = pcsL near gone n (h + 1) := by
        rw [hb]
        unfold pcsL
        rw [(leasts_succ h1.1).1 hl, le, List.map_append]
        rfl
      refine ⟨(b.1 ++ [clsL near gone n h], (rngL n).filter fun q => !decide (q ∈ gone) && !(b.1 ++ [clsL near gone n h]).any fun X => decide (q ∈ X)), ?_, ⟨h + 1, by omega, by omega, nx, rfl⟩, ?_⟩
      · rw [at_0, o_bnd, hc h h1 hg, o_bnd, appF_of (by omega), o_bnd, ← hb2]
        show (bnd (lcM b.2 (fun a => bnd (at_ (b.1 ++ [clsL near gone n h]) (-1)) fun b => some !decide (a ∈ b)) fun q1 => some q1) fun rest_ => some (b.1 ++ [clsL near gone n h], rest_) : Option _) = _
        rw [at_end]
        simp only [o_ret, o_bnd, o_out, o_and, o_or, o_bndS, o_bndB, Td.addI, Td.subI, Td.ltI, Td.gtI, Td.leI', Td.geI, Td.negI, Td.absI, Td.intB, Td.min2, Td.max2, Td.eqV, Td.neV, Td.inV, Td.niV]
        rw [lcM_p (by omega), o_bnd, hr, List.filter_filter]
        congr 3
        funext x
        rw [List.any_append]
        simp only [List.any_cons, List.any_nil, Bool.or_false, Bool.not_or]
        cases decide (x ∈ gone) <;> cases (b.1.any fun X => decide (x ∈ X)) <;> cases decide (x ∈ clsL near gone n h) <;> rfl
      · rw [← hb2]
        show ((rngL n).filter fun q => !decide (q ∈ gone) && !(b.1 ++ [clsL near gone n h]).any fun X => decide (q ∈ X)).length < b.2.length
        have hx : h ∈ b.2 := by rw [hb2]; exact List.mem_cons_self
        have sub : ((rngL n).filter fun q => !decide (q ∈ gone) && !(b.1 ++ [clsL near gone n h]).any fun X => decide (q ∈ X)).length ≤ (b.2.erase h).length := by
          refine nodup_le ((rngL_nodup n).filter _) fun x hx => ?_
          obtain ⟨x1, x2⟩ := List.mem_filter.mp hx
          rw [List.any_append, Bool.and_eq_true, Bool.not_eq_true', Bool.not_eq_true', Bool.or_eq_false_iff] at x2
          have xn : x ≠ h := fun e => by
            have := x2.2.2
            simp only [List.any_cons, List.any_nil, Bool.or_false, decide_eq_false_iff_not] at this
            exact this (clsL_mem.mpr ⟨by rw [e]; exact h1, by rw [e]; exact .refl⟩)
          refine (List.mem_erase_of_ne xn).mpr ?_
          rw [hr]
          exact List.mem_filter.mpr ⟨x1, by rw [x2.1, x2.2.1]; rfl⟩
        rw [List.length_erase_of_mem hx] at sub
        have := List.length_pos_of_mem hx
        omega
  refine ⟨b, e, ?_⟩
  rw [lenOk_of (α := Int) (xs := []) (by decide), o_bnd] at c
  have c : b.2 = [] := Classical.byContradiction fun z => by
    rw [decide_eq_false z] at c
    cases c
  rw [hb]
  unfold pcsL
  congr 1
  refine pw_eq ((rngL_lt m).filter _) ((rngL_lt n).filter _) fun x => ?_
  show x ∈ leastsL near gone m ↔ x ∈ leastsL near gone n
  rw [leasts_mem, leasts_mem]
  refine ⟨fun ⟨⟨a1, a2⟩, a3⟩ => ⟨⟨a1, by omega⟩, a3⟩, fun ⟨⟨a1, a2⟩, a3⟩ => ⟨⟨a1, ?_⟩, a3⟩⟩
  -- x is covered by a piece begun below m
  have : x ∉ b.2 := by rw [c]; simp
  rw [hr, List.mem_filter] at this
  have cov : ∃ X ∈ b.1, x ∈ X := Classical.byContradiction fun z => this ⟨rngL_mem.mpr ⟨a1, a2⟩, by
    rw [decide_eq_false a3.1, Bool.not_false, Bool.true_and, Bool.not_eq_true', List.any_eq_false]
    exact fun X hX w => z ⟨X, hX, of_decide_eq_true w⟩⟩
  obtain ⟨X, hX, hx⟩ := cov
  rw [hb] at hX
  obtain ⟨u, hu', rfl⟩ := List.mem_map.mp hX
  obtain ⟨⟨u0, u1⟩, u2⟩ := leasts_mem.mp hu'
  have ur := (clsL_mem.mp hx).2
  rcases Int.lt_trichotomy u x with q | q | q
  · exact absurd ur (a3.2 u u0 q u2.1)
  · omega
  · have := Rg.symm (near := near) hin sy ⟨u0, by omega⟩ u2.1 ur
    exact absurd this (u2.2 x a1 q a3.1)
end
end Nt
end
set_option linter.all false
set_option maxRecDepth 100000
set_option maxHeartbeats 2000000
noncomputable section
namespace Nt
open PySem PySem.Spec PyProof.Rows L2 Pd Td PM
theorem sortW_perm {α : Type} {lt : α → α → Bool} (h : OrdL lt) {A B : List α} (p : A.Perm B) : sortW lt A = sortW lt B := by
  unfold sortW
  have tr : ∀ a b c : α, leW lt a b = true → leW lt b c = true → leW lt a c = true := fun a b c h1 h2 => by
    unfold leW at *
    rw [Bool.not_eq_true'] at *
    exact h.tr c b a h2 h1
  have tt : ∀ a b : α, (leW lt a b || leW lt b a) = true := fun a b => by
    unfold leW
    cases z : lt b a with
    | false => rfl
    | true => rw [h.asym b a z]; rfl
  refine List.Perm.eq_of_pairwise (le := fun a b => leW lt a b = true) (fun a b _ _ h1 h2 => ?_) (List.pairwise_mergeSort tr tt A) (List.pairwise_mergeSort tr tt B) (((List.mergeSort_perm _ _).trans p).trans (List.mergeSort_perm _ _).symm)
  unfold leW at h1 h2
  rw [Bool.not_eq_true'] at h1 h2
  exact h.tot a b h2 h1
end Nt
end
set_option linter.all false
set_option maxRecDepth 100000
set_option maxHeartbeats 2000000
noncomputable section
namespace Nt
open PySem PySem.Spec PyProof.Rows L2 Pd Td PM
inductive Cn (E : List (Int × Int)) (x : Int) : Int → Prop
  | refl : Cn E x x
  | fwd {y z : Int} : Cn E x y → (y, z) ∈ E → Cn E x z
  | bwd {y z : Int} : Cn E x y → (z, y) ∈ E → Cn E x z
section
variable {E E' : List (Int × Int)} {x y z a b : Int}
theorem Cn.trans (h : Cn E x y) (k : Cn E y z) : Cn E x z := by
  induction k with
  | refl => exact h
  | fwd _ e ih => exact .fwd ih e
  | bwd _ e ih => exact .bwd ih e
theorem Cn.symm (h : Cn E x y) : Cn E y x := by
  induction h with
  | refl => exact .refl
  | fwd _ e ih => exact Cn.trans (.bwd .refl e) ih
  | bwd _ e ih => exact Cn.trans (.fwd .refl e) ih
theorem Cn.mono (s : ∀ e ∈ E, e ∈ E') (h : Cn E x y) : Cn E' x y := by
  induction h with
  | refl => exact .refl
  | fwd _ e ih => exact .fwd ih (s _ e)
  | bwd _ e ih => exact .bwd ih (s _ e)
theorem Cn.of (h : (a, b) ∈ E) : Cn E a b := .fwd .refl h
/-- links between what hangs together add nothing -/
theorem Cn.closed (s : ∀ e ∈ E, Cn E' e.1 e.2) (h : Cn E x y) : Cn E' x y := by
  induction h with
  | refl => exact .refl
  | fwd _ e ih => exact ih.trans (s _ e)
  | bwd _ e ih => exact ih.trans (s _ e).symm
theorem cn_add : Cn (E ++ [(a, b)]) x y ↔ Cn E x y ∨ (Cn E x a ∧ Cn E b y) ∨ (Cn E x b ∧ Cn E a y) := by
  constructor
  · intro h
    induction h with
    | refl => exact .inl .refl
    | fwd _ e ih =>
      rcases List.mem_append.mp e with e | e
      · rcases ih with i | ⟨i, j⟩ | ⟨i, j⟩
        · exact .inl (.fwd i e)
        · exact .inr (.inl ⟨i, .fwd j e⟩)
        · exact .inr (.inr ⟨i, .fwd j e⟩)
      · cases List.mem_singleton.mp e
        rcases ih with i | ⟨i, j⟩ | ⟨i, j⟩
        · exact .inr (.inl ⟨i, .refl⟩)
        · exact .inr (.inl ⟨i, .refl⟩)
        · exact .inl i
    | bwd _ e ih =>
      rcases List.mem_append.mp e with e | e
      · rcases ih with i | ⟨i, j⟩ | ⟨i, j⟩
        · exact .inl (.bwd i e)
        · exact .inr (.inl ⟨i, .bwd j e⟩)
        · exact .inr (.inr ⟨i, .bwd j e⟩)
      · cases List.mem_singleton.mp e
        rcases ih with i | ⟨i, j⟩ | ⟨i, j⟩
        · exact .inr (.inr ⟨i, .refl⟩)
        · exact .inl i
        · exact .inr (.inr ⟨i, .refl⟩)
  · have m : ∀ e ∈ E, e ∈ E ++ [(a, b)] := fun e h => List.mem_append_left _ h
    have ab : Cn (E ++ [(a, b)]) a b := .of (List.mem_append_right _ (by simp))
    rintro (h | ⟨h, k⟩ | ⟨h, k⟩)
    · exact h.mono m
    · exact ((h.mono m).trans ab).trans (k.mono m)
    · exact ((h.mono m).trans ab.symm).trans (k.mono m)
theorem Cn.rng {n : Int} (ok : ∀ p ∈ E, (0 ≤ p.1 ∧ p.1 < n) ∧ 0 ≤ p.2 ∧ p.2 < n) (hx : 0 ≤ x ∧ x < n) (h : Cn E x y) : 0 ≤ y ∧ y < n := by
  induction h with
  | refl => exact hx
  | fwd _ e _ => exact (ok _ e).2
  | bwd _ e _ => exact (ok _ e).1
end
def mergeF (nm : Int → Int) (e : Int × Int) : Int → Int := fun x => if nm x = max (nm e.1) (nm e.2) then min (nm e.1) (nm e.2) else nm x
def labF (E : List (Int × Int)) : Int → Int := E.foldl mergeF id
theorem labF_snoc (E : List (Int × Int)) (e : Int × Int) : labF (E ++ [e]) = mergeF (labF E) e := by unfold labF; rw [List.foldl_append]; rfl
structure Lb (E : List (Int × Int)) (nm : Int → Int) : Prop where
  cn : ∀ x, Cn E (nm x) x
  eq : ∀ x y, Cn E x y → nm x = nm y
  le : ∀ x, nm x ≤ x
theorem Lb.iff {E : List (Int × Int)} {nm : Int → Int} (h : Lb E nm) {x y : Int} : nm x = nm y ↔ Cn E x y :=
  ⟨fun e => (h.cn x).symm.trans (by rw [e]; exact h.cn y), h.eq x y⟩
theorem Lb.idem {E : List (Int × Int)} {nm : Int → Int} (h : Lb E nm) (x : Int) : nm (nm x) = nm x := h.eq _ _ (h.cn x)
theorem Lb.nil : Lb [] id := ⟨fun x => .refl, (fun x y h => by
  induction h with
  | refl => rfl
  | fwd _ e _ => cases e
  | bwd _ e _ => cases e), fun x => Int.le_refl x⟩
theorem Lb.add {E : List (Int × Int)} {nm : Int → Int} (h : Lb E nm) (e : Int × Int) : Lb (E ++ [e]) (mergeF nm e) := by
  obtain ⟨a, b⟩ := e
  have m : ∀ e ∈ E, e ∈ E ++ [(a, b)] := fun e h => List.mem_append_left _ h
  have ab : Cn (E ++ [(a, b)]) (nm a) (nm b) := (((h.cn a).mono m).trans (.of (List.mem_append_right _ (by simp)))).trans ((h.cn b).mono m).symm
  have hl : Cn (E ++ [(a, b)]) (min (nm a) (nm b)) (max (nm a) (nm b)) := by
    rcases Int.le_total (nm a) (nm b) with w | w
    · rw [Int.min_eq_left w, Int.max_eq_right w]
      exact ab
    · rw [Int.min_eq_right w, Int.max_eq_left w]
      exact ab.symm
  refine ⟨fun x => ?_, fun x y k => ?_, fun x => ?_⟩
  · show Cn _ (if nm x = max (nm a) (nm b) then min (nm a) (nm b) else nm x) x
    split
    · rename_i q
      exact hl.trans (by rw [← q]; exact (h.cn x).mono m)
    · exact (h.cn x).mono m
  · show (if nm x = max (nm a) (nm b) then min (nm a) (nm b) else nm x) = if nm y = max (nm a) (nm b) then min (nm a) (nm b) else nm y
    have g : ∀ t, nm t = nm a ∨ nm t = nm b → (if nm t = max (nm a) (nm b) then min (nm a) (nm b) else nm t) = min (nm a) (nm b) := fun t ht => by
      split
      · rfl
      · rename_i q
        omega
    rcases cn_add.mp k with k | ⟨k1, k2⟩ | ⟨k1, k2⟩
    · rw [h.eq _ _ k]
    · rw [g x (.inl (h.eq _ _ k1)), g y (.inr (h.eq _ _ k2).symm)]
    · rw [g x (.inr (h.eq _ _ k1)), g y (.inl (h.eq _ _ k2).symm)]
  · show (if nm x = max (nm a) (nm b) then min (nm a) (nm b) else nm x) ≤ x
    have := h.le x
    split
    · omega
    · exact this
theorem labF_go : ∀ (E' E : List (Int × Int)) (nm : Int → Int), Lb E nm → Lb (E ++ E') (E'.foldl mergeF nm)
  | [], E, nm, h => by rw [List.append_nil]; exact h
  | e :: E', E, nm, h => by
    have := labF_go E' (E ++ [e]) (mergeF nm e) (h.add e)
    rw [List.append_assoc] at this
    exact this
theorem labF_ok (E : List (Int × Int)) : Lb E (labF E) := by
  have := labF_go E [] id Lb.nil
  rwa [List.nil_append] at this
section
variable {n : Int} {E : List (Int × Int)}
theorem lab_rng (ok : ∀ p ∈ E, (0 ≤ p.1 ∧ p.1 < n) ∧ 0 ≤ p.2 ∧ p.2 < n) {x : Int} (hx : 0 ≤ x ∧ x < n) : 0 ≤ labF E x ∧ labF E x < n := Cn.rng ok hx ((labF_ok E).cn x).symm
/-- how many pieces -/
def pcs (n : Int) (E : List (Int × Int)) : Nat := (rngL n).countP fun x => decide (labF E x = x)
theorem lab_least {x : Int} : labF E x = x ↔ ∀ y, y < x → ¬ Cn E y x := by
  have h := labF_ok E
  constructor
  · intro e y hy c
    have := h.eq _ _ c
    have := h.le y
    omega
  · intro c
    have := h.le x
    refine Classical.byContradiction fun z => c (labF E x) (by omega) (h.cn x)
theorem pcs_same {E' : List (Int × Int)} (h : ∀ x y, Cn E x y ↔ Cn E' x y) : pcs n E = pcs n E' := by
  unfold pcs
  refine List.countP_congr fun x _ => ?_
  rw [decide_eq_true_eq, decide_eq_true_eq, lab_least, lab_least]
  exact ⟨fun k y hy c => k y hy ((h y x).mpr c), fun k y hy c => k y hy ((h y x).mp c)⟩
theorem cnt_split {p q : Int → Bool} {t : Int} : ∀ {l : List Int}, l.Nodup → t ∈ l → q t = true → (∀ x ∈ l, p x = (q x && !decide (x = t))) → l.countP p + 1 = l.countP q
  | [], _, h, _, _ => by cases h
  | x :: l, nd, h, ht, hp => by
    obtain ⟨n1, n2⟩ := List.nodup_cons.mp nd
    rw [List.countP_cons, List.countP_cons]
    rcases List.mem_cons.mp h with e | e
    · subst e
      have same : l.countP p = l.countP q := List.countP_congr fun y hy => by
        have ne : y ≠ t := fun z => n1 (z ▸ hy)
        rw [hp y (List.mem_cons_of_mem _ hy), decide_eq_false ne]
        simp
      rw [hp t List.mem_cons_self, ht, same]
      simp
    · have ne : x ≠ t := fun z => n1 (z ▸ e)
      have ih := cnt_split n2 e ht fun y hy => hp y (List.mem_cons_of_mem _ hy)
      rw [hp x List.mem_cons_self, decide_eq_false ne]
      simp only [Bool.not_false, Bool.and_true]
      omega
theorem pcs_add (ok : ∀ p ∈ E, (0 ≤ p.1 ∧ p.1 < n) ∧ 0 ≤ p.2 ∧ p.2 < n) {a b : Int} (ha : 0 ≤ a ∧ a < n) (hb : 0 ≤ b ∧ b < n) :
    (Cn E a b → pcs n (E ++ [(a, b)]) = pcs n E) ∧ (¬ Cn E a b → pcs n (E ++ [(a, b)]) + 1 = pcs n E) := by
  refine ⟨fun c => pcs_same fun x y => ⟨fun h => ?_, fun h => h.mono fun e he => List.mem_append_left _ he⟩, fun c => ?_⟩
  · rcases cn_add.mp h with h | ⟨h, k⟩ | ⟨h, k⟩
    · exact h
    · exact (h.trans c).trans k
    · exact (h.trans c.symm).trans k
  · have L := labF_ok E
    have ne : labF E a ≠ labF E b := fun z => c (L.iff.mp z)
    have r1 := lab_rng ok ha
    have r2 := lab_rng ok hb
    have i1 := L.idem a
    have i2 := L.idem b
    unfold pcs
    rw [labF_snoc]
    refine cnt_split (t := max (labF E a) (labF E b)) (rngL_nodup n) (rngL_mem.mpr (by omega)) ?_ fun x _ => ?_
    · rw [decide_eq_true_eq]
      rcases Int.le_total (labF E a) (labF E b) with w | w
      · rw [Int.max_eq_right w]
        exact i2
      · rw [Int.max_eq_left w]
        exact i1
    · show decide ((if labF E x = max (labF E a) (labF E b) then min (labF E a) (labF E b) else labF E x) = x) = _
      by_cases q : labF E x = max (labF E a) (labF E b)
      · rw [if_pos q]
        by_cases w : labF E x = x
        · rw [decide_eq_true w, decide_eq_true (show x = max (labF E a) (labF E b) by omega), decide_eq_false]
          · rfl
          · omega
        · rw [decide_eq_false w, decide_eq_false]
          · rfl
          · intro z
            -- x is the least of both, but is named otherwise
            have : labF E x = x := by
              rw [← z]
              rcases Int.le_total (labF E a) (labF E b) with w | w
              · rw [Int.min_eq_left w]
                exact i1
              · rw [Int.min_eq_right w]
                exact i2
            exact w this
      · rw [if_neg q]
        by_cases w : labF E x = x
        · rw [decide_eq_true w, decide_eq_false (fun z => q (w.trans z))]
          rfl
        · rw [decide_eq_false w]
          rfl
/-- a link takes away one piece at most -/
theorem pcs_more (M : List (Int × Int)) : ∀ {E : List (Int × Int)}, (∀ p ∈ E, (0 ≤ p.1 ∧ p.1 < n) ∧ 0 ≤ p.2 ∧ p.2 < n) → (∀ p ∈ M, (0 ≤ p.1 ∧ p.1 < n) ∧ 0 ≤ p.2 ∧ p.2 < n) → pcs n E ≤ pcs n (E ++ M) + M.length := by
  induction M with
  | nil => intro E _ _; rw [List.append_nil]; exact Nat.le_add_right _ _
  | cons e M ih =>
    intro E okE okM
    have he := okM e List.mem_cons_self
    have ok1 : ∀ p ∈ E ++ [e], (0 ≤ p.1 ∧ p.1 < n) ∧ 0 ≤ p.2 ∧ p.2 < n := fun p hp => by
      rcases List.mem_append.mp hp with w | w
      · exact okE p w
      · rw [List.mem_singleton.mp w]
        exact he
    have h := ih ok1 fun p hp => okM p (List.mem_cons_of_mem _ hp)
    rw [List.append_assoc] at h
    have a := pcs_add okE he.1 he.2
    rw [List.length_cons]
    have h : pcs n (E ++ [e]) ≤ pcs n (E ++ e :: M) + M.length := h
    by_cases c : Cn E e.1 e.2
    · have : pcs n (E ++ [e]) = pcs n E := a.1 c
      omega
    · have : pcs n (E ++ [e]) + 1 = pcs n E := a.2 c
      omega
theorem two_min (a b : Int) : two (sortW ltZ [a, b]) = some (min a b, max a b) := by
  have pm : (sortW ltZ [a, b]).Perm [a, b] := List.mergeSort_perm _ _
  have e : sortW ltZ [a, b] = [min a b, max a b] := by
    rcases Int.le_total a b with w | w
    · rw [Int.min_eq_left w, Int.max_eq_right w]
      unfold sortW
      exact List.mergeSort_of_pairwise (by simp [leW, ltZ]; omega)
    · rw [Int.min_eq_right w, Int.max_eq_left w, sortW_perm ord_Z (List.Perm.swap b a [])]
      unfold sortW
      exact List.mergeSort_of_pairwise (by simp [leW, ltZ]; omega)
  rw [e]
  rfl
/-- as many unlike names as pieces -/
theorem names_many (h0 : 0 ≤ n) (h8 : n ≤ 1000) (ok : ∀ p ∈ E, (0 ≤ p.1 ∧ p.1 < n) ∧ 0 ≤ p.2 ∧ p.2 < n) {α : Type} (v : α) : (mkDict (((rngL n).map (labF E)).map fun x => (x, v))).length = pcs n E := by
  have L := labF_ok E
  obtain ⟨a1, a2, _⟩ := fold_keys (((rngL n).map (labF E)).map fun x => (x, v)) [] (by simp)
  have pm : ((mkDict (((rngL n).map (labF E)).map fun x => (x, v))).map (·.1)).Perm ((rngL n).filter fun x => decide (labF E x = x)) := by
    refine (List.perm_ext_iff_of_nodup a1 ((rngL_nodup n).filter _)).mpr fun t => ?_
    refine (a2 t).trans ?_
    simp only [List.map_nil, List.not_mem_nil, false_or]
    rw [List.mem_filter, decide_eq_true_eq, rngL_mem, List.map_map]
    constructor
    · intro h
      obtain ⟨q, hq, e⟩ := List.mem_map.mp h
      obtain ⟨x, hx, rfl⟩ := List.mem_map.mp hq
      have e : labF E x = t := e
      subst e
      exact ⟨lab_rng ok (rngL_mem.mp hx), L.idem x⟩
    · rintro ⟨h1, h2⟩
      exact List.mem_map.mpr ⟨labF E t, List.mem_map.mpr ⟨t, rngL_mem.mpr h1, rfl⟩, h2⟩
  have := pm.length_eq
  rw [List.length_map, ← List.countP_eq_length_filter] at this
  exact this
end
end Nt
end
set_option linter.all false
set_option maxRecDepth 100000
set_option maxHeartbeats 2000000
noncomputable section
namespace Nt
open PySem PySem.Spec PyProof.Rows L2 Pd Td PM
section
variable {β γ : Type} {c : β → Option Bool} {cb : β → Option (Td.Out β γ)}
/-- alike where it is come to -/
theorem whO_same {cb' : β → Option (Td.Out β γ)} (Inv : β → Prop) (hc : ∀ b, Inv b → c b = some true → cb b = cb' b ∧ ∀ b', cb' b = some (.nx b') → Inv b') : ∀ (k : Nat) (b : β), Inv b → whO c cb k b = whO c cb' k b
  | 0, b, _ => rfl
  | k + 1, b, hi => by
    unfold whO
    cases q : c b with
    | none => rfl
    | some z =>
      rw [o_bnd, o_bnd]
      cases z with
      | false => rfl
      | true =>
        obtain ⟨h1, h2⟩ := hc b hi q
        rw [cnd_t, cnd_t, h1]
        cases y : cb' b with
        | none => rfl
        | some o =>
          rw [o_bnd, o_bnd]
          cases o with
          | nx b' => exact whO_same Inv hc k b' (h2 b' y)
          | bk b' => rfl
          | rt r => rfl
end
def eg (E : List (Int × Int)) (k : Int) : Int × Int := E.getD k.toNat (0, 0)
def hasE (E : List (Int × Int)) (k x : Int) : Bool := decide (x ∈ [(eg E k).1, (eg E k).2])
def othE (E : List (Int × Int)) (k x : Int) : Int := (eg E k).1 + (eg E k).2 - x
def Wk (E : List (Int × Int)) : Int → List Int → Int → Prop
  | x, [], y => x = y
  | x, k :: W, y => hasE E k x = true ∧ Wk E (othE E k x) W y
section
variable {E : List (Int × Int)} {N : List Int}
def pushL (E : List (Int × Int)) (N : List Int) (x : Int) (way : List Int) : List (Int × List Int) := (N.filter fun k => hasE E k x && !decide (k ∈ way)).map fun k => (othE E k x, way ++ [k])
def wN : Nat → Nat
  | 0 => 1
  | j + 1 => 1 + (j + 1) * wN j
def muD (m : Nat) (l : List (Int × List Int)) : Nat := (l.map fun p => wN (m - p.2.length)).sum
structure Dv (E : List (Int × Int)) (N : List Int) (a b : Int) (l : List (Int × List Int)) : Prop where
  ent : ∀ p ∈ l, Wk E a p.2 p.1 ∧ p.2.Nodup ∧ ∀ k ∈ p.2, k ∈ N
  mu : muD N.length l ≤ wN N.length
  all : ∀ T, Wk E a T b → T.Nodup → (∀ k ∈ T, k ∈ N) → ∃ p ∈ l, ∃ S, T = p.2 ++ S ∧ Wk E p.1 S b
theorem Dv.start (E : List (Int × Int)) (N : List Int) (a b : Int) : Dv E N a b [(a, [])] := ⟨fun p hp => by
  rw [List.mem_singleton.mp hp]
  exact ⟨rfl, List.nodup_nil, fun k h => by cases h⟩, by unfold muD; simp, fun T t1 _ _ => ⟨(a, []), by simp, T, rfl, t1⟩⟩
/-- the loops as they stand -/
theorem push_fold {cb : List (Int × List Int) → Int → Option (List (Int × List Int))} {x : Int} {way : List Int} : ∀ {N : List Int} {rest : List (Int × List Int)}, (∀ k ∈ N, ∀ line : List (Int × List Int), line.length ≤ 1000000 → cb line k = some (if (hasE E k x && !decide (k ∈ way)) = true then line ++ [(othE E k x, way ++ [k])] else line)) → rest.length + N.length ≤ 1000000 → foldM cb N rest = some (rest ++ pushL E N x way)
  | [], rest, _, _ => by
    unfold pushL
    rw [List.filter_nil, List.map_nil, List.append_nil]
    rfl
  | k :: N, rest, h, hl => by
    rw [List.length_cons] at hl
    unfold foldM
    rw [h k List.mem_cons_self rest (by omega), o_bnd]
    unfold pushL
    rw [List.filter_cons]
    by_cases c : (hasE E k x && !decide (k ∈ way)) = true
    · rw [if_pos c, if_pos c, push_fold (fun q hq => h q (List.mem_cons_of_mem _ hq)) (by rw [List.length_append, List.length_singleton]; omega), List.map_cons, List.append_assoc]
      rfl
    · rw [if_neg c, if_neg c]
      exact push_fold (fun q hq => h q (List.mem_cons_of_mem _ hq)) (by omega)
end
end Nt
end
set_option linter.all false
set_option maxRecDepth 100000
set_option maxHeartbeats 1000000
noncomputable section
namespace Nt
open PySem PySem.Spec PyProof.Rows L2 Pd Td PM
structure ShZ (k w : Nat) (d : PyData) : Prop where
  lv : PyData.leavesShort 50 d = true
  wt : PyData.weight d ≤ w
  sh : PyData.showable d = true
  dep : PyData.depth d ≤ k
theorem ShZ.more {k w k' w' : Nat} {d : PyData} (h : ShZ k w d) (hk : k ≤ k') (hw : w ≤ w') : ShZ k' w' d := ⟨h.lv, Nat.le_trans h.wt hw, h.sh, Nat.le_trans h.dep hk⟩
theorem ShD.z {c : Bool} {k w : Nat} {d : PyData} (h : ShD c k w d) : ShZ k w d := ⟨h.lv, h.wt, h.sh, h.dep⟩
theorem ShZ.shown {k w : Nat} {d : PyData} (h : ShZ k w d) (hk : k ≤ 60) (hw : w ≤ 300000) : ∃ s, reprZO eAny d = some s := by
  refine ⟨d.shown, ?_⟩
  unfold reprZO
  rw [if_pos]
  show reprOkZ d = true
  have a := PyData.shown_le 50 (by decide) d h.lv
  have b := h.wt
  have e := h.dep
  unfold reprOkZ
  rw [h.sh, okLen_of (by omega), decide_eq_true (by omega : PyData.depth d ≤ 60)]
  rfl
end Nt
end
set_option linter.all false
set_option maxRecDepth 100000
set_option maxHeartbeats 2000000
noncomputable section
namespace Nt
open PySem PySem.Spec PyProof.Rows L2 Pd Td PM
end Nt
end
set_option linter.all false
set_option autoImplicit false
set_option maxRecDepth 100000
set_option maxHeartbeats 4000000
noncomputable section
namespace Nt
open PySem PySem.Spec PyProof.Rows L2 Pd Td PM
section
variable {β : Type} [DecidableEq β]
/-- arrows, told by number -/
structure Arr (A : List (β × β)) (X Y : Int → β) : Prop where
  is : ∀ k, 0 ≤ k → k < (A.length : Int) → A[k.toNat]? = some (X k, Y k)
def dl (p v : β) : Int := if p = v then 1 else 0
def one (X Y : Int → β) (v : β) (k : Int) : Int := dl (X k) v - dl (Y k) v
/-- what leaves a place, less what enters it -/
def bal (X Y : Int → β) (U : List Int) (v : β) : Int := (U.map (one X Y v)).sum
variable {A : List (β × β)} {X Y : Int → β} (ar : Arr A X Y)
def Val (A : List (β × β)) (U : List Int) : Prop := U.Nodup ∧ ∀ k ∈ U, 0 ≤ k ∧ k < (A.length : Int)
/-- a step along what is left -/
def Res (A : List (β × β)) (X Y : Int → β) (U : List Int) (p q : β) (k : Int) : Prop := (0 ≤ k ∧ k < (A.length : Int)) ∧ (X k = p ∧ Y k = q ∧ k ∉ U ∨ Y k = p ∧ X k = q ∧ k ∈ U)
/-- what is used is not more than there is -/
theorem val_len {U : List Int} (h : Val A U) : U.length ≤ A.length := by
  have := nodup_le h.1 (m := rngL (A.length : Int)) fun x hx => rngL_mem.mpr (h.2 x hx)
  rw [rngL_len] at this
  omega
abbrev Ent (β : Type) := β × Option (β × Int)
/-- places with where they are come to from -/
structure Tree (A : List (β × β)) (X Y : Int → β) (U : List Int) (s : β) (P : List β) (E : List (Ent β)) : Prop where
  hd : E[0]? = some (s, none)
  nd : (E.map (·.1)).Nodup
  inn : ∀ v ∈ E.map (·.1), v ∈ P
  par : ∀ i e, E[i]? = some e → 0 < i → ∃ p k, e.2 = some (p, k) ∧ (∃ j, j < i ∧ (E.map (·.1))[j]? = some p) ∧ Res A X Y U p e.1 k
theorem Tree.len {U : List Int} {s : β} {P : List β} {E : List (Ent β)} (t : Tree A X Y U s P E) : E.length ≤ P.length := by
  have := nodup_le t.nd t.inn
  rwa [List.length_map] at this
theorem key_no {α κ : Type} [DecidableEq κ] {E : List (κ × α)} {v : κ} (h : v ∉ E.map (·.1)) : getM E v = none := by
  unfold getM
  rw [Option.map_eq_none_iff, List.find?_eq_none]
  intro x hx z
  exact h (List.mem_map.mpr ⟨x, hx, of_decide_eq_true z⟩)
theorem key_yes {α κ : Type} [DecidableEq κ] {E : List (κ × α)} {v : κ} (h : v ∈ E.map (·.1)) : (getM E v).isSome = true := by
  obtain ⟨x, hx, rfl⟩ := List.mem_map.mp h
  unfold getM
  rw [Option.isSome_map, List.find?_isSome]
  exact ⟨x, hx, decide_eq_true rfl⟩
theorem niM_is {α κ : Type} [DecidableEq κ] (E : List (κ × α)) (v : κ) : niM v E = some (!decide (v ∈ E.map (·.1))) := by
  unfold niM
  by_cases h : v ∈ E.map (·.1)
  · rw [key_yes h, decide_eq_true h]
  · rw [key_no h, decide_eq_false h]
    rfl
theorem put_new {α κ : Type} [DecidableEq κ] {E : List (κ × α)} {v : κ} {a : α} (h : v ∉ E.map (·.1)) (hl : E.length ≤ 10000) : dputO E v a = some (E ++ [(v, a)]) := by
  rw [dputO_of (by omega)]
  unfold putM
  rw [if_neg]
  rw [List.any_eq_true]
  rintro ⟨x, hx, z⟩
  exact h (List.mem_map.mpr ⟨x, hx, of_decide_eq_true z⟩)
/-- where an arrow leads from here, or here -/
def stp (U : List Int) (here : β) (q : Int × β × β) : β := if q.2.1 = here ∧ q.1 ∉ U then q.2.2 else if q.2.2 = here ∧ q.1 ∈ U then q.2.1 else here
abbrev scanB (U : List Int) (here : β) : List (Ent β) × List β → Int × β × β → Option (List (Ent β) × List β) := fun b4 q5 =>
  bnd (cnd (decide (q5.2.1 = here) && !decide (q5.1 ∈ U)) (some q5.2.2) (cnd (decide (q5.2.2 = here) && decide (q5.1 ∈ U)) (some q5.2.1) (some here))) fun late_ => bnd (niM late_ b4.1) fun z =>
    cnd z (bnd (dputO b4.1 late_ (some (here, q5.1))) fun early_ => bnd (appF b4.2 late_) fun b6 => some (early_, b6.2)) (some (b4.1, b4.2))
theorem stp_is (U : List Int) (here : β) (q : Int × β × β) : (cnd (decide (q.2.1 = here) && !decide (q.1 ∈ U)) (some q.2.2) (cnd (decide (q.2.2 = here) && decide (q.1 ∈ U)) (some q.2.1) (some here)) : Option β) = some (stp U here q) := by
  unfold stp
  by_cases h1 : q.2.1 = here <;> by_cases h2 : q.1 ∈ U <;> by_cases h3 : q.2.2 = here <;> simp [h1, h2, h3, cnd]
include ar
theorem enum_ar {q : Int × β × β} (h : q ∈ enumL A) : (0 ≤ q.1 ∧ q.1 < (A.length : Int)) ∧ q.2 = (X q.1, Y q.1) := by
  obtain ⟨i, e, lt, hi⟩ := enumL_mem h
  have := ar.is q.1 (by omega) (by omega)
  rw [e, Int.toNat_natCast, hi] at this
  refine ⟨by omega, ?_⟩
  rw [e]
  exact Option.some.inj this
/-- all arrows looked at from a place -/
theorem scan_all {U : List Int} {s here : β} {P : List β} (hP : ∀ k, 0 ≤ k → k < (A.length : Int) → X k ∈ P ∧ Y k ∈ P) (pl : P.length ≤ 1000) : ∀ (Q : List (Int × β × β)) (E : List (Ent β)), (∀ q ∈ Q, q ∈ enumL A) → Tree A X Y U s P E → here ∈ E.map (·.1) →
    ∃ E', foldM (scanB U here) Q (E, E.map (·.1)) = some (E', E'.map (·.1)) ∧ Tree A X Y U s P E' ∧ (∃ D, E' = E ++ D) ∧ ∀ q ∈ Q, stp U here q ∈ E'.map (·.1)
  | [], E, _, t, _ => ⟨E, rfl, t, ⟨[], by simp⟩, fun q hq => nomatch hq⟩
  | q :: Q, E, hQ, t, hh => by
    have tl := t.len
    obtain ⟨qr, qe⟩ := enum_ar ar (hQ q List.mem_cons_self)
    have hx : q.2.1 = X q.1 := congrArg Prod.fst qe
    have hy : q.2.2 = Y q.1 := congrArg Prod.snd qe
    unfold foldM
    have cb : scanB U here (E, E.map (·.1)) q = (if stp U here q ∈ E.map (·.1) then some (E, E.map (·.1)) else some (E ++ [(stp U here q, some (here, q.1))], (E ++ [(stp U here q, some (here, q.1))]).map (·.1))) := by
      show bnd (cnd (decide (q.2.1 = here) && !decide (q.1 ∈ U)) (some q.2.2) (cnd (decide (q.2.2 = here) && decide (q.1 ∈ U)) (some q.2.1) (some here))) _ = _
      rw [stp_is, o_bnd, niM_is, o_bnd]
      by_cases c : stp U here q ∈ E.map (·.1)
      · rw [decide_eq_true c, if_pos c]
        rfl
      · rw [decide_eq_false c, if_neg c, Bool.not_false, cnd_t, put_new c (by omega), o_bnd, appF_of (by rw [List.length_map]; omega), o_bnd, List.map_append]
        rfl
    rw [cb]
    by_cases c : stp U here q ∈ E.map (·.1)
    · rw [if_pos c, o_bnd]
      obtain ⟨E', e1, e2, ⟨D, e3⟩, e4⟩ := scan_all hP pl Q E (fun z hz => hQ z (List.mem_cons_of_mem _ hz)) t hh
      refine ⟨E', e1, e2, ⟨D, e3⟩, fun z hz => ?_⟩
      rcases List.mem_cons.mp hz with rfl | hz
      · rw [e3, List.map_append]
        exact List.mem_append_left _ c
      · exact e4 z hz
    · rw [if_neg c, o_bnd]
      have res : Res A X Y U here (stp U here q) q.1 := by
        refine ⟨qr, ?_⟩
        unfold stp at c ⊢
        by_cases d1 : q.2.1 = here ∧ q.1 ∉ U
        · rw [if_pos d1]
          exact .inl ⟨hx ▸ d1.1, hy.symm, d1.2⟩
        · rw [if_neg d1] at c ⊢
          by_cases d2 : q.2.2 = here ∧ q.1 ∈ U
          · rw [if_pos d2]
            exact .inr ⟨hy ▸ d2.1, hx.symm, d2.2⟩
          · rw [if_neg d2] at c
            exact absurd hh c
      have inP : stp U here q ∈ P := by
        have := hP q.1 qr.1 qr.2
        rcases res.2 with ⟨_, e, _⟩ | ⟨_, e, _⟩
        · exact e ▸ this.2
        · exact e ▸ this.1
      have el : 0 < E.length := by
        have := (List.getElem?_eq_some_iff.mp t.hd).1
        omega
      have t' : Tree A X Y U s P (E ++ [(stp U here q, some (here, q.1))]) := by
        refine ⟨?_, ?_, fun v hv => ?_, fun i e hi i0 => ?_⟩
        · rw [List.getElem?_append_left el]
          exact t.hd
        · rw [List.map_append]
          exact List.nodup_append.mpr ⟨t.nd, by simp, fun x hx y hy z => by
            rw [List.mem_singleton.mp hy] at z
            have z : x = stp U here q := z
            exact c (by rw [← z]; exact hx)⟩
        · rw [List.map_append] at hv
          rcases List.mem_append.mp hv with z | z
          · exact t.inn v z
          · rw [List.mem_singleton.mp z]
            exact inP
        · by_cases lt : i < E.length
          · rw [List.getElem?_append_left lt] at hi
            obtain ⟨p, k, a1, ⟨j, a2, a3⟩, a4⟩ := t.par i e hi i0
            refine ⟨p, k, a1, ⟨j, a2, ?_⟩, a4⟩
            rw [List.map_append, List.getElem?_append_left (by rw [List.length_map]; omega)]
            exact a3
          · have lt2 := (List.getElem?_eq_some_iff.mp hi).1
            rw [List.length_append, List.length_singleton] at lt2
            have ie : i = E.length := by omega
            subst ie
            rw [List.getElem?_append_right (Nat.le_refl _), Nat.sub_self] at hi
            cases hi
            obtain ⟨j, hj⟩ := List.mem_iff_getElem?.mp hh
            have jl := (List.getElem?_eq_some_iff.mp hj).1
            rw [List.length_map] at jl
            refine ⟨here, q.1, rfl, ⟨j, jl, ?_⟩, res⟩
            rw [List.map_append, List.getElem?_append_left (by rw [List.length_map]; omega)]
            exact hj
      obtain ⟨E', e1, e2, ⟨D, e3⟩, e4⟩ := scan_all hP pl Q _ (fun z hz => hQ z (List.mem_cons_of_mem _ hz)) t' (by rw [List.map_append]; exact List.mem_append_left _ hh)
      refine ⟨E', e1, e2, ⟨(stp U here q, some (here, q.1)) :: D, by rw [e3, List.append_assoc]; rfl⟩, fun z hz => ?_⟩
      rcases List.mem_cons.mp hz with rfl | hz
      · rw [e3, List.map_append, List.map_append]
        exact List.mem_append_left _ (List.mem_append_right _ (by simp))
      · exact e4 z hz
/-- closed up to a place of the row -/
def Shut (A : List (β × β)) (X Y : Int → β) (U : List Int) (R : List β) (i : Nat) : Prop := ∀ j v, j < i → R[j]? = some v → ∀ w k, Res A X Y U v w k → w ∈ R
end
end Nt
end
set_option linter.all false
set_option autoImplicit false
set_option maxRecDepth 100000
set_option maxHeartbeats 4000000
noncomputable section
namespace Nt
open PySem PySem.Spec PyProof.Rows L2 Pd Td PM
section
variable {β : Type} [DecidableEq β] {A : List (β × β)} {X Y : Int → β}
structure Flow (A : List (β × β)) (X Y : Int → β) (s g : β) (U : List Int) : Prop where
  val : Val A U
  keep : ∀ w, w ≠ s → w ≠ g → bal X Y U w = 0
  up : 0 ≤ bal X Y U s
  noin : ∀ k ∈ U, Y k ≠ s
structure Most (A : List (β × β)) (X Y : Int → β) (s g : β) (P : List β) (U : List Int) (R : List β) : Prop where
  fl : Flow A X Y s g U
  nd : R.Nodup
  inn : ∀ v ∈ R, v ∈ P
  src : s ∈ R
  off : g ∉ R
  shut : ∀ v ∈ R, ∀ w k, Res A X Y U v w k → w ∈ R
end
end Nt
end
set_option linter.all false
set_option autoImplicit false
set_option maxRecDepth 100000
set_option maxHeartbeats 4000000
noncomputable section
namespace Nt
open PySem PySem.Spec PyProof.Rows L2 Pd Td PM
section
variable {β : Type} [DecidableEq β] {A : List (β × β)} {X Y : Int → β}
/-- arrows that lead out of a row of places -/
def outL (A : List (β × β)) (X Y : Int → β) (R : List β) : List Int := (rngL (A.length : Int)).filter fun k => decide (X k ∈ R) && !decide (Y k ∈ R)
structure Pa (X Y : Int → β) (met : List β) (way : List Int) : Prop where
  len : met.length = way.length + 1
  st : ∀ i k, way[i]? = some k → met[i]? = some (X k) ∧ met[i + 1]? = some (Y k)
theorem Pa.take {met : List β} {way : List Int} (p : Pa X Y met way) {i : Nat} (hi : i ≤ way.length) : Pa X Y (met.take (i + 1)) (way.take i) := by
  refine ⟨by rw [List.length_take, List.length_take, p.len]; omega, fun j k hj => ?_⟩
  have jl := (List.getElem?_eq_some_iff.mp hj).1
  rw [List.length_take] at jl
  rw [List.getElem?_take_of_lt (by omega)] at hj
  obtain ⟨a, b⟩ := p.st j k hj
  rw [List.getElem?_take_of_lt (by omega), List.getElem?_take_of_lt (by omega)]
  exact ⟨a, b⟩
theorem Pa.snoc {met : List β} {way : List Int} (p : Pa X Y met way) {k : Int} (h : met[way.length]? = some (X k)) : Pa X Y (met ++ [Y k]) (way ++ [k]) := by
  refine ⟨by rw [List.length_append, List.length_append, p.len]; rfl, fun j k' hj => ?_⟩
  have ml := p.len
  by_cases c : j < way.length
  · rw [List.getElem?_append_left c] at hj
    obtain ⟨a, b⟩ := p.st j k' hj
    rw [List.getElem?_append_left (by omega), List.getElem?_append_left (by omega)]
    exact ⟨a, b⟩
  · have jl := (List.getElem?_eq_some_iff.mp hj).1
    rw [List.length_append, List.length_singleton] at jl
    have : j = way.length := by omega
    subst this
    rw [List.getElem?_append_right (Nat.le_refl _), Nat.sub_self] at hj
    cases hj
    rw [List.getElem?_append_left (by omega), List.getElem?_append_right (by omega), ml, Nat.sub_self]
    exact ⟨h, rfl⟩
/-- a way: no place twice, from s to g -/
structure Way (X Y : Int → β) (s g : β) (way : List Int) : Prop where
  ex : ∃ met, Pa X Y met way ∧ met.Nodup ∧ met[0]? = some s ∧ met[way.length]? = some g
structure Walk (A : List (β × β)) (X Y : Int → β) (s g : β) (L left : List Int) (met : List β) (way : List Int) : Prop where
  pa : Pa X Y met way
  nd : met.Nodup
  h0 : met[0]? = some s
  lw : (left ++ way).Nodup
  sub : ∀ k ∈ left ++ way, k ∈ L
  bl : ∀ v, bal X Y left v + bal X Y way v = bal X Y L v
  gl : ∀ i, met[i]? = some g → i = way.length
/-- a place that more enters than leaves has an arrow out -/
theorem out_of {L : List Int} {v : β} (h : 0 < bal X Y L v) : ∃ k ∈ L, X k = v := by
  refine Classical.byContradiction fun n => ?_
  have : ∀ M : List Int, (∀ k ∈ M, X k ≠ v) → bal X Y M v ≤ 0 := fun M => by
    induction M with
    | nil => intro _; exact Int.le_refl _
    | cons k M ih =>
      intro hM
      have i := ih fun z hz => hM z (List.mem_cons_of_mem _ hz)
      have a := hM k List.mem_cons_self
      unfold bal at i ⊢
      rw [List.map_cons, List.sum_cons]
      have : one X Y v k ≤ 0 := by
        unfold one dl
        rw [if_neg a]
        split <;> omega
      omega
  have := this L fun k hk e => n ⟨k, hk, e⟩
  omega
end
end Nt
end
set_option linter.all false
set_option autoImplicit false
set_option maxRecDepth 100000
set_option maxHeartbeats 4000000
noncomputable section
namespace Nt
open PySem PySem.Spec PyProof.Rows L2 Pd Td PM
section
variable {β : Type} [DecidableEq β] {A : List (β × β)} {X Y : Int → β}
structure Lft (A : List (β × β)) (X Y : Int → β) (s g : β) (K left : List Int) (W : List (List Int)) : Prop where
  val : Val A left
  keep : ∀ w, w ≠ s → w ≠ g → bal X Y left w = 0
  nd : (left ++ W.flatten).Nodup
  sub : ∀ k ∈ left ++ W.flatten, k ∈ K
  way : ∀ w ∈ W, Way X Y s g w
  num : bal X Y left s + (W.length : Int) = bal X Y K s
end
end Nt
end
set_option linter.all false
set_option autoImplicit false
set_option maxRecDepth 100000
set_option maxHeartbeats 4000000
noncomputable section
namespace Nt
open PySem PySem.Spec PyProof.Rows L2 Pd Td PM
def lk (E : List (Int × Int)) (k : Int) : Int × Int := E.getD k.toNat (0, 0)
def oth (E : List (Int × Int)) (k h : Int) : Int := (lk E k).1 + (lk E k).2 - h
def go (E : List (Int × Int)) : List Int → Int → Option (List Int)
  | [], _ => some []
  | k :: w, h => if h = (lk E k).1 ∨ h = (lk E k).2 then (go E w (oth E k h)).map (oth E k h :: ·) else none
theorem go_cons (E : List (Int × Int)) (k : Int) (w : List Int) (h : Int) : go E (k :: w) h = if h = (lk E k).1 ∨ h = (lk E k).2 then (go E w (oth E k h)).map (oth E k h :: ·) else none := rfl
def lstW (h : Int) (r : List Int) : Int := (h :: r).getLast (List.cons_ne_nil _ _)
theorem lstW_cons (h x : Int) (r : List Int) : lstW h (x :: r) = lstW x r := by
  unfold lstW
  rw [List.getLast_cons (List.cons_ne_nil _ _)]
theorem go_app (E : List (Int × Int)) : ∀ (u v : List Int) (h : Int), go E (u ++ v) h = (go E u h).bind fun r => (go E v (lstW h r)).map (r ++ ·)
  | [], v, h => by
    show go E v h = (go E v (lstW h [])).map ([] ++ ·)
    rw [show lstW h [] = h from rfl]
    cases go E v h <;> rfl
  | k :: u, v, h => by
    rw [List.cons_append, go_cons, go_cons]
    by_cases c : h = (lk E k).1 ∨ h = (lk E k).2
    · rw [if_pos c, if_pos c, go_app E u v]
      cases go E u (oth E k h) with
      | none => rfl
      | some r =>
        show ((go E v (lstW (oth E k h) r)).map (r ++ ·)).map (oth E k h :: ·) = (go E v (lstW h (oth E k h :: r))).map (oth E k h :: r ++ ·)
        rw [lstW_cons]
        cases go E v (lstW (oth E k h) r) <;> rfl
    · rw [if_neg c, if_neg c]
      rfl
theorem lstW_rev (h : Int) (r : List Int) : lstW (lstW h r) (h :: r).reverse.tail = h := by
  have e : (h :: r).reverse = lstW h r :: (h :: r).reverse.tail := by
    have ne : (h :: r).reverse ≠ [] := by simp
    have hd : (h :: r).reverse.head ne = lstW h r := by
      unfold lstW
      rw [List.head_reverse]
    rw [← hd]
    exact (List.cons_head_tail ne).symm
  unfold lstW at e ⊢
  have : ((h :: r).reverse).getLast (by simp) = h := by
    rw [List.getLast_reverse]
    rfl
  simp only [← e]
  exact this
theorem rev_is (h : Int) (r : List Int) : (h :: r).reverse = lstW h r :: (h :: r).reverse.tail := by
  have ne : (h :: r).reverse ≠ [] := by simp
  have hd : (h :: r).reverse.head ne = lstW h r := by
    unfold lstW
    rw [List.head_reverse]
  rw [← hd]
  exact (List.cons_head_tail ne).symm
theorem go_rev {E : List (Int × Int)} : ∀ {w : List Int} {h : Int} {r : List Int}, go E w h = some r → go E w.reverse (lstW h r) = some (h :: r).reverse.tail
  | [], h, r, e => by
    cases e
    rfl
  | k :: w, h, r, e => by
    unfold go at e
    by_cases c : h = (lk E k).1 ∨ h = (lk E k).2
    · rw [if_pos c] at e
      obtain ⟨r', e', rfl⟩ := Option.map_eq_some_iff.mp e
      have i := go_rev e'
      rw [List.reverse_cons, go_app, lstW_cons, i]
      show (go E [k] (lstW (lstW (oth E k h) r') (oth E k h :: r').reverse.tail)).map (((oth E k h :: r').reverse.tail) ++ ·) = _
      rw [lstW_rev]
      have : go E [k] (oth E k h) = some [h] := by
        unfold go
        rw [if_pos (by unfold oth; omega)]
        show some [oth E k (oth E k h)] = some [h]
        have : oth E k (oth E k h) = h := by
          show (lk E k).1 + (lk E k).2 - ((lk E k).1 + (lk E k).2 - h) = h
          omega
        rw [this]
      rw [this]
      show some ((oth E k h :: r').reverse.tail ++ [h]) = some (h :: oth E k h :: r').reverse.tail
      rw [show (h :: oth E k h :: r').reverse = (oth E k h :: r').reverse ++ [h] from List.reverse_cons, rev_is (oth E k h) r']
      rfl
    · rw [if_neg c] at e
      cases e
def isWay (E : List (Int × Int)) (a b : Int) (w : List Int) : Bool := match go E w a with
  | none => false
  | some r => decide (lstW a r = b) && decide ((a :: r).Nodup)
/-- a way, and the same the other way round -/
theorem way_rev (E : List (Int × Int)) (a b : Int) (w : List Int) (ab : a ≠ b) : (!decide (w = []) && isWay E a b w) = isWay E b a w.reverse := by
  have key : ∀ {a b : Int} {w : List Int}, isWay E a b w = true → isWay E b a w.reverse = true := fun {a b w} h => by
    unfold isWay at h ⊢
    cases e : go E w a with
    | none =>
      rw [e] at h
      cases h
    | some r =>
      rw [e] at h
      have h : (decide (lstW a r = b) && decide ((a :: r).Nodup)) = true := h
      rw [Bool.and_eq_true, decide_eq_true_eq, decide_eq_true_eq] at h
      obtain ⟨h1, h2⟩ := h
      have i := go_rev e
      rw [h1] at i
      rw [i]
      show (decide (lstW b (a :: r).reverse.tail = a) && decide ((b :: (a :: r).reverse.tail).Nodup)) = true
      have e1 := lstW_rev a r
      have e2 := rev_is a r
      rw [h1] at e1 e2
      rw [e1, ← e2, Bool.and_eq_true, decide_eq_true_eq, decide_eq_true_eq]
      exact ⟨rfl, (List.reverse_perm _).nodup_iff.mpr h2⟩
  have nil : w = [] → isWay E b a w.reverse = false := fun z => by
    subst z
    show (decide (b = a) && _) = false
    rw [decide_eq_false (fun z => ab z.symm)]
    rfl
  by_cases z : w = []
  · rw [decide_eq_true z, nil z]
    rfl
  · rw [decide_eq_false z]
    show isWay E a b w = _
    rw [Bool.eq_iff_iff]
    exact ⟨key, fun h => by simpa using key h⟩
theorem two_in (a x y : Int) : decide (a ∈ [x, y]) = decide (a = x ∨ a = y) := by
  refine decide_eq_decide.mpr ?_
  simp
def bothA (E : List (Int × Int)) : List (Int × Int) := E.flatMap fun e => [(e.1, e.2), (e.2, e.1)]
def xE (E : List (Int × Int)) (k : Int) : Int := if k % 2 = 0 then (lk E (k / 2)).1 else (lk E (k / 2)).2
def yE (E : List (Int × Int)) (k : Int) : Int := if k % 2 = 0 then (lk E (k / 2)).2 else (lk E (k / 2)).1
theorem both_len (E : List (Int × Int)) : (bothA E).length = 2 * E.length := by
  unfold bothA
  induction E with
  | nil => rfl
  | cons e E ih => rw [List.flatMap_cons, List.length_append, ih, List.length_cons]; simp; omega
/-- the arrow the other way -/
def flp (k : Int) : Int := if k % 2 = 0 then k + 1 else k - 1
/-- used one way alone -/
def keptL (U : List Int) : List Int := U.filter fun k => !decide (flp k ∈ U)
theorem Pa.tail {β : Type} {X Y : Int → β} {m0 : β} {met : List β} {k : Int} {w : List Int} (p : Pa X Y (m0 :: met) (k :: w)) : m0 = X k ∧ met[0]? = some (Y k) ∧ Pa X Y met w := by
  have h := p.st 0 k rfl
  refine ⟨Option.some.inj h.1, by simpa using h.2, by have := p.len; simp at this ⊢; omega, fun i k' hk => ?_⟩
  have := p.st (i + 1) k' (by simpa using hk)
  simpa using this
/-- a way of arrows goes along the links -/
theorem pa_go (E : List (Int × Int)) : ∀ (w : List Int) (met : List Int) (a : Int), Pa (xE E) (yE E) (a :: met) w → go E (w.map (· / 2)) a = some met
  | [], met, a, p => by
    have := p.len
    have : met = [] := List.eq_nil_of_length_eq_zero (by simpa using this)
    rw [this]
    rfl
  | k :: w, met, a, p => by
    obtain ⟨e, h1, p'⟩ := p.tail
    cases met with
    | nil => cases h1
    | cons m1 met =>
      have h1 : m1 = yE E k := Option.some.inj h1
      rw [List.map_cons, go_cons]
      have ends : (a = (lk E (k / 2)).1 ∨ a = (lk E (k / 2)).2) ∧ oth E (k / 2) a = m1 := by
        rw [h1, e]
        unfold oth xE yE
        by_cases c : k % 2 = 0
        · rw [if_pos c, if_pos c]
          exact ⟨.inl rfl, by omega⟩
        · rw [if_neg c, if_neg c]
          exact ⟨.inr rfl, by omega⟩
      rw [if_pos ends.1, ends.2, pa_go E w met m1 p']
      rfl
end Nt
end
set_option linter.all false
set_option autoImplicit false
set_option maxRecDepth 100000
set_option maxHeartbeats 4000000
noncomputable section
namespace Nt
open PySem PySem.Spec PyProof.Rows L2 Pd Td PM
def crsK (E : List (Int × Int)) (L : List Int) (i : Int) : Bool := !decide (decide ((lk E i).1 ∈ L) = decide ((lk E i).2 ∈ L))
def cutK (E : List (Int × Int)) (L : List Int) : List Int := (rngL (E.length : Int)).filter (crsK E L)
structure LWays (E : List (Int × Int)) (a b : Int) (W : List (List Int)) : Prop where
  rng : ∀ w ∈ W, ∀ k ∈ w, 0 ≤ k ∧ k < (E.length : Int)
  way : ∀ w ∈ W, isWay E a b w = true
  nd : W.flatten.Nodup
theorem crosses (E : List (Int × Int)) (L : List Int) : ∀ {w : List Int} {h : Int} {r : List Int}, go E w h = some r → h ∈ L → lstW h r ∉ L → ∃ k ∈ w, crsK E L k = true
  | [], h, r, e, h1, h2 => by
    cases e
    exact absurd h1 h2
  | k :: w, h, r, e, h1, h2 => by
    rw [go_cons] at e
    split at e
    · rename_i c
      obtain ⟨r', e', rfl⟩ := Option.map_eq_some_iff.mp e
      rw [lstW_cons] at h2
      by_cases d : oth E k h ∈ L
      · obtain ⟨k', m, q⟩ := crosses E L e' d h2
        exact ⟨k', List.mem_cons_of_mem _ m, q⟩
      · refine ⟨k, List.mem_cons_self, ?_⟩
        unfold crsK
        rw [Bool.not_eq_true', decide_eq_false_iff_not]
        unfold oth at d
        rcases c with c | c
        · have : (lk E k).1 + (lk E k).2 - h = (lk E k).2 := by omega
          rw [this] at d
          rw [← c, decide_eq_true h1, decide_eq_false d]
          exact Bool.noConfusion
        · have : (lk E k).1 + (lk E k).2 - h = (lk E k).1 := by omega
          rw [this] at d
          rw [← c, decide_eq_true h1, decide_eq_false d]
          exact Bool.noConfusion
    · cases e
/-- arrows that lead out, link by link -/
theorem out_cut (E : List (Int × Int)) (R : List Int) : (outL (bothA E) (xE E) (yE E) R).length = (cutK E R).length := by
  have inj : ∀ k j, k ∈ outL (bothA E) (xE E) (yE E) R → j ∈ outL (bothA E) (xE E) (yE E) R → k / 2 = j / 2 → k = j := fun k j hk hj e => by
    have h1 := (List.mem_filter.mp hk).2
    have h2 := (List.mem_filter.mp hj).2
    rw [Bool.and_eq_true, decide_eq_true_eq, Bool.not_eq_true', decide_eq_false_iff_not] at h1 h2
    unfold xE yE at h1 h2
    rw [← e] at h2
    by_cases c : k % 2 = 0
    · rw [if_pos c, if_pos c] at h1
      by_cases d : j % 2 = 0
      · omega
      · rw [if_neg d, if_neg d] at h2
        exact absurd h2.1 h1.2
    · rw [if_neg c, if_neg c] at h1
      by_cases d : j % 2 = 0
      · rw [if_pos d, if_pos d] at h2
        exact absurd h2.1 h1.2
      · omega
  have nd : (outL (bothA E) (xE E) (yE E) R).Nodup := (rngL_nodup _).filter _
  have pm : ((outL (bothA E) (xE E) (yE E) R).map (· / 2)).Perm (cutK E R) := by
    refine (List.perm_ext_iff_of_nodup ?_ ((rngL_nodup _).filter _)).mpr fun i => ?_
    · have : ∀ L : List Int, L.Nodup → (∀ k ∈ L, k ∈ outL (bothA E) (xE E) (yE E) R) → (L.map (· / 2)).Nodup := fun L => by
        induction L with
        | nil => intro _ _; exact List.nodup_nil
        | cons k L ih =>
          intro nd h
          obtain ⟨n1, n2⟩ := List.nodup_cons.mp nd
          rw [List.map_cons, List.nodup_cons]
          refine ⟨fun z => ?_, ih n2 fun y hy => h y (List.mem_cons_of_mem _ hy)⟩
          obtain ⟨j, hj, e⟩ := List.mem_map.mp z
          exact n1 (inj k j (h k List.mem_cons_self) (h j (List.mem_cons_of_mem _ hj)) e.symm ▸ hj)
      exact this _ nd fun _ h => h
    · unfold outL
      rw [List.mem_map, List.mem_filter, rngL_mem]
      constructor
      · rintro ⟨k, hk, rfl⟩
        obtain ⟨h1, h2⟩ := List.mem_filter.mp hk
        have h1 := rngL_mem.mp h1
        rw [both_len] at h1
        refine ⟨by omega, ?_⟩
        rw [Bool.and_eq_true, decide_eq_true_eq, Bool.not_eq_true', decide_eq_false_iff_not] at h2
        unfold crsK
        unfold xE yE at h2
        rw [Bool.not_eq_true', decide_eq_false_iff_not]
        by_cases c : k % 2 = 0
        · rw [if_pos c, if_pos c] at h2
          rw [decide_eq_true h2.1, decide_eq_false h2.2]
          exact Bool.noConfusion
        · rw [if_neg c, if_neg c] at h2
          rw [decide_eq_true h2.1, decide_eq_false h2.2]
          exact Bool.noConfusion
      · rintro ⟨hi, hc⟩
        unfold crsK at hc
        rw [Bool.not_eq_true', decide_eq_false_iff_not] at hc
        by_cases c : (lk E i).1 ∈ R
        · have d : (lk E i).2 ∉ R := fun d => hc (by rw [decide_eq_true c, decide_eq_true d])
          refine ⟨2 * i, List.mem_filter.mpr ⟨rngL_mem.mpr (by rw [both_len]; omega), ?_⟩, by show 2 * i / 2 = i; omega⟩
          unfold xE yE
          rw [if_pos (by omega), if_pos (by omega), show 2 * i / 2 = i by omega, decide_eq_true c, decide_eq_false d]
          rfl
        · have d : (lk E i).2 ∈ R := Classical.byContradiction fun d => hc (by rw [decide_eq_false c, decide_eq_false d])
          refine ⟨2 * i + 1, List.mem_filter.mpr ⟨rngL_mem.mpr (by rw [both_len]; omega), ?_⟩, by show (2 * i + 1) / 2 = i; omega⟩
          unfold xE yE
          rw [if_neg (by omega), if_neg (by omega), show (2 * i + 1) / 2 = i by omega, decide_eq_true d, decide_eq_false c]
          rfl
  rw [← pm.length_eq, List.length_map]
structure FlowR (n : Int) (E : List (Int × Int)) (a b : Int) (W : List (List Int)) (R : List Int) : Prop where
  lw : LWays E a b W
  nd : R.Nodup
  rng : ∀ v ∈ R, 0 ≤ v ∧ v < n
  src : a ∈ R
  off : b ∉ R
  val : W.length = (cutK E R).length
end Nt
end
set_option linter.all false
set_option autoImplicit false
set_option maxRecDepth 100000
set_option maxHeartbeats 1000000
noncomputable section
namespace Nt
open PySem PySem.Spec PyProof.Rows L2 Pd Td PM
inductive Gd (ws : List Str) : Nat → Nat → PyData → Prop
  | int {k m : Nat} {i : Int} (h1 : -(m : Int) ≤ i) (h2 : i ≤ m) : Gd ws k m (.int i)
  | str {k m : Nat} {s : Str} (h : s ∈ ws) : Gd ws k m (.str s)
  | non {k m : Nat} : Gd ws k m .none
  | bool {k m : Nat} (b : Bool) : Gd ws k m (.bool b)
  | dct {k m : Nat} : Gd ws (k + 1) m (.dict [])
  | tup {k m : Nat} {ds : List PyData} (hl : ds.length ≤ m) (h : ∀ d ∈ ds, Gd ws k m d) : Gd ws (k + 1) m (.tuple ds)
  | lst {k m : Nat} {ds : List PyData} (hl : ds.length ≤ m) (h : ∀ d ∈ ds, Gd ws k m d) : Gd ws (k + 1) m (.list ds)
section
variable {ws : List Str}
theorem Gd.more {k m : Nat} {d : PyData} (h : Gd ws k m d) : ∀ {k' m' : Nat}, k ≤ k' → m ≤ m' → Gd ws k' m' d := by
  induction h with
  | int h1 h2 => intro k' m' _ hm; exact .int (by omega) (by omega)
  | str h => intro k' m' _ _; exact .str h
  | non => intro k' m' _ _; exact .non
  | bool b => intro k' m' _ _; exact .bool b
  | dct =>
    intro k' m' hk _
    obtain ⟨j, rfl⟩ : ∃ j, k' = j + 1 := ⟨k' - 1, by omega⟩
    exact .dct
  | tup hl h ih =>
    intro k' m' hk hm
    obtain ⟨j, rfl⟩ : ∃ j, k' = j + 1 := ⟨k' - 1, by omega⟩
    exact .tup (by omega) fun d hd => ih d hd (by omega) hm
  | lst hl h ih =>
    intro k' m' hk hm
    obtain ⟨j, rfl⟩ : ∃ j, k' = j + 1 := ⟨k' - 1, by omega⟩
    exact .lst (by omega) fun d hd => ih d hd (by omega) hm
theorem Gd.items {k m : Nat} {ds : List PyData} (h : Gd ws (k + 1) m (.tuple ds)) : ds.length ≤ m ∧ ∀ d ∈ ds, Gd ws k m d := by
  cases h with
  | tup hl h => exact ⟨hl, h⟩
theorem Gd.len {k m : Nat} {ds : List PyData} (h : Gd ws k m (.tuple ds)) : ds.length ≤ m := by
  cases h with
  | tup hl h => exact hl
/-- it can be shown -/
theorem zw_all {k : Nat} : ∀ {ds : List PyData}, (∀ d ∈ ds, ShZ k (PyData.weight d) d) → PyData.leavesShortAll 50 ds = true ∧ PyData.showableAll ds = true ∧ PyData.depthAll ds ≤ k
  | [], _ => by simp [PyData.leavesShortAll, PyData.showableAll, PyData.depthAll]
  | d :: ds, h => by
    have hx := h d List.mem_cons_self
    obtain ⟨a, e, f⟩ := zw_all (ds := ds) fun y hy => h y (List.mem_cons_of_mem _ hy)
    refine ⟨?_, ?_, ?_⟩
    · rw [PyData.leavesShortAll, hx.lv, a]
      rfl
    · rw [PyData.showableAll, hx.sh, e]
      rfl
    · have := hx.dep
      rw [PyData.depthAll]
      omega
theorem Gd.z (hw : ∀ s ∈ ws, ShZ 0 (PyData.weight (.str s)) (.str s)) {k m : Nat} {d : PyData} (h : Gd ws k m d) (hm : m ≤ 1000) : ShZ k (PyData.weight d) d := by
  induction h with
  | @int k m i h1 h2 =>
    have := (d_int true (i := i) (by omega) (by omega)).z
    exact ⟨this.lv, Nat.le_refl _, this.sh, Nat.le_trans this.dep (Nat.zero_le _)⟩
  | str h => exact (hw _ h).more (Nat.zero_le _) (Nat.le_refl _)
  | non =>
    have := (d_non true).z
    exact ⟨this.lv, Nat.le_refl _, this.sh, Nat.le_trans this.dep (Nat.zero_le _)⟩
  | bool b =>
    have := (d_bool true b).z
    exact ⟨this.lv, Nat.le_refl _, this.sh, Nat.le_trans this.dep (Nat.zero_le _)⟩
  | dct =>
    have := (d_dict0).z
    exact ⟨this.lv, Nat.le_refl _, this.sh, Nat.le_trans this.dep (by omega)⟩
  | tup hl h ih =>
    obtain ⟨a, e, f⟩ := zw_all fun d hd => ih d hd hm
    exact ⟨by rw [PyData.leavesShort]; exact a, Nat.le_refl _, by rw [PyData.showable]; exact e, by rw [PyData.depth]; omega⟩
  | lst hl h ih =>
    obtain ⟨a, e, f⟩ := zw_all fun d hd => ih d hd hm
    exact ⟨by rw [PyData.leavesShort]; exact a, Nat.le_refl _, by rw [PyData.showable]; exact e, by rw [PyData.depth]; omega⟩
end
end Nt
end
set_option linter.all false
set_option maxRecDepth 100000
set_option maxHeartbeats 1000000
noncomputable section
namespace Sp
open PySem PySem.Spec PyProof.Rows L2 Pd Td PM K70 Nt
def isInn (S l : List Int) : Bool := decide ((0 : Int) < (l.length : Int)) && decide ((l.length : Int) < (S.length : Int))
/-- lots of a row of stations, neither empty nor all -/
def innL (S : List Int) : List (List Int) := srtL ((allL S).filter (isInn S))
theorem inn_mem {S l : List Int} : l ∈ innL S ↔ l ∈ allL S ∧ isInn S l = true := by
  unfold innL srtL
  rw [List.mem_mergeSort, List.mem_filter]
theorem inn_of {S : List Int} {p : Int → Bool} (h1 : ∃ x ∈ S, p x = true) (h2 : ∃ x ∈ S, p x = false) : S.filter p ∈ innL S := by
  refine inn_mem.mpr ⟨allL_filter S p, ?_⟩
  obtain ⟨x, x1, x2⟩ := h1
  obtain ⟨y, y1, y2⟩ := h2
  have a : 0 < (S.filter p).length := List.length_pos_iff_exists_mem.mpr ⟨x, List.mem_filter.mpr ⟨x1, x2⟩⟩
  have b : (S.filter p).length < S.length := List.length_filter_lt_length_iff_exists.mpr ⟨y, y1, by simp [y2]⟩
  unfold isInn
  simp only [Bool.and_eq_true, decide_eq_true_eq]
  omega
theorem inn_is {S l : List Int} (nd : S.Nodup) (h : l ∈ innL S) : (∀ x ∈ l, x ∈ S) ∧ (∃ x, x ∈ l) ∧ ∃ x ∈ S, x ∉ l := by
  obtain ⟨h1, h2⟩ := inn_mem.mp h
  obtain ⟨p, rfl⟩ := allL_form nd h1
  unfold isInn at h2
  simp only [Bool.and_eq_true, decide_eq_true_eq] at h2
  refine ⟨fun x hx => (List.mem_filter.mp hx).1, List.length_pos_iff_exists_mem.mp (by omega), ?_⟩
  obtain ⟨y, y1, y2⟩ := List.length_filter_lt_length_iff_exists.mp (show (S.filter p).length < S.length by omega)
  exact ⟨y, y1, fun z => y2 (List.mem_filter.mp z).2⟩
def rm (x : Int × Int) (E : List (Int × Int)) : List (Int × Int) := E.eraseIdx (E.idxOf x)
theorem rm_erase (x : Int × Int) : ∀ E : List (Int × Int), x ∈ E → rm x E = E.erase x
  | [], h => by cases h
  | y :: E, h => by
    unfold rm
    rw [List.idxOf_cons, List.erase_cons]
    by_cases q : y = x
    · subst q
      simp
    · have q2 : (y == x) = false := by simpa using q
      rw [q2]
      have hm : x ∈ E := by
        rcases List.mem_cons.mp h with z | z
        · exact absurd z.symm q
        · exact z
      have ih := rm_erase x E hm
      unfold rm at ih
      simp only [cond_false, List.eraseIdx_cons_succ, ih, Bool.false_eq_true, if_false]
theorem rm_perm {x : Int × Int} {E R : List (Int × Int)} (h : E.Perm (x :: R)) : (rm x E).Perm R := by
  rw [rm_erase x E (h.mem_iff.mpr List.mem_cons_self)]
  have := h.erase x
  rw [List.erase_cons_head] at this
  exact this
/-- the links that are left, in any order -/
def spl (E : List (Int × Int)) (st u v : Int) : List (Int × Int) := rm (tie st v) (rm (tie st u) E) ++ (if u = v then [] else [tie u v])
theorem spl_cut {E R : List (Int × Int)} {st u v : Int} (hp : E.Perm (tie st u :: tie st v :: R)) {l : List Int} (hl : st ∉ l) : cutZ (spl E st u v) l = cutZ E l - (if u ∈ l ∧ v ∈ l then 2 else 0) := by
  unfold spl
  have p1 := rm_perm hp
  have p2 := rm_perm p1
  rw [cut_app, cut_perm p2, cut_perm hp, cut_cons, cut_cons]
  unfold cr
  rw [cross_tie, cross_tie]
  have d : decide (st ∈ l) = false := by simpa using hl
  rw [d]
  by_cases c : u = v
  · subst c
    rw [if_pos rfl]
    have z : cutZ [] l = 0 := rfl
    rw [z]
    by_cases h : u ∈ l <;> simp [h] <;> omega
  · rw [if_neg c, cut_cons]
    have z : cutZ [] l = 0 := rfl
    rw [z]
    unfold cr
    rw [cross_tie]
    by_cases h : u ∈ l <;> by_cases h' : v ∈ l <;> simp [h, h'] <;> omega
structure OkV (V : List Int) (st : Int) (E : List (Int × Int)) : Prop where
  nd : V.Nodup
  ns : st ∉ V
  ok : ∀ e ∈ E, e.1 < e.2 ∧ (e.1 = st ∨ e.1 ∈ V) ∧ (e.2 = st ∨ e.2 ∈ V)
/-- whether links hold k on a row of stations -/
def holdsB (V : List Int) (E : List (Int × Int)) (k : Int) : Bool := (innL V).all fun l => !decide (cutZ E l < k)
def closeL (V : List Int) (E : List (Int × Int)) (k : Int) : List (List Int) := (innL V).filter fun l => decide (cutZ E l ≤ k + 1)
section
variable {V : List Int} {st k : Int} {E : List (Int × Int)} (ok : OkV V st E)
include ok
theorem ends_pair {p q : Int × Int} (hp : p ∈ endsL E st) (hq : q ∈ endsL E st) (hne : p.1 ≠ q.1) : ∃ R, E.Perm (tie st p.2 :: tie st q.2 :: R) := by
  obtain ⟨i, x, x1, x2, rfl⟩ := ends_mem.mp hp
  obtain ⟨j, y, y1, y2, rfl⟩ := ends_mem.mp hq
  have a := (end_tie (n := 0) (ok.ok x (List.mem_of_getElem? x1)).1 x2).1
  have b := (end_tie (n := 0) (ok.ok y (List.mem_of_getElem? y1)).1 y2).1
  obtain ⟨R, h⟩ := two_perm (fun z => hne (by simp [z])) x1 y1
  refine ⟨R, ?_⟩
  simp only
  rw [← a, ← b]
  exact h
/-- what may be split off: no close lot has both -/
def isLet (V : List Int) (E : List (Int × Int)) (k u v : Int) : Bool := decide ((closeL V E k).filter (fun l => decide (u ∈ l) && decide (v ∈ l)) = [])
theorem let_holds {p q : Int × Int} (hp : p ∈ endsL E st) (hq : q ∈ endsL E st) (hne : p.1 ≠ q.1) (hk : holdsB V E k = true) : holdsB V (spl E st p.2 q.2) k = isLet V E k p.2 q.2 := by
  obtain ⟨R, hR⟩ := ends_pair ok hp hq hne
  unfold holdsB at hk ⊢
  unfold isLet
  rw [Bool.eq_iff_iff, List.all_eq_true, decide_eq_true_eq, List.filter_eq_nil_iff]
  rw [List.all_eq_true] at hk
  have st_not : ∀ l ∈ innL V, st ∉ l := fun l hl z => ok.ns ((inn_is ok.nd hl).1 st z)
  constructor
  · intro h l hl
    obtain ⟨l1, l2⟩ := List.mem_filter.mp hl
    have := h l l1
    rw [spl_cut hR (st_not l l1)] at this
    simp only [Bool.and_eq_true, decide_eq_true_eq, Bool.not_eq_true', decide_eq_false_iff_not] at this l2 ⊢
    intro c
    rw [if_pos c] at this
    omega
  · intro h l hl
    have a := hk l hl
    rw [spl_cut hR (st_not l hl)]
    simp only [Bool.not_eq_true', decide_eq_false_iff_not] at a ⊢
    by_cases c : p.2 ∈ l ∧ q.2 ∈ l
    · rw [if_pos c]
      intro z
      refine h l (List.mem_filter.mpr ⟨hl, ?_⟩) ?_
      · simp only [decide_eq_true_eq]
        omega
      · simp only [Bool.and_eq_true, decide_eq_true_eq]
        exact c
    · rw [if_neg c]
      omega
end
section
variable {V : List Int} {st k : Int} {E : List (Int × Int)} (ok : OkV V st E) (hold : holdsB V E k = true)
theorem held {l : List Int} (hold : holdsB V E k = true) (h : l ∈ innL (V)) : k ≤ cutZ E l := by
  unfold holdsB at hold
  have := List.all_eq_true.mp hold l h
  simp only [Bool.not_eq_true', decide_eq_false_iff_not] at this
  omega
theorem close_is {l : List Int} (h : l ∈ closeL V E k) : l ∈ innL (V) ∧ cutZ E l ≤ k + 1 := by
  obtain ⟨a, b⟩ := List.mem_filter.mp h
  exact ⟨a, by simpa using b⟩
theorem edge_in {e : Int × Int} (ok : OkV V st E) (he : e ∈ E) (h : at_st st e = false) : e.1 ∈ V ∧ e.2 ∈ V := by
  obtain ⟨a, b, c⟩ := ok.ok e he
  unfold at_st at h
  simp only [List.mem_cons, List.mem_nil_iff, or_false, decide_eq_false_iff_not, not_or] at h
  exact ⟨b.resolve_left fun z => h.1 z.symm, c.resolve_left fun z => h.2 z.symm⟩
/-- an end's other end is another station; the link crosses a lot just if it is within -/
theorem edge_at {e : Int × Int} (ok : OkV V st E) (he : e ∈ E) (h : at_st st e = true) : oe st e ∈ V ∧ ∀ l : List Int, st ∉ l → cr l e = if oe st e ∈ l then 1 else 0 := by
  obtain ⟨a, b, c⟩ := ok.ok e he
  obtain ⟨x, y⟩ := e
  unfold at_st at h
  simp only [List.mem_cons, List.mem_nil_iff, or_false, decide_eq_true_eq] at h a b c
  unfold oe
  simp only
  rcases h with rfl | rfl
  · have : st + y - st = y := by omega
    rw [this]
    refine ⟨c.resolve_left (by omega), fun l hl => ?_⟩
    rw [cr_is]
    by_cases q : y ∈ l <;> simp [hl, q]
  · have : x + st - st = x := by omega
    rw [this]
    refine ⟨b.resolve_left (by omega), fun l hl => ?_⟩
    rw [cr_is]
    by_cases q : x ∈ l <;> simp [hl, q]
theorem st_not (ok : OkV V st E) {l : List Int} (h : ∀ x ∈ l, x ∈ V) : st ∉ l := fun z => ok.ns (h st z)
include ok hold in
/-- a close lot has at most half of the links -/
theorem half_at {l : List Int} (h : l ∈ closeL V E k) : 2 * (E.map (dI st l)).sum ≤ (E.map (atI st)).sum + 1 := by
  obtain ⟨h1, h2⟩ := close_is h
  obtain ⟨i1, ⟨x, hx⟩, ⟨y, y1, y2⟩⟩ := inn_is ok.nd h1
  have hC : (V).filter (fun x => !decide (x ∈ l)) ∈ innL (V) := inn_of ⟨y, y1, by simp [y2]⟩ ⟨x, i1 x hx, by simp [hx]⟩
  have hk := held hold hC
  have e : cutZ E ((V).filter (fun x => !decide (x ∈ l))) = cutZ E l + (E.map (atI st)).sum - 2 * (E.map (dI st l)).sum := by
    rw [cut_sum, cut_sum]
    have : ∀ E' : List (Int × Int), (∀ e ∈ E', e ∈ E) → (E'.map (cr ((V).filter fun x => !decide (x ∈ l)))).sum = (E'.map (cr l)).sum + (E'.map (atI st)).sum - 2 * (E'.map (dI st l)).sum := by
      intro E'
      induction E' with
      | nil => intro _; rfl
      | cons e E' ih =>
        intro hE
        have i := ih fun z hz => hE z (List.mem_cons_of_mem _ hz)
        have he := hE e List.mem_cons_self
        have one : cr ((V).filter fun x => !decide (x ∈ l)) e = cr l e + atI st e - 2 * dI st l e := by
          unfold Nt.atI dI
          cases c : at_st st e with
          | true =>
            obtain ⟨a, b⟩ := edge_at ok he c
            rw [b l (st_not ok i1), b _ (st_not ok fun x hx => (List.mem_filter.mp hx).1)]
            have m : oe st e ∈ (V).filter (fun x => !decide (x ∈ l)) ↔ oe st e ∉ l := by
              rw [List.mem_filter]
              simp [a]
            by_cases q : oe st e ∈ l
            · rw [if_pos q, if_neg (fun z => (m.mp z) q)]
              simp [q]
            · rw [if_neg q, if_pos (m.mpr q)]
              simp [q]
          | false =>
            obtain ⟨a, b⟩ := edge_in ok he c
            rw [cr_is, cr_is]
            have m : ∀ x, x ∈ V → decide (x ∈ (V).filter (fun x => !decide (x ∈ l))) = !decide (x ∈ l) := fun x hx => by
              rw [Bool.eq_iff_iff, decide_eq_true_eq, List.mem_filter]
              simp [hx]
            rw [m _ a, m _ b]
            cases decide (e.1 ∈ l) <;> cases decide (e.2 ∈ l) <;> simp
        rw [List.map_cons, List.map_cons, List.map_cons, List.map_cons, List.sum_cons, List.sum_cons, List.sum_cons, List.sum_cons, one, i]
        omega
    exact this E fun _ h => h
  omega
end
section
variable {V : List Int} {st k : Int} {E : List (Int × Int)} (ok : OkV V st E) (hold : holdsB V E k = true) (k2 : 2 ≤ k) {u : Int} {X Y Z : List Int}
include ok hold k2 in
/-- three close lots with a link's end in common, each with a station of its own: there are none -/
theorem no_three {e0 : Int × Int} (he0 : e0 ∈ E) (hat : at_st st e0 = true) (hX : X ∈ closeL V E k) (hY : Y ∈ closeL V E k) (hZ : Z ∈ closeL V E k) (u1 : oe st e0 ∈ X) (u2 : oe st e0 ∈ Y) (u3 : oe st e0 ∈ Z)
    {x y z : Int} (hx : x ∈ X ∧ x ∉ Y ∧ x ∉ Z) (hy : y ∈ Y ∧ y ∉ X ∧ y ∉ Z) (hz : z ∈ Z ∧ z ∉ X ∧ z ∉ Y) : False := by
  obtain ⟨a1, a2⟩ := close_is hX
  obtain ⟨b1, b2⟩ := close_is hY
  obtain ⟨c1, c2⟩ := close_is hZ
  obtain ⟨iX, _, _⟩ := inn_is ok.nd a1
  obtain ⟨iY, _, _⟩ := inn_is ok.nd b1
  obtain ⟨iZ, _, _⟩ := inn_is ok.nd c1
  have lot : ∀ p : Int → Bool, (∃ w ∈ V, p w = true) → (∃ w ∈ V, p w = false) → k ≤ cutZ E ((V).filter p) := fun p h1 h2 => held hold (inn_of h1 h2)
  have e0in := (edge_at ok he0 hat).1
  have k0 := lot (fun w => decide (w ∈ X) && decide (w ∈ Y) && decide (w ∈ Z)) ⟨_, e0in, by simp [u1, u2, u3]⟩ ⟨x, iX x hx.1, by simp [hx]⟩
  have k1 := lot (fun w => decide (w ∈ X) && !decide (w ∈ Y) && !decide (w ∈ Z)) ⟨x, iX x hx.1, by simp [hx]⟩ ⟨y, iY y hy.1, by simp [hy]⟩
  have k2' := lot (fun w => !decide (w ∈ X) && decide (w ∈ Y) && !decide (w ∈ Z)) ⟨y, iY y hy.1, by simp [hy]⟩ ⟨x, iX x hx.1, by simp [hx]⟩
  have k3 := lot (fun w => !decide (w ∈ X) && !decide (w ∈ Y) && decide (w ∈ Z)) ⟨z, iZ z hz.1, by simp [hz]⟩ ⟨x, iX x hx.1, by simp [hx]⟩
  rw [cut_sum] at k0 k1 k2' k3 a2 b2 c2
  have m : ∀ (p : Int → Bool) w, w ∈ V → decide (w ∈ (V).filter p) = p w := fun p w hw => by
    rw [Bool.eq_iff_iff, decide_eq_true_eq, List.mem_filter]
    simp [hw]
  have fst_not : ∀ p : Int → Bool, st ∉ (V).filter p := fun p => st_not ok fun w hw => (List.mem_filter.mp hw).1
  have mi : ∀ (p : Int → Bool) w, w ∈ V → (w ∈ (V).filter p ↔ p w = true) := fun p w hw => by
    rw [List.mem_filter]
    simp [hw]
  have fin := sum_more (d := 2) (E := E) (e := e0) (f := fun e => cr ((V).filter fun w => decide (w ∈ X) && decide (w ∈ Y) && decide (w ∈ Z)) e + cr ((V).filter fun w => decide (w ∈ X) && !decide (w ∈ Y) && !decide (w ∈ Z)) e + cr ((V).filter fun w => !decide (w ∈ X) && decide (w ∈ Y) && !decide (w ∈ Z)) e + cr ((V).filter fun w => !decide (w ∈ X) && !decide (w ∈ Y) && decide (w ∈ Z)) e) (g := fun e => cr X e + cr Y e + cr Z e) he0 (fun e he => ?_) ?_
  · rw [sum_add, sum_add, sum_add, sum_add, sum_add] at fin
    omega
  · cases c : at_st st e with
    | true =>
      obtain ⟨a, b⟩ := edge_at ok he c
      simp only [b _ (fst_not _), b X (st_not ok iX), b Y (st_not ok iY), b Z (st_not ok iZ), mi _ _ a]
      by_cases q1 : oe st e ∈ X <;> by_cases q2 : oe st e ∈ Y <;> by_cases q3 : oe st e ∈ Z <;> simp [q1, q2, q3]
    | false =>
      obtain ⟨a, b⟩ := edge_in ok he c
      simp only [cr_is, m _ _ a, m _ _ b]
      cases decide (e.1 ∈ X) <;> cases decide (e.1 ∈ Y) <;> cases decide (e.1 ∈ Z) <;> cases decide (e.2 ∈ X) <;> cases decide (e.2 ∈ Y) <;> cases decide (e.2 ∈ Z) <;> decide
  · obtain ⟨a, b⟩ := edge_at ok he0 hat
    simp only [b _ (fst_not _), b X (st_not ok iX), b Y (st_not ok iY), b Z (st_not ok iZ), mi _ _ a]
    simp [u1, u2, u3]
include ok hold k2 in
theorem partner {p : Int × Int} (hp : p ∈ endsL E st) (ev : ((endsL E st).length : Int) % 2 = 0) : ∃ q ∈ endsL E st, q.1 ≠ p.1 ∧ isLet V E k p.2 q.2 = true := by
  apply Classical.byContradiction
  intro none
  have cov : ∀ q ∈ endsL E st, q.1 ≠ p.1 → ∃ l ∈ closeL V E k, p.2 ∈ l ∧ q.2 ∈ l := fun q hq hne => by
    apply Classical.byContradiction
    intro z
    refine none ⟨q, hq, hne, ?_⟩
    unfold isLet
    rw [decide_eq_true_eq, List.filter_eq_nil_iff]
    intro l hl y
    simp only [Bool.and_eq_true, decide_eq_true_eq] at y
    exact z ⟨l, hl, y⟩
  obtain ⟨i, e0, x1, x2, rfl⟩ := ends_mem.mp hp
  have he0 : e0 ∈ E := List.mem_of_getElem? x1
  -- another end
  have other : ∃ q ∈ endsL E st, q.1 ≠ (i : Int) := by
    apply Classical.byContradiction
    intro z
    have all : ∀ q ∈ endsL E st, q = ((i : Int), oe st e0) := fun q hq => by
      obtain ⟨j, e, y1, y2, rfl⟩ := ends_mem.mp hq
      have : (j : Int) = (i : Int) := Classical.byContradiction fun w => z ⟨_, hq, w⟩
      have hj : j = i := by omega
      subst hj
      rw [x1] at y1
      cases y1
      rfl
    have nd : (endsL E st).Nodup := by
      unfold endsL
      have h1 : ((enumL E).map (·.1)).Nodup := by
        have : (enumL E).map (·.1) = (List.range E.length).map fun i => ((i : Nat) : Int) := by
          unfold enumL
          rw [List.map_map]
          apply List.ext_getElem?
          intro j
          simp only [List.getElem?_map, List.getElem?_zipIdx, List.getElem?_range]
          cases h : E[j]? with
          | none =>
            have := List.getElem?_eq_none_iff.mp h
            rw [List.getElem?_eq_none (by simpa using this)]
            rfl
          | some e =>
            have := (List.getElem?_eq_some_iff.mp h).1
            rw [List.getElem?_range this]
            simp
        rw [this]
        exact List.Pairwise.map _ (fun a b hab z => hab (by omega)) List.nodup_range
      have h2 : (((enumL E).filter fun q => at_st st q.2).map (·.1)).Nodup := h1.sublist (List.filter_sublist.map _)
      exact List.Pairwise.of_map (S := fun a b : Int => a ≠ b) (·.1) (fun a b h z => h (congrArg (·.1) z)) (by rw [List.map_map]; exact h2)
    have l1 := nodup_le (m := [((i : Int), oe st e0)]) nd fun q hq => by
      rw [all q hq]
      exact List.mem_cons_self
    have l2 : 0 < (endsL E st).length := List.length_pos_of_mem hp
    rw [List.length_singleton] at l1
    omega
  let C : List (List Int) → Prop := fun F => F ≠ [] ∧ (∀ l ∈ F, l ∈ closeL V E k ∧ oe st e0 ∈ l) ∧ ∀ e ∈ E, at_st st e = true → ∃ l ∈ F, oe st e ∈ l
  have C0 : C ((closeL V E k).filter fun l => decide (oe st e0 ∈ l)) := by
    obtain ⟨q, hq, hne⟩ := other
    obtain ⟨l0, l1, l2, l3⟩ := cov q hq hne
    have m0 : l0 ∈ (closeL V E k).filter fun l => decide (oe st e0 ∈ l) := List.mem_filter.mpr ⟨l1, decide_eq_true l2⟩
    refine ⟨List.ne_nil_of_mem m0, fun l hl => ?_, fun e he c => ?_⟩
    · obtain ⟨w1, w2⟩ := List.mem_filter.mp hl
      exact ⟨w1, by simpa using w2⟩
    · obtain ⟨j, hj, ej⟩ := List.getElem_of_mem he
      have y1 : E[j]? = some e := by rw [List.getElem?_eq_getElem hj, ej]
      by_cases hji : j = i
      · subst hji
        rw [x1] at y1
        cases y1
        exact ⟨l0, m0, l2⟩
      · obtain ⟨l, w1, w2, w3⟩ := cov ((j : Int), e.1 + e.2 - st) (ends_mem.mpr ⟨j, e, y1, c, rfl⟩) (by simp only; omega)
        exact ⟨l, List.mem_filter.mpr ⟨w1, decide_eq_true w2⟩, w3⟩
  obtain ⟨F, ⟨f1, f2, f3⟩, f4⟩ := least_of C _ _ (Nat.le_refl _) C0
  have deg := deg_is E st
  have d1 : 0 < (endsL E st).length := List.length_pos_of_mem hp
  match F, f1, f2, f3, f4 with
  | [l], f1, f2, f3, f4 =>
    have h := half_at ok hold (f2 l List.mem_cons_self).1
    have : (E.map (atI st)).sum ≤ (E.map (dI st l)).sum := sum_le fun e he => by
      unfold Nt.atI dI
      by_cases c : at_st st e = true
      · obtain ⟨l', m, hl⟩ := f3 e he c
        rw [List.mem_singleton.mp m] at hl
        rw [if_pos c, if_pos ⟨c, hl⟩]
        omega
      · rw [if_neg c]
        split <;> omega
    omega
  | [l, l'], f1, f2, f3, f4 =>
    have h := half_at ok hold (f2 l List.mem_cons_self).1
    have h' := half_at ok hold (f2 l' (List.mem_cons_of_mem _ List.mem_cons_self)).1
    have := sum_more (d := 1) (E := E) (e := e0) (f := atI st) (g := fun e => dI st l e + dI st l' e) he0 (fun e he => by
      unfold Nt.atI dI
      by_cases c : at_st st e = true
      · obtain ⟨l2, m, hl⟩ := f3 e he c
        rw [if_pos c]
        simp only [List.mem_cons, List.mem_nil_iff, or_false] at m
        rcases m with rfl | rfl
        · rw [if_pos ⟨c, hl⟩]
          split <;> omega
        · rw [if_pos (c := at_st st e = true ∧ oe st e ∈ l2) ⟨c, hl⟩]
          split <;> omega
      · rw [if_neg c]
        split <;> split <;> omega) (by
      unfold Nt.atI dI
      rw [if_pos x2, if_pos ⟨x2, (f2 l List.mem_cons_self).2⟩, if_pos ⟨x2, (f2 l' (List.mem_cons_of_mem _ List.mem_cons_self)).2⟩]
      omega)
    rw [sum_add] at this
    omega
  | X :: Y :: Z :: F, f1, f2, f3, f4 =>
    have fX := f2 X List.mem_cons_self
    have fY := f2 Y (by simp)
    have fZ := f2 Z (by simp)
    have miss : ∀ G : List (List Int), G ≠ [] → (∀ l ∈ G, l ∈ X :: Y :: Z :: F) → G.length < (X :: Y :: Z :: F).length → ∃ e ∈ E, at_st st e = true ∧ ∀ l ∈ G, oe st e ∉ l := fun G g1 g2 g3 => by
      apply Classical.byContradiction
      intro z
      have := f4 G ⟨g1, fun l hl => f2 l (g2 l hl), fun e he c => by
        apply Classical.byContradiction
        intro w
        exact z ⟨e, he, c, fun l hl y => w ⟨l, hl, y⟩⟩⟩
      omega
    have own : ∀ (A B C' : List Int) (G : List (List Int)), (∀ l, l ∈ X :: Y :: Z :: F → l = A ∨ l ∈ B :: C' :: G) → (∀ e ∈ E, at_st st e = true → (∀ l ∈ B :: C' :: G, oe st e ∉ l) → oe st e ∈ A ∧ oe st e ∉ B ∧ oe st e ∉ C') := fun A B C' G hA e he c hl => by
      obtain ⟨l, m, hm⟩ := f3 e he c
      refine ⟨?_, hl B List.mem_cons_self, hl C' (by simp)⟩
      rcases hA l m with rfl | w
      · exact hm
      · exact absurd hm (hl l w)
    obtain ⟨ex, ex1, ex2, ex3⟩ := miss (Y :: Z :: F) (by simp) (fun l hl => List.mem_cons_of_mem _ hl) (by simp)
    obtain ⟨ey, ey1, ey2, ey3⟩ := miss (X :: Z :: F) (by simp) (fun l hl => by
      simp only [List.mem_cons] at hl ⊢
      rcases hl with h | h | h
      · exact .inl h
      · exact .inr (.inr (.inl h))
      · exact .inr (.inr (.inr h))) (by simp)
    obtain ⟨ez, ez1, ez2, ez3⟩ := miss (X :: Y :: F) (by simp) (fun l hl => by
      simp only [List.mem_cons] at hl ⊢
      rcases hl with h | h | h
      · exact .inl h
      · exact .inr (.inl h)
      · exact .inr (.inr (.inr h))) (by simp)
    exact no_three ok hold k2 he0 x2 fX.1 fY.1 fZ.1 fX.2 fY.2 fZ.2 (own X Y Z F (fun l hl => by simpa using hl) ex ex1 ex2 ex3)
      (own Y X Z F (fun l hl => by
        simp only [List.mem_cons] at hl ⊢
        rcases hl with h | h | h | h
        · exact .inr (.inl h)
        · exact .inl h
        · exact .inr (.inr (.inl h))
        · exact .inr (.inr (.inr h))) ey ey1 ey2 ey3)
      (own Z X Y F (fun l hl => by
        simp only [List.mem_cons] at hl ⊢
        rcases hl with h | h | h | h
        · exact .inr (.inl h)
        · exact .inr (.inr (.inl h))
        · exact .inl h
        · exact .inr (.inr (.inr h))) ez ez1 ez2 ez3)
end
end Sp
end
set_option linter.all false
set_option autoImplicit false
set_option maxRecDepth 100000
set_option maxHeartbeats 1000000
noncomputable section
namespace Sp
open PySem PySem.Spec PyProof.Rows L2 Pd Td PM K70 Nt
def nbr (E : List (Int × Int)) (st : Int) : List Int := (E.filter (at_st st)).map (oe st)
theorem enum_snd {α : Type} (E : List α) : (enumL E).map (·.2) = E := by
  refine List.ext_getElem (by rw [List.length_map, enumL_len]) fun i h1 h2 => ?_
  simp [enumL]
theorem ends_nbr (E : List (Int × Int)) (st : Int) : (endsL E st).map (·.2) = nbr E st := by
  unfold endsL nbr
  rw [List.map_map]
  have : E.filter (at_st st) = ((enumL E).filter fun q => at_st st q.2).map (·.2) := by
    conv => lhs; rw [← enum_snd E]
    rw [List.filter_map]
    rfl
  rw [this, List.map_map]
  refine List.map_congr_left fun q _ => ?_
  show [q.2.1, q.2.2].sum - st = q.2.1 + q.2.2 - st
  simp
theorem nbr_perm {E F : List (Int × Int)} (h : E.Perm F) (st : Int) : (nbr E st).length = (nbr F st).length := by
  unfold nbr
  rw [List.length_map, List.length_map]
  exact (h.filter _).length_eq
theorem at_tie {st a b : Int} : at_st st (tie a b) = (decide (a = st) || decide (b = st)) := by
  unfold at_st tie
  rw [Bool.eq_iff_iff, decide_eq_true_eq, Bool.or_eq_true, decide_eq_true_eq, decide_eq_true_eq]
  simp only [List.mem_cons, List.mem_nil_iff, or_false]
  rcases Int.le_total a b with h | h
  · rw [Int.min_eq_left h, Int.max_eq_right h]
    omega
  · rw [Int.min_eq_right h, Int.max_eq_left h]
    omega
section
variable {V : List Int} {st k : Int} {E : List (Int × Int)} (ok : OkV V st E) {a v : Int} {rest : List Int}
include ok
theorem pair_perm (h : nbr E st = a :: rest) (hv : v ∈ rest) : (∃ R, E.Perm (tie st a :: tie st v :: R)) ∧ a ∈ V ∧ v ∈ V := by
  unfold nbr at h
  cases q : E.filter (at_st st) with
  | nil => rw [q] at h; cases h
  | cons e0 es =>
    rw [q, List.map_cons] at h
    injection h with h1 h2
    rw [← h2] at hv
    obtain ⟨e, he, rfl⟩ := List.mem_map.mp hv
    subst h1
    have m0 : e0 ∈ E.filter (at_st st) := by rw [q]; exact List.mem_cons_self
    have m1 : e ∈ E.filter (at_st st) := by rw [q]; exact List.mem_cons_of_mem _ he
    obtain ⟨i0, a0⟩ := List.mem_filter.mp m0
    obtain ⟨i1, a1⟩ := List.mem_filter.mp m1
    refine ⟨⟨es.erase e ++ E.filter (fun x => !at_st st x), ?_⟩, (edge_at ok i0 a0).1, (edge_at ok i1 a1).1⟩
    have t0 : e0 = tie st (oe st e0) := (end_tie (n := 0) (ok.ok e0 i0).1 a0).1
    have t1 : e = tie st (oe st e) := (end_tie (n := 0) (ok.ok e i1).1 a1).1
    rw [← t0, ← t1]
    have p := List.filter_append_perm (at_st st) E
    rw [q] at p
    refine p.symm.trans ?_
    have p2 := List.perm_cons_erase he
    rw [List.cons_append]
    refine List.Perm.cons _ ?_
    exact p2.append_right _
theorem step_split (hold : holdsB V E k = true) (k2 : 2 ≤ k) (ev : (nbr E st).length % 2 = 0) (h : nbr E st = a :: rest) : ∃ v ∈ rest, holdsB V (spl E st a v) k = true := by
  have e := ends_nbr E st
  have el : (endsL E st).length = (nbr E st).length := by rw [← e, List.length_map]
  rw [h] at e
  cases q : endsL E st with
  | nil => rw [q] at e; cases e
  | cons p ps =>
    rw [q, List.map_cons] at e
    injection e with e1 e2
    have hp : p ∈ endsL E st := by rw [q]; exact List.mem_cons_self
    obtain ⟨r, hr, ne, lt⟩ := partner ok hold k2 hp (by omega)
    have hr' := hr
    rw [q] at hr
    rcases List.mem_cons.mp hr with z | z
    · exact absurd (congrArg (·.1) z) ne
    · refine ⟨r.2, by rw [← e2]; exact List.mem_map.mpr ⟨r, z, rfl⟩, ?_⟩
      rw [← e1, let_holds ok hp hr' (fun z => ne z.symm) hold]
      exact lt
end
theorem spl_perm {E R : List (Int × Int)} {st a v : Int} (h : E.Perm (tie st a :: tie st v :: R)) : (spl E st a v).Perm (R ++ if a = v then [] else [tie a v]) := by
  unfold spl
  exact (rm_perm (rm_perm h)).append_right _
theorem tie_lt {a b : Int} (h : a ≠ b) : (tie a b).1 < (tie a b).2 := by
  unfold tie
  show min a b < max a b
  omega
theorem tie_or {a b : Int} : ((tie a b).1 = a ∧ (tie a b).2 = b) ∨ (tie a b).1 = b ∧ (tie a b).2 = a := by
  unfold tie
  show (min a b = a ∧ max a b = b) ∨ min a b = b ∧ max a b = a
  omega
section
variable {V : List Int} {st : Int} {E R : List (Int × Int)} (ok : OkV V st E) {a v : Int} (hp : E.Perm (tie st a :: tie st v :: R)) (ha : a ∈ V) (hv : v ∈ V)
include ok hp ha hv
theorem spl_ok : OkV V st (spl E st a v) := ⟨ok.nd, ok.ns, fun e he => by
  rcases List.mem_append.mp ((spl_perm hp).mem_iff.mp he) with z | z
  · exact ok.ok e (hp.mem_iff.mpr (List.mem_cons_of_mem _ (List.mem_cons_of_mem _ z)))
  · split at z
    · cases z
    · rename_i c
      rw [List.mem_singleton.mp z]
      refine ⟨tie_lt c, ?_⟩
      rcases tie_or (a := a) (b := v) with ⟨x, y⟩ | ⟨x, y⟩
      · rw [x, y]; exact ⟨.inr ha, .inr hv⟩
      · rw [x, y]; exact ⟨.inr hv, .inr ha⟩⟩
theorem spl_nbr : (nbr (spl E st a v) st).length + 2 = (nbr E st).length := by
  have na : a ≠ st := fun z => ok.ns (z ▸ ha)
  have nv : v ≠ st := fun z => ok.ns (z ▸ hv)
  rw [nbr_perm (spl_perm hp) st, nbr_perm hp st]
  unfold nbr
  rw [List.length_map, List.length_map, List.filter_append, List.length_append, List.filter_cons, List.filter_cons, at_tie, at_tie]
  have z : (List.filter (at_st st) (if a = v then [] else [tie a v])) = [] := by
    split
    · rfl
    · rw [List.filter_cons, at_tie, decide_eq_false na, decide_eq_false nv]
      rfl
  rw [z]
  simp
end
def rowT (st : Int) (row : List (Int × Int)) : List (Int × Int) := row.flatMap fun p => [tie st p.1, tie st p.2]
def rowE (row : List (Int × Int)) : List (Int × Int) := row.filter fun p => !decide (p.1 = p.2)
def Row (st : Int) (row E F : List (Int × Int)) : Prop := ∃ R, E.Perm (R ++ rowT st row) ∧ F.Perm (R ++ rowE row)
theorem Row.nil (st : Int) (E : List (Int × Int)) : Row st [] E E := ⟨E, by unfold rowT; simp, by unfold rowE; simp⟩
theorem rowT_at {st : Int} {row : List (Int × Int)} {e : Int × Int} (h : e ∈ rowT st row) : at_st st e = true := by
  obtain ⟨p, _, hp⟩ := List.mem_flatMap.mp h
  simp only [List.mem_cons, List.mem_nil_iff, or_false] at hp
  rcases hp with rfl | rfl <;> (rw [at_tie]; simp)
theorem Row.cons {st a v : Int} {row E F R : List (Int × Int)} (na : a ≠ st) (nv : v ≠ st) (hp : E.Perm (tie st a :: tie st v :: R)) (h : Row st row (spl E st a v) F) : Row st (tie a v :: row) E F := by
  obtain ⟨R', h1, h2⟩ := h
  have s := (spl_perm hp).symm.trans h1
  have two : (tie st (tie a v).1 :: tie st (tie a v).2 :: rowT st row).Perm (tie st a :: tie st v :: rowT st row) := by
    rcases tie_or (a := a) (b := v) with ⟨x, y⟩ | ⟨x, y⟩
    · rw [x, y]
    · rw [x, y]
      exact .swap _ _ _
  have rT : rowT st (tie a v :: row) = tie st (tie a v).1 :: tie st (tie a v).2 :: rowT st row := rfl
  by_cases c : a = v
  · rw [if_pos c, List.append_nil] at s
    refine ⟨R', ?_, ?_⟩
    · rw [rT]
      refine hp.trans (((s.cons _).cons _).trans ?_)
      refine List.Perm.trans ?_ (two.append_left R').symm
      refine List.perm_iff_count.mpr fun x => ?_
      simp only [List.count_append, List.count_cons]
      omega
    · have : rowE (tie a v :: row) = rowE row := by
        unfold rowE
        rw [List.filter_cons, if_neg]
        rw [Bool.not_eq_true, Bool.not_eq_false', decide_eq_true_eq, c]
        unfold tie
        omega
      rw [this]
      exact h2
  · rw [if_neg c] at s
    have m : tie a v ∈ R' := by
      rcases List.mem_append.mp (s.mem_iff.mp (List.mem_append.mpr (.inr List.mem_cons_self))) with z | z
      · exact z
      · have := rowT_at z
        rw [at_tie, decide_eq_false na, decide_eq_false nv] at this
        cases this
    have p3 := List.perm_cons_erase m
    have cs := fun x => List.perm_iff_count.mp s x
    have c3 := fun x => List.perm_iff_count.mp p3 x
    refine ⟨R'.erase (tie a v), ?_, ?_⟩
    · rw [rT]
      refine List.Perm.trans ?_ (two.append_left _).symm
      refine hp.trans (List.perm_iff_count.mpr fun x => ?_)
      have := cs x
      have := c3 x
      simp only [List.count_append, List.count_cons, List.count_nil] at *
      omega
    · have : rowE (tie a v :: row) = tie a v :: rowE row := by
        unfold rowE
        rw [List.filter_cons, if_pos]
        rw [Bool.not_eq_true', decide_eq_false_iff_not]
        have := tie_lt c
        omega
      rw [this]
      refine h2.trans (List.perm_iff_count.mpr fun x => ?_)
      have := c3 x
      simp only [List.count_append, List.count_cons] at *
      omega
/-- what comes of splitting off a station whole -/
structure Split (V : List Int) (st k : Int) (E F row : List (Int × Int)) : Prop where
  ok : OkV V st F
  hold : holdsB V F k = true
  off : nbr F st = []
  sr : Row st row E F
  rng : ∀ p ∈ row, p.1 ≤ p.2 ∧ p.1 ∈ V ∧ p.2 ∈ V
  len : 2 * row.length = (nbr E st).length
/-- the loop of splitting off: the first end with one behind it -/
theorem split_loop {V : List Int} {st k : Int} (k2 : 2 ≤ k) {c : List (Int × Int) × List (Int × Int) × List Int → Option Bool} {cb : List (Int × Int) × List (Int × Int) × List Int → Option (List (Int × Int) × List (Int × Int) × List Int)} {M : Nat}
    (hc : ∀ E row, c (E, row, nbr E st) = some !decide (nbr E st = []))
    (hb : ∀ E row a rest v, OkV V st E → E.length ≤ M → row.length ≤ M → nbr E st = a :: rest → rest.find? (fun v => holdsB V (spl E st a v) k) = some v → cb (E, row, nbr E st) = some (spl E st a v, row ++ [tie a v], nbr (spl E st a v) st)) :
    ∀ (m : Nat) (E row : List (Int × Int)), (nbr E st).length ≤ m → OkV V st E → holdsB V E k = true → (nbr E st).length % 2 = 0 → E.length ≤ M → 2 * row.length + (nbr E st).length ≤ M → ∃ j F row', whK c cb j (E, row, nbr E st) = some (F, row ++ row', []) ∧ Split V st k E F row' ∧ F.length ≤ E.length
  | m, E, row, hm, ok, hold, ev, hM, hr => by
    cases q : nbr E st with
    | nil =>
      refine ⟨1, E, [], ?_, ⟨ok, hold, q, Row.nil st E, (fun p hp => nomatch hp), by rw [q]; rfl⟩, Nat.le_refl _⟩
      have h := hc E row
      rw [q] at h
      unfold whK
      rw [h, List.append_nil]
      rfl
    | cons a rest =>
      obtain ⟨v0, hv0, hh0⟩ := step_split ok hold k2 ev q
      cases f : rest.find? (fun v => holdsB V (spl E st a v) k) with
      | none =>
        have := List.find?_eq_none.mp f v0 hv0
        rw [hh0] at this
        exact absurd rfl this
      | some v =>
        have hv : v ∈ rest := List.mem_of_find?_eq_some f
        have hh : holdsB V (spl E st a v) k = true := by simpa using List.find?_some f
        obtain ⟨⟨R, hp⟩, ha, hvV⟩ := pair_perm ok q hv
        have ok' := spl_ok ok hp ha hvV
        have nb := spl_nbr ok hp ha hvV
        have len' : (spl E st a v).length ≤ E.length := by
          have l1 := (spl_perm hp).length_eq
          have l2 := hp.length_eq
          rw [List.length_append] at l1
          rw [List.length_cons, List.length_cons] at l2
          have : (if a = v then [] else [tie a v] : List (Int × Int)).length ≤ 1 := by split <;> simp
          omega
        match m, hm with
        | 0, hm => rw [q] at hm; simp at hm
        | m + 1, hm =>
          obtain ⟨j, F, row', w1, w2, w3⟩ := split_loop k2 hc hb m (spl E st a v) (row ++ [tie a v]) (by omega) ok' hh (by omega) (by omega) (by rw [List.length_append, List.length_singleton]; omega)
          refine ⟨j + 1, F, tie a v :: row', ?_, ⟨w2.ok, w2.hold, w2.off, Row.cons (fun z => ok.ns (z ▸ ha)) (fun z => ok.ns (z ▸ hvV)) hp w2.sr, fun p hp => ?_, ?_⟩, by omega⟩
          · have h := hc E row
            have h2 := hb E row a rest v ok hM (by omega) q f
            rw [q] at h h2
            unfold whK
            rw [h]
            show (bnd (cb (E, row, a :: rest)) fun b' => whK c cb j b') = _
            rw [h2, o_bnd, w1, List.append_assoc]
            rfl
          · rcases List.mem_cons.mp hp with z | z
            · rw [z]
              unfold tie
              refine ⟨by show min a v ≤ max a v; omega, ?_, ?_⟩
              · show min a v ∈ V
                rcases Int.le_total a v with h | h
                · rw [Int.min_eq_left h]; exact ha
                · rw [Int.min_eq_right h]; exact hvV
              · show max a v ∈ V
                rcases Int.le_total a v with h | h
                · rw [Int.max_eq_right h]; exact hvV
                · rw [Int.max_eq_left h]; exact ha
            · exact w2.rng p z
          · have := w2.len
            rw [List.length_cons]
            omega
end Sp
end
set_option linter.all false
set_option autoImplicit false
set_option maxRecDepth 100000
set_option maxHeartbeats 1000000
noncomputable section
namespace Sp
open PySem PySem.Spec PyProof.Rows L2 Pd Td PM K70 Nt
/-- links of a row of stations -/
structure OkS (S : List Int) (E : List (Int × Int)) : Prop where
  nd : S.Nodup
  ok : ∀ e ∈ E, e.1 < e.2 ∧ e.1 ∈ S ∧ e.2 ∈ S
theorem OkS.perm {S : List Int} {E F : List (Int × Int)} (h : OkS S E) (p : E.Perm F) : OkS S F := ⟨h.nd, fun e he => h.ok e (p.mem_iff.mpr he)⟩
theorem OkS.beside {S : List Int} {E : List (Int × Int)} (h : OkS S E) (st : Int) : OkV (S.filter fun x => !decide (x = st)) st E := ⟨h.nd.filter _, fun z => by simp at z, fun e he => by
  obtain ⟨a, b, c⟩ := h.ok e he
  refine ⟨a, ?_, ?_⟩
  · by_cases q : e.1 = st
    · exact .inl q
    · exact .inr (List.mem_filter.mpr ⟨b, by simp [q]⟩)
  · by_cases q : e.2 = st
    · exact .inl q
    · exact .inr (List.mem_filter.mpr ⟨c, by simp [q]⟩)⟩
theorem hold_is {S : List Int} {E : List (Int × Int)} {k : Int} : holdsB S E k = true ↔ ∀ l ∈ innL S, k ≤ cutZ E l := by
  unfold holdsB
  rw [List.all_eq_true]
  refine forall_congr' fun l => forall_congr' fun _ => ?_
  rw [Bool.not_eq_true', decide_eq_false_iff_not]
  omega
theorem hold_not {S : List Int} {E : List (Int × Int)} {k : Int} (h : holdsB S E k = false) : ∃ l ∈ innL S, cutZ E l < k := by
  apply Classical.byContradiction
  intro z
  rw [hold_is.mpr fun l hl => by
    apply Classical.byContradiction
    intro w
    exact z ⟨l, hl, by omega⟩] at h
  cases h
theorem hold_perm {S : List Int} {E F : List (Int × Int)} {k : Int} (p : E.Perm F) : holdsB S E k = holdsB S F k := by
  rw [Bool.eq_iff_iff, hold_is, hold_is]
  refine forall_congr' fun l => forall_congr' fun _ => ?_
  rw [cut_perm p]
/-- a lot whose others are told by a test -/
theorem mem_fil {S : List Int} {p : Int → Bool} {x : Int} (h : x ∈ S) : x ∈ S.filter p ↔ p x = true := by
  rw [List.mem_filter]
  exact ⟨fun z => z.2, fun z => ⟨h, z⟩⟩
section
variable {S : List Int} {E : List (Int × Int)} (ok : OkS S E)
include ok
/-- cuts of lots that are told by tests -/
theorem cut_fil (p : Int → Bool) : cutZ E (S.filter p) = (E.map fun e => if p e.1 = p e.2 then (0 : Int) else 1).sum := by
  rw [cut_sum]
  congr 1
  refine List.map_congr_left fun q hq => ?_
  obtain ⟨_, a, b⟩ := ok.ok q hq
  rw [cr_is]
  have : ∀ z, z ∈ S → decide (z ∈ S.filter p) = p z := fun z hz => by
    rw [Bool.eq_iff_iff, decide_eq_true_eq, mem_fil hz]
  rw [this _ a, this _ b]
theorem cut_mem {l : List Int} : cutZ E l = (E.map fun e => if decide (e.1 ∈ l) = decide (e.2 ∈ l) then (0 : Int) else 1).sum := by
  rw [cut_sum]
  congr 1
  exact List.map_congr_left fun q _ => cr_is l q
theorem deg_cut (s : Int) : cutZ E (S.filter fun x => decide (x = s)) = ((E.filter (at_st s)).length : Int) := by
  rw [cut_fil ok]
  have : ∀ F : List (Int × Int), (∀ e ∈ F, e.1 < e.2) → (F.map fun e => if decide (e.1 = s) = decide (e.2 = s) then (0 : Int) else 1).sum = ((F.filter (at_st s)).length : Int) := fun F => by
    induction F with
    | nil => intro _; rfl
    | cons e F ih =>
      intro h
      have i := ih fun x hx => h x (List.mem_cons_of_mem _ hx)
      have lt := h e List.mem_cons_self
      rw [List.map_cons, List.sum_cons, i, List.filter_cons]
      have a : at_st s e = (decide (e.1 = s) || decide (e.2 = s)) := by
        unfold at_st
        rw [Bool.eq_iff_iff, decide_eq_true_eq, Bool.or_eq_true, decide_eq_true_eq, decide_eq_true_eq]
        simp only [List.mem_cons, List.mem_nil_iff, or_false]
        exact ⟨fun z => z.elim (fun z => .inl z.symm) fun z => .inr z.symm, fun z => z.elim (fun z => .inl z.symm) fun z => .inr z.symm⟩
      rw [a]
      by_cases q1 : e.1 = s
      · have q2 : e.2 ≠ s := by omega
        rw [decide_eq_true q1, decide_eq_false q2, if_neg (by decide), if_pos (by decide), List.length_cons]
        omega
      · by_cases q2 : e.2 = s
        · rw [decide_eq_false q1, decide_eq_true q2, if_neg (by decide), if_pos (by decide), List.length_cons]
          omega
        · rw [decide_eq_false q1, decide_eq_false q2, if_pos rfl, if_neg (by decide)]
          omega
  exact this E fun e he => (ok.ok e he).1
/-- no link can be left out: some station has just k -/
theorem lean_is {k : Int} (k1 : 0 < k) (s2 : 2 ≤ S.length) (hold : holdsB S E k = true) (tight : ∀ e ∈ E, holdsB S (E.erase e) k = false) : ∃ s ∈ S, ((E.filter (at_st s)).length : Int) = k := by
  have hh := hold_is.mp hold
  have nd := ok.nd
  -- each link crosses a lot that has just k
  have tl : ∀ e ∈ E, ∃ l ∈ innL S, cutZ E l = k ∧ ¬(decide (e.1 ∈ l) = decide (e.2 ∈ l)) := fun e he => by
    obtain ⟨l, hl, lt⟩ := hold_not (tight e he)
    have a := hh l hl
    have c := cut_perm (List.perm_cons_erase he) l
    rw [cut_cons, cr_is] at c
    refine ⟨l, hl, ?_, fun z => ?_⟩
    · split at c <;> omega
    · rw [if_pos z] at c
      omega
  obtain ⟨s0, s1, sx, hS⟩ : ∃ s0 s1 sx, S = s0 :: s1 :: sx := by
    match S, s2 with
    | s0 :: s1 :: sx, _ => exact ⟨s0, s1, sx, rfl⟩
  have ne01 : s0 ≠ s1 := by
    rw [hS] at nd
    exact fun z => (List.nodup_cons.mp nd).1 (by rw [z]; exact List.mem_cons_self)
  have m0 : s0 ∈ S := by rw [hS]; exact List.mem_cons_self
  have m1 : s1 ∈ S := by rw [hS]; exact List.mem_cons_of_mem _ List.mem_cons_self
  have l0 : S.filter (fun x => decide (x = s0)) ∈ innL S := inn_of ⟨s0, m0, decide_eq_true rfl⟩ ⟨s1, m1, decide_eq_false fun z => ne01 z.symm⟩
  obtain ⟨e0, he0⟩ : ∃ e, e ∈ E := by
    apply Classical.byContradiction
    intro z
    have : E = [] := List.eq_nil_iff_forall_not_mem.mpr fun e he => z ⟨e, he⟩
    have a := hh _ l0
    rw [this] at a
    have : cutZ [] (S.filter fun x => decide (x = s0)) = 0 := rfl
    omega
  let C : List Int → Prop := fun l => l ∈ innL S ∧ cutZ E l = k
  obtain ⟨l, hl, hk, _⟩ := tl e0 he0
  obtain ⟨X, ⟨x1, x2⟩, x3⟩ := least_of C _ l (Nat.le_refl _) ⟨hl, hk⟩
  obtain ⟨iX, ⟨x, hx⟩, ⟨y, y1, y2⟩⟩ := inn_is nd x1
  obtain ⟨p, eX⟩ := allL_form nd (inn_mem.mp x1).1
  have px : ∀ z, z ∈ S → (z ∈ X ↔ p z = true) := fun z hz => by rw [eX, mem_fil hz]
  have dx : ∀ z, z ∈ S → decide (z ∈ X) = p z := fun z hz => by rw [Bool.eq_iff_iff, decide_eq_true_eq, px z hz]
  -- no link is within X
  have noin : ∀ e ∈ E, ¬(e.1 ∈ X ∧ e.2 ∈ X) := fun e he ⟨h1, h2⟩ => by
    obtain ⟨Y, hY, hk, cr⟩ := tl e he
    obtain ⟨_, ea, eb⟩ := ok.ok e he
    obtain ⟨iY, ⟨u, hu⟩, ⟨w, w1, w2⟩⟩ := inn_is nd hY
    have in1 : ∃ z ∈ S, z ∈ X ∧ z ∈ Y := by
      by_cases q : e.1 ∈ Y
      · exact ⟨_, ea, h1, q⟩
      · refine ⟨_, eb, h2, ?_⟩
        apply Classical.byContradiction
        intro q2
        exact cr (by rw [decide_eq_false q, decide_eq_false q2])
    have in2 : ∃ z ∈ S, z ∈ X ∧ z ∉ Y := by
      by_cases q : e.1 ∈ Y
      · refine ⟨_, eb, h2, fun q2 => cr (by rw [decide_eq_true q, decide_eq_true q2])⟩
      · exact ⟨_, ea, h1, q⟩
    obtain ⟨z1, s1', a1, b1⟩ := in1
    obtain ⟨z2, s2', a2, b2⟩ := in2
    have short : ∀ q : Int → Bool, (∀ z, q z = true → z ∈ X) → (∃ z ∈ X, q z = false) → (S.filter q).length < X.length := fun q h1 ⟨z, hz, hq⟩ => by
      have : S.filter q = X.filter q := by
        rw [eX, List.filter_filter]
        refine List.filter_congr fun t ht => ?_
        cases c : q t with
        | false => rfl
        | true => rw [(px t ht).mp (h1 t c)]; rfl
      rw [this]
      exact List.length_filter_lt_length_iff_exists.mpr ⟨z, hz, by simp [hq]⟩
    by_cases all : ∃ z ∈ S, z ∉ X ∧ z ∉ Y
    · obtain ⟨z3, s3, a3, b3⟩ := all
      have c1 := hh _ (inn_of (S := S) (p := fun z => decide (z ∈ X) && decide (z ∈ Y)) ⟨z1, s1', by simp [a1, b1]⟩ ⟨z2, s2', by simp [b2]⟩)
      have c2 := hh _ (inn_of (S := S) (p := fun z => decide (z ∈ X) || decide (z ∈ Y)) ⟨z1, s1', by simp [a1]⟩ ⟨z3, s3, by simp [a3, b3]⟩)
      have sub : cutZ E (S.filter fun z => decide (z ∈ X) && decide (z ∈ Y)) + cutZ E (S.filter fun z => decide (z ∈ X) || decide (z ∈ Y)) ≤ cutZ E X + cutZ E Y := by
        rw [cut_fil ok, cut_fil ok, cut_mem ok (l := X), cut_mem ok (l := Y), ← sum_add, ← sum_add]
        refine sum_le fun e _ => ?_
        cases decide (e.1 ∈ X) <;> cases decide (e.2 ∈ X) <;> cases decide (e.1 ∈ Y) <;> cases decide (e.2 ∈ Y) <;> decide
      have := x3 _ ⟨inn_of (S := S) (p := fun z => decide (z ∈ X) && decide (z ∈ Y)) ⟨z1, s1', by simp [a1, b1]⟩ ⟨z2, s2', by simp [b2]⟩, by omega⟩
      have := short (fun z => decide (z ∈ X) && decide (z ∈ Y)) (fun z hz => by simp at hz; exact hz.1) ⟨z2, a2, by simp [b2]⟩
      omega
    · have cY : cutZ E (S.filter fun z => !decide (z ∈ Y)) = cutZ E Y := by
        rw [cut_fil ok, cut_mem ok (l := Y)]
        congr 1
        refine List.map_congr_left fun e _ => ?_
        cases decide (e.1 ∈ Y) <;> cases decide (e.2 ∈ Y) <;> rfl
      have := x3 _ ⟨inn_of (S := S) (p := fun z => !decide (z ∈ Y)) ⟨z2, s2', by simp [b2]⟩ ⟨z1, s1', by simp [b1]⟩, by omega⟩
      have len : (S.filter fun z => !decide (z ∈ Y)).length < X.length := by
        have e2 : S.filter (fun z => !decide (z ∈ Y)) = X.filter fun z => !decide (z ∈ Y) := by
          rw [eX, List.filter_filter]
          refine List.filter_congr fun t ht => ?_
          by_cases c : t ∈ Y
          · simp [c]
          · have : t ∈ X := by
              apply Classical.byContradiction
              intro q
              exact all ⟨t, ht, q, c⟩
            rw [(px t ht).mp this]
            simp [c]
        rw [e2]
        exact List.length_filter_lt_length_iff_exists.mpr ⟨z1, a1, by simp [b1]⟩
      omega
  -- X has one station alone
  refine ⟨x, iX x hx, ?_⟩
  have one : ∀ z ∈ X, z = x := fun z hz => by
    apply Classical.byContradiction
    intro ne
    have cx := hh _ (inn_of (S := S) (p := fun t => decide (t = x)) ⟨x, iX x hx, decide_eq_true rfl⟩ ⟨z, iX z hz, decide_eq_false ne⟩)
    have cz := hh _ (inn_of (S := S) (p := fun t => decide (t = z)) ⟨z, iX z hz, decide_eq_true rfl⟩ ⟨x, iX x hx, decide_eq_false fun q => ne q.symm⟩)
    have : cutZ E (S.filter fun t => decide (t = x)) + cutZ E (S.filter fun t => decide (t = z)) ≤ cutZ E X := by
      rw [cut_fil ok, cut_fil ok, cut_mem ok (l := X), ← sum_add]
      refine sum_le fun e he => ?_
      obtain ⟨lt, _, _⟩ := ok.ok e he
      have ni := noin e he
      by_cases q1 : e.1 = x
      · have q1' : e.1 ≠ z := fun w => ne (w.symm.trans q1)
        have e1 : e.1 ∈ X := by rw [q1]; exact hx
        have e2 : e.2 ∉ X := fun w => ni ⟨e1, w⟩
        have q2 : e.2 ≠ x := fun w => e2 (by rw [w]; exact hx)
        have q2' : e.2 ≠ z := fun w => e2 (by rw [w]; exact hz)
        simp [q1, q1', e1, e2, q2, q2', hx, show ¬x = z from fun w => ne w.symm]
      · by_cases q1' : e.1 = z
        · have e1 : e.1 ∈ X := by rw [q1']; exact hz
          have e2 : e.2 ∉ X := fun w => ni ⟨e1, w⟩
          have q2 : e.2 ≠ x := fun w => e2 (by rw [w]; exact hx)
          have q2' : e.2 ≠ z := fun w => e2 (by rw [w]; exact hz)
          simp [q1, q1', e1, e2, q2, q2', hz, ne]
        · by_cases q2 : e.2 = x
          · have e2 : e.2 ∈ X := by rw [q2]; exact hx
            have e1 : e.1 ∉ X := fun w => ni ⟨w, e2⟩
            simp [q1, q1', e1, e2, q2, hx, show ¬x = z from fun w => ne w.symm]
          · by_cases q2' : e.2 = z
            · have e2 : e.2 ∈ X := by rw [q2']; exact hz
              have e1 : e.1 ∉ X := fun w => ni ⟨w, e2⟩
              simp [q1, q1', e1, e2, q2, q2', hz, ne]
            · simp [q1, q1', q2, q2']
              split <;> omega
    omega
  rw [← deg_cut ok, ← x2, cut_fil ok, cut_mem ok (l := X)]
  congr 1
  refine List.map_congr_left fun e he => ?_
  obtain ⟨_, ea, eb⟩ := ok.ok e he
  have t : ∀ z, decide (z = x) = decide (z ∈ X) := fun z => decide_eq_decide.mpr ⟨fun w => by rw [w]; exact hx, one z⟩
  rw [t, t]
end
/-- what is left of a row of links, kept or not yet tried, and what is left out -/
structure Prune (S : List Int) (k : Int) (E F D rest : List (Int × Int)) : Prop where
  all : E.Perm (F ++ D)
  hold : holdsB S F k = true
  tr : ∃ K, F.Perm (K ++ rest) ∧ ∀ e ∈ K, holdsB S (F.erase e) k = false
theorem Prune.start {S : List Int} {k : Int} {E : List (Int × Int)} (h : holdsB S E k = true) : Prune S k E E [] E := ⟨by rw [List.append_nil], h, [], by rw [List.nil_append], fun e he => nomatch he⟩
section
variable {S : List Int} {k : Int} {E F D rest : List (Int × Int)} {e : Int × Int}
theorem Prune.mem (h : Prune S k E F D (e :: rest)) : e ∈ F := by
  obtain ⟨K, p, _⟩ := h.tr
  exact p.mem_iff.mpr (List.mem_append.mpr (.inr List.mem_cons_self))
theorem Prune.keep (h : Prune S k E F D (e :: rest)) (c : holdsB S (F.erase e) k = false) : Prune S k E F D rest := by
  obtain ⟨K, p, t⟩ := h.tr
  refine ⟨h.all, h.hold, K ++ [e], p.trans (by rw [List.append_assoc]; exact List.Perm.refl _), fun x hx => ?_⟩
  rcases List.mem_append.mp hx with z | z
  · exact t x z
  · rw [List.mem_singleton.mp z]
    exact c
theorem Prune.drop (h : Prune S k E F D (e :: rest)) (c : holdsB S (F.erase e) k = true) {G : List (Int × Int)} (hG : G.Perm (F.erase e)) : Prune S k E G (D ++ [e]) rest := by
  obtain ⟨K, p, t⟩ := h.tr
  have m := h.mem
  have pe := List.perm_cons_erase m
  have cG := fun x => List.perm_iff_count.mp hG x
  have cE := fun x => List.perm_iff_count.mp pe x
  refine ⟨h.all.trans (List.perm_iff_count.mpr fun x => ?_), by rw [hold_perm hG]; exact c, K, List.perm_iff_count.mpr fun x => ?_, fun x hx => ?_⟩
  · have := cG x
    have := cE x
    simp only [List.count_append, List.count_cons, List.count_nil] at *
    omega
  · have := cG x
    have := cE x
    have := List.perm_iff_count.mp p x
    simp only [List.count_append, List.count_cons, List.count_nil] at *
    omega
  · have xF : x ∈ F := p.mem_iff.mpr (List.mem_append.mpr (.inl hx))
    have old := t x hx
    obtain ⟨l, hl, lt⟩ := hold_not old
    cases q : holdsB S (G.erase x) k with
    | false => rfl
    | true =>
      have a := hold_is.mp q l hl
      have xG : x ∈ G := by
        apply Classical.byContradiction
        intro z
        -- x was kept and is not left out: it is in K, and so in what is left
        have cx := List.perm_iff_count.mp p x
        have := cG x
        have := cE x
        have n0 := List.count_eq_zero.mpr z
        have k1 := List.count_pos_iff.mpr hx
        simp only [List.count_append, List.count_cons, List.count_nil] at *
        omega
      have c1 := cut_perm (List.perm_cons_erase xF) l
      have c2 := cut_perm (List.perm_cons_erase xG) l
      have c3 := cut_perm pe l
      have c4 := cut_perm hG l
      rw [cut_cons] at c1 c2 c3
      have : 0 ≤ cr l e := by
        unfold cr
        split <;> decide
      omega
theorem Prune.tight (h : Prune S k E F D []) : ∀ e ∈ F, holdsB S (F.erase e) k = false := fun e he => by
  obtain ⟨K, p, t⟩ := h.tr
  rw [List.append_nil] at p
  exact t e (p.mem_iff.mp he)
end
end Sp
end
set_option linter.all false
set_option autoImplicit false
set_option maxRecDepth 100000
set_option maxHeartbeats 1000000
noncomputable section
namespace Sp
open PySem PySem.Spec PyProof.Rows L2 Pd Td PM K70 Nt
inductive Stp where
  | lk (e : Int × Int)
  | pn (row : List (Int × Int))
/-- a net is taken down to a station: the stations taken away, the steps, both in the order of being taken -/
inductive Bt (k : Nat) : List Int → List (Int × Int) → Int → List Int → List Stp → Prop
  | one {s0 : Int} : Bt k [s0] [] s0 [] []
  | more {S : List Int} {E F D G row : List (Int × Int)} {st s0 : Int} {O : List Int} {T : List Stp} (ok : OkS S E) (hs : st ∈ S) (all : E.Perm (F ++ D)) (sp : Split (S.filter fun x => !decide (x = st)) st (2 * k) F G row) (rl : row.length = k)
      (b : Bt k (S.filter fun x => !decide (x = st)) G s0 O T) : Bt k S E s0 (st :: O) (D.map .lk ++ .pn row :: T)
theorem Bt.base {k : Nat} {S : List Int} {E : List (Int × Int)} {s0 : Int} {O : List Int} {T : List Stp} (h : Bt k S E s0 O T) : S.Nodup ∧ (∀ x, x ∈ S ↔ x = s0 ∨ x ∈ O) ∧ O.length + 1 = S.length ∧ (s0 :: O).Nodup := by
  induction h with
  | one => exact ⟨by simp, fun x => by simp, rfl, by simp⟩
  | @more S E F D G row st s0 O T ok hs all sp rl b ih =>
    obtain ⟨i1, i2, i3, i4⟩ := ih
    have no : st ∉ S.filter fun x => !decide (x = st) := fun z => by simp at z
    refine ⟨ok.nd, fun x => ?_, ?_, ?_⟩
    · have := i2 x
      rw [List.mem_filter] at this
      by_cases c : x = st
      · subst c
        exact ⟨fun _ => .inr List.mem_cons_self, fun _ => hs⟩
      · constructor
        · intro h
          exact (this.mp ⟨h, by simp [c]⟩).imp id fun z => List.mem_cons_of_mem _ z
        · rintro (z | z)
          · exact (this.mpr (.inl z)).1
          · rcases List.mem_cons.mp z with z | z
            · exact absurd z c
            · exact (this.mpr (.inr z)).1
    · have : (S.filter fun x => !decide (x = st)).length + 1 = S.length := by
        have p : S.Perm (st :: S.filter fun x => !decide (x = st)) := (List.perm_ext_iff_of_nodup ok.nd (List.nodup_cons.mpr ⟨no, ok.nd.filter _⟩)).mpr fun x => by
          rw [List.mem_cons, List.mem_filter]
          by_cases c : x = st
          · simp [c, hs]
          · simp [c]
        have := p.length_eq
        rw [List.length_cons] at this
        omega
      rw [List.length_cons]
      omega
    · have z1 : st ≠ s0 := fun z => no ((i2 st).mpr (.inl z))
      have z2 : st ∉ O := fun z => no ((i2 st).mpr (.inr z))
      rw [List.nodup_cons] at i4 ⊢
      refine ⟨fun z => ?_, List.nodup_cons.mpr ⟨z2, i4.2⟩⟩
      rcases List.mem_cons.mp z with w | w
      · exact z1 w.symm
      · exact i4.1 w
def ou (l : List Int) (p : Int × Int) : Int := if decide (p.1 ∈ l) = true ∧ decide (p.2 ∈ l) = false then 1 else 0
def outs (D : List (Int × Int)) (l : List Int) : Int := (D.map (ou l)).sum
def und (D : List (Int × Int)) : List (Int × Int) := D.map fun p => tie p.1 p.2
theorem outs_app (D E : List (Int × Int)) (l : List Int) : outs (D ++ E) l = outs D l + outs E l := by
  unfold outs
  rw [List.map_append, List.sum_append]
theorem outs_perm {D E : List (Int × Int)} (h : D.Perm E) (l : List Int) : outs D l = outs E l := by
  have key : ∀ {A B : List Int}, A.Perm B → A.sum = B.sum := fun h => by
    induction h with
    | nil => rfl
    | cons x _ ih => rw [List.sum_cons, List.sum_cons, ih]
    | swap x y l => rw [List.sum_cons, List.sum_cons, List.sum_cons, List.sum_cons]; omega
    | trans _ _ h1 h2 => rw [h1, h2]
  exact key (h.map (ou l))
theorem outs_pos (D : List (Int × Int)) (l : List Int) : 0 ≤ outs D l := by
  unfold outs
  induction D with
  | nil => exact Int.le_refl _
  | cons p D ih =>
    rw [List.map_cons, List.sum_cons]
    have : 0 ≤ ou l p := by unfold ou; split <;> decide
    omega
/-- arrows among a row of stations that lead by k -/
structure Leads (S : List Int) (k : Int) (D : List (Int × Int)) : Prop where
  rng : ∀ p ∈ D, p.1 ∈ S ∧ p.2 ∈ S
  out : ∀ l : List Int, (∃ x ∈ S, x ∈ l) → (∃ x ∈ S, x ∉ l) → k ≤ outs D l
/-- an arrow pinched, or a station tied twice -/
def pinA (z : Int) (D : List (Int × Int)) (p : Int × Int) : List (Int × Int) :=
  if p.1 = p.2 then D ++ [(p.1, z), (z, p.1)] else rm (if p ∈ D then p else (p.2, p.1)) D ++ [((if p ∈ D then p else (p.2, p.1)).1, z), (z, (if p ∈ D then p else (p.2, p.1)).2)]
theorem und_mem {D : List (Int × Int)} {p : Int × Int} (lt : p.1 < p.2) (h : p ∈ und D) : (if p ∈ D then p else (p.2, p.1)) ∈ D := by
  split
  · assumption
  · rename_i no
    obtain ⟨q, hq, e⟩ := List.mem_map.mp h
    rcases tie_or (a := q.1) (b := q.2) with ⟨x, y⟩ | ⟨x, y⟩
    · rw [e] at x y
      exact absurd (show p ∈ D by rw [show p = q from Prod.ext x y]; exact hq) no
    · rw [e] at x y
      rw [x, y]
      exact hq
theorem tie_same {p : Int × Int} (lt : p.1 < p.2) : tie p.1 p.2 = p := by
  unfold tie
  rw [Int.min_eq_left (by omega), Int.max_eq_right (by omega)]
theorem tie_comm (a b : Int) : tie a b = tie b a := by
  unfold tie
  rw [Int.min_comm, Int.max_comm]
/-- what is known of the arrow that a pair tells -/
theorem one_is {D : List (Int × Int)} {p : Int × Int} (lt : p.1 < p.2) (h : p ∈ und D) : ∃ q D', D.Perm (q :: D') ∧ rm (if p ∈ D then p else (p.2, p.1)) D = D.erase q ∧ (D.erase q).Perm D' ∧ (if p ∈ D then p else (p.2, p.1)) = q ∧ tie q.1 q.2 = p ∧ (q = p ∨ q = (p.2, p.1)) := by
  have m := und_mem lt h
  refine ⟨if p ∈ D then p else (p.2, p.1), D.erase (if p ∈ D then p else (p.2, p.1)), List.perm_cons_erase m, rm_erase _ _ m, List.Perm.refl _, rfl, ?_, ?_⟩
  · split
    · exact tie_same lt
    · show tie p.2 p.1 = p
      rw [tie_comm]
      exact tie_same lt
  · split
    · exact .inl rfl
    · exact .inr rfl
section
variable {S : List Int} {z : Int}
/-- the links of pinched arrows -/
theorem pin_und {D R : List (Int × Int)} {p : Int × Int} (le : p.1 ≤ p.2) (h : (und D).Perm (R ++ rowE [p])) : (und (pinA z D p)).Perm (R ++ rowT z [p]) := by
  unfold pinA
  have rT : rowT z [p] = [tie z p.1, tie z p.2] := rfl
  by_cases c : p.1 = p.2
  · rw [if_pos c]
    have e : rowE [p] = [] := by unfold rowE; rw [List.filter_cons, if_neg (by simp [c])]; rfl
    rw [e, List.append_nil] at h
    unfold und at h ⊢
    rw [List.map_append, rT]
    refine (h.append_right _).trans ?_
    show (R ++ [tie p.1 z, tie z p.1]).Perm (R ++ [tie z p.1, tie z p.2])
    rw [tie_comm p.1 z, ← c]
  · have lt : p.1 < p.2 := by omega
    have e : rowE [p] = [p] := by unfold rowE; rw [List.filter_cons, if_pos (by simp [c])]; rfl
    rw [e] at h
    have m : p ∈ und D := h.mem_iff.mpr (List.mem_append.mpr (.inr List.mem_cons_self))
    obtain ⟨q, D', d1, d2, d3, d4, d5, d6⟩ := one_is lt m
    rw [if_neg c, d2, d4, rT]
    have u1 : (und D).Perm (p :: und D') := by
      have := d1.map fun p => tie p.1 p.2
      rw [List.map_cons, d5] at this
      exact this
    have u2 : (und D').Perm R := by
      have a := fun x => List.perm_iff_count.mp u1 x
      have b := fun x => List.perm_iff_count.mp h x
      refine List.perm_iff_count.mpr fun x => ?_
      have := a x
      have := b x
      simp only [List.count_append, List.count_cons, List.count_nil] at *
      omega
    unfold und at u2 ⊢
    rw [List.map_append]
    refine (((d3.map _).trans u2).append_right _).trans ?_
    show (R ++ [tie q.1 z, tie z q.2]).Perm (R ++ [tie z p.1, tie z p.2])
    rcases d6 with w | w
    · rw [w, tie_comm p.1 z]
    · rw [w, tie_comm _ z]
      exact (List.Perm.swap _ _ _).append_left _
def incl (S : List Int) (z : Int) (l : List Int) : Prop := (z ∈ l ∧ ∀ x ∈ S, x ∉ l) ∨ z ∉ l ∧ ∀ x ∈ S, x ∈ l
theorem pin_out {D : List (Int × Int)} {p : Int × Int} (le : p.1 ≤ p.2) (s1 : p.1 ∈ S) (s2 : p.2 ∈ S) (h : p.1 = p.2 ∨ p ∈ und D) (l : List Int) {d : Int} (hd : d = 0 ∨ d = 1 ∧ incl S z l) : outs D l + d ≤ outs (pinA z D p) l := by
  unfold pinA
  by_cases c : p.1 = p.2
  · rw [if_pos c, outs_app]
    show _ ≤ outs D l + (ou l (p.1, z) + (ou l (z, p.1) + 0))
    have a : 0 ≤ ou l (p.1, z) := by unfold ou; split <;> decide
    have b : 0 ≤ ou l (z, p.1) := by unfold ou; split <;> decide
    rcases hd with hd | ⟨hd, i⟩
    · omega
    · rcases i with ⟨i1, i2⟩ | ⟨i1, i2⟩
      · have : ou l (z, p.1) = 1 := by unfold ou; rw [if_pos ⟨decide_eq_true i1, decide_eq_false (i2 _ s1)⟩]
        omega
      · have : ou l (p.1, z) = 1 := by unfold ou; rw [if_pos ⟨decide_eq_true (i2 _ s1), decide_eq_false i1⟩]
        omega
  · obtain ⟨q, D', d1, d2, d3, d4, d5, d6⟩ := one_is (by omega) (h.resolve_left c)
    rw [if_neg c, d2, d4, outs_app, outs_perm d1, outs_perm d3]
    show (ou l q + outs D' l) + d ≤ outs D' l + (ou l (q.1, z) + (ou l (z, q.2) + 0))
    have q1 : q.1 ∈ S := by rcases d6 with w | w <;> (rw [w]; assumption)
    have q2 : q.2 ∈ S := by rcases d6 with w | w <;> (rw [w]; assumption)
    unfold ou
    rcases hd with hd | ⟨hd, i⟩
    · subst hd
      cases decide (q.1 ∈ l) <;> cases decide (q.2 ∈ l) <;> cases decide (z ∈ l) <;> simp <;> omega
    · subst hd
      rcases i with ⟨i1, i2⟩ | ⟨i1, i2⟩
      · simp [i1, i2 _ q1, i2 _ q2]
        try omega
      · simp [i1, i2 _ q1, i2 _ q2]
        try omega
theorem pin_rng {D : List (Int × Int)} {p : Int × Int} (hD : ∀ q ∈ D, q.1 ∈ z :: S ∧ q.2 ∈ z :: S) (s1 : p.1 ∈ S) (s2 : p.2 ∈ S) : ∀ q ∈ pinA z D p, q.1 ∈ z :: S ∧ q.2 ∈ z :: S := fun q hq => by
  unfold pinA at hq
  have t1 := List.mem_cons_of_mem z s1
  have t2 := List.mem_cons_of_mem z s2
  have tz : z ∈ z :: S := List.mem_cons_self
  split at hq
  · rcases List.mem_append.mp hq with w | w
    · exact hD q w
    · simp only [List.mem_cons, List.not_mem_nil, or_false] at w
      rcases w with rfl | rfl
      · exact ⟨t1, tz⟩
      · exact ⟨tz, t1⟩
  · rcases List.mem_append.mp hq with w | w
    · unfold rm at w
      exact hD q (List.mem_of_mem_eraseIdx w)
    · simp only [List.mem_cons, List.not_mem_nil, or_false] at w
      have f1 : (if p ∈ D then p else (p.2, p.1)).1 ∈ z :: S := by split <;> assumption
      have f2 : (if p ∈ D then p else (p.2, p.1)).2 ∈ z :: S := by split <;> assumption
      rcases w with rfl | rfl
      · exact ⟨f1, tz⟩
      · exact ⟨tz, f2⟩
/-- all pairs of a row -/
theorem pins {row : List (Int × Int)} : ∀ {D R : List (Int × Int)}, (∀ p ∈ row, p.1 ≤ p.2 ∧ p.1 ∈ S ∧ p.2 ∈ S) → (∀ q ∈ D, q.1 ∈ z :: S ∧ q.2 ∈ z :: S) → (und D).Perm (R ++ rowE row) →
    (und (row.foldl (pinA z) D)).Perm (R ++ rowT z row) ∧ (∀ q ∈ row.foldl (pinA z) D, q.1 ∈ z :: S ∧ q.2 ∈ z :: S) ∧ ∀ l d, (d = 0 ∨ d = 1 ∧ incl S z l) → outs D l + d * row.length ≤ outs (row.foldl (pinA z) D) l := by
  induction row with
  | nil =>
    intro D R _ hD h
    exact ⟨h, hD, fun l d _ => by show outs D l + d * (0 : Nat) ≤ outs D l; simp⟩
  | cons p row ih =>
    intro D R hr hD h
    obtain ⟨p1, p2, p3⟩ := hr p List.mem_cons_self
    have e1 : rowE (p :: row) = rowE [p] ++ rowE row := by
      unfold rowE
      rw [show p :: row = [p] ++ row from rfl, List.filter_append]
    have e2 : rowT z (p :: row) = rowT z [p] ++ rowT z row := by
      unfold rowT
      rw [show p :: row = [p] ++ row from rfl, List.flatMap_append]
    rw [e1] at h
    have h' : (und D).Perm ((R ++ rowE row) ++ rowE [p]) := h.trans (List.perm_iff_count.mpr fun x => by simp only [List.count_append]; omega)
    have u := pin_und (z := z) p1 h'
    obtain ⟨i1, i2, i3⟩ := ih (D := pinA z D p) (R := R ++ rowT z [p]) (fun q hq => hr q (List.mem_cons_of_mem _ hq)) (pin_rng hD p2 p3) (u.trans (List.perm_iff_count.mpr fun x => by simp only [List.count_append]; omega))
    rw [List.foldl_cons, e2]
    refine ⟨i1.trans (List.perm_iff_count.mpr fun x => by simp only [List.count_append]; omega), i2, fun l d hd => ?_⟩
    have o := pin_out (D := D) (z := z) p1 p2 p3 (by
      by_cases c : p.1 = p.2
      · exact .inl c
      · refine .inr (h'.mem_iff.mpr (List.mem_append.mpr (.inr ?_)))
        unfold rowE
        rw [List.filter_cons, if_pos (by simp [c])]
        exact List.mem_cons_self) l hd
    have := i3 l d hd
    rw [List.length_cons]
    rcases hd with rfl | ⟨rfl, _⟩ <;> simp at * <;> omega
end
/-- a pinch keeps arrows leading -/
theorem pin_leads {S V : List Int} {st : Int} {k : Nat} {D E F row R : List (Int × Int)} (hm : ∀ x, x ∈ S ↔ x = st ∨ x ∈ V) (ns : st ∉ V) (L : Leads V k D) (hr : ∀ p ∈ row, p.1 ≤ p.2 ∧ p.1 ∈ V ∧ p.2 ∈ V) (rl : row.length = k) (ne : V ≠ [])
    (r1 : E.Perm (R ++ rowT st row)) (r2 : F.Perm (R ++ rowE row)) (u : (und D).Perm F) : (und (row.foldl (pinA st) D)).Perm E ∧ Leads S k (row.foldl (pinA st) D) := by
  obtain ⟨p1, p2, p3⟩ := pins (S := V) (z := st) (R := R) hr (fun q hq => ⟨List.mem_cons_of_mem _ (L.rng q hq).1, List.mem_cons_of_mem _ (L.rng q hq).2⟩) (u.trans r2)
  refine ⟨p1.trans r1.symm, ⟨fun q hq => ⟨(hm _).mpr (List.mem_cons.mp (p2 q hq).1), (hm _).mpr (List.mem_cons.mp (p2 q hq).2)⟩, fun l ⟨x, x1, x2⟩ ⟨y, y1, y2⟩ => ?_⟩⟩
  by_cases a : ∃ w ∈ V, w ∈ l
  · by_cases b : ∃ w ∈ V, w ∉ l
    · have := L.out l a b
      have := p3 l 0 (.inl rfl)
      omega
    · have all : ∀ w ∈ V, w ∈ l := fun w hw => Classical.byContradiction fun z => b ⟨w, hw, z⟩
      have no : st ∉ l := fun z => by
        rcases (hm y).mp y1 with e | e
        · exact y2 (by rw [e]; exact z)
        · exact y2 (all y e)
      have := p3 l 1 (.inr ⟨rfl, .inr ⟨no, all⟩⟩)
      have := outs_pos D l
      omega
  · have all : ∀ w ∈ V, w ∉ l := fun w hw z => a ⟨w, hw, z⟩
    have inn : st ∈ l := by
      rcases (hm x).mp x1 with e | e
      · rw [← e]; exact x2
      · exact absurd x2 (all x e)
    have := p3 l 1 (.inr ⟨rfl, .inl ⟨inn, all⟩⟩)
    have := outs_pos D l
    omega
def tstep (order : List Int) (s : List (Int × Int) × Int) : Stp → List (Int × Int) × Int
  | .lk e => (s.1 ++ [e], s.2)
  | .pn row => (row.foldl (pinA (order.getD s.2.toNat 0)) s.1, s.2 + 1)
theorem lks (order : List Int) : ∀ (D : List (Int × Int)) (s : List (Int × Int) × Int), (D.map Stp.lk).foldl (tstep order) s = (s.1 ++ D, s.2)
  | [], s => by rw [List.append_nil]; rfl
  | e :: D, s => by
    rw [List.map_cons, List.foldl_cons, lks order D]
    show (s.1 ++ [e] ++ D, s.2) = _
    rw [List.append_assoc]
    rfl
theorem Bt.turned {k : Nat} {S : List Int} {E : List (Int × Int)} {s0 : Int} {O : List Int} {T : List Stp} (h : Bt k S E s0 O T) : ∀ rest : List Int, ∃ D, T.reverse.foldl (tstep (s0 :: (O.reverse ++ rest))) ([], 1) = (D, (O.length : Int) + 1) ∧ (und D).Perm E ∧ Leads S k D := by
  induction h with
  | one => exact fun rest => ⟨[], rfl, .nil, fun p hp => (nomatch hp), fun l ⟨x, x1, x2⟩ ⟨y, y1, y2⟩ => by
      rw [List.mem_singleton.mp x1] at x2
      rw [List.mem_singleton.mp y1] at y2
      exact absurd x2 y2⟩
  | @more S E F D G row st s0 O T ok hs all sp rl b ih =>
    intro rest
    obtain ⟨A, a1, a2, a3⟩ := ih (st :: rest)
    obtain ⟨b1, b2, b3, b4⟩ := b.base
    obtain ⟨R, r1, r2⟩ := sp.sr
    have ne : S.filter (fun x => !decide (x = st)) ≠ [] := List.ne_nil_of_mem ((b2 s0).mpr (.inl rfl))
    obtain ⟨l1, l2⟩ := pin_leads (S := S) (fun x => by
      rw [List.mem_filter]
      by_cases c : x = st
      · simp [c, hs]
      · simp [c]) sp.ok.ns a3 sp.rng rl ne r1 r2 a2
    refine ⟨row.foldl (pinA st) A ++ D.reverse, ?_, ?_, ?_, ?_⟩
    · rw [List.reverse_append, List.reverse_cons, List.reverse_cons, List.foldl_append, List.foldl_append, List.append_assoc, List.singleton_append, a1, ← List.map_reverse]
      show List.foldl _ (tstep _ (A, (O.length : Int) + 1) (.pn row)) _ = _
      rw [lks]
      show ((row.foldl (pinA ((s0 :: (O.reverse ++ st :: rest)).getD ((O.length : Int) + 1).toNat 0)) A) ++ D.reverse, (O.length : Int) + 1 + 1) = _
      have : (s0 :: (O.reverse ++ st :: rest)).getD ((O.length : Int) + 1).toNat 0 = st := by
        rw [show ((O.length : Int) + 1).toNat = O.length + 1 by omega, List.getD_cons_succ, List.getD_eq_getElem?_getD, List.getElem?_append_right (by rw [List.length_reverse]; exact Nat.le_refl _), List.length_reverse, Nat.sub_self]
        rfl
      rw [this, List.length_cons]
      rfl
    · unfold und at l1 ⊢
      rw [List.map_append]
      refine (l1.append (List.Perm.refl _)).trans ?_
      refine List.Perm.trans ?_ all.symm
      refine List.Perm.append_left _ ?_
      have : D.reverse.map (fun p => tie p.1 p.2) = D.reverse := by
        refine (List.map_congr_left fun p hp => ?_).trans (List.map_id _)
        exact tie_same (ok.ok p (all.mem_iff.mpr (List.mem_append.mpr (.inr (List.mem_reverse.mp hp))))).1
      rw [this]
      exact List.reverse_perm _
    · intro p hp
      rcases List.mem_append.mp hp with w | w
      · exact l2.rng p w
      · exact (ok.ok p (all.mem_iff.mpr (List.mem_append.mpr (.inr (List.mem_reverse.mp w))))).2
    · intro l x y
      have := l2.out l x y
      have := outs_pos D.reverse l
      rw [outs_app]
      omega
end Sp
end
set_option linter.all false
set_option maxRecDepth 100000
set_option maxHeartbeats 4000000
noncomputable section
namespace K70
open PySem PySem.Spec PyProof.Rows L2 Pd
section
variable {n : Int} {E : List (Int × Int)} {T : List Int} (td : Td n T) (ok : Ok n E)
include td ok
/-- the smallest lots of two told stations have nothing in common -/
theorem small_apart {t u : Int} (ht : t ∈ T) (hu : u ∈ T) (ne : t ≠ u) {X Y : List Int} (hX : X ∈ leastS n E T t) (hY : Y ∈ leastS n E T u) (minX : ∀ A ∈ leastS n E T t, ∀ x ∈ X, x ∈ A) : ∀ x ∈ X, x ∉ Y := by
  obtain ⟨a1, a2⟩ := leastS_mem.mp hX
  obtain ⟨b1, b2⟩ := leastS_mem.mp hY
  have a5 := (about_iff td.nd ht).mp (abL_mem.mp a1).2
  have b5 := (about_iff td.nd hu).mp (abL_mem.mp b1).2
  have i1 : ((rngL n).filter fun x => decide (x ∈ X) && !decide (x ∈ Y)) ∈ abL n T t := abL_mem.mpr ⟨lots_all n _, (about_iff td.nd ht).mpr fun v hv => by
    simp only [List.mem_filter, rngL_mem, Bool.and_eq_true, decide_eq_true_eq, Bool.not_eq_true', decide_eq_false_iff_not]
    rw [a5 v hv, b5 v hv]
    exact ⟨fun h => h.2.1, fun h => ⟨td.at_ v hv, h, fun w => ne (h.symm.trans w)⟩⟩⟩
  have i2 : ((rngL n).filter fun x => !decide (x ∈ X) && decide (x ∈ Y)) ∈ abL n T u := abL_mem.mpr ⟨lots_all n _, (about_iff td.nd hu).mpr fun v hv => by
    simp only [List.mem_filter, rngL_mem, Bool.and_eq_true, decide_eq_true_eq, Bool.not_eq_true', decide_eq_false_iff_not]
    rw [a5 v hv, b5 v hv]
    exact ⟨fun h => h.2.2, fun h => ⟨td.at_ v hv, fun w => ne (w.symm.trans h), h⟩⟩⟩
  have m1 := least_le (E := E) i1
  have m2 := least_le (E := E) i2
  have l1 : ((rngL n).filter fun x => decide (x ∈ X) && !decide (x ∈ Y)) ∈ leastS n E T t := by
    refine leastS_mem.mpr ⟨i1, ?_⟩
    unfold cutZ at *
    rw [cnt_cut ok X Y X (fun a _ => a) (fun x _ _ => rfl)] at a2
    rw [cnt_cut ok X Y Y (fun _ b => b) (fun x _ _ => rfl)] at b2
    have ci := cnt_cut ok X Y ((rngL n).filter fun x => decide (x ∈ X) && !decide (x ∈ Y)) (fun a b => a && !b) (fun x h1 h2 => by
      rw [Bool.eq_iff_iff, decide_eq_true_eq, List.mem_filter, rngL_mem]
      exact ⟨fun h => h.2, fun h => ⟨⟨h1, h2⟩, h⟩⟩)
    have cu := cnt_cut ok X Y ((rngL n).filter fun x => !decide (x ∈ X) && decide (x ∈ Y)) (fun a b => !a && b) (fun x h1 h2 => by
      rw [Bool.eq_iff_iff, decide_eq_true_eq, List.mem_filter, rngL_mem]
      exact ⟨fun h => h.2, fun h => ⟨⟨h1, h2⟩, h⟩⟩)
    rw [ci] at m1 ⊢
    rw [cu] at m2
    have I2 := cnt4_id X Y (f1 := fun a b c d => a != c) (f2 := fun a b c d => b != d) (f3 := fun a b c d => (a && !b) != (c && !d)) (f4 := fun a b c d => (!a && b) != (!c && d)) (f5 := fun a b c d => ((a == true && b == true) && (c == false && d == false)) || ((a == false && b == false) && (c == true && d == true))) (by decide) E
    omega
  intro x hx hy
  have := minX _ l1 x hx
  rw [List.mem_filter] at this
  simp [hx, hy] at this
end
def degN (E : List (Int × Int)) (v : Int) : Nat := E.countP fun p => decide (v = p.1) || decide (v = p.2)
theorem sum_ind : ∀ (l : List Int) (a b : Int), l.Nodup → a ≠ b → (l.map fun v => (decide (v = a) || decide (v = b)).toNat).sum = (decide (a ∈ l)).toNat + (decide (b ∈ l)).toNat
  | [], a, b, _, _ => by simp
  | x :: l, a, b, nd, ne => by
    obtain ⟨nx, nd'⟩ := List.nodup_cons.mp nd
    have ih := sum_ind l a b nd' ne
    rw [List.map_cons, List.sum_cons, ih]
    by_cases h1 : x = a
    · subst h1
      have h2 : x ≠ b := ne
      simp [nx, h2, Ne.symm h2] <;> omega
    · by_cases h2 : x = b
      · subst h2
        simp [nx, h1, Ne.symm h1] <;> omega
      · simp [h1, h2, Ne.symm h1, Ne.symm h2]
theorem deg_sum (l : List Int) (nd : l.Nodup) : ∀ E : List (Int × Int), (∀ p ∈ E, p.1 ≠ p.2) → (l.map (degN E)).sum = (E.map fun p => (decide (p.1 ∈ l)).toNat + (decide (p.2 ∈ l)).toNat).sum
  | [], _ => by
    have : ∀ m : List Int, (m.map (degN [])).sum = 0 := fun m => by
      induction m with
      | nil => rfl
      | cons a m ih =>
        rw [List.map_cons, List.sum_cons, ih]
        rfl
    rw [this]
    rfl
  | p :: E, h => by
    have ih := deg_sum l nd E fun q hq => h q (List.mem_cons_of_mem _ hq)
    have s := sum_ind l p.1 p.2 nd (h p List.mem_cons_self)
    rw [List.map_cons, List.sum_cons, ← ih, ← s]
    clear ih s nd
    induction l with
    | nil => rfl
    | cons v l ih =>
      simp only [List.map_cons, List.sum_cons, ih]
      have : degN (p :: E) v = degN E v + (decide (v = p.1) || decide (v = p.2)).toNat := by
        unfold degN
        rw [List.countP_cons]
        cases (decide (v = p.1) || decide (v = p.2)) <;> rfl
      rw [this]
      omega
theorem even_out {f : Int → Nat} (p : Int → Bool) : ∀ l : List Int, (∀ v ∈ l, p v = false → f v % 2 = 0) → (l.map f).sum % 2 = ((l.filter p).map f).sum % 2
  | [], _ => rfl
  | a :: l, k => by
    have ih := even_out p l fun v hv => k v (List.mem_cons_of_mem _ hv)
    rw [List.map_cons, List.sum_cons]
    cases q : p a with
    | true =>
      rw [List.filter_cons_of_pos q, List.map_cons, List.sum_cons]
      omega
    | false =>
      rw [List.filter_cons_of_neg (by rw [q]; exact Bool.false_ne_true)]
      have := k a List.mem_cons_self q
      omega
/-- beside told stations all even: the sum of the told ones' degrees is even -/
theorem told_even {n : Int} {E : List (Int × Int)} {T : List Int} (td : Td n T) (ok : Ok n E) (h : ∀ p ∈ E, p.1 ≠ p.2) (ev : ∀ v, 0 ≤ v → v < n → v ∉ T → degN E v % 2 = 0) : (T.map (degN E)).sum % 2 = 0 := by
  have all := deg_sum (rngL n) (rngL_nodup n) E h
  have two : (E.map fun p => (decide (p.1 ∈ rngL n)).toNat + (decide (p.2 ∈ rngL n)).toNat).sum = 2 * E.length := by
    clear all h ev
    induction E with
    | nil => rfl
    | cons p E ih =>
      rw [List.map_cons, List.sum_cons, ih ⟨fun q hq => ok.at_ q (List.mem_cons_of_mem _ hq)⟩]
      obtain ⟨h1, h2⟩ := ok.at_ p List.mem_cons_self
      rw [decide_eq_true (rngL_mem.mpr h1), decide_eq_true (rngL_mem.mpr h2), List.length_cons]
      show 1 + 1 + _ = _
      omega
  have e := even_out (f := degN E) (fun v => decide (v ∈ T)) (rngL n) fun v hv hp => by
    have := rngL_mem.mp hv
    exact ev v this.1 this.2 (by simpa using hp)
  have pm : ((rngL n).filter fun v => decide (v ∈ T)).Perm T := (List.perm_ext_iff_of_nodup ((rngL_nodup n).filter _) td.nd).mpr fun v => by
    rw [List.mem_filter, decide_eq_true_eq, rngL_mem]
    exact ⟨fun h => h.2, fun h => ⟨td.at_ v h, h⟩⟩
  have s : (((rngL n).filter fun v => decide (v ∈ T)).map (degN E)).sum = (T.map (degN E)).sum := (pm.map _).sum_nat
  omega
end K70
end
set_option linter.all false
set_option maxRecDepth 100000
set_option maxHeartbeats 0
noncomputable section
namespace K17
open PySem PySem.Spec PyProof.Rows L2 Pd
def top (i : Nat) : Stmt := PySem.Challenge.pw_waysandcuts_k17_whole_cuts_and_holds.main.body.getD i (.Pass ⟨0, 0, 0, 0⟩)
structure Bl (mg : Str → Option Value) : Prop where
  sorted : mg "sorted" = none
  tuple : mg "tuple" = none
  range : mg "range" = none
  len : mg "len" = none
  min : mg "min" = none
  int : mg "int" = none
  list : mg "list" = none
  set : mg "set" = none
  abs : mg "abs" = none
  repr : mg "repr" = none
abbrev st_lots_parting : Stmt := top 2
def m_lots_parting : S → RS := (sSeq (sSet 3 (mLst (mCons (mF (mTup (mCons (mF (mVar 1)) mNil))) mNil)))
  (sSeq (sFor (jRg (mCons (mF (m2 gIx (mPk 0) (mO (mC (.int 0))))) mNil)) (gN 4) (sIf (mB (m2 (gIn true) (mPk 4) (mO (mTup (mCons (mF (mVar 1)) (mCons (mF (mVar 2)) mNil)))))) (sSet 3 (m2 gAdd (mPk 3) (mO (mLc (jSeq (mF (mVar 3))) [5] (gN 5) tYesM (mF (m2 gAdd (mPk 5) (mO (mTup (mCons (mF (mVar 4)) mNil))))))))) sNil))
  (sRet (mLc (jSeq (mF (mVar 3))) [5] (gN 5) tYesM (mF (m1 gTuple (mO (m1 gSorted (mPk 5)))))))))
def g_lots_parting : GFn := gOf 6 m_lots_parting
abbrev st_cut_number : Stmt := top 1
def m_cut_number : S → RS := (sRet (m1 gLen (mO (mLc (jSeq (mF (m2 gIx (mPk 0) (mO (mC (.int 1)))))) [2, 3] (gTp (gCn (gN 2) (gCn (gN 3) gNl))) (mB (m2 gNe (mO (m2 (gIn false) (mPk 2) (mPk 1))) (mO (m2 (gIn false) (mPk 3) (mPk 1))))) (mF (mC (.int 1)))))))
def g_cut_number : GFn := gOf 4 m_cut_number
abbrev st_hold : Stmt := top 3
def m_hold : S → RS := (sRet (m1 gMin (mO (mLc (jSeq (mF (mCall g_lots_parting (xCons (mF (mVar 0)) (xCons (mF (mVar 1)) (xCons (mF (mVar 2)) xNil)))))) [3] (gN 3) tYesM (mF (mCall g_cut_number (xCons (mF (mVar 0)) (xCons (mF (mVar 3)) xNil))))))))
def g_hold : GFn := gOf 4 m_hold
abbrev st_hold_table : Stmt := top 4
def m_hold_table : S → RS := (sSeq (sSet 1 (m2 gIx (mPk 0) (mO (mC (.int 0)))))
  (sRet (m1 gTuple (mO (mLc (jRg (mCons (mF (mVar 1)) mNil)) [2] (gN 2) tYesM (mF (m1 gTuple (mO (mLc (jRg (mCons (mF (mVar 1)) mNil)) [3] (gN 3) tYesM (mF (mIf (mB (m2 gNe (mPk 2) (mPk 3))) (mCall g_hold (xCons (mF (mVar 0)) (xCons (mF (mVar 2)) (xCons (mF (mVar 3)) xNil)))) (mC (.int 0)))))))))))))
def g_hold_table : GFn := gOf 4 m_hold_table
abbrev st_law_pick : Stmt := top 11
def m_law_pick : S → RS := (sSeq (sIf (mB (m2 gLt (mPk 1) (mO (mC (.int 2))))) (sRet (mC (.int 0))) sNil)
  (sSeq (sSet 2 (mCel (mVar 0)))
  (sSeq (sWhile (mAnd (mB (m2 gLt (mO (mGetS Src.left (mVar 0))) (mO (mC (.int 2))))) (mB (m2 gGt (mO (mCelLen (mVar 2))) (mO (mC (.int 0)))))) (sPutS uLeft (mVar 0) (mF (mCelPop (mVar 2)))))
  (sSeq (sSet 3 (mGetS Src.left (mVar 0)))
  (sSeq (sIf (mB (m2 gGt (mPk 3) (mO (mC (.int 1))))) (sSeq (sPutS uLeft (mVar 0) (mF (m2 gDiv (mPk 3) (mPk 1))))
  (sRet (m2 gMod (mO (m1 gInt (mPk 3))) (mPk 1)))) sNil)
  (sSeq (sPutS uTurn (mVar 0) (mF (m2 gAdd (mO (mGetS Src.turn (mVar 0))) (mO (mC (.int 1))))))
  (sSeq (sSet 4 (mGetS Src.turn (mVar 0)))
  (sSeq (sSet 5 (m2 gMod (mO (m1 gInt (mO (m2 gAdd (mO (mGetS Src.mixed (mVar 0))) (mO (m2 gMul (mPk 4) (mO (mC (.int 104729))))))))) (mO (mC (.int 998244353)))))
  (sSeq (sSet 5 (m2 gMod (mO (m1 gInt (mO (m2 gAdd (mO (m2 gMul (mPk 5) (mPk 5))) (mO (m2 gMul (mPk 4) (mO (mC (.int 17))))))))) (mO (mC (.int 2147483647)))))
  (sRet (m2 gMod (mO (m1 gInt (mO (m2 gDiv (mPk 5) (mO (mC (.int 16))))))) (mPk 1))))))))))))
def g_law_pick : GFn := gOf 6 m_law_pick
abbrev st_law_any_order : Stmt := top 12
def m_law_any_order : S → RS := (sSeq (sSet 2 (m1 gList (mPk 1)))
  (sRet (mLc (jRg (mCons (mF (m1 gLen (mPk 2))) mNil)) [3] (gN 3) tYesM (mF (mMut gPopAt 2 (mCons (mF (mCall g_law_pick (xSrc 0 (xCons (mF (m1 gLen (mPk 2))) xNil)))) mNil))))))
def g_law_any_order : GFn := gOf 4 m_law_any_order
abbrev st_table_net : Stmt := top 7
def m_table_net : S → RS := (sSeq (sPar2 1 2 (m1 gLen (mPk 0)) (mLst mNil))
  (sSeq (sSet 3 (mLRg (mRg1 (mVar 1))))
  (sSeq (sSet 4 (m1 gSorted (mO (mLc2 (jRg (mCons (mF (mVar 1)) mNil)) [6, 7] (gN 6) tYesM (jRg2 (mCons (mF (m2 gAdd (mPk 6) (mO (mC (.int 1))))) (mCons (mF (mVar 1)) mNil))) [7] (gN 7) tYesM (mF (mTup (mCons (mF (m2 gSub (mO (mC (.int 0))) (mO (m2 gIx (mO (m2 gIx (mPk 0) (mPk 6))) (mPk 7))))) (mCons (mF (mVar 6)) (mCons (mF (mVar 7)) mNil)))))))))
  (sSeq (sFor (jSeq (mF (mVar 4))) (gTp (gCn (gN 5) (gCn (gN 6) (gCn (gN 7) gNl)))) (sIf (mB (m2 gNe (mO (m2 gIx (mPk 3) (mPk 6))) (mO (m2 gIx (mPk 3) (mPk 7))))) (sSeq (sSet 2 (m2 gAdd (mPk 2) (mO (m2 gMul (mO (mLst (mCons (mF (mTup (mCons (mF (mVar 6)) (mCons (mF (mVar 7)) mNil)))) mNil))) (mO (m2 gIx (mO (m2 gIx (mPk 0) (mPk 6))) (mPk 7)))))))
  (sSet 3 (mLc (jSeq (mF (mVar 3))) [8] (gN 8) tYesM (mF (mIf (mB (m2 gEq (mPk 8) (mO (m2 gIx (mPk 3) (mPk 7))))) (m2 gIx (mPk 3) (mPk 6)) (mVar 8)))))) sNil))
  (sRet (mTup (mCons (mF (mVar 1)) (mCons (mF (m1 gTuple (mO (m1 gSorted (mPk 2))))) mNil))))))))
def g_table_net : GFn := gOf 9 m_table_net
abbrev st_bad_three : Stmt := top 6
def m_bad_three : S → RS := (sSeq (sSet 1 (m1 gLen (mPk 0)))
  (sSeq (sFor (jRg (mCons (mF (mVar 1)) mNil)) (gN 2) (sFor (jRg (mCons (mF (mVar 1)) mNil)) (gN 3) (sFor (jRg (mCons (mF (mVar 1)) mNil)) (gN 4) (sIf (mAnd (mB (m2 gEq (mO (m1 gLenSet (mO (mLst (mCons (mF (mVar 2)) (mCons (mF (mVar 3)) (mCons (mF (mVar 4)) mNil))))))) (mO (mC (.int 3))))) (mB (m2 gLt (mO (m2 gIx (mO (m2 gIx (mPk 0) (mPk 2))) (mPk 4))) (mO (m2 gMin2 (mO (m2 gIx (mO (m2 gIx (mPk 0) (mPk 2))) (mPk 3))) (mO (m2 gIx (mO (m2 gIx (mPk 0) (mPk 3))) (mPk 4)))))))) (sRet (mTup (mCons (mF (mVar 2)) (mCons (mF (mVar 3)) (mCons (mF (mVar 4)) mNil))))) sNil))))
  (sRet (mC .none))))
def g_bad_three : GFn := gOf 5 m_bad_three
abbrev st_table_paper : Stmt := top 8
def m_table_paper : S → RS := (sSeq (sSet 1 (mCall g_bad_three (xCons (mF (mVar 0)) xNil)))
  (sRet (mIf (mB (m2 (gIs false) (mPk 1) (mO (mC .none)))) (mTup (mCons (mF (mC (.str (Str.ofString "net")))) (mCons (mF (mCall g_table_net (xCons (mF (mVar 0)) xNil))) mNil))) (m2 gAdd (mO (mTup (mCons (mF (mC (.str (Str.ofString "three")))) mNil))) (mPk 1)))))
def g_table_paper : GFn := gOf 2 m_table_paper
abbrev st_law_draw_net : Stmt := top 13
def m_law_draw_net : S → RS := (sSeq (sPar2 3 4 (m2 gAdd (mO (mC (.int 1))) (mO (mCall g_law_pick (xSrc 0 (xCons (mF (mVar 1)) xNil))))) (mCall g_law_pick (xSrc 0 (xCons (mF (mC (.int 4))) xNil))))
  (sSeq (sIf (mB (m2 gEq (mPk 3) (mO (mC (.int 1))))) (sRet (mTup (mCons (mF (mC (.int 1))) (mCons (mF (mTup mNil)) mNil)))) sNil)
  (sSeq (sSet 5 (mLst mNil))
  (sSeq (sIf (mAnd (mB (m2 gEq (mPk 4) (mO (mC (.int 1))))) (mB (m2 gGt (mPk 3) (mO (mC (.int 2)))))) (sSet 5 (m2 gMul (mO (mLc (jRg (mCons (mF (mVar 3)) mNil)) [12] (gN 12) tYesM (mF (mTup (mCons (mF (mVar 12)) (mCons (mF (m2 gMod (mO (m1 gInt (mO (m2 gAdd (mPk 12) (mO (mC (.int 1))))))) (mPk 3))) mNil)))))) (mO (m2 gAdd (mO (mC (.int 1))) (mO (mCall g_law_pick (xSrc 0 (xCons (mF (mC (.int 2))) xNil)))))))) sNil)
  (sSeq (sIf (mB (m2 gEq (mPk 4) (mO (mC (.int 2))))) (sSet 5 (m2 gMul (mO (mLc (jRg2 (mCons (mF (mC (.int 1))) (mCons (mF (mVar 3)) mNil))) [12] (gN 12) tYesM (mF (mTup (mCons (mF (mVar 12)) (mCons (mF (mCall g_law_pick (xSrc 0 (xCons (mF (mVar 12)) xNil)))) mNil)))))) (mO (m2 gAdd (mO (mC (.int 1))) (mO (mCall g_law_pick (xSrc 0 (xCons (mF (mC (.int 3))) xNil)))))))) sNil)
  (sSeq (sFor (jRg (mCons (mF (mIf (mB (m2 gNe (mPk 4) (mO (mC (.int 1))))) (mCall g_law_pick (xSrc 0 (xCons (mF (m2 gAdd (mPk 2) (mO (mC (.int 1))))) xNil))) (mCall g_law_pick (xSrc 0 (xCons (mF (mC (.int 5))) xNil))))) mNil)) (gN 6) (sSeq (sSet 7 (mCall g_law_pick (xSrc 0 (xCons (mF (mVar 3)) xNil))))
  (sSeq (sSet 8 (m2 gMod (mO (m1 gInt (mO (m2 gAdd (mO (m2 gAdd (mPk 7) (mO (mC (.int 1))))) (mO (mCall g_law_pick (xSrc 0 (xCons (mF (m2 gSub (mPk 3) (mO (mC (.int 1))))) xNil)))))))) (mPk 3)))
  (sSeq (sSet 9 (m2 gNe (mO (m2 gLt (mPk 7) (mO (m2 gDiv (mPk 3) (mO (mC (.int 2))))))) (mO (m2 gLt (mPk 8) (mO (m2 gDiv (mPk 3) (mO (mC (.int 2)))))))))
  (sSet 5 (m2 gAdd (mPk 5) (mO (mIf (mOr (mB (m2 gNe (mPk 4) (mO (mC (.int 3))))) (mOr (mNot (mB (mVar 9))) (mB (m2 gEq (mO (mCall g_law_pick (xSrc 0 (xCons (mF (mC (.int 5))) xNil)))) (mO (mC (.int 0))))))) (mLst (mCons (mF (mTup (mCons (mF (mVar 7)) (mCons (mF (mVar 8)) mNil)))) mNil)) (mLst mNil)))))))))
  (sSeq (sSet 10 (mCall g_law_any_order (xSrc 0 (xCons (mF (mLRg (mRg1 (mVar 3)))) xNil))))
  (sSeq (sSet 11 (mLc (jSeq (mF (mSl (mO (mCall g_law_any_order (xSrc 0 (xCons (mF (mVar 5)) xNil)))) mNoP (mP (mVar 2))))) [7, 8] (gTp (gCn (gN 7) (gCn (gN 8) gNl))) tYesM (mF (m1 gTuple (mO (m1 gSorted (mO (mTup (mCons (mF (m2 gIx (mPk 10) (mPk 7))) (mCons (mF (m2 gIx (mPk 10) (mPk 8))) mNil))))))))))
  (sRet (mTup (mCons (mF (mVar 3)) (mCons (mF (m1 gTuple (mO (m1 gSorted (mPk 11))))) mNil))))))))))))
def g_law_draw_net : GFn := gOf 13 m_law_draw_net
abbrev st_law_open_cells : Stmt := top 10
def m_law_open_cells : S → RS := (sSeq (sSet 1 (mC (.int 11)))
  (sSeq (sFor (jScr 0) (gN 2) (sSet 1 (m2 gMod (mO (m1 gInt (mO (m2 gAdd (mO (m2 gAdd (mO (m2 gMul (mPk 1) (mO (mC (.int 69069))))) (mO (m2 gMul (mPk 2) (mO (mC (.int 31))))))) (mO (mC (.int 5))))))) (mO (mC (.int 2147483629))))))
  (sSeq (sSet 3 (mLc (jScr 0) [2] (gN 2) tYesM (mF (m1 gAbs (mPk 2)))))
  (sRet (mNewS (m1 gRev (mPk 3)) (mF (mC (.int 1))) (mF (mVar 1)) (mF (mC (.int 0))))))))
def g_law_open_cells : GFn := gOf 4 m_law_open_cells
abbrev st_law : Stmt := top 14
def m_law : S → RS := (sSeq (sSet 1 (mCall g_law_open_cells (xSrc 0 xNil)))
  (sSeq (sFor (jRg (mCons (mF (mC (.int 4))) mNil)) (gN 2) (sSeq (sSet 3 (mCall g_law_draw_net (xSrc 1 (xCons (mF (m2 gIx (mO (mLst (mCons (mF (mC (.int 4))) (mCons (mF (mC (.int 5))) (mCons (mF (mC (.int 6))) (mCons (mF (mC (.int 7))) mNil)))))) (mPk 2))) (xCons (mF (m2 gIx (mO (mLst (mCons (mF (mC (.int 8))) (mCons (mF (mC (.int 12))) (mCons (mF (mC (.int 16))) (mCons (mF (mC (.int 20))) mNil)))))) (mPk 2))) xNil)))))
  (sSeq (sPar2 4 5 (m2 gIx (mPk 3) (mO (mC (.int 0)))) (m1 gRepr (mPk 3)))
  (sSeq (sSet 6 (mCall g_law_any_order (xSrc 1 (xCons (mF (mLRg (mRg1 (mVar 4)))) xNil))))
  (sSeq (sPar2 7 8 (m1 gTuple (mO (m1 gSorted (mO (mSl (mPk 6) mNoP (mP (mCall g_law_pick (xSrc 1 (xCons (mF (m2 gAdd (mPk 4) (mO (mC (.int 1))))) xNil))))))))) (m1 gTuple (mO (m1 gSorted (mO (mSl (mPk 6) (mP (mCall g_law_pick (xSrc 1 (xCons (mF (m2 gAdd (mPk 4) (mO (mC (.int 1))))) xNil)))) mNoP))))))
  (sSeq (sPar2 9 10 (mLc (jSeq (mF (mVar 7))) [23] (gN 23) (mB (m2 (gIn false) (mPk 23) (mPk 8))) (mF (mVar 23))) (mLc (jRg (mCons (mF (mVar 4)) mNil)) [23] (gN 23) (mOr (mB (m2 (gIn false) (mPk 23) (mPk 7))) (mB (m2 (gIn false) (mPk 23) (mPk 8)))) (mF (mVar 23))))
  (sSeq (sPar2 11 12 (mLc (jSeq (mF (mVar 7))) [23] (gN 23) (mB (m2 (gIn true) (mPk 23) (mPk 8))) (mF (mVar 23))) (mLc (jSeq (mF (mVar 8))) [23] (gN 23) (mB (m2 (gIn true) (mPk 23) (mPk 7))) (mF (mVar 23))))
  (sSeq (sSet 13 (m2 gAdd (mO (mCall g_cut_number (xCons (mF (mVar 3)) (xCons (mF (mVar 7)) xNil)))) (mO (mCall g_cut_number (xCons (mF (mVar 3)) (xCons (mF (mVar 8)) xNil))))))
  (sSeq (sIf (mB (m2 gLt (mPk 13) (mO (m2 gAdd (mO (mCall g_cut_number (xCons (mF (mVar 3)) (xCons (mF (m1 gTuple (mPk 9))) xNil)))) (mO (mCall g_cut_number (xCons (mF (mVar 3)) (xCons (mF (m1 gTuple (mPk 10))) xNil)))))))) (sRet (mC (.bool false))) sNil)
  (sSeq (sIf (mB (m2 gLt (mPk 13) (mO (m2 gAdd (mO (mCall g_cut_number (xCons (mF (mVar 3)) (xCons (mF (m1 gTuple (mPk 11))) xNil)))) (mO (mCall g_cut_number (xCons (mF (mVar 3)) (xCons (mF (m1 gTuple (mPk 12))) xNil)))))))) (sRet (mC (.bool false))) sNil)
  (sSeq (sIf (mB (m2 gNe (mO (mCall g_cut_number (xCons (mF (mVar 3)) (xCons (mF (mVar 7)) xNil)))) (mO (mCall g_cut_number (xCons (mF (mVar 3)) (xCons (mF (m1 gTuple (mO (mLc (jRg (mCons (mF (mVar 4)) mNil)) [23] (gN 23) (mB (m2 (gIn true) (mPk 23) (mPk 7))) (mF (mVar 23)))))) xNil)))))) (sRet (mC (.bool false))) sNil)
  (sSeq (sSet 14 (mCall g_hold_table (xCons (mF (mVar 3)) xNil)))
  (sSeq (sIf (mOr (mB (m2 gNe (mO (m2 gIx (mO (mCall g_table_paper (xCons (mF (mVar 14)) xNil))) (mO (mC (.int 0))))) (mO (mC (.str (Str.ofString "net")))))) (mB (m2 gNe (mO (mCall g_hold_table (xCons (mF (m2 gIx (mO (mCall g_table_paper (xCons (mF (mVar 14)) xNil))) (mO (mC (.int 1))))) xNil))) (mPk 14)))) (sRet (mC (.bool false))) sNil)
  (sSeq (sSet 15 (mCall g_law_any_order (xSrc 1 (xCons (mF (mLRg (mRg1 (mVar 4)))) xNil))))
  (sSeq (sSet 16 (mTup (mCons (mF (mVar 4)) (mCons (mF (m1 gTuple (mO (m1 gSorted (mO (mLc (jSeq (mF (m2 gIx (mPk 3) (mO (mC (.int 1)))))) [18, 19] (gTp (gCn (gN 18) (gCn (gN 19) gNl))) tYesM (mF (m1 gTuple (mO (m1 gSorted (mO (mTup (mCons (mF (m2 gIx (mPk 15) (mPk 18))) (mCons (mF (m2 gIx (mPk 15) (mPk 19))) mNil)))))))))))))) mNil))))
  (sSeq (sSet 17 (mCall g_hold_table (xCons (mF (mVar 16)) xNil)))
  (sSeq (sFor (jRg (mCons (mF (mVar 4)) mNil)) (gN 18) (sFor (jRg (mCons (mF (mVar 4)) mNil)) (gN 19) (sIf (mB (m2 gNe (mO (m2 gIx (mO (m2 gIx (mPk 17) (mO (m2 gIx (mPk 15) (mPk 18))))) (mO (m2 gIx (mPk 15) (mPk 19))))) (mO (m2 gIx (mO (m2 gIx (mPk 14) (mPk 18))) (mPk 19))))) (sRet (mC (.bool false))) sNil)))
  (sSeq (sIf (mB (m2 gNe0 (mO (m2 gIx (mPk 3) (mO (mC (.int 1))))) (mO (mTup mNil)))) (sSeq (sSet 20 (mCall g_law_pick (xSrc 1 (xCons (mF (m1 gLen (mO (m2 gIx (mPk 3) (mO (mC (.int 1))))))) xNil))))
  (sSeq (sSet 21 (mCall g_hold_table (xCons (mF (mTup (mCons (mF (mVar 4)) (mCons (mF (m2 gAdd (mO (mSl (mO (m2 gIx (mPk 3) (mO (mC (.int 1))))) mNoP (mP (mVar 20)))) (mO (mSl (mO (m2 gIx (mPk 3) (mO (mC (.int 1))))) (mP (m2 gAdd (mPk 20) (mO (mC (.int 1))))) mNoP)))) mNil)))) xNil)))
  (sFor (jRg (mCons (mF (mVar 4)) mNil)) (gN 22) (sIf (mB (m2 gNe0 (mO (mLc (jRg (mCons (mF (mVar 4)) mNil)) [24] (gN 24) (mB (m2 (gIn true) (mO (m2 gSub (mO (m2 gIx (mO (m2 gIx (mPk 14) (mPk 22))) (mPk 24))) (mO (m2 gIx (mO (m2 gIx (mPk 21) (mPk 22))) (mPk 24))))) (mO (mTup (mCons (mF (mC (.int 0))) (mCons (mF (mC (.int 1))) mNil)))))) (mF (mVar 24)))) (mO (mLst mNil)))) (sRet (mC (.bool false))) sNil)))) sNil)
  (sIf (mB (m2 gNe (mO (m1 gRepr (mPk 3))) (mPk 5))) (sRet (mC (.bool false))) sNil)))))))))))))))))))
  (sRet (mC (.bool true)))))
def g_law : GFn := gOf 25 m_law
section
variable {P : Program} {w : World} {K : PySem.W.Frag} {mg : Str → Option Value} {base : Heap} {f : Addr} {fd : FuncData}
theorem sc_lots_parting : FnScope ["net", "a", "b", "found", "c", "lot"] ["net", "a", "b"] (defScope st_lots_parting) := ⟨rfl, rfl, rfl, by decide +kernel, rfl, by decide +kernel, by decide +kernel⟩
theorem ok_lots_parting (F : FunD K "lots_parting" "lots_parting" (defArgs st_lots_parting) (defBody st_lots_parting) (defScope st_lots_parting) [] [] f fd) (bl : Bl mg)  : FnG P w K mg base 1 f fd ["net", "a", "b"] (spG K 3 g_lots_parting) :=
  have sc := sc_lots_parting
  fn_okM (N := ["net", "a", "b", "found", "c", "lot"]) (ps := ["net", "a", "b"]) (m := m_lots_parting) F sc fun cd A fr s H E hg hr => by
    have hu6 : (A.deeper (envOfC "lots_parting" (defScope st_lots_parting) s.heap.objs.size f cd)).units + 66 < cLine := by have := hr.un; omega
    have hu4 : (A.deeper (envOfC "lots_parting" (defScope st_lots_parting) s.heap.objs.size f cd)).units + 64 < cLine := by have := hr.un; omega
    have hu1 : (A.deeper (envOfC "lots_parting" (defScope st_lots_parting) s.heap.objs.size f cd)).units + 1 < cLine := by have := hr.un; omega
    exact (b_cons (s_set (i := 3) (ps_set sc.nd rfl (.inl rfl) (d_lst (a_cons (f_of (d_tup (a_cons (f_of (d_var (pe_var (i := 1) rfl (.inl rfl)))) a_nil))) a_nil))))
      (b_cons (s_for (idx := [4]) PassesOwn.never rfl (j_rng1 rfl bl.range (a_cons (f_of (d_ix (p_var (pe_var (i := 0) rfl (.inl rfl))) (p_of d_int) fun _ _ => rfl)) a_nil)) (q_name (pg_name (i := 4) sc.nd rfl (.inr rfl)) (by decide)) (b_one (s_if (t_cmp (o_notIn hu6) (p_var (pe_var (i := 4) rfl (.inr (.inl rfl)))) (p_of (d_tup (a_cons (f_of (d_var (pe_var (i := 1) rfl (.inl rfl)))) (a_cons (f_of (d_var (pe_var (i := 2) rfl (.inl rfl)))) a_nil)))) rfl) (b_one (s_set (i := 3) (ps_set sc.nd rfl (.inl rfl) (d_bin o_add (p_var (pe_var (i := 3) rfl (.inl rfl))) (p_of (d_lc rfl sc.nd (j_seq (f_of (d_var (pe_var (i := 3) rfl (.inl rfl))))) (blkOk_by (own := [("lot", 5)]) (by kernel_rfl)) rfl (fun _ _ _ _ _ => (q_name (pg_name (i := 5) sc.nd rfl (.inl rfl)) (by decide))) (fun _ _ _ _ _ => t_yes) (fun _ _ _ _ _ => (f_of (d_bin o_add (p_var (pe_var (i := 5) rfl (.inl rfl))) (p_of (d_tup (a_cons (f_of (d_var (pe_var (i := 4) rfl (.inr (.inl rfl))))) a_nil)))))))))))) b_nil)))
      (b_one (s_ret (d_lc rfl sc.nd (j_seq (f_of (d_var (pe_var (i := 3) rfl (.inl rfl))))) (blkOk_by (own := [("lot", 5)]) (by kernel_rfl)) rfl (fun _ _ _ _ _ => (q_name (pg_name (i := 5) sc.nd rfl (.inl rfl)) (by decide))) (fun _ _ _ _ _ => t_yes) (fun _ _ _ _ _ => (f_of (d_t1 c_tuple rfl bl.tuple boot_tuple (p_of (d_b1 (c_sorted hu6) rfl bl.sorted boot_sorted (p_var (pe_var (i := 5) rfl (.inl rfl)))))))))))))
theorem sc_cut_number : FnScope ["net", "lot", "a", "b"] ["net", "lot"] (defScope st_cut_number) := ⟨rfl, rfl, rfl, by decide +kernel, rfl, by decide +kernel, by decide +kernel⟩
theorem ok_cut_number (F : FunD K "cut_number" "cut_number" (defArgs st_cut_number) (defBody st_cut_number) (defScope st_cut_number) [] [] f fd) (bl : Bl mg)  : FnG P w K mg base 1 f fd ["net", "lot"] (spG K 2 g_cut_number) :=
  have sc := sc_cut_number
  fn_okM (N := ["net", "lot", "a", "b"]) (ps := ["net", "lot"]) (m := m_cut_number) F sc fun cd A fr s H E hg hr => by
    have hu6 : (A.deeper (envOfC "cut_number" (defScope st_cut_number) s.heap.objs.size f cd)).units + 66 < cLine := by have := hr.un; omega
    have hu4 : (A.deeper (envOfC "cut_number" (defScope st_cut_number) s.heap.objs.size f cd)).units + 64 < cLine := by have := hr.un; omega
    have hu1 : (A.deeper (envOfC "cut_number" (defScope st_cut_number) s.heap.objs.size f cd)).units + 1 < cLine := by have := hr.un; omega
    exact (b_one (s_ret (d_b1 c_len rfl bl.len boot_len (p_of (d_lc rfl sc.nd (j_seq (f_of (d_ix (p_var (pe_var (i := 0) rfl (.inl rfl))) (p_of d_int) fun _ _ => rfl))) (blkOk_by (own := [("a", 2), ("b", 3)]) (by kernel_rfl)) rfl (fun _ _ _ _ _ => (q_tup rfl (q_cons (q_name (pg_name (i := 2) sc.nd rfl (.inl rfl)) (by decide)) (q_cons (q_name (pg_name (i := 3) sc.nd rfl (.inl rfl)) (by decide)) q_nil)) (gl_cons (gl_cons gl_nil)))) (fun _ _ _ _ _ => (t_one (t_cmp (o_ne hu4) (p_of (d_cmp (o_in hu6) (p_var (pe_var (i := 2) rfl (.inl rfl))) (p_var (pe_var (i := 1) rfl (.inr (.inl rfl)))) rfl)) (p_of (d_cmp (o_in hu6) (p_var (pe_var (i := 3) rfl (.inl rfl))) (p_var (pe_var (i := 1) rfl (.inr (.inl rfl)))) rfl)) (nomark _)))) (fun _ _ _ _ _ => (f_of d_int)))))))
theorem sc_hold : FnScope ["net", "a", "b", "lot"] ["net", "a", "b"] (defScope st_hold) := ⟨rfl, rfl, rfl, by decide +kernel, rfl, by decide +kernel, by decide +kernel⟩
theorem ok_hold (F : FunD K "hold" "hold" (defArgs st_hold) (defBody st_hold) (defScope st_hold) [] [] f fd) (bl : Bl mg) (Dlots_parting : Def P w K mg base 1 3 "lots_parting" g_lots_parting) (Dcut_number : Def P w K mg base 1 2 "cut_number" g_cut_number) : FnG P w K mg base 2 f fd ["net", "a", "b"] (spG K 3 g_hold) :=
  have sc := sc_hold
  fn_okM (N := ["net", "a", "b", "lot"]) (ps := ["net", "a", "b"]) (m := m_hold) F sc fun cd A fr s H E hg hr => by
    have hu6 : (A.deeper (envOfC "hold" (defScope st_hold) s.heap.objs.size f cd)).units + 66 < cLine := by have := hr.un; omega
    have hu4 : (A.deeper (envOfC "hold" (defScope st_hold) s.heap.objs.size f cd)).units + 64 < cLine := by have := hr.un; omega
    have hu1 : (A.deeper (envOfC "hold" (defScope st_hold) s.heap.objs.size f cd)).units + 1 < cLine := by have := hr.un; omega
    exact (b_one (s_ret (d_b1 (c_min rfl hu4) rfl bl.min boot_min (p_of (d_lc rfl sc.nd (j_seq (f_of (d_call Dlots_parting hg (hr.mono (by decide)) rfl (x_cons (f_of (d_var (pe_var (i := 0) rfl (.inr (.inl rfl))))) (x_cons (f_of (d_var (pe_var (i := 1) rfl (.inl rfl)))) (x_cons (f_of (d_var (pe_var (i := 2) rfl (.inl rfl)))) x_nil))) (xn_cons (xn_cons (xn_cons xn_nil)))))) (blkOk_by (own := [("lot", 3)]) (by kernel_rfl)) rfl (fun _ _ _ _ _ => (q_name (pg_name (i := 3) sc.nd rfl (.inl rfl)) (by decide))) (fun _ _ _ _ _ => t_yes) (fun _ _ _ _ _ => (f_of (d_call Dcut_number hg (hr.mono (by decide)) rfl (x_cons (f_of (d_var (pe_var (i := 0) rfl (.inr (.inl rfl))))) (x_cons (f_of (d_var (pe_var (i := 3) rfl (.inl rfl)))) x_nil)) (xn_cons (xn_cons xn_nil))))))))))
theorem sc_hold_table : FnScope ["net", "n", "a", "b"] ["net"] (defScope st_hold_table) := ⟨rfl, rfl, rfl, by decide +kernel, rfl, by decide +kernel, by decide +kernel⟩
theorem ok_hold_table (F : FunD K "hold_table" "hold_table" (defArgs st_hold_table) (defBody st_hold_table) (defScope st_hold_table) [] [] f fd) (bl : Bl mg) (Dhold : Def P w K mg base 2 3 "hold" g_hold) : FnG P w K mg base 3 f fd ["net"] (spG K 1 g_hold_table) :=
  have sc := sc_hold_table
  fn_okM (N := ["net", "n", "a", "b"]) (ps := ["net"]) (m := m_hold_table) F sc fun cd A fr s H E hg hr => by
    have hu6 : (A.deeper (envOfC "hold_table" (defScope st_hold_table) s.heap.objs.size f cd)).units + 66 < cLine := by have := hr.un; omega
    have hu4 : (A.deeper (envOfC "hold_table" (defScope st_hold_table) s.heap.objs.size f cd)).units + 64 < cLine := by have := hr.un; omega
    have hu1 : (A.deeper (envOfC "hold_table" (defScope st_hold_table) s.heap.objs.size f cd)).units + 1 < cLine := by have := hr.un; omega
    exact (b_cons (s_set (i := 1) (ps_set sc.nd rfl (.inr rfl) (d_ix (p_var (pe_var (i := 0) rfl (.inr (.inl rfl)))) (p_of d_int) fun _ _ => rfl)))
      (b_one (s_ret (d_t1 c_tuple rfl bl.tuple boot_tuple (p_of (d_lc rfl sc.nd (j_rng1 rfl bl.range (a_cons (f_of (d_var (pe_var (i := 1) rfl (.inr (.inl rfl))))) a_nil)) (blkOk_by (own := [("a", 2)]) (by kernel_rfl)) rfl (fun _ _ _ _ _ => (q_name (pg_name (i := 2) sc.nd rfl (.inr rfl)) (by decide))) (fun _ _ _ _ _ => t_yes) (fun _ _ _ _ _ => (f_of (d_t1 c_tuple rfl bl.tuple boot_tuple (p_of (d_lc rfl sc.nd (j_rng1 rfl bl.range (a_cons (f_of (d_var (pe_var (i := 1) rfl (.inr (.inl rfl))))) a_nil)) (blkOk_by (own := [("b", 3)]) (by kernel_rfl)) rfl (fun _ _ _ _ _ => (q_name (pg_name (i := 3) sc.nd rfl (.inl rfl)) (by decide))) (fun _ _ _ _ _ => t_yes) (fun _ _ _ _ _ => (f_of (d_if (t_cmp (o_ne hu4) (p_var (pe_var (i := 2) rfl (.inr (.inl rfl)))) (p_var (pe_var (i := 3) rfl (.inl rfl))) (nomark _)) (d_call Dhold hg (hr.mono (by decide)) rfl (x_cons (f_of (d_var (pe_var (i := 0) rfl (.inr (.inl rfl))))) (x_cons (f_of (d_var (pe_var (i := 2) rfl (.inr (.inl rfl))))) (x_cons (f_of (d_var (pe_var (i := 3) rfl (.inl rfl)))) x_nil))) (xn_cons (xn_cons (xn_cons xn_nil)))) d_int))))))))))))))
theorem sc_law_pick : FnScope ["source", "most", "cells", "others", "lap", "stirred"] ["source", "most"] (defScope st_law_pick) := ⟨rfl, rfl, rfl, by decide +kernel, rfl, by decide +kernel, by decide +kernel⟩
theorem ok_law_pick (F : FunD K "_law_pick" "_law_pick" (defArgs st_law_pick) (defBody st_law_pick) (defScope st_law_pick) [] [] f fd) (bl : Bl mg)  : FnG P w K mg base 1 f fd ["source", "most"] (spG K 2 g_law_pick) :=
  have sc := sc_law_pick
  fn_okM (N := ["source", "most", "cells", "others", "lap", "stirred"]) (ps := ["source", "most"]) (m := m_law_pick) F sc fun cd A fr s H E hg hr => by
    have hu6 : (A.deeper (envOfC "_law_pick" (defScope st_law_pick) s.heap.objs.size f cd)).units + 66 < cLine := by have := hr.un; omega
    have hu4 : (A.deeper (envOfC "_law_pick" (defScope st_law_pick) s.heap.objs.size f cd)).units + 64 < cLine := by have := hr.un; omega
    have hu1 : (A.deeper (envOfC "_law_pick" (defScope st_law_pick) s.heap.objs.size f cd)).units + 1 < cLine := by have := hr.un; omega
    exact (b_cons (s_if (t_cmp (o_lt hu4) (p_var (pe_var (i := 1) rfl (.inl rfl))) (p_of d_int) (nomark _)) (b_one (s_ret d_int)) b_nil)
      (b_cons (s_set (i := 2) (ps_set sc.nd rfl (.inl rfl) (k_cel hu1 (d_var (pe_var (i := 0) rfl (.inl rfl))))))
      (b_cons (s_while PassesOwn.never (PW.pt (w_and (t_cmp (o_lt hu4) (p_of (k_get hu1 key_left (d_var (pe_var (i := 0) rfl (.inl rfl))))) (p_of d_int) (nomark _)) (w_and1 (t_cmp (o_gt hu4) (p_of (k_len rfl bl.len (d_var (pe_var (i := 2) rfl (.inl rfl))))) (p_of d_int) (nomark _))))) (b_one (s_put hu1 key_left (d_var (pe_var (i := 0) rfl (.inl rfl))) (f_of (k_pop (d_var (pe_var (i := 2) rfl (.inl rfl))))))))
      (b_cons (s_set (i := 3) (ps_set sc.nd rfl (.inl rfl) (k_get hu1 key_left (d_var (pe_var (i := 0) rfl (.inl rfl))))))
      (b_cons (s_if (t_cmp (o_gt hu4) (p_var (pe_var (i := 3) rfl (.inl rfl))) (p_of d_int) (nomark _)) (b_cons (s_put hu1 key_left (d_var (pe_var (i := 0) rfl (.inl rfl))) (f_of (d_bin o_div (p_var (pe_var (i := 3) rfl (.inl rfl))) (p_var (pe_var (i := 1) rfl (.inl rfl))))))
      (b_one (s_ret (d_bin o_mod (p_of (d_t1 c_int rfl bl.int boot_int (p_var (pe_var (i := 3) rfl (.inl rfl))))) (p_var (pe_var (i := 1) rfl (.inl rfl))))))) b_nil)
      (b_cons (s_put hu1 key_turn (d_var (pe_var (i := 0) rfl (.inl rfl))) (f_of (d_bin o_add (p_of (k_get hu1 key_turn (d_var (pe_var (i := 0) rfl (.inl rfl))))) (p_of d_int))))
      (b_cons (s_set (i := 4) (ps_set sc.nd rfl (.inl rfl) (k_get hu1 key_turn (d_var (pe_var (i := 0) rfl (.inl rfl))))))
      (b_cons (s_set (i := 5) (ps_set sc.nd rfl (.inl rfl) (d_bin o_mod (p_of (d_t1 c_int rfl bl.int boot_int (p_of (d_bin o_add (p_of (k_get hu1 key_mixed (d_var (pe_var (i := 0) rfl (.inl rfl))))) (p_of (d_bin o_mul (p_var (pe_var (i := 4) rfl (.inl rfl))) (p_of d_int))))))) (p_of d_int))))
      (b_cons (s_set (i := 5) (ps_set sc.nd rfl (.inl rfl) (d_bin o_mod (p_of (d_t1 c_int rfl bl.int boot_int (p_of (d_bin o_add (p_of (d_bin o_mul (p_var (pe_var (i := 5) rfl (.inl rfl))) (p_var (pe_var (i := 5) rfl (.inl rfl))))) (p_of (d_bin o_mul (p_var (pe_var (i := 4) rfl (.inl rfl))) (p_of d_int))))))) (p_of d_int))))
      (b_one (s_ret (d_bin o_mod (p_of (d_t1 c_int rfl bl.int boot_int (p_of (d_bin o_div (p_var (pe_var (i := 5) rfl (.inl rfl))) (p_of d_int))))) (p_var (pe_var (i := 1) rfl (.inl rfl)))))))))))))))
theorem sc_law_any_order : FnScope ["source", "things", "others", "lap"] ["source", "things"] (defScope st_law_any_order) := ⟨rfl, rfl, rfl, by decide +kernel, rfl, by decide +kernel, by decide +kernel⟩
theorem ok_law_any_order (F : FunD K "_law_any_order" "_law_any_order" (defArgs st_law_any_order) (defBody st_law_any_order) (defScope st_law_any_order) [] [] f fd) (bl : Bl mg) (Dlaw_pick : Def P w K mg base 1 2 "_law_pick" g_law_pick) : FnG P w K mg base 2 f fd ["source", "things"] (spG K 2 g_law_any_order) :=
  have sc := sc_law_any_order
  fn_okM (N := ["source", "things", "others", "lap"]) (ps := ["source", "things"]) (m := m_law_any_order) F sc fun cd A fr s H E hg hr => by
    have hu6 : (A.deeper (envOfC "_law_any_order" (defScope st_law_any_order) s.heap.objs.size f cd)).units + 66 < cLine := by have := hr.un; omega
    have hu4 : (A.deeper (envOfC "_law_any_order" (defScope st_law_any_order) s.heap.objs.size f cd)).units + 64 < cLine := by have := hr.un; omega
    have hu1 : (A.deeper (envOfC "_law_any_order" (defScope st_law_any_order) s.heap.objs.size f cd)).units + 1 < cLine := by have := hr.un; omega
    exact (b_cons (s_set (i := 2) (ps_set sc.nd rfl (.inr rfl) (d_t1 c_list rfl bl.list boot_list (p_var (pe_var (i := 1) rfl (.inl rfl))))))
      (b_one (s_ret (d_lc rfl sc.nd (j_rng1 rfl bl.range (a_cons (f_of (d_b1 c_len rfl bl.len boot_len (p_var (pe_var (i := 2) rfl (.inr (.inl rfl)))))) a_nil)) (blkOk_by (own := [("lap", 3)]) (by kernel_rfl)) rfl (fun _ _ _ _ _ => (q_name (pg_name (i := 3) sc.nd rfl (.inl rfl)) (by decide))) (fun _ _ _ _ _ => t_yes) (fun _ _ _ _ _ => (f_of (m_popAt (pe_var (i := 2) rfl (.inr (.inl rfl))) (a_cons (f_of (d_call Dlaw_pick hg (hr.mono (by decide)) rfl (x_src (pe_var (i := 0) rfl (.inr (.inl rfl))) (x_cons (f_of (d_b1 c_len rfl bl.len boot_len (p_var (pe_var (i := 2) rfl (.inr (.inl rfl)))))) x_nil)) (xn_src (xn_cons xn_nil)))) a_nil))))))))
theorem sc_table_net : FnScope ["table", "n", "links", "names", "pairs", "less", "a", "b", "name"] ["table"] (defScope st_table_net) := ⟨rfl, rfl, rfl, by decide +kernel, rfl, by decide +kernel, by decide +kernel⟩
theorem ok_table_net (F : FunD K "table_net" "table_net" (defArgs st_table_net) (defBody st_table_net) (defScope st_table_net) [] [] f fd) (bl : Bl mg)  : FnG P w K mg base 1 f fd ["table"] (spG K 1 g_table_net) :=
  have sc := sc_table_net
  fn_okM (N := ["table", "n", "links", "names", "pairs", "less", "a", "b", "name"]) (ps := ["table"]) (m := m_table_net) F sc fun cd A fr s H E hg hr => by
    have hu6 : (A.deeper (envOfC "table_net" (defScope st_table_net) s.heap.objs.size f cd)).units + 66 < cLine := by have := hr.un; omega
    have hu4 : (A.deeper (envOfC "table_net" (defScope st_table_net) s.heap.objs.size f cd)).units + 64 < cLine := by have := hr.un; omega
    have hu1 : (A.deeper (envOfC "table_net" (defScope st_table_net) s.heap.objs.size f cd)).units + 1 < cLine := by have := hr.un; omega
    exact (b_cons (s_par2T (by decide) (ps_asg (pe_tup (pa_cons (d_b1 c_len rfl bl.len boot_len (p_var (pe_var (i := 0) rfl (.inr (.inl rfl))))) (pa_cons (d_lst a_nil) pa_nil))) (pg_tup rfl (pgs_cons (pg_name (i := 1) sc.nd rfl (.inr rfl)) (pgs_cons (pg_name (i := 2) sc.nd rfl (.inl rfl)) pgs_nil)))))
      (b_cons (s_set (i := 3) (ps_set sc.nd rfl (.inr rfl) (d_lrg rfl rfl bl.list (g_1 rfl bl.range (d_var (pe_var (i := 1) rfl (.inr (.inl rfl))))))))
      (b_cons (s_set (i := 4) (ps_set sc.nd rfl (.inl rfl) (d_b1 (c_sorted hu6) rfl bl.sorted boot_sorted (p_of (d_lc2 (vs1 := [7]) rfl sc.nd (j_rng1 rfl bl.range (a_cons (f_of (d_var (pe_var (i := 1) rfl (.inr (.inl rfl))))) a_nil)) (blkOk_by (own := [("a", 6), ("b", 7)]) (by kernel_rfl)) rfl (by decide) (fun _ _ _ _ _ => (q_name (pg_name (i := 6) sc.nd rfl (.inl rfl)) (by decide))) (fun _ _ _ _ _ => t_yes) (fun _ _ _ _ _ => (j_rng2 rfl bl.range (a_cons (f_of (d_bin o_add (p_var (pe_var (i := 6) rfl (.inl rfl))) (p_of d_int))) (a_cons (f_of (d_var (pe_var (i := 1) rfl (.inr (.inl rfl))))) a_nil)))) (fun _ _ _ _ _ => (q_name (pg_name (i := 7) sc.nd rfl (.inl rfl)) (by decide))) (fun _ _ _ _ _ => t_yes) (fun _ _ _ _ _ => (f_of (d_tup (a_cons (f_of (d_bin o_sub (p_of d_int) (p_of (d_ix (p_of (d_ix (p_var (pe_var (i := 0) rfl (.inr (.inl rfl)))) (p_var (pe_var (i := 6) rfl (.inl rfl))) fun _ _ => rfl)) (p_var (pe_var (i := 7) rfl (.inl rfl))) fun _ _ => rfl)))) (a_cons (f_of (d_var (pe_var (i := 6) rfl (.inl rfl)))) (a_cons (f_of (d_var (pe_var (i := 7) rfl (.inl rfl)))) a_nil)))))))))))
      (b_cons (s_for (idx := [5, 6, 7]) PassesOwn.never rfl (j_seq (f_of (d_var (pe_var (i := 4) rfl (.inl rfl))))) (q_tup rfl (q_cons (q_name (pg_name (i := 5) sc.nd rfl (.inl rfl)) (by decide)) (q_cons (q_name (pg_name (i := 6) sc.nd rfl (.inr rfl)) (by decide)) (q_cons (q_name (pg_name (i := 7) sc.nd rfl (.inr rfl)) (by decide)) q_nil))) (gl_cons (gl_cons (gl_cons gl_nil)))) (b_one (s_if (t_cmp (o_ne hu4) (p_of (d_ix (p_var (pe_var (i := 3) rfl (.inr (.inl rfl)))) (p_var (pe_var (i := 6) rfl (.inr (.inl rfl)))) fun _ _ => rfl)) (p_of (d_ix (p_var (pe_var (i := 3) rfl (.inr (.inl rfl)))) (p_var (pe_var (i := 7) rfl (.inr (.inl rfl)))) fun _ _ => rfl)) (nomark _)) (b_cons (s_set (i := 2) (ps_set sc.nd rfl (.inl rfl) (d_bin o_add (p_var (pe_var (i := 2) rfl (.inl rfl))) (p_of (d_bin o_mul (p_of (d_lst (a_cons (f_of (d_tup (a_cons (f_of (d_var (pe_var (i := 6) rfl (.inr (.inl rfl))))) (a_cons (f_of (d_var (pe_var (i := 7) rfl (.inr (.inl rfl))))) a_nil)))) a_nil))) (p_of (d_ix (p_of (d_ix (p_var (pe_var (i := 0) rfl (.inr (.inl rfl)))) (p_var (pe_var (i := 6) rfl (.inr (.inl rfl)))) fun _ _ => rfl)) (p_var (pe_var (i := 7) rfl (.inr (.inl rfl)))) fun _ _ => rfl)))))))
      (b_one (s_set (i := 3) (ps_set sc.nd rfl (.inr rfl) (d_lc rfl sc.nd (j_seq (f_of (d_var (pe_var (i := 3) rfl (.inr (.inl rfl)))))) (blkOk_by (own := [("name", 8)]) (by kernel_rfl)) rfl (fun _ _ _ _ _ => (q_name (pg_name (i := 8) sc.nd rfl (.inl rfl)) (by decide))) (fun _ _ _ _ _ => t_yes) (fun _ _ _ _ _ => (f_of (d_if (t_cmp (o_eq hu4) (p_var (pe_var (i := 8) rfl (.inl rfl))) (p_of (d_ix (p_var (pe_var (i := 3) rfl (.inr (.inl rfl)))) (p_var (pe_var (i := 7) rfl (.inr (.inl rfl)))) fun _ _ => rfl)) (nomark _)) (d_ix (p_var (pe_var (i := 3) rfl (.inr (.inl rfl)))) (p_var (pe_var (i := 6) rfl (.inr (.inl rfl)))) fun _ _ => rfl) (d_var (pe_var (i := 8) rfl (.inl rfl))))))))))) b_nil)))
      (b_one (s_ret (d_tup (a_cons (f_of (d_var (pe_var (i := 1) rfl (.inr (.inl rfl))))) (a_cons (f_of (d_t1 c_tuple rfl bl.tuple boot_tuple (p_of (d_b1 (c_sorted hu6) rfl bl.sorted boot_sorted (p_var (pe_var (i := 2) rfl (.inl rfl))))))) a_nil)))))))))
theorem sc_bad_three : FnScope ["table", "n", "a", "b", "c"] ["table"] (defScope st_bad_three) := ⟨rfl, rfl, rfl, by decide +kernel, rfl, by decide +kernel, by decide +kernel⟩
theorem ok_bad_three (F : FunD K "bad_three" "bad_three" (defArgs st_bad_three) (defBody st_bad_three) (defScope st_bad_three) [] [] f fd) (bl : Bl mg)  : FnG P w K mg base 1 f fd ["table"] (spG K 1 g_bad_three) :=
  have sc := sc_bad_three
  fn_okM (N := ["table", "n", "a", "b", "c"]) (ps := ["table"]) (m := m_bad_three) F sc fun cd A fr s H E hg hr => by
    have hu6 : (A.deeper (envOfC "bad_three" (defScope st_bad_three) s.heap.objs.size f cd)).units + 66 < cLine := by have := hr.un; omega
    have hu4 : (A.deeper (envOfC "bad_three" (defScope st_bad_three) s.heap.objs.size f cd)).units + 64 < cLine := by have := hr.un; omega
    have hu1 : (A.deeper (envOfC "bad_three" (defScope st_bad_three) s.heap.objs.size f cd)).units + 1 < cLine := by have := hr.un; omega
    exact (b_cons (s_set (i := 1) (ps_set sc.nd rfl (.inl rfl) (d_b1 c_len rfl bl.len boot_len (p_var (pe_var (i := 0) rfl (.inl rfl))))))
      (b_cons (s_for (idx := [2]) PassesOwn.never rfl (j_rng1 rfl bl.range (a_cons (f_of (d_var (pe_var (i := 1) rfl (.inl rfl)))) a_nil)) (q_name (pg_name (i := 2) sc.nd rfl (.inl rfl)) (by decide)) (b_one (s_for (idx := [3]) PassesOwn.never rfl (j_rng1 rfl bl.range (a_cons (f_of (d_var (pe_var (i := 1) rfl (.inl rfl)))) a_nil)) (q_name (pg_name (i := 3) sc.nd rfl (.inl rfl)) (by decide)) (b_one (s_for (idx := [4]) PassesOwn.never rfl (j_rng1 rfl bl.range (a_cons (f_of (d_var (pe_var (i := 1) rfl (.inl rfl)))) a_nil)) (q_name (pg_name (i := 4) sc.nd rfl (.inl rfl)) (by decide)) (b_one (s_if (PW.pt (w_and (t_cmp (o_eq hu4) (p_of (d_lenSet rfl rfl bl.len rfl bl.set (p_of (d_lst (a_cons (f_of (d_var (pe_var (i := 2) rfl (.inl rfl)))) (a_cons (f_of (d_var (pe_var (i := 3) rfl (.inl rfl)))) (a_cons (f_of (d_var (pe_var (i := 4) rfl (.inl rfl)))) a_nil))))))) (p_of d_int) (nomark _)) (w_and1 (t_cmp (o_lt hu4) (p_of (d_ix (p_of (d_ix (p_var (pe_var (i := 0) rfl (.inl rfl))) (p_var (pe_var (i := 2) rfl (.inl rfl))) fun _ _ => rfl)) (p_var (pe_var (i := 4) rfl (.inl rfl))) fun _ _ => rfl)) (p_of (d_b2 (c_min2 rfl) rfl bl.min boot_min (p_of (d_ix (p_of (d_ix (p_var (pe_var (i := 0) rfl (.inl rfl))) (p_var (pe_var (i := 2) rfl (.inl rfl))) fun _ _ => rfl)) (p_var (pe_var (i := 3) rfl (.inl rfl))) fun _ _ => rfl)) (p_of (d_ix (p_of (d_ix (p_var (pe_var (i := 0) rfl (.inl rfl))) (p_var (pe_var (i := 3) rfl (.inl rfl))) fun _ _ => rfl)) (p_var (pe_var (i := 4) rfl (.inl rfl))) fun _ _ => rfl)))) (nomark _))))) (b_one (s_ret (d_tup (a_cons (f_of (d_var (pe_var (i := 2) rfl (.inl rfl)))) (a_cons (f_of (d_var (pe_var (i := 3) rfl (.inl rfl)))) (a_cons (f_of (d_var (pe_var (i := 4) rfl (.inl rfl)))) a_nil)))))) b_nil)))))))
      (b_one (s_ret d_non))))
theorem sc_table_paper : FnScope ["table", "three"] ["table"] (defScope st_table_paper) := ⟨rfl, rfl, rfl, by decide +kernel, rfl, by decide +kernel, by decide +kernel⟩
theorem ok_table_paper (F : FunD K "table_paper" "table_paper" (defArgs st_table_paper) (defBody st_table_paper) (defScope st_table_paper) [] [] f fd) (bl : Bl mg) (Dtable_net : Def P w K mg base 1 1 "table_net" g_table_net) (Dbad_three : Def P w K mg base 1 1 "bad_three" g_bad_three) : FnG P w K mg base 2 f fd ["table"] (spG K 1 g_table_paper) :=
  have sc := sc_table_paper
  fn_okM (N := ["table", "three"]) (ps := ["table"]) (m := m_table_paper) F sc fun cd A fr s H E hg hr => by
    have hu6 : (A.deeper (envOfC "table_paper" (defScope st_table_paper) s.heap.objs.size f cd)).units + 66 < cLine := by have := hr.un; omega
    have hu4 : (A.deeper (envOfC "table_paper" (defScope st_table_paper) s.heap.objs.size f cd)).units + 64 < cLine := by have := hr.un; omega
    have hu1 : (A.deeper (envOfC "table_paper" (defScope st_table_paper) s.heap.objs.size f cd)).units + 1 < cLine := by have := hr.un; omega
    exact (b_cons (s_set (i := 1) (ps_set sc.nd rfl (.inl rfl) (d_call Dbad_three hg (hr.mono (by decide)) rfl (x_cons (f_of (d_var (pe_var (i := 0) rfl (.inl rfl)))) x_nil) (xn_cons xn_nil))))
      (b_one (s_ret (d_if (t_cmp o_is (p_var (pe_var (i := 1) rfl (.inl rfl))) (p_of d_non) (nomark _)) (d_tup (a_cons (f_of d_str) (a_cons (f_of (d_call Dtable_net hg (hr.mono (by decide)) rfl (x_cons (f_of (d_var (pe_var (i := 0) rfl (.inl rfl)))) x_nil) (xn_cons xn_nil))) a_nil))) (d_bin o_add (p_of (d_tup (a_cons (f_of d_str) a_nil))) (p_var (pe_var (i := 1) rfl (.inl rfl))))))))
theorem sc_law_draw_net : FnScope ["source", "stations", "links", "n", "road", "some", "lap", "a", "b", "is_far", "names", "found", "k"] ["source", "stations", "links"] (defScope st_law_draw_net) := ⟨rfl, rfl, rfl, by decide +kernel, rfl, by decide +kernel, by decide +kernel⟩
theorem ok_law_draw_net (F : FunD K "_law_draw_net" "_law_draw_net" (defArgs st_law_draw_net) (defBody st_law_draw_net) (defScope st_law_draw_net) [] [] f fd) (bl : Bl mg) (Dlaw_any_order : Def P w K mg base 2 2 "_law_any_order" g_law_any_order) (Dlaw_pick : Def P w K mg base 1 2 "_law_pick" g_law_pick) : FnG P w K mg base 3 f fd ["source", "stations", "links"] (spG K 3 g_law_draw_net) :=
  have sc := sc_law_draw_net
  fn_okM (N := ["source", "stations", "links", "n", "road", "some", "lap", "a", "b", "is_far", "names", "found", "k"]) (ps := ["source", "stations", "links"]) (m := m_law_draw_net) F sc fun cd A fr s H E hg hr => by
    have hu6 : (A.deeper (envOfC "_law_draw_net" (defScope st_law_draw_net) s.heap.objs.size f cd)).units + 66 < cLine := by have := hr.un; omega
    have hu4 : (A.deeper (envOfC "_law_draw_net" (defScope st_law_draw_net) s.heap.objs.size f cd)).units + 64 < cLine := by have := hr.un; omega
    have hu1 : (A.deeper (envOfC "_law_draw_net" (defScope st_law_draw_net) s.heap.objs.size f cd)).units + 1 < cLine := by have := hr.un; omega
    exact (b_cons (s_par2T (by decide) (ps_asg (pe_tup (pa_cons (d_bin o_add (p_of d_int) (p_of (d_call Dlaw_pick hg (hr.mono (by decide)) rfl (x_src (pe_var (i := 0) rfl (.inr (.inl rfl))) (x_cons (f_of (d_var (pe_var (i := 1) rfl (.inl rfl)))) x_nil)) (xn_src (xn_cons xn_nil))))) (pa_cons (d_call Dlaw_pick hg (hr.mono (by decide)) rfl (x_src (pe_var (i := 0) rfl (.inr (.inl rfl))) (x_cons (f_of d_int) x_nil)) (xn_src (xn_cons xn_nil))) pa_nil))) (pg_tup rfl (pgs_cons (pg_name (i := 3) sc.nd rfl (.inr rfl)) (pgs_cons (pg_name (i := 4) sc.nd rfl (.inl rfl)) pgs_nil)))))
      (b_cons (s_if (t_cmp (o_eq hu4) (p_var (pe_var (i := 3) rfl (.inr (.inl rfl)))) (p_of d_int) (nomark _)) (b_one (s_ret (d_tup (a_cons (f_of d_int) (a_cons (f_of (d_tup a_nil)) a_nil))))) b_nil)
      (b_cons (s_set (i := 5) (ps_set sc.nd rfl (.inl rfl) (d_lst a_nil)))
      (b_cons (s_if (PW.pt (w_and (t_cmp (o_eq hu4) (p_var (pe_var (i := 4) rfl (.inl rfl))) (p_of d_int) (nomark _)) (w_and1 (t_cmp (o_gt hu4) (p_var (pe_var (i := 3) rfl (.inr (.inl rfl)))) (p_of d_int) (nomark _))))) (b_one (s_set (i := 5) (ps_set sc.nd rfl (.inl rfl) (d_bin o_mul (p_of (d_lc rfl sc.nd (j_rng1 rfl bl.range (a_cons (f_of (d_var (pe_var (i := 3) rfl (.inr (.inl rfl))))) a_nil)) (blkOk_by (own := [("k", 12)]) (by kernel_rfl)) rfl (fun _ _ _ _ _ => (q_name (pg_name (i := 12) sc.nd rfl (.inl rfl)) (by decide))) (fun _ _ _ _ _ => t_yes) (fun _ _ _ _ _ => (f_of (d_tup (a_cons (f_of (d_var (pe_var (i := 12) rfl (.inl rfl)))) (a_cons (f_of (d_bin o_mod (p_of (d_t1 c_int rfl bl.int boot_int (p_of (d_bin o_add (p_var (pe_var (i := 12) rfl (.inl rfl))) (p_of d_int))))) (p_var (pe_var (i := 3) rfl (.inr (.inl rfl)))))) a_nil))))))) (p_of (d_bin o_add (p_of d_int) (p_of (d_call Dlaw_pick hg (hr.mono (by decide)) rfl (x_src (pe_var (i := 0) rfl (.inr (.inl rfl))) (x_cons (f_of d_int) x_nil)) (xn_src (xn_cons xn_nil)))))))))) b_nil)
      (b_cons (s_if (t_cmp (o_eq hu4) (p_var (pe_var (i := 4) rfl (.inl rfl))) (p_of d_int) (nomark _)) (b_one (s_set (i := 5) (ps_set sc.nd rfl (.inl rfl) (d_bin o_mul (p_of (d_lc rfl sc.nd (j_rng2 rfl bl.range (a_cons (f_of d_int) (a_cons (f_of (d_var (pe_var (i := 3) rfl (.inr (.inl rfl))))) a_nil))) (blkOk_by (own := [("k", 12)]) (by kernel_rfl)) rfl (fun _ _ _ _ _ => (q_name (pg_name (i := 12) sc.nd rfl (.inl rfl)) (by decide))) (fun _ _ _ _ _ => t_yes) (fun _ _ _ _ _ => (f_of (d_tup (a_cons (f_of (d_var (pe_var (i := 12) rfl (.inl rfl)))) (a_cons (f_of (d_call Dlaw_pick hg (hr.mono (by decide)) rfl (x_src (pe_var (i := 0) rfl (.inr (.inl rfl))) (x_cons (f_of (d_var (pe_var (i := 12) rfl (.inl rfl)))) x_nil)) (xn_src (xn_cons xn_nil)))) a_nil))))))) (p_of (d_bin o_add (p_of d_int) (p_of (d_call Dlaw_pick hg (hr.mono (by decide)) rfl (x_src (pe_var (i := 0) rfl (.inr (.inl rfl))) (x_cons (f_of d_int) x_nil)) (xn_src (xn_cons xn_nil)))))))))) b_nil)
      (b_cons (s_for (idx := [6]) PassesOwn.never rfl (j_rng1 rfl bl.range (a_cons (f_of (d_if (t_cmp (o_ne hu4) (p_var (pe_var (i := 4) rfl (.inl rfl))) (p_of d_int) (nomark _)) (d_call Dlaw_pick hg (hr.mono (by decide)) rfl (x_src (pe_var (i := 0) rfl (.inr (.inl rfl))) (x_cons (f_of (d_bin o_add (p_var (pe_var (i := 2) rfl (.inl rfl))) (p_of d_int))) x_nil)) (xn_src (xn_cons xn_nil))) (d_call Dlaw_pick hg (hr.mono (by decide)) rfl (x_src (pe_var (i := 0) rfl (.inr (.inl rfl))) (x_cons (f_of d_int) x_nil)) (xn_src (xn_cons xn_nil))))) a_nil)) (q_name (pg_name (i := 6) sc.nd rfl (.inl rfl)) (by decide)) (b_cons (s_set (i := 7) (ps_set sc.nd rfl (.inl rfl) (d_call Dlaw_pick hg (hr.mono (by decide)) rfl (x_src (pe_var (i := 0) rfl (.inr (.inl rfl))) (x_cons (f_of (d_var (pe_var (i := 3) rfl (.inr (.inl rfl))))) x_nil)) (xn_src (xn_cons xn_nil)))))
      (b_cons (s_set (i := 8) (ps_set sc.nd rfl (.inl rfl) (d_bin o_mod (p_of (d_t1 c_int rfl bl.int boot_int (p_of (d_bin o_add (p_of (d_bin o_add (p_var (pe_var (i := 7) rfl (.inl rfl))) (p_of d_int))) (p_of (d_call Dlaw_pick hg (hr.mono (by decide)) rfl (x_src (pe_var (i := 0) rfl (.inr (.inl rfl))) (x_cons (f_of (d_bin o_sub (p_var (pe_var (i := 3) rfl (.inr (.inl rfl)))) (p_of d_int))) x_nil)) (xn_src (xn_cons xn_nil)))))))) (p_var (pe_var (i := 3) rfl (.inr (.inl rfl)))))))
      (b_cons (s_set (i := 9) (ps_set sc.nd rfl (.inl rfl) (d_cmp (o_ne hu4) (p_of (d_cmp (o_lt hu4) (p_var (pe_var (i := 7) rfl (.inl rfl))) (p_of (d_bin o_div (p_var (pe_var (i := 3) rfl (.inr (.inl rfl)))) (p_of d_int))) (nomark _))) (p_of (d_cmp (o_lt hu4) (p_var (pe_var (i := 8) rfl (.inl rfl))) (p_of (d_bin o_div (p_var (pe_var (i := 3) rfl (.inr (.inl rfl)))) (p_of d_int))) (nomark _))) (nomark _))))
      (b_one (s_set (i := 5) (ps_set sc.nd rfl (.inl rfl) (d_bin o_add (p_var (pe_var (i := 5) rfl (.inl rfl))) (p_of (d_if (PW.pt (w_or (t_cmp (o_ne hu4) (p_var (pe_var (i := 4) rfl (.inl rfl))) (p_of d_int) (nomark _)) (w_or (t_not (t_val (d_var (pe_var (i := 9) rfl (.inl rfl))))) (w_or1 (t_cmp (o_eq hu4) (p_of (d_call Dlaw_pick hg (hr.mono (by decide)) rfl (x_src (pe_var (i := 0) rfl (.inr (.inl rfl))) (x_cons (f_of d_int) x_nil)) (xn_src (xn_cons xn_nil)))) (p_of d_int) (nomark _)))))) (d_lst (a_cons (f_of (d_tup (a_cons (f_of (d_var (pe_var (i := 7) rfl (.inl rfl)))) (a_cons (f_of (d_var (pe_var (i := 8) rfl (.inl rfl)))) a_nil)))) a_nil)) (d_lst a_nil)))))))))))
      (b_cons (s_set (i := 10) (ps_set sc.nd rfl (.inr rfl) (d_call Dlaw_any_order hg (hr.mono (by decide)) rfl (x_src (pe_var (i := 0) rfl (.inr (.inl rfl))) (x_cons (f_of (d_lrg rfl rfl bl.list (g_1 rfl bl.range (d_var (pe_var (i := 3) rfl (.inr (.inl rfl))))))) x_nil)) (xn_src (xn_cons xn_nil)))))
      (b_cons (s_lc rfl sc.nd rfl rfl (sw_true rfl rfl rfl rfl) (j_seq (f_of (d_sl (p_of (d_call Dlaw_any_order hg (hr.mono (by decide)) rfl (x_src (pe_var (i := 0) rfl (.inr (.inl rfl))) (x_cons (f_of (d_var (pe_var (i := 5) rfl (.inl rfl)))) x_nil)) (xn_src (xn_cons xn_nil)))) o_none (o_some (d_var (pe_var (i := 2) rfl (.inl rfl))))))) (blkOk_by (own := [("a", 7), ("b", 8)]) (by kernel_rfl)) rfl (fun _ _ _ _ _ => (q_tup rfl (q_cons (q_name (pg_name (i := 7) sc.nd rfl (.inl rfl)) (by decide)) (q_cons (q_name (pg_name (i := 8) sc.nd rfl (.inl rfl)) (by decide)) q_nil)) (gl_cons (gl_cons gl_nil)))) (fun _ _ _ _ _ => t_yes) (fun _ _ _ _ _ => (f_of (d_t1 c_tuple rfl bl.tuple boot_tuple (p_of (d_b1 (c_sorted hu6) rfl bl.sorted boot_sorted (p_of (d_tup (a_cons (f_of (d_ix (p_var (pe_var (i := 10) rfl (.inr (.inl rfl)))) (p_var (pe_var (i := 7) rfl (.inl rfl))) fun _ _ => rfl)) (a_cons (f_of (d_ix (p_var (pe_var (i := 10) rfl (.inr (.inl rfl)))) (p_var (pe_var (i := 8) rfl (.inl rfl))) fun _ _ => rfl)) a_nil))))))))))
      (b_one (s_ret (d_tup (a_cons (f_of (d_var (pe_var (i := 3) rfl (.inr (.inl rfl))))) (a_cons (f_of (d_t1 c_tuple rfl bl.tuple boot_tuple (p_of (d_b1 (c_sorted hu6) rfl bl.sorted boot_sorted (p_var (pe_var (i := 11) rfl (.inl rfl))))))) a_nil)))))))))))))
theorem sc_law_open_cells : FnScope ["script", "stirred", "cell", "cells"] ["script"] (defScope st_law_open_cells) := ⟨rfl, rfl, rfl, by decide +kernel, rfl, by decide +kernel, by decide +kernel⟩
theorem ok_law_open_cells (F : FunD K "_law_open_cells" "_law_open_cells" (defArgs st_law_open_cells) (defBody st_law_open_cells) (defScope st_law_open_cells) [] [] f fd) (bl : Bl mg)  : FnG P w K mg base 1 f fd ["script"] (spG K 1 g_law_open_cells) :=
  have sc := sc_law_open_cells
  fn_okM (N := ["script", "stirred", "cell", "cells"]) (ps := ["script"]) (m := m_law_open_cells) F sc fun cd A fr s H E hg hr => by
    have hu6 : (A.deeper (envOfC "_law_open_cells" (defScope st_law_open_cells) s.heap.objs.size f cd)).units + 66 < cLine := by have := hr.un; omega
    have hu4 : (A.deeper (envOfC "_law_open_cells" (defScope st_law_open_cells) s.heap.objs.size f cd)).units + 64 < cLine := by have := hr.un; omega
    have hu1 : (A.deeper (envOfC "_law_open_cells" (defScope st_law_open_cells) s.heap.objs.size f cd)).units + 1 < cLine := by have := hr.un; omega
    exact (b_cons (s_set (i := 1) (ps_set sc.nd rfl (.inl rfl) d_int))
      (b_cons (s_for (idx := [2]) PassesOwn.never rfl (i_scr (pe_var (i := 0) rfl (.inl rfl))) (q_name (pg_name (i := 2) sc.nd rfl (.inl rfl)) (by decide)) (b_one (s_set (i := 1) (ps_set sc.nd rfl (.inl rfl) (d_bin o_mod (p_of (d_t1 c_int rfl bl.int boot_int (p_of (d_bin o_add (p_of (d_bin o_add (p_of (d_bin o_mul (p_var (pe_var (i := 1) rfl (.inl rfl))) (p_of d_int))) (p_of (d_bin o_mul (p_var (pe_var (i := 2) rfl (.inl rfl))) (p_of d_int))))) (p_of d_int))))) (p_of d_int))))))
      (b_cons (s_lc rfl sc.nd rfl rfl (sw_true rfl rfl rfl rfl) (i_scr (pe_var (i := 0) rfl (.inl rfl))) (blkOk_by (own := [("cell", 2)]) (by kernel_rfl)) rfl (fun _ _ _ _ _ => (q_name (pg_name (i := 2) sc.nd rfl (.inl rfl)) (by decide))) (fun _ _ _ _ _ => t_yes) (fun _ _ _ _ _ => (f_of (d_b1 c_abs rfl bl.abs boot_abs (p_var (pe_var (i := 2) rfl (.inl rfl)))))))
      (b_one (s_ret (k_new (d_rev (p_var (pe_var (i := 3) rfl (.inl rfl)))) (f_of d_int) (f_of (d_var (pe_var (i := 1) rfl (.inl rfl)))) (f_of d_int)))))))
theorem sc_law : FnScope ["script", "source", "lap", "net", "n", "shown", "order", "one", "other", "both", "either", "first", "second", "told", "table", "names", "late", "moved", "a", "b", "k", "less", "x", "c", "y"] ["script"] (defScope st_law) := ⟨rfl, rfl, rfl, by decide +kernel, rfl, by decide +kernel, by decide +kernel⟩
theorem ok_law (F : FunD K "law" "law" (defArgs st_law) (defBody st_law) (defScope st_law) [] [] f fd) (bl : Bl mg) (Dhold_table : Def P w K mg base 3 1 "hold_table" g_hold_table) (Dlaw_pick : Def P w K mg base 1 2 "_law_pick" g_law_pick) (Dlaw_any_order : Def P w K mg base 2 2 "_law_any_order" g_law_any_order) (Dtable_paper : Def P w K mg base 2 1 "table_paper" g_table_paper) (Dcut_number : Def P w K mg base 1 2 "cut_number" g_cut_number) (Dlaw_draw_net : Def P w K mg base 3 3 "_law_draw_net" g_law_draw_net) (Dlaw_open_cells : Def P w K mg base 1 1 "_law_open_cells" g_law_open_cells) : FnG P w K mg base 4 f fd ["script"] (spG K 1 g_law) :=
  have sc := sc_law
  fn_okM (N := ["script", "source", "lap", "net", "n", "shown", "order", "one", "other", "both", "either", "first", "second", "told", "table", "names", "late", "moved", "a", "b", "k", "less", "x", "c", "y"]) (ps := ["script"]) (m := m_law) F sc fun cd A fr s H E hg hr => by
    have hu6 : (A.deeper (envOfC "law" (defScope st_law) s.heap.objs.size f cd)).units + 66 < cLine := by have := hr.un; omega
    have hu4 : (A.deeper (envOfC "law" (defScope st_law) s.heap.objs.size f cd)).units + 64 < cLine := by have := hr.un; omega
    have hu1 : (A.deeper (envOfC "law" (defScope st_law) s.heap.objs.size f cd)).units + 1 < cLine := by have := hr.un; omega
    exact (b_cons (s_set (i := 1) (ps_set sc.nd rfl (.inl rfl) (d_call Dlaw_open_cells hg (hr.mono (by decide)) rfl (x_src (pe_var (i := 0) rfl (.inl rfl)) x_nil) (xn_src xn_nil))))
      (b_cons (s_for (idx := [2]) PassesOwn.never rfl (j_rng1 rfl bl.range (a_cons (f_of d_int) a_nil)) (q_name (pg_name (i := 2) sc.nd rfl (.inl rfl)) (by decide)) (b_cons (s_set (i := 3) (ps_set sc.nd rfl (.inl rfl) (d_call Dlaw_draw_net hg (hr.mono (by decide)) rfl (x_src (pe_var (i := 1) rfl (.inl rfl)) (x_cons (f_of (d_ix (p_of (d_lst (a_cons (f_of d_int) (a_cons (f_of d_int) (a_cons (f_of d_int) (a_cons (f_of d_int) a_nil)))))) (p_var (pe_var (i := 2) rfl (.inl rfl))) fun _ _ => rfl)) (x_cons (f_of (d_ix (p_of (d_lst (a_cons (f_of d_int) (a_cons (f_of d_int) (a_cons (f_of d_int) (a_cons (f_of d_int) a_nil)))))) (p_var (pe_var (i := 2) rfl (.inl rfl))) fun _ _ => rfl)) x_nil))) (xn_src (xn_cons (xn_cons xn_nil))))))
      (b_cons (s_par2 (by decide) (ps_par (i := 4) (j := 5) rfl sc.nd rfl rfl (by decide) rfl rfl (pa_cons (d_ix (p_var (pe_var (i := 3) rfl (.inl rfl))) (p_of d_int) fun _ _ => rfl) (pa_cons (d_b1 (c_repr hg hu4) rfl bl.repr boot_repr (p_var (pe_var (i := 3) rfl (.inl rfl)))) pa_nil)) rfl))
      (b_cons (s_set (i := 6) (ps_set sc.nd rfl (.inl rfl) (d_call Dlaw_any_order hg (hr.mono (by decide)) rfl (x_src (pe_var (i := 1) rfl (.inl rfl)) (x_cons (f_of (d_lrg rfl rfl bl.list (g_1 rfl bl.range (d_var (pe_var (i := 4) rfl (.inl rfl)))))) x_nil)) (xn_src (xn_cons xn_nil)))))
      (b_cons (s_par2T (by decide) (ps_asg (pe_tup (pa_cons (d_t1 c_tuple rfl bl.tuple boot_tuple (p_of (d_b1 (c_sorted hu6) rfl bl.sorted boot_sorted (p_of (d_sl (p_var (pe_var (i := 6) rfl (.inl rfl))) o_none (o_some (d_call Dlaw_pick hg (hr.mono (by decide)) rfl (x_src (pe_var (i := 1) rfl (.inl rfl)) (x_cons (f_of (d_bin o_add (p_var (pe_var (i := 4) rfl (.inl rfl))) (p_of d_int))) x_nil)) (xn_src (xn_cons xn_nil))))))))) (pa_cons (d_t1 c_tuple rfl bl.tuple boot_tuple (p_of (d_b1 (c_sorted hu6) rfl bl.sorted boot_sorted (p_of (d_sl (p_var (pe_var (i := 6) rfl (.inl rfl))) (o_some (d_call Dlaw_pick hg (hr.mono (by decide)) rfl (x_src (pe_var (i := 1) rfl (.inl rfl)) (x_cons (f_of (d_bin o_add (p_var (pe_var (i := 4) rfl (.inl rfl))) (p_of d_int))) x_nil)) (xn_src (xn_cons xn_nil)))) o_none))))) pa_nil))) (pg_tup rfl (pgs_cons (pg_name (i := 7) sc.nd rfl (.inr rfl)) (pgs_cons (pg_name (i := 8) sc.nd rfl (.inr rfl)) pgs_nil)))))
      (b_cons (s_par2 (by decide) (ps_par (i := 9) (j := 10) rfl sc.nd rfl rfl (by decide) rfl rfl (pa_cons (d_lc rfl sc.nd (j_seq (f_of (d_var (pe_var (i := 7) rfl (.inr (.inl rfl)))))) (blkOk_by (own := [("c", 23)]) (by kernel_rfl)) rfl (fun _ _ _ _ _ => (q_name (pg_name (i := 23) sc.nd rfl (.inl rfl)) (by decide))) (fun _ _ _ _ _ => (t_one (t_cmp (o_in hu6) (p_var (pe_var (i := 23) rfl (.inl rfl))) (p_var (pe_var (i := 8) rfl (.inr (.inl rfl)))) rfl))) (fun _ _ _ _ _ => (f_of (d_var (pe_var (i := 23) rfl (.inl rfl)))))) (pa_cons (d_lc rfl sc.nd (j_rng1 rfl bl.range (a_cons (f_of (d_var (pe_var (i := 4) rfl (.inl rfl)))) a_nil)) (blkOk_by (own := [("c", 23)]) (by kernel_rfl)) rfl (fun _ _ _ _ _ => (q_name (pg_name (i := 23) sc.nd rfl (.inl rfl)) (by decide))) (fun _ _ _ _ _ => (t_one (PW.pt (w_or (t_cmp (o_in hu6) (p_var (pe_var (i := 23) rfl (.inl rfl))) (p_var (pe_var (i := 7) rfl (.inr (.inl rfl)))) rfl) (w_or1 (t_cmp (o_in hu6) (p_var (pe_var (i := 23) rfl (.inl rfl))) (p_var (pe_var (i := 8) rfl (.inr (.inl rfl)))) rfl)))))) (fun _ _ _ _ _ => (f_of (d_var (pe_var (i := 23) rfl (.inl rfl)))))) pa_nil)) rfl))
      (b_cons (s_par2 (by decide) (ps_par (i := 11) (j := 12) rfl sc.nd rfl rfl (by decide) rfl rfl (pa_cons (d_lc rfl sc.nd (j_seq (f_of (d_var (pe_var (i := 7) rfl (.inr (.inl rfl)))))) (blkOk_by (own := [("c", 23)]) (by kernel_rfl)) rfl (fun _ _ _ _ _ => (q_name (pg_name (i := 23) sc.nd rfl (.inl rfl)) (by decide))) (fun _ _ _ _ _ => (t_one (t_cmp (o_notIn hu6) (p_var (pe_var (i := 23) rfl (.inl rfl))) (p_var (pe_var (i := 8) rfl (.inr (.inl rfl)))) rfl))) (fun _ _ _ _ _ => (f_of (d_var (pe_var (i := 23) rfl (.inl rfl)))))) (pa_cons (d_lc rfl sc.nd (j_seq (f_of (d_var (pe_var (i := 8) rfl (.inr (.inl rfl)))))) (blkOk_by (own := [("c", 23)]) (by kernel_rfl)) rfl (fun _ _ _ _ _ => (q_name (pg_name (i := 23) sc.nd rfl (.inl rfl)) (by decide))) (fun _ _ _ _ _ => (t_one (t_cmp (o_notIn hu6) (p_var (pe_var (i := 23) rfl (.inl rfl))) (p_var (pe_var (i := 7) rfl (.inr (.inl rfl)))) rfl))) (fun _ _ _ _ _ => (f_of (d_var (pe_var (i := 23) rfl (.inl rfl)))))) pa_nil)) rfl))
      (b_cons (s_set (i := 13) (ps_set sc.nd rfl (.inl rfl) (d_bin o_add (p_of (d_call Dcut_number hg (hr.mono (by decide)) rfl (x_cons (f_of (d_var (pe_var (i := 3) rfl (.inl rfl)))) (x_cons (f_of (d_var (pe_var (i := 7) rfl (.inr (.inl rfl))))) x_nil)) (xn_cons (xn_cons xn_nil)))) (p_of (d_call Dcut_number hg (hr.mono (by decide)) rfl (x_cons (f_of (d_var (pe_var (i := 3) rfl (.inl rfl)))) (x_cons (f_of (d_var (pe_var (i := 8) rfl (.inr (.inl rfl))))) x_nil)) (xn_cons (xn_cons xn_nil)))))))
      (b_cons (s_if (t_cmp (o_lt hu4) (p_var (pe_var (i := 13) rfl (.inl rfl))) (p_of (d_bin o_add (p_of (d_call Dcut_number hg (hr.mono (by decide)) rfl (x_cons (f_of (d_var (pe_var (i := 3) rfl (.inl rfl)))) (x_cons (f_of (d_t1 c_tuple rfl bl.tuple boot_tuple (p_var (pe_var (i := 9) rfl (.inl rfl))))) x_nil)) (xn_cons (xn_cons xn_nil)))) (p_of (d_call Dcut_number hg (hr.mono (by decide)) rfl (x_cons (f_of (d_var (pe_var (i := 3) rfl (.inl rfl)))) (x_cons (f_of (d_t1 c_tuple rfl bl.tuple boot_tuple (p_var (pe_var (i := 10) rfl (.inl rfl))))) x_nil)) (xn_cons (xn_cons xn_nil)))))) (nomark _)) (b_one (s_ret d_bl)) b_nil)
      (b_cons (s_if (t_cmp (o_lt hu4) (p_var (pe_var (i := 13) rfl (.inl rfl))) (p_of (d_bin o_add (p_of (d_call Dcut_number hg (hr.mono (by decide)) rfl (x_cons (f_of (d_var (pe_var (i := 3) rfl (.inl rfl)))) (x_cons (f_of (d_t1 c_tuple rfl bl.tuple boot_tuple (p_var (pe_var (i := 11) rfl (.inl rfl))))) x_nil)) (xn_cons (xn_cons xn_nil)))) (p_of (d_call Dcut_number hg (hr.mono (by decide)) rfl (x_cons (f_of (d_var (pe_var (i := 3) rfl (.inl rfl)))) (x_cons (f_of (d_t1 c_tuple rfl bl.tuple boot_tuple (p_var (pe_var (i := 12) rfl (.inl rfl))))) x_nil)) (xn_cons (xn_cons xn_nil)))))) (nomark _)) (b_one (s_ret d_bl)) b_nil)
      (b_cons (s_if (t_cmp (o_ne hu4) (p_of (d_call Dcut_number hg (hr.mono (by decide)) rfl (x_cons (f_of (d_var (pe_var (i := 3) rfl (.inl rfl)))) (x_cons (f_of (d_var (pe_var (i := 7) rfl (.inr (.inl rfl))))) x_nil)) (xn_cons (xn_cons xn_nil)))) (p_of (d_call Dcut_number hg (hr.mono (by decide)) rfl (x_cons (f_of (d_var (pe_var (i := 3) rfl (.inl rfl)))) (x_cons (f_of (d_t1 c_tuple rfl bl.tuple boot_tuple (p_of (d_lc rfl sc.nd (j_rng1 rfl bl.range (a_cons (f_of (d_var (pe_var (i := 4) rfl (.inl rfl)))) a_nil)) (blkOk_by (own := [("c", 23)]) (by kernel_rfl)) rfl (fun _ _ _ _ _ => (q_name (pg_name (i := 23) sc.nd rfl (.inl rfl)) (by decide))) (fun _ _ _ _ _ => (t_one (t_cmp (o_notIn hu6) (p_var (pe_var (i := 23) rfl (.inl rfl))) (p_var (pe_var (i := 7) rfl (.inr (.inl rfl)))) rfl))) (fun _ _ _ _ _ => (f_of (d_var (pe_var (i := 23) rfl (.inl rfl))))))))) x_nil)) (xn_cons (xn_cons xn_nil)))) (nomark _)) (b_one (s_ret d_bl)) b_nil)
      (b_cons (s_set (i := 14) (ps_set sc.nd rfl (.inr rfl) (d_call Dhold_table hg (hr.mono (by decide)) rfl (x_cons (f_of (d_var (pe_var (i := 3) rfl (.inl rfl)))) x_nil) (xn_cons xn_nil))))
      (b_cons (s_if (PW.pt (w_or (t_cmp (o_ne hu4) (p_of (d_ix (p_of (d_call Dtable_paper hg (hr.mono (by decide)) rfl (x_cons (f_of (d_var (pe_var (i := 14) rfl (.inr (.inl rfl))))) x_nil) (xn_cons xn_nil))) (p_of d_int) fun _ _ => rfl)) (p_of d_str) (nomark _)) (w_or1 (t_cmp (o_ne hu4) (p_of (d_call Dhold_table hg (hr.mono (by decide)) rfl (x_cons (f_of (d_ix (p_of (d_call Dtable_paper hg (hr.mono (by decide)) rfl (x_cons (f_of (d_var (pe_var (i := 14) rfl (.inr (.inl rfl))))) x_nil) (xn_cons xn_nil))) (p_of d_int) fun _ _ => rfl)) x_nil) (xn_cons xn_nil))) (p_var (pe_var (i := 14) rfl (.inr (.inl rfl)))) (nomark _))))) (b_one (s_ret d_bl)) b_nil)
      (b_cons (s_set (i := 15) (ps_set sc.nd rfl (.inr rfl) (d_call Dlaw_any_order hg (hr.mono (by decide)) rfl (x_src (pe_var (i := 1) rfl (.inl rfl)) (x_cons (f_of (d_lrg rfl rfl bl.list (g_1 rfl bl.range (d_var (pe_var (i := 4) rfl (.inl rfl)))))) x_nil)) (xn_src (xn_cons xn_nil)))))
      (b_cons (s_set (i := 16) (ps_set sc.nd rfl (.inl rfl) (d_tup (a_cons (f_of (d_var (pe_var (i := 4) rfl (.inl rfl)))) (a_cons (f_of (d_t1 c_tuple rfl bl.tuple boot_tuple (p_of (d_b1 (c_sorted hu6) rfl bl.sorted boot_sorted (p_of (d_lc rfl sc.nd (j_seq (f_of (d_ix (p_var (pe_var (i := 3) rfl (.inl rfl))) (p_of d_int) fun _ _ => rfl))) (blkOk_by (own := [("a", 18), ("b", 19)]) (by kernel_rfl)) rfl (fun _ _ _ _ _ => (q_tup rfl (q_cons (q_name (pg_name (i := 18) sc.nd rfl (.inl rfl)) (by decide)) (q_cons (q_name (pg_name (i := 19) sc.nd rfl (.inl rfl)) (by decide)) q_nil)) (gl_cons (gl_cons gl_nil)))) (fun _ _ _ _ _ => t_yes) (fun _ _ _ _ _ => (f_of (d_t1 c_tuple rfl bl.tuple boot_tuple (p_of (d_b1 (c_sorted hu6) rfl bl.sorted boot_sorted (p_of (d_tup (a_cons (f_of (d_ix (p_var (pe_var (i := 15) rfl (.inr (.inl rfl)))) (p_var (pe_var (i := 18) rfl (.inl rfl))) fun _ _ => rfl)) (a_cons (f_of (d_ix (p_var (pe_var (i := 15) rfl (.inr (.inl rfl)))) (p_var (pe_var (i := 19) rfl (.inl rfl))) fun _ _ => rfl)) a_nil))))))))))))))) a_nil)))))
      (b_cons (s_set (i := 17) (ps_set sc.nd rfl (.inl rfl) (d_call Dhold_table hg (hr.mono (by decide)) rfl (x_cons (f_of (d_var (pe_var (i := 16) rfl (.inl rfl)))) x_nil) (xn_cons xn_nil))))
      (b_cons (s_for (idx := [18]) PassesOwn.never rfl (j_rng1 rfl bl.range (a_cons (f_of (d_var (pe_var (i := 4) rfl (.inl rfl)))) a_nil)) (q_name (pg_name (i := 18) sc.nd rfl (.inl rfl)) (by decide)) (b_one (s_for (idx := [19]) PassesOwn.never rfl (j_rng1 rfl bl.range (a_cons (f_of (d_var (pe_var (i := 4) rfl (.inl rfl)))) a_nil)) (q_name (pg_name (i := 19) sc.nd rfl (.inl rfl)) (by decide)) (b_one (s_if (t_cmp (o_ne hu4) (p_of (d_ix (p_of (d_ix (p_var (pe_var (i := 17) rfl (.inl rfl))) (p_of (d_ix (p_var (pe_var (i := 15) rfl (.inr (.inl rfl)))) (p_var (pe_var (i := 18) rfl (.inl rfl))) fun _ _ => rfl)) fun _ _ => rfl)) (p_of (d_ix (p_var (pe_var (i := 15) rfl (.inr (.inl rfl)))) (p_var (pe_var (i := 19) rfl (.inl rfl))) fun _ _ => rfl)) fun _ _ => rfl)) (p_of (d_ix (p_of (d_ix (p_var (pe_var (i := 14) rfl (.inr (.inl rfl)))) (p_var (pe_var (i := 18) rfl (.inl rfl))) fun _ _ => rfl)) (p_var (pe_var (i := 19) rfl (.inl rfl))) fun _ _ => rfl)) (nomark _)) (b_one (s_ret d_bl)) b_nil)))))
      (b_cons (s_if (t_cmp (o_ne0 hu4) (p_of (d_ix (p_var (pe_var (i := 3) rfl (.inl rfl))) (p_of d_int) fun _ _ => rfl)) (p_of (d_tup a_nil)) (nomark _)) (b_cons (s_set (i := 20) (ps_set sc.nd rfl (.inl rfl) (d_call Dlaw_pick hg (hr.mono (by decide)) rfl (x_src (pe_var (i := 1) rfl (.inl rfl)) (x_cons (f_of (d_b1 c_len rfl bl.len boot_len (p_of (d_ix (p_var (pe_var (i := 3) rfl (.inl rfl))) (p_of d_int) fun _ _ => rfl)))) x_nil)) (xn_src (xn_cons xn_nil)))))
      (b_cons (s_set (i := 21) (ps_set sc.nd rfl (.inr rfl) (d_call Dhold_table hg (hr.mono (by decide)) rfl (x_cons (f_of (d_tup (a_cons (f_of (d_var (pe_var (i := 4) rfl (.inl rfl)))) (a_cons (f_of (d_bin o_add (p_of (d_sl (p_of (d_ix (p_var (pe_var (i := 3) rfl (.inl rfl))) (p_of d_int) fun _ _ => rfl)) o_none (o_some (d_var (pe_var (i := 20) rfl (.inl rfl)))))) (p_of (d_sl (p_of (d_ix (p_var (pe_var (i := 3) rfl (.inl rfl))) (p_of d_int) fun _ _ => rfl)) (o_some (d_bin o_add (p_var (pe_var (i := 20) rfl (.inl rfl))) (p_of d_int))) o_none)))) a_nil)))) x_nil) (xn_cons xn_nil))))
      (b_one (s_for (idx := [22]) PassesOwn.never rfl (j_rng1 rfl bl.range (a_cons (f_of (d_var (pe_var (i := 4) rfl (.inl rfl)))) a_nil)) (q_name (pg_name (i := 22) sc.nd rfl (.inr rfl)) (by decide)) (b_one (s_if (t_cmp (o_ne0 hu4) (p_of (d_lc rfl sc.nd (j_rng1 rfl bl.range (a_cons (f_of (d_var (pe_var (i := 4) rfl (.inl rfl)))) a_nil)) (blkOk_by (own := [("y", 24)]) (by kernel_rfl)) rfl (fun _ _ _ _ _ => (q_name (pg_name (i := 24) sc.nd rfl (.inl rfl)) (by decide))) (fun _ _ _ _ _ => (t_one (t_cmp (o_notIn hu6) (p_of (d_bin o_sub (p_of (d_ix (p_of (d_ix (p_var (pe_var (i := 14) rfl (.inr (.inl rfl)))) (p_var (pe_var (i := 22) rfl (.inr (.inl rfl)))) fun _ _ => rfl)) (p_var (pe_var (i := 24) rfl (.inl rfl))) fun _ _ => rfl)) (p_of (d_ix (p_of (d_ix (p_var (pe_var (i := 21) rfl (.inr (.inl rfl)))) (p_var (pe_var (i := 22) rfl (.inr (.inl rfl)))) fun _ _ => rfl)) (p_var (pe_var (i := 24) rfl (.inl rfl))) fun _ _ => rfl)))) (p_of (d_tup (a_cons (f_of d_int) (a_cons (f_of d_int) a_nil)))) rfl))) (fun _ _ _ _ _ => (f_of (d_var (pe_var (i := 24) rfl (.inl rfl))))))) (p_of (d_lst a_nil)) (nomark _)) (b_one (s_ret d_bl)) b_nil)))))) b_nil)
      (b_one (s_if (t_cmp (o_ne hu4) (p_of (d_b1 (c_repr hg hu4) rfl bl.repr boot_repr (p_var (pe_var (i := 3) rfl (.inl rfl))))) (p_var (pe_var (i := 5) rfl (.inl rfl))) (nomark _)) (b_one (s_ret d_bl)) b_nil))))))))))))))))))))
      (b_one (s_ret d_bl))))
end
def dd_lots_parting : He.DefD := ⟨("lots_parting", none), "lots_parting", "lots_parting", defArgs st_lots_parting, defBody st_lots_parting, defScope st_lots_parting, [], []⟩
def dd_cut_number : He.DefD := ⟨("cut_number", none), "cut_number", "cut_number", defArgs st_cut_number, defBody st_cut_number, defScope st_cut_number, [], []⟩
def dd_hold : He.DefD := ⟨("hold", none), "hold", "hold", defArgs st_hold, defBody st_hold, defScope st_hold, [], []⟩
def dd_hold_table : He.DefD := ⟨("hold_table", none), "hold_table", "hold_table", defArgs st_hold_table, defBody st_hold_table, defScope st_hold_table, [], []⟩
def dd_law_pick : He.DefD := ⟨("_law_pick", none), "_law_pick", "_law_pick", defArgs st_law_pick, defBody st_law_pick, defScope st_law_pick, [], []⟩
def dd_law_any_order : He.DefD := ⟨("_law_any_order", none), "_law_any_order", "_law_any_order", defArgs st_law_any_order, defBody st_law_any_order, defScope st_law_any_order, [], []⟩
def dd_table_net : He.DefD := ⟨("table_net", none), "table_net", "table_net", defArgs st_table_net, defBody st_table_net, defScope st_table_net, [], []⟩
def dd_bad_three : He.DefD := ⟨("bad_three", none), "bad_three", "bad_three", defArgs st_bad_three, defBody st_bad_three, defScope st_bad_three, [], []⟩
def dd_table_paper : He.DefD := ⟨("table_paper", none), "table_paper", "table_paper", defArgs st_table_paper, defBody st_table_paper, defScope st_table_paper, [], []⟩
def dd_law_draw_net : He.DefD := ⟨("_law_draw_net", none), "_law_draw_net", "_law_draw_net", defArgs st_law_draw_net, defBody st_law_draw_net, defScope st_law_draw_net, [], []⟩
def dd_law_open_cells : He.DefD := ⟨("_law_open_cells", none), "_law_open_cells", "_law_open_cells", defArgs st_law_open_cells, defBody st_law_open_cells, defScope st_law_open_cells, [], []⟩
def dd_law : He.DefD := ⟨("law", none), "law", "law", defArgs st_law, defBody st_law, defScope st_law, [], []⟩
def fn : List He.DefD := [dd_lots_parting, dd_cut_number, dd_hold, dd_hold_table, dd_law_pick, dd_law_any_order, dd_table_net, dd_bad_three, dd_table_paper, dd_law_draw_net, dd_law_open_cells, dd_law]
def fa : List He.Fa := [.glo "lots_parting", .glo "cut_number", .glo "hold", .glo "hold_table", .glo "_law_pick", .glo "_law_any_order", .glo "table_net", .glo "bad_three", .glo "table_paper", .glo "_law_draw_net", .glo "_law_open_cells", .glo "law", .free "sorted", .free "tuple", .free "range", .free "len", .free "min", .free "int", .free "list", .free "set", .free "abs", .free "repr"]
abbrev R : PySem.W.OpenRow := PySem.W.OpenLaw.row PySem.Challenge.rw_waysandcuts_k17_whole_cuts_and_holds
abbrev hk : PySem.W.Hook := He.hookD 4 fa fn
def ob (s : PySem.W.SharedT) : He.AlD := He.obsDG 4 fa fn (HandSHeadRun.getT s)
theorem ob_eq (s : PySem.W.SharedT) : ob s = hk.obs s.abs := He.obsDG_eq (HandSHeadRun.getT_eq s)
def loose : List Str := ["cut_number", "lots_parting", "hold", "hold_table", "bad_three", "table_net", "table_paper", "_law_open_cells", "_law_pick", "_law_any_order", "_law_draw_net"]
theorem run (w : World) : HandSHeadRun.RunEq R (PySem.W.view R.prog [14]) hk ob 4000 loose w := by
  intro os
  kernel_rfl
theorem facts {P : Program} {w : World} {K : PySem.W.Frag} {h : Heap} {mg : Str → Option Value} {f : Addr} (X : K.In h) (G : h.Ns mainGlobals mg) (hfa : mg ("law" : Str) = some (.ref f)) (c : He.SaysD fa fn K)
    (good : ∀ ns : List Int, ns.length ≤ 63 → ∃ s, g_law [.scr ns] none = some (.v (.bool true), s)) :
    ∃ fd : FuncData, (∀ (s : Shared) (v : Value), BindsTo s fd ⟨[v], []⟩ [("script", v)]) ∧ ∀ base : Heap, K.In base → base.Ns mainGlobals mg → FnG P w K mg base 4 f fd ["script"] (spLaw K 63) := by
  obtain ⟨f0, F0⟩ := c.def_ 0 (d := dd_lots_parting) rfl
  obtain ⟨f1, F1⟩ := c.def_ 1 (d := dd_cut_number) rfl
  obtain ⟨f2, F2⟩ := c.def_ 2 (d := dd_hold) rfl
  obtain ⟨f3, F3⟩ := c.def_ 3 (d := dd_hold_table) rfl
  obtain ⟨f4, F4⟩ := c.def_ 4 (d := dd_law_pick) rfl
  obtain ⟨f5, F5⟩ := c.def_ 5 (d := dd_law_any_order) rfl
  obtain ⟨f6, F6⟩ := c.def_ 6 (d := dd_table_net) rfl
  obtain ⟨f7, F7⟩ := c.def_ 7 (d := dd_bad_three) rfl
  obtain ⟨f8, F8⟩ := c.def_ 8 (d := dd_table_paper) rfl
  obtain ⟨f9, F9⟩ := c.def_ 9 (d := dd_law_draw_net) rfl
  obtain ⟨f10, F10⟩ := c.def_ 10 (d := dd_law_open_cells) rfl
  obtain ⟨f11, F11⟩ := c.def_ 11 (d := dd_law) rfl
  have e := hfa.symm.trans (He.glo_ok X G (c.fact 11 (f := .glo "law") rfl))
  cases e
  have bl : Bl mg := ⟨He.free_ok X G (c.fact 12 (f := .free "sorted") rfl), He.free_ok X G (c.fact 13 (f := .free "tuple") rfl), He.free_ok X G (c.fact 14 (f := .free "range") rfl), He.free_ok X G (c.fact 15 (f := .free "len") rfl), He.free_ok X G (c.fact 16 (f := .free "min") rfl), He.free_ok X G (c.fact 17 (f := .free "int") rfl), He.free_ok X G (c.fact 18 (f := .free "list") rfl), He.free_ok X G (c.fact 19 (f := .free "set") rfl), He.free_ok X G (c.fact 20 (f := .free "abs") rfl), He.free_ok X G (c.fact 21 (f := .free "repr") rfl)⟩
  have b := FunD.bindsA (ps := ["script"]) F11 fun _ _ _ _ _ _ us hl => match us, hl with | [_], _ => rfl
  refine ⟨f11, fun s v => b s [v] rfl, fun base _ _ => ?_⟩
  have Dlots_parting : Def P w K mg base 1 3 "lots_parting" g_lots_parting := ⟨_, f0, ["net", "a", "b"], rfl, ok_lots_parting F0 bl , He.glo_ok X G (c.fact 0 (f := .glo "lots_parting") rfl), F0.kp, F0.bindsN fun _ _ _ _ _ _ us hl => match us, hl with | [_, _, _], _ => rfl⟩
  have Dcut_number : Def P w K mg base 1 2 "cut_number" g_cut_number := ⟨_, f1, ["net", "lot"], rfl, ok_cut_number F1 bl , He.glo_ok X G (c.fact 1 (f := .glo "cut_number") rfl), F1.kp, F1.bindsN fun _ _ _ _ _ _ us hl => match us, hl with | [_, _], _ => rfl⟩
  have Dhold : Def P w K mg base 2 3 "hold" g_hold := ⟨_, f2, ["net", "a", "b"], rfl, ok_hold F2 bl Dlots_parting Dcut_number, He.glo_ok X G (c.fact 2 (f := .glo "hold") rfl), F2.kp, F2.bindsN fun _ _ _ _ _ _ us hl => match us, hl with | [_, _, _], _ => rfl⟩
  have Dhold_table : Def P w K mg base 3 1 "hold_table" g_hold_table := ⟨_, f3, ["net"], rfl, ok_hold_table F3 bl Dhold, He.glo_ok X G (c.fact 3 (f := .glo "hold_table") rfl), F3.kp, F3.bindsN fun _ _ _ _ _ _ us hl => match us, hl with | [_], _ => rfl⟩
  have Dlaw_pick : Def P w K mg base 1 2 "_law_pick" g_law_pick := ⟨_, f4, ["source", "most"], rfl, ok_law_pick F4 bl , He.glo_ok X G (c.fact 4 (f := .glo "_law_pick") rfl), F4.kp, F4.bindsN fun _ _ _ _ _ _ us hl => match us, hl with | [_, _], _ => rfl⟩
  have Dlaw_any_order : Def P w K mg base 2 2 "_law_any_order" g_law_any_order := ⟨_, f5, ["source", "things"], rfl, ok_law_any_order F5 bl Dlaw_pick, He.glo_ok X G (c.fact 5 (f := .glo "_law_any_order") rfl), F5.kp, F5.bindsN fun _ _ _ _ _ _ us hl => match us, hl with | [_, _], _ => rfl⟩
  have Dtable_net : Def P w K mg base 1 1 "table_net" g_table_net := ⟨_, f6, ["table"], rfl, ok_table_net F6 bl , He.glo_ok X G (c.fact 6 (f := .glo "table_net") rfl), F6.kp, F6.bindsN fun _ _ _ _ _ _ us hl => match us, hl with | [_], _ => rfl⟩
  have Dbad_three : Def P w K mg base 1 1 "bad_three" g_bad_three := ⟨_, f7, ["table"], rfl, ok_bad_three F7 bl , He.glo_ok X G (c.fact 7 (f := .glo "bad_three") rfl), F7.kp, F7.bindsN fun _ _ _ _ _ _ us hl => match us, hl with | [_], _ => rfl⟩
  have Dtable_paper : Def P w K mg base 2 1 "table_paper" g_table_paper := ⟨_, f8, ["table"], rfl, ok_table_paper F8 bl Dtable_net Dbad_three, He.glo_ok X G (c.fact 8 (f := .glo "table_paper") rfl), F8.kp, F8.bindsN fun _ _ _ _ _ _ us hl => match us, hl with | [_], _ => rfl⟩
  have Dlaw_draw_net : Def P w K mg base 3 3 "_law_draw_net" g_law_draw_net := ⟨_, f9, ["source", "stations", "links"], rfl, ok_law_draw_net F9 bl Dlaw_any_order Dlaw_pick, He.glo_ok X G (c.fact 9 (f := .glo "_law_draw_net") rfl), F9.kp, F9.bindsN fun _ _ _ _ _ _ us hl => match us, hl with | [_, _, _], _ => rfl⟩
  have Dlaw_open_cells : Def P w K mg base 1 1 "_law_open_cells" g_law_open_cells := ⟨_, f10, ["script"], rfl, ok_law_open_cells F10 bl , He.glo_ok X G (c.fact 10 (f := .glo "_law_open_cells") rfl), F10.kp, F10.bindsN fun _ _ _ _ _ _ us hl => match us, hl with | [_], _ => rfl⟩
  exact (ok_law F11 bl Dhold_table Dlaw_pick Dlaw_any_order Dtable_paper Dcut_number Dlaw_draw_net Dlaw_open_cells).imp (spLaw_of good)
end K17
open PySem PySem.W PySem.Calls PyProof.Rows
theorem K17.closes (good : ∀ ns : List Int, ns.length ≤ 63 → ∃ s, K17.g_law [.scr ns] none = some (.v (.bool true), s)) : PySem.Challenge.rw_waysandcuts_k17_whole_cuts_and_holds.Holds := by
  w_on; o_law
  refine HandSHeadRun.head_any (r := OpenLaw.row PySem.Challenge.rw_waysandcuts_k17_whole_cuts_and_holds) (q := view (OpenLaw.row PySem.Challenge.rw_waysandcuts_k17_whole_cuts_and_holds).prog [14]) (H := K17.hk) (ob := K17.ob) (M := 4000) (loose := K17.loose) (d := HandSHeadRun.topDef (OpenLaw.row PySem.Challenge.rw_waysandcuts_k17_whole_cuts_and_holds).prog 14) (kwd := []) K17.ob_eq (by kernel_rfl) (fun s => by kernel_rfl) K17.run (by kernel_rfl) (by kernel_rfl) (by kernel_rfl) (by rfl) (by first | assumption | decide +kernel) (by decide +kernel) ⟨rfl, rfl, rfl, rfl, rfl, by decide +kernel⟩ ?hw ?hc
  case hw => w_witness2
  case hc =>
    refine Pd.walk_g (l := PySem.Challenge.rw_waysandcuts_k17_whole_cuts_and_holds) (n := 63) (k := 4) (x := "script") rfl (by decide) (by kernel_rfl) ⟨rfl, by decide, by decide⟩ ?F
    intro w mg fa h Y G hmg0
    obtain ⟨K, KX, c⟩ := Y
    have hmg : mg ("law" : PySem.Str) = some (.ref fa) := by
      have e : (HandSHeadRun.topDef (OpenLaw.row PySem.Challenge.rw_waysandcuts_k17_whole_cuts_and_holds).prog 14).name = ("law" : PySem.Str) := by kernel_rfl
      rw [← e]
      exact hmg0
    obtain ⟨fd, hb, hF⟩ := K17.facts (P := (PySem.Challenge.rw_waysandcuts_k17_whole_cuts_and_holds).prog) (w := w) KX G hmg c good
    exact ⟨K, fd, KX, hb, hF⟩
end
set_option linter.all false
set_option maxRecDepth 100000
set_option maxHeartbeats 0
noncomputable section
namespace T17
open PySem PySem.Spec PyProof.Rows L2 Pd Td PM
def t_law_draw_net_L1 (p1 : (Int × Int)) : (List (Int × Int)) → Int → DM (List (Int × Int)) :=
  (fun (b6 : (List (Int × Int))) (q7 : Int) => 
  (bnd (bnd (bnd (ret p1.1) fun (a : Int) => bnd (ret ()) fun b => ret (a, b)) fun (a : (Int × Unit)) => pickD a.1) fun (a_ : Int) => 
  (bnd (bnd (bnd (bnd (bnd (ret a_) fun (a : Int) => bnd (ret (1 : Int)) fun (b : Int) => out (addI a b)) fun (a : Int) => bnd (bnd (bnd (bnd (ret p1.1) fun (a : Int) => bnd (ret (1 : Int)) fun (b : Int) => out (subI a b)) fun (a : Int) => bnd (ret ()) fun b => ret (a, b)) fun (a : (Int × Unit)) => pickD a.1) fun (b : Int) => out (addI a b)) fun (a : Int) => out (some a)) fun (a : Int) => bnd (ret p1.1) fun (b : Int) => out (modI a b)) fun (b_ : Int) => 
  (bnd (bnd (bnd (ret a_) fun (a : Int) => bnd (bnd (ret p1.1) fun (a : Int) => bnd (ret (2 : Int)) fun (b : Int) => out (divI a b)) fun (b : Int) => out (ltI a b)) fun (a : Bool) => bnd (bnd (ret b_) fun (a : Int) => bnd (bnd (ret p1.1) fun (a : Int) => bnd (ret (2 : Int)) fun (b : Int) => out (divI a b)) fun (b : Int) => out (ltI a b)) fun (b : Bool) => out (neV a b)) fun (is_far_ : Bool) => 
  (bnd (bnd (ret b6) fun (a : (List (Int × Int))) => bnd (bnd (orB (bnd (ret p1.2) fun (a : Int) => bnd (ret (3 : Int)) fun (b : Int) => out (neV a b)) (orB (bnd (ret is_far_) fun z => ret (!z)) (bnd (bnd (bnd (ret (5 : Int)) fun (a : Int) => bnd (ret ()) fun b => ret (a, b)) fun (a : (Int × Unit)) => pickD a.1) fun (a : Int) => bnd (ret (0 : Int)) fun (b : Int) => out (eqV a b)))) fun z => cnd z (bnd (bnd (bnd (ret a_) fun a => bnd (ret b_) fun b => ret (a, b)) fun (a : (Int × Int)) => bnd (ret ([] : List (Int × Int))) fun as => ret (a :: as)) fun xs => out (lenOk xs)) (bnd (ret ([] : List (Int × Int))) fun xs => out (lenOk xs))) fun (b : (List (Int × Int))) => out (cat a b)) fun (some_ : (List (Int × Int))) => 
  (ret some_))))))
def t_law_draw_net (stations_ : Int) (links_ : Int) : DM (Int × (List (Int × Int))) :=
  (bnd (bnd (bnd (ret (1 : Int)) fun (a : Int) => bnd (bnd (bnd (ret stations_) fun (a : Int) => bnd (ret ()) fun b => ret (a, b)) fun (a : (Int × Unit)) => pickD a.1) fun (b : Int) => out (addI a b)) fun a => bnd (bnd (bnd (ret (4 : Int)) fun (a : Int) => bnd (ret ()) fun b => ret (a, b)) fun (a : (Int × Unit)) => pickD a.1) fun b => ret (a, b)) fun (p1 : (Int × Int)) => 
  (bnd (bnd (ret p1.1) fun (a : Int) => bnd (ret (1 : Int)) fun (b : Int) => out (eqV a b)) fun z => cnd z
  (bnd (bnd (ret (1 : Int)) fun a => bnd (bnd (ret ([] : List (Int × Int))) fun xs => out (lenOk xs)) fun b => ret (a, b)) fun (a : (Int × (List (Int × Int)))) => ret a)
  (bnd (bnd (ret ([] : List (Int × Int))) fun xs => out (lenOk xs)) fun (some_ : (List (Int × Int))) => 
  (bnd (bnd (andB (bnd (ret p1.2) fun (a : Int) => bnd (ret (1 : Int)) fun (b : Int) => out (eqV a b)) (bnd (ret p1.1) fun (a : Int) => bnd (ret (2 : Int)) fun (b : Int) => out (gtI a b))) fun z => cnd z
  (bnd (bnd (bnd (bnd (ret p1.1) fun (a : Int) => out (rngO 0 a)) fun xs => lcM xs (fun (q2 : Int) => (ret true)) (fun (q2 : Int) => (bnd (ret q2) fun a => bnd (bnd (bnd (bnd (ret q2) fun (a : Int) => bnd (ret (1 : Int)) fun (b : Int) => out (addI a b)) fun (a : Int) => out (some a)) fun (a : Int) => bnd (ret p1.1) fun (b : Int) => out (modI a b)) fun b => ret (a, b)))) fun (a : (List (Int × Int))) => bnd (bnd (ret (1 : Int)) fun (a : Int) => bnd (bnd (bnd (ret (2 : Int)) fun (a : Int) => bnd (ret ()) fun b => ret (a, b)) fun (a : (Int × Unit)) => pickD a.1) fun (b : Int) => out (addI a b)) fun (b : Int) => out (repL a b)) fun (some_ : (List (Int × Int))) => 
  (ret some_))
  (ret some_)) fun (b3 : (List (Int × Int))) => 
  (bnd (bnd (bnd (ret p1.2) fun (a : Int) => bnd (ret (2 : Int)) fun (b : Int) => out (eqV a b)) fun z => cnd z
  (bnd (bnd (bnd (bnd (ret (1 : Int)) fun (a : Int) => bnd (ret p1.1) fun (b : Int) => out (rngO a b)) fun xs => lcM xs (fun (q4 : Int) => (ret true)) (fun (q4 : Int) => (bnd (ret q4) fun a => bnd (bnd (bnd (ret q4) fun (a : Int) => bnd (ret ()) fun b => ret (a, b)) fun (a : (Int × Unit)) => pickD a.1) fun b => ret (a, b)))) fun (a : (List (Int × Int))) => bnd (bnd (ret (1 : Int)) fun (a : Int) => bnd (bnd (bnd (ret (3 : Int)) fun (a : Int) => bnd (ret ()) fun b => ret (a, b)) fun (a : (Int × Unit)) => pickD a.1) fun (b : Int) => out (addI a b)) fun (b : Int) => out (repL a b)) fun (some_ : (List (Int × Int))) => 
  (ret some_))
  (ret b3)) fun (b5 : (List (Int × Int))) => 
  (bnd (bnd (bnd (bnd (bnd (ret p1.2) fun (a : Int) => bnd (ret (1 : Int)) fun (b : Int) => out (neV a b)) fun z => cnd z (bnd (bnd (bnd (ret links_) fun (a : Int) => bnd (ret (1 : Int)) fun (b : Int) => out (addI a b)) fun (a : Int) => bnd (ret ()) fun b => ret (a, b)) fun (a : (Int × Unit)) => pickD a.1) (bnd (bnd (ret (5 : Int)) fun (a : Int) => bnd (ret ()) fun b => ret (a, b)) fun (a : (Int × Unit)) => pickD a.1)) fun (a : Int) => out (rngO 0 a)) fun xs => foldM (t_law_draw_net_L1 p1) xs b5) fun (b8 : (List (Int × Int))) => 
  (bnd (bnd (bnd (bnd (bnd (ret p1.1) fun a => ret ((0 : Int), a)) fun (p : Int × Int) => out (rngO p.1 p.2)) fun (a : (List Int)) => bnd (ret ()) fun b => ret (a, b)) fun (a : ((List Int) × Unit)) => anyD eInt a.1) fun (names_ : (List Int)) => 
  (bnd (bnd (bnd (bnd (bnd (bnd (ret b8) fun (a : (List (Int × Int))) => bnd (ret ()) fun b => ret (a, b)) fun (a : ((List (Int × Int)) × Unit)) => anyD (eP2 eInt eInt) a.1) fun xs => bnd (ret ()) fun a => bnd (ret links_) fun b => ret (cut xs none (some b))) fun (a : (List (Int × Int))) => ret a) fun xs => lcM xs (fun (q9 : (Int × Int)) => (ret true)) (fun (q9 : (Int × Int)) => (bnd (bnd (bnd (bnd (bnd (ret names_) fun (a : (List Int)) => bnd (ret q9.1) fun (b : Int) => out (at_ a b)) fun a => bnd (bnd (ret names_) fun (a : (List Int)) => bnd (ret q9.2) fun (b : Int) => out (at_ a b)) fun b => ret (a, b)) fun (a : (Int × Int)) => out (some (sortW ltZ [a.1, a.2]))) fun (a : (List Int)) => out (some a)) fun xs => out (two xs)))) fun (found_ : (List (Int × Int))) => 
  (bnd (bnd (ret p1.1) fun a => bnd (bnd (bnd (ret found_) fun (a : (List (Int × Int))) => out (some (sortW (ltP ltZ ltZ) a))) fun (a : (List (Int × Int))) => out (some a)) fun b => ret (a, b)) fun (a : (Int × (List (Int × Int)))) => ret a)))))))))
theorem fn_law_draw_net (stations_ : Int) (links_ : Int) : FnD K17.g_law_draw_net [.src, .v (eInt stations_), .v (eInt links_)] (t_law_draw_net stations_ links_) (eP2 eInt (eTup (eP2 eInt eInt))) .val :=
  fn_d (n := 13) (m := K17.m_law_draw_net) (ρ := [.src, .val (eInt stations_), .val (eInt links_), .dead, .dead, .dead, .dead, .dead, .dead, .dead, .dead, .dead, .dead]) rfl rfl (hs_src (hs_v (hs_v (hs_no (hs_no (hs_no (hs_no (hs_no (hs_no (hs_no (hs_no (hs_no (hs_no hs_nil))))))))))))) (by
    refine k_seq (ρ' := fun (p1 : (Int × Int)) => [.src, .val (eInt stations_), .val (eInt links_), .val (eInt p1.1), .val (eInt p1.2), .dead, .dead, .dead, .dead, .dead, .dead, .dead, .dead]) (k_par2 (ev_2 op_addI (evp_of (ev_c (e := eInt) (a := (1 : Int)) rfl)) (evp_of (ev_callD (evx_src rfl (evx_cons (evf_of (ev_var (e := eInt) (a := stations_) rfl)) evx_nil)) (fun _ => rfl) (fun (a : (Int × Unit)) => fn_pick a.1)))) (ev_callD (evx_src rfl (evx_cons (evf_of (ev_c (e := eInt) (a := (4 : Int)) rfl)) evx_nil)) (fun _ => rfl) (fun (a : (Int × Unit)) => fn_pick a.1)) (fun _ => rfl)) (fun (p1 : (Int × Int)) => ?_)
    refine k_ifx (evt_of (ev_2 (op_eq eq_int (by decide)) (evp_val (e := eInt) (a := p1.1) rfl) (evp_of (ev_c (e := eInt) (a := (1 : Int)) rfl)))) ?_ ?_
    · exact k_ret (inj := fun r => r) (ev_p2 (evf_of (ev_c (e := eInt) (a := (1 : Int)) rfl)) (evf_of (ev_tup (eva_nil (e := (eP2 eInt eInt)))))) (rt_ex rt_f)
    refine k_nilseq ?_
    refine k_seq (ρ' := fun (some_ : (List (Int × Int))) => [.src, .val (eInt stations_), .val (eInt links_), .val (eInt p1.1), .val (eInt p1.2), .own ((eLst (eP2 eInt eInt)) some_), .dead, .dead, .dead, .dead, .dead, .dead, .dead]) (k_set (ev_lst (eva_nil (e := (eP2 eInt eInt)))) (fun _ => rfl)) (fun (some_ : (List (Int × Int))) => ?_)
    refine k_seq (ρ' := fun (b3 : (List (Int × Int))) => [.src, .val (eInt stations_), .val (eInt links_), .val (eInt p1.1), .val (eInt p1.2), .own ((eLst (eP2 eInt eInt)) b3), .dead, .dead, .dead, .dead, .dead, .dead, .dead]) ?_ (fun (b3 : (List (Int × Int))) => ?_)
    · refine k_if (evt_and (evt_of (ev_2 (op_eq eq_int (by decide)) (evp_val (e := eInt) (a := p1.2) rfl) (evp_of (ev_c (e := eInt) (a := (1 : Int)) rfl)))) (evt_of (ev_2 op_gtI (evp_val (e := eInt) (a := p1.1) rfl) (evp_of (ev_c (e := eInt) (a := (2 : Int)) rfl))))) ?_ ?_
      · refine k_last (ρ' := fun (some_ : (List (Int × Int))) => [.src, .val (eInt stations_), .val (eInt links_), .val (eInt p1.1), .val (eInt p1.2), .own ((eLst (eP2 eInt eInt)) some_), .dead, .dead, .dead, .dead, .dead, .dead, .dead]) (k_set (ev_2 op_repL (evp_of (ev_lc (e1 := eInt) (ρa := fun (q2 : Int) => [.src, .val (eInt stations_), .val (eInt links_), .val (eInt p1.1), .val (eInt p1.2), .own ((eLst (eP2 eInt eInt)) some_), .dead, .dead, .dead, .dead, .dead, .dead, .val (eInt q2)]) rfl (evi_rg1 (evf_of (ev_var (e := eInt) (a := p1.1) rfl))) (fun q2 => (tg_n rfl)) (fun q2 => evt_yes) (fun q2 => (evf_of (ev_p2 (evf_of (ev_var (e := eInt) (a := q2) rfl)) (evf_of (ev_2 op_modI (evp_of (ev_1 op_int (evp_of (ev_2 op_addI (evp_val (e := eInt) (a := q2) rfl) (evp_of (ev_c (e := eInt) (a := (1 : Int)) rfl)))))) (evp_val (e := eInt) (a := p1.1) rfl)))))) (fun _ => rfl))) (evp_of (ev_2 op_addI (evp_of (ev_c (e := eInt) (a := (1 : Int)) rfl)) (evp_of (ev_callD (evx_src rfl (evx_cons (evf_of (ev_c (e := eInt) (a := (2 : Int)) rfl)) evx_nil)) (fun _ => rfl) (fun (a : (Int × Unit)) => fn_pick a.1)))))) (fun _ => rfl)) (fun (some_ : (List (Int × Int))) => ?_)
        exact k_nil (nx_n (.cons .same (.cons .same (.cons .same (.cons .same (.cons .same (.cons .same (.cons .same (.cons .same (.cons .same (.cons .same (.cons .same (.cons .same (.cons .same .nil))))))))))))))
      exact k_nil (nx_n (.cons .same (.cons .same (.cons .same (.cons .same (.cons .same (.cons .same (.cons .same (.cons .same (.cons .same (.cons .same (.cons .same (.cons .same (.cons .same .nil))))))))))))))
    refine k_seq (ρ' := fun (b5 : (List (Int × Int))) => [.src, .val (eInt stations_), .val (eInt links_), .val (eInt p1.1), .val (eInt p1.2), .own ((eLst (eP2 eInt eInt)) b5), .dead, .dead, .dead, .dead, .dead, .dead, .dead]) ?_ (fun (b5 : (List (Int × Int))) => ?_)
    · refine k_if (evt_of (ev_2 (op_eq eq_int (by decide)) (evp_val (e := eInt) (a := p1.2) rfl) (evp_of (ev_c (e := eInt) (a := (2 : Int)) rfl)))) ?_ ?_
      · refine k_last (ρ' := fun (some_ : (List (Int × Int))) => [.src, .val (eInt stations_), .val (eInt links_), .val (eInt p1.1), .val (eInt p1.2), .own ((eLst (eP2 eInt eInt)) some_), .dead, .dead, .dead, .dead, .dead, .dead, .dead]) (k_set (ev_2 op_repL (evp_of (ev_lc (e1 := eInt) (ρa := fun (q4 : Int) => [.src, .val (eInt stations_), .val (eInt links_), .val (eInt p1.1), .val (eInt p1.2), .own ((eLst (eP2 eInt eInt)) b3), .dead, .dead, .dead, .dead, .dead, .dead, .val (eInt q4)]) rfl (evi_rg2 (evf_of (ev_c (e := eInt) (a := (1 : Int)) rfl)) (evf_of (ev_var (e := eInt) (a := p1.1) rfl))) (fun q4 => (tg_n rfl)) (fun q4 => evt_yes) (fun q4 => (evf_of (ev_p2 (evf_of (ev_var (e := eInt) (a := q4) rfl)) (evf_of (ev_callD (evx_src rfl (evx_cons (evf_of (ev_var (e := eInt) (a := q4) rfl)) evx_nil)) (fun _ => rfl) (fun (a : (Int × Unit)) => fn_pick a.1)))))) (fun _ => rfl))) (evp_of (ev_2 op_addI (evp_of (ev_c (e := eInt) (a := (1 : Int)) rfl)) (evp_of (ev_callD (evx_src rfl (evx_cons (evf_of (ev_c (e := eInt) (a := (3 : Int)) rfl)) evx_nil)) (fun _ => rfl) (fun (a : (Int × Unit)) => fn_pick a.1)))))) (fun _ => rfl)) (fun (some_ : (List (Int × Int))) => ?_)
        exact k_nil (nx_n (.cons .same (.cons .same (.cons .same (.cons .same (.cons .same (.cons .same (.cons .same (.cons .same (.cons .same (.cons .same (.cons .same (.cons .same (.cons .same .nil))))))))))))))
      exact k_nil (nx_n (.cons .same (.cons .same (.cons .same (.cons .same (.cons .same (.cons .same (.cons .same (.cons .same (.cons .same (.cons .same (.cons .same (.cons .same (.cons .same .nil))))))))))))))
    refine k_seq (ρ' := fun (b8 : (List (Int × Int))) => [.src, .val (eInt stations_), .val (eInt links_), .val (eInt p1.1), .val (eInt p1.2), .own ((eLst (eP2 eInt eInt)) b8), .dead, .dead, .dead, .dead, .dead, .dead, .dead]) ?_ (fun (b8 : (List (Int × Int))) => ?_)
    · refine k_for (e1 := eInt) (ρL := fun (b6 : (List (Int × Int))) => [.src, .val (eInt stations_), .val (eInt links_), .val (eInt p1.1), .val (eInt p1.2), .own ((eLst (eP2 eInt eInt)) b6), .dead, .dead, .dead, .dead, .dead, .dead, .dead]) (ρa := fun (b6 : (List (Int × Int))) (q7 : Int) => [.src, .val (eInt stations_), .val (eInt links_), .val (eInt p1.1), .val (eInt p1.2), .own ((eLst (eP2 eInt eInt)) b6), .val (eInt q7), .dead, .dead, .dead, .dead, .dead, .dead]) (b0 := b5) (evi_rg1 (evf_of (ev_if (evt_of (ev_2 (op_ne eq_int (by decide)) (evp_val (e := eInt) (a := p1.2) rfl) (evp_of (ev_c (e := eInt) (a := (1 : Int)) rfl)))) (ev_callD (evx_src rfl (evx_cons (evf_of (ev_2 op_addI (evp_val (e := eInt) (a := links_) rfl) (evp_of (ev_c (e := eInt) (a := (1 : Int)) rfl)))) evx_nil)) (fun _ => rfl) (fun (a : (Int × Unit)) => fn_pick a.1)) (ev_callD (evx_src rfl (evx_cons (evf_of (ev_c (e := eInt) (a := (5 : Int)) rfl)) evx_nil)) (fun _ => rfl) (fun (a : (Int × Unit)) => fn_pick a.1))))) (.cons .same (.cons .same (.cons .same (.cons .same (.cons .same (.cons .same (.cons .same (.cons .same (.cons .same (.cons .same (.cons .same (.cons .same (.cons .same .nil))))))))))))) (fun (b6 : (List (Int × Int))) (q7 : Int) => (tg_n rfl)) (fun (b6 : (List (Int × Int))) (q7 : Int) => ?_)
      refine k_seq (ρ' := fun (a_ : Int) => [.src, .val (eInt stations_), .val (eInt links_), .val (eInt p1.1), .val (eInt p1.2), .own ((eLst (eP2 eInt eInt)) b6), .val (eInt q7), .val (eInt a_), .dead, .dead, .dead, .dead, .dead]) (k_set (ev_callD (evx_src rfl (evx_cons (evf_of (ev_var (e := eInt) (a := p1.1) rfl)) evx_nil)) (fun _ => rfl) (fun (a : (Int × Unit)) => fn_pick a.1)) (fun _ => rfl)) (fun (a_ : Int) => ?_)
      refine k_seq (ρ' := fun (b_ : Int) => [.src, .val (eInt stations_), .val (eInt links_), .val (eInt p1.1), .val (eInt p1.2), .own ((eLst (eP2 eInt eInt)) b6), .val (eInt q7), .val (eInt a_), .val (eInt b_), .dead, .dead, .dead, .dead]) (k_set (ev_2 op_modI (evp_of (ev_1 op_int (evp_of (ev_2 op_addI (evp_of (ev_2 op_addI (evp_val (e := eInt) (a := a_) rfl) (evp_of (ev_c (e := eInt) (a := (1 : Int)) rfl)))) (evp_of (ev_callD (evx_src rfl (evx_cons (evf_of (ev_2 op_subI (evp_val (e := eInt) (a := p1.1) rfl) (evp_of (ev_c (e := eInt) (a := (1 : Int)) rfl)))) evx_nil)) (fun _ => rfl) (fun (a : (Int × Unit)) => fn_pick a.1))))))) (evp_val (e := eInt) (a := p1.1) rfl)) (fun _ => rfl)) (fun (b_ : Int) => ?_)
      refine k_seq (ρ' := fun (is_far_ : Bool) => [.src, .val (eInt stations_), .val (eInt links_), .val (eInt p1.1), .val (eInt p1.2), .own ((eLst (eP2 eInt eInt)) b6), .val (eInt q7), .val (eInt a_), .val (eInt b_), .val (eBool is_far_), .dead, .dead, .dead]) (k_set (ev_2 (op_ne eq_bool (by decide)) (evp_of (ev_2 op_ltI (evp_val (e := eInt) (a := a_) rfl) (evp_of (ev_2 op_divI (evp_val (e := eInt) (a := p1.1) rfl) (evp_of (ev_c (e := eInt) (a := (2 : Int)) rfl)))))) (evp_of (ev_2 op_ltI (evp_val (e := eInt) (a := b_) rfl) (evp_of (ev_2 op_divI (evp_val (e := eInt) (a := p1.1) rfl) (evp_of (ev_c (e := eInt) (a := (2 : Int)) rfl))))))) (fun _ => rfl)) (fun (is_far_ : Bool) => ?_)
      refine k_last (ρ' := fun (some_ : (List (Int × Int))) => [.src, .val (eInt stations_), .val (eInt links_), .val (eInt p1.1), .val (eInt p1.2), .own ((eLst (eP2 eInt eInt)) some_), .val (eInt q7), .val (eInt a_), .val (eInt b_), .val (eBool is_far_), .dead, .dead, .dead]) (k_set (ev_2 op_catL (evp_own (e := (eLst (eP2 eInt eInt))) (a := b6) rfl) (evp_of (ev_if (evt_or (evt_of (ev_2 (op_ne eq_int (by decide)) (evp_val (e := eInt) (a := p1.2) rfl) (evp_of (ev_c (e := eInt) (a := (3 : Int)) rfl)))) (evt_or (evt_not (evt_of (ev_var (e := eBool) (a := is_far_) rfl))) (evt_of (ev_2 (op_eq eq_int (by decide)) (evp_of (ev_callD (evx_src rfl (evx_cons (evf_of (ev_c (e := eInt) (a := (5 : Int)) rfl)) evx_nil)) (fun _ => rfl) (fun (a : (Int × Unit)) => fn_pick a.1))) (evp_of (ev_c (e := eInt) (a := (0 : Int)) rfl)))))) (ev_lst (eva_cons (evf_of (ev_p2 (evf_of (ev_var (e := eInt) (a := a_) rfl)) (evf_of (ev_var (e := eInt) (a := b_) rfl)))) (eva_nil (e := (eP2 eInt eInt))))) (ev_lst (eva_nil (e := (eP2 eInt eInt))))))) (fun _ => rfl)) (fun (some_ : (List (Int × Int))) => ?_)
      exact k_nil (nx_l (.cons .same (.cons .same (.cons .same (.cons .same (.cons .same (.cons .same (.cons .dead (.cons .dead (.cons .dead (.cons .dead (.cons .same (.cons .same (.cons .same .nil))))))))))))))
    refine k_seq (ρ' := fun (names_ : (List Int)) => [.src, .val (eInt stations_), .val (eInt links_), .val (eInt p1.1), .val (eInt p1.2), .own ((eLst (eP2 eInt eInt)) b8), .dead, .dead, .dead, .dead, .own ((eLst eInt) names_), .dead, .dead]) (k_set (ev_callD (evx_src rfl (evx_cons (evf_of (ev_lrg (evr_1 (ev_var (e := eInt) (a := p1.1) rfl)))) evx_nil)) (fun _ => rfl) (fun (a : ((List Int) × Unit)) => fn_any eInt a.1)) (fun _ => rfl)) (fun (names_ : (List Int)) => ?_)
    refine k_weak (ρ1 := [.src, .val (eInt stations_), .val (eInt links_), .val (eInt p1.1), .val (eInt p1.2), .any ((eLst (eP2 eInt eInt)) b8), .dead, .dead, .dead, .dead, .own ((eLst eInt) names_), .dead, .dead]) (.cons .same (.cons .same (.cons .same (.cons .same (.cons .same (.cons .ow (.cons .same (.cons .same (.cons .same (.cons .same (.cons .same (.cons .same (.cons .same .nil))))))))))))) ?_
    refine k_seq (ρ' := fun (found_ : (List (Int × Int))) => [.src, .val (eInt stations_), .val (eInt links_), .val (eInt p1.1), .val (eInt p1.2), .any ((eLst (eP2 eInt eInt)) b8), .dead, .dead, .dead, .dead, .own ((eLst eInt) names_), .own ((eLst (eP2 eInt eInt)) found_), .dead]) (k_set (ev_lc (e1 := (eP2 eInt eInt)) (ρa := fun (q9 : (Int × Int)) => [.src, .val (eInt stations_), .val (eInt links_), .val (eInt p1.1), .val (eInt p1.2), .any ((eLst (eP2 eInt eInt)) b8), .dead, .val (eInt q9.1), .val (eInt q9.2), .dead, .own ((eLst eInt) names_), .dead, .dead]) rfl (evi_seq sq_lst (evf_of (ev_sl (evp_of (ev_callD (evx_src rfl (evx_cons (evf_of (ev_varA (e := (eLst (eP2 eInt eInt))) (a := b8) rfl)) evx_nil)) (fun _ => rfl) (fun (a : ((List (Int × Int)) × Unit)) => fn_any (eP2 eInt eInt) a.1))) evo_none (evo_some (ev_var (e := eInt) (a := links_) rfl))))) (fun q9 => (tg_tp (tg_cn (tg_n rfl) (tg_cn (tg_n rfl) tg_nl)))) (fun q9 => evt_yes) (fun q9 => (evf_of (ev_two (ev_1 (op_tuple sq_lst) (evp_of (ev_1 (op_sort sq_p2 or_int (by decide) (.inr fun _ => rfl)) (evp_of (ev_p2 (evf_of (ev_2 (op_ix sq_lst) (evp_own (e := (eLst eInt)) (a := names_) rfl) (evp_val (e := eInt) (a := q9.1) rfl))) (evf_of (ev_2 (op_ix sq_lst) (evp_own (e := (eLst eInt)) (a := names_) rfl) (evp_val (e := eInt) (a := q9.2) rfl))))))))))) (fun _ => rfl)) (fun _ => rfl)) (fun (found_ : (List (Int × Int))) => ?_)
    exact k_ret (inj := fun r => r) (ev_p2 (evf_of (ev_var (e := eInt) (a := p1.1) rfl)) (evf_of (ev_1 (op_tuple sq_lst) (evp_of (ev_1 (op_sort sq_lst (or_p2 or_int or_int) (by decide) (.inl fun _ => rfl)) (evp_own (e := (eLst (eP2 eInt eInt))) (a := found_) rfl)))))) rt_f)
def t_cut_number (net_ : (Int × (List (Int × Int)))) (lot_ : (List Int)) : Option Int :=
  (bnd (bnd (bnd (bnd (bnd (ret net_) fun (p : (Int × (List (Int × Int)))) => ret p.2) fun (a : (List (Int × Int))) => ret a) fun xs => lcM xs (fun (q1 : (Int × Int)) => (bnd (bnd (ret q1.1) fun (a : Int) => bnd (ret lot_) fun (b : (List Int)) => out (inV a b)) fun (a : Bool) => bnd (bnd (ret q1.2) fun (a : Int) => bnd (ret lot_) fun (b : (List Int)) => out (inV a b)) fun (b : Bool) => out (neV a b))) (fun (q1 : (Int × Int)) => (ret (1 : Int)))) fun (a : (List Int)) => out ((some ((a).length : Int)))) fun (a : Int) => ret a)
theorem fn_cut_number (net_ : (Int × (List (Int × Int)))) (lot_ : (List Int)) : FnP K17.g_cut_number [.v ((eP2 eInt (eTup (eP2 eInt eInt))) net_), .v ((eTup eInt) lot_)] (t_cut_number net_ lot_) eInt .val :=
  fn_p (n := 4) (m := K17.m_cut_number) (ρ := [.val ((eP2 eInt (eTup (eP2 eInt eInt))) net_), .val ((eTup eInt) lot_), .dead, .dead]) rfl rfl (hs_v (hs_v (hs_no (hs_no hs_nil)))) (by
    exact k_ret (inj := fun r => r) (ev_1 (op_len sq_lst) (evp_of (ev_lc (e1 := (eP2 eInt eInt)) (ρa := fun (q1 : (Int × Int)) => [.val ((eP2 eInt (eTup (eP2 eInt eInt))) net_), .val ((eTup eInt) lot_), .val (eInt q1.1), .val (eInt q1.2)]) rfl (evi_seq sq_tup (evf_of (ev_2_1 (evp_val (e := (eP2 eInt (eTup (eP2 eInt eInt)))) (a := net_) rfl)))) (fun q1 => (tg_tp (tg_cn (tg_n rfl) (tg_cn (tg_n rfl) tg_nl)))) (fun q1 => (evt_of (ev_2 (op_ne eq_bool (by decide)) (evp_of (ev_2 (op_in sq_tup eq_int (by decide)) (evp_val (e := eInt) (a := q1.1) rfl) (evp_val (e := (eTup eInt)) (a := lot_) rfl))) (evp_of (ev_2 (op_in sq_tup eq_int (by decide)) (evp_val (e := eInt) (a := q1.2) rfl) (evp_val (e := (eTup eInt)) (a := lot_) rfl)))))) (fun q1 => (evf_of (ev_c (e := eInt) (a := (1 : Int)) rfl))) (fun _ => rfl)))) rt_f)
def t_lots_parting (net_ : (Int × (List (Int × Int)))) (a_ : Int) (b_ : Int) : Option (List (List Int)) :=
  (bnd (bnd (bnd (bnd (bnd (ret a_) fun (a : Int) => bnd (ret ([] : List Int)) fun as => ret (a :: as)) fun xs => out (lenOk xs)) fun (a : (List Int)) => bnd (ret ([] : List (List Int))) fun as => ret (a :: as)) fun xs => out (lenOk xs)) fun (found_ : (List (List Int))) => 
  (bnd (bnd (bnd (bnd (ret net_) fun (p : (Int × (List (Int × Int)))) => ret p.1) fun (a : Int) => out (rngO 0 a)) fun xs => foldM (fun (b1 : (List (List Int))) (q2 : Int) => 
  (bnd (bnd (ret q2) fun (a : Int) => bnd (bnd (ret a_) fun a => bnd (ret b_) fun b => ret (a, b)) fun (b : (Int × Int)) => out (niV a [b.1, b.2])) fun z => cnd z
  (bnd (bnd (ret b1) fun (a : (List (List Int))) => bnd (bnd (bnd (ret b1) fun (a : (List (List Int))) => ret a) fun xs => lcM xs (fun (q3 : (List Int)) => (ret true)) (fun (q3 : (List Int)) => (bnd (ret q3) fun (a : (List Int)) => bnd (bnd (bnd (ret q2) fun (a : Int) => bnd (ret ([] : List Int)) fun as => ret (a :: as)) fun xs => out (lenOk xs)) fun (b : (List Int)) => out (cat a b)))) fun (b : (List (List Int))) => out (cat a b)) fun (found_ : (List (List Int))) => 
  (ret found_))
  (ret b1))) xs found_) fun (b4 : (List (List Int))) => 
  (bnd (bnd (bnd (ret b4) fun (a : (List (List Int))) => ret a) fun xs => lcM xs (fun (q5 : (List Int)) => (ret true)) (fun (q5 : (List Int)) => (bnd (bnd (ret q5) fun (a : (List Int)) => out (some (sortW ltZ a))) fun (a : (List Int)) => out (some a)))) fun (a : (List (List Int))) => ret a)))
theorem fn_lots_parting (net_ : (Int × (List (Int × Int)))) (a_ : Int) (b_ : Int) : FnP K17.g_lots_parting [.v ((eP2 eInt (eTup (eP2 eInt eInt))) net_), .v (eInt a_), .v (eInt b_)] (t_lots_parting net_ a_ b_) (eLst (eTup eInt)) .own :=
  fn_p (n := 6) (m := K17.m_lots_parting) (ρ := [.val ((eP2 eInt (eTup (eP2 eInt eInt))) net_), .val (eInt a_), .val (eInt b_), .dead, .dead, .dead]) rfl rfl (hs_v (hs_v (hs_v (hs_no (hs_no (hs_no hs_nil)))))) (by
    refine k_seq (ρ' := fun (found_ : (List (List Int))) => [.val ((eP2 eInt (eTup (eP2 eInt eInt))) net_), .val (eInt a_), .val (eInt b_), .own ((eLst (eTup eInt)) found_), .dead, .dead]) (k_set (ev_lst (eva_cons (evf_of (ev_tup (eva_cons (evf_of (ev_var (e := eInt) (a := a_) rfl)) (eva_nil (e := eInt))))) (eva_nil (e := (eTup eInt))))) (fun _ => rfl)) (fun (found_ : (List (List Int))) => ?_)
    refine k_seq (ρ' := fun (b4 : (List (List Int))) => [.val ((eP2 eInt (eTup (eP2 eInt eInt))) net_), .val (eInt a_), .val (eInt b_), .own ((eLst (eTup eInt)) b4), .dead, .dead]) ?_ (fun (b4 : (List (List Int))) => ?_)
    · refine k_for (e1 := eInt) (ρL := fun (b1 : (List (List Int))) => [.val ((eP2 eInt (eTup (eP2 eInt eInt))) net_), .val (eInt a_), .val (eInt b_), .own ((eLst (eTup eInt)) b1), .dead, .dead]) (ρa := fun (b1 : (List (List Int))) (q2 : Int) => [.val ((eP2 eInt (eTup (eP2 eInt eInt))) net_), .val (eInt a_), .val (eInt b_), .own ((eLst (eTup eInt)) b1), .val (eInt q2), .dead]) (b0 := found_) (evi_rg1 (evf_of (ev_2_0 (evp_val (e := (eP2 eInt (eTup (eP2 eInt eInt)))) (a := net_) rfl)))) (.cons .same (.cons .same (.cons .same (.cons .same (.cons .same (.cons .same .nil)))))) (fun (b1 : (List (List Int))) (q2 : Int) => (tg_n rfl)) (fun (b1 : (List (List Int))) (q2 : Int) => ?_)
      refine k_if (evt_of (ev_2 (op_ni sq_p2 eq_int (by decide)) (evp_val (e := eInt) (a := q2) rfl) (evp_of (ev_p2 (evf_of (ev_var (e := eInt) (a := a_) rfl)) (evf_of (ev_var (e := eInt) (a := b_) rfl)))))) ?_ ?_
      · refine k_weak (ρ1 := [.val ((eP2 eInt (eTup (eP2 eInt eInt))) net_), .val (eInt a_), .val (eInt b_), .any ((eLst (eTup eInt)) b1), .val (eInt q2), .dead]) (.cons .same (.cons .same (.cons .same (.cons .ow (.cons .same (.cons .same .nil)))))) ?_
        refine k_last (ρ' := fun (found_ : (List (List Int))) => [.val ((eP2 eInt (eTup (eP2 eInt eInt))) net_), .val (eInt a_), .val (eInt b_), .own ((eLst (eTup eInt)) found_), .val (eInt q2), .dead]) (k_set (ev_2 op_catL (evp_any (e := (eLst (eTup eInt))) (a := b1) rfl) (evp_of (ev_lc (e1 := (eTup eInt)) (ρa := fun (q3 : (List Int)) => [.val ((eP2 eInt (eTup (eP2 eInt eInt))) net_), .val (eInt a_), .val (eInt b_), .any ((eLst (eTup eInt)) b1), .val (eInt q2), .val ((eTup eInt) q3)]) rfl (evi_seq sq_lst (evf_of (ev_varA (e := (eLst (eTup eInt))) (a := b1) rfl))) (fun q3 => (tg_n rfl)) (fun q3 => evt_yes) (fun q3 => (evf_of (ev_2 op_catT (evp_val (e := (eTup eInt)) (a := q3) rfl) (evp_of (ev_tup (eva_cons (evf_of (ev_var (e := eInt) (a := q2) rfl)) (eva_nil (e := eInt)))))))) (fun _ => rfl)))) (fun _ => rfl)) (fun (found_ : (List (List Int))) => ?_)
        exact k_nil (nx_l (.cons .same (.cons .same (.cons .same (.cons .same (.cons .dead (.cons .same .nil)))))))
      exact k_nil (nx_l (.cons .same (.cons .same (.cons .same (.cons .same (.cons .dead (.cons .same .nil)))))))
    refine k_weak (ρ1 := [.val ((eP2 eInt (eTup (eP2 eInt eInt))) net_), .val (eInt a_), .val (eInt b_), .any ((eLst (eTup eInt)) b4), .dead, .dead]) (.cons .same (.cons .same (.cons .same (.cons .ow (.cons .same (.cons .same .nil)))))) ?_
    exact k_ret (inj := fun r => r) (ev_lc (e1 := (eTup eInt)) (ρa := fun (q5 : (List Int)) => [.val ((eP2 eInt (eTup (eP2 eInt eInt))) net_), .val (eInt a_), .val (eInt b_), .any ((eLst (eTup eInt)) b4), .dead, .val ((eTup eInt) q5)]) rfl (evi_seq sq_lst (evf_of (ev_varA (e := (eLst (eTup eInt))) (a := b4) rfl))) (fun q5 => (tg_n rfl)) (fun q5 => evt_yes) (fun q5 => (evf_of (ev_1 (op_tuple sq_lst) (evp_of (ev_1 (op_sort sq_tup or_int (by decide) (.inr fun _ => rfl)) (evp_val (e := (eTup eInt)) (a := q5) rfl)))))) (fun _ => rfl)) rt_f)
def t_hold (net_ : (Int × (List (Int × Int)))) (a_ : Int) (b_ : Int) : Option Int :=
  (bnd (bnd (bnd (bnd (bnd (bnd (ret net_) fun (a : (Int × (List (Int × Int)))) => bnd (bnd (ret a_) fun (a : Int) => bnd (bnd (ret b_) fun (a : Int) => bnd (ret ()) fun b => ret (a, b)) fun b => ret (a, b)) fun b => ret (a, b)) fun (a : ((Int × (List (Int × Int))) × Int × Int × Unit)) => out (t_lots_parting a.1 a.2.1 a.2.2.1)) fun (a : (List (List Int))) => ret a) fun xs => lcM xs (fun (q1 : (List Int)) => (ret true)) (fun (q1 : (List Int)) => (bnd (bnd (ret net_) fun (a : (Int × (List (Int × Int)))) => bnd (bnd (ret q1) fun (a : (List Int)) => bnd (ret ()) fun b => ret (a, b)) fun b => ret (a, b)) fun (a : ((Int × (List (Int × Int))) × (List Int) × Unit)) => out (t_cut_number a.1 a.2.1)))) fun (a : (List Int)) => out (minW ltZ a)) fun (a : Int) => ret a)
theorem fn_hold (net_ : (Int × (List (Int × Int)))) (a_ : Int) (b_ : Int) : FnP K17.g_hold [.v ((eP2 eInt (eTup (eP2 eInt eInt))) net_), .v (eInt a_), .v (eInt b_)] (t_hold net_ a_ b_) eInt .val :=
  fn_p (n := 4) (m := K17.m_hold) (ρ := [.val ((eP2 eInt (eTup (eP2 eInt eInt))) net_), .val (eInt a_), .val (eInt b_), .dead]) rfl rfl (hs_v (hs_v (hs_v (hs_no hs_nil)))) (by
    exact k_ret (inj := fun r => r) (ev_1 (op_min sq_lst or_int (by decide)) (evp_of (ev_lc (e1 := (eTup eInt)) (ρa := fun (q1 : (List Int)) => [.val ((eP2 eInt (eTup (eP2 eInt eInt))) net_), .val (eInt a_), .val (eInt b_), .val ((eTup eInt) q1)]) rfl (evi_seq sq_lst (evf_of (ev_call (evx_cons (evf_of (ev_var (e := (eP2 eInt (eTup (eP2 eInt eInt)))) (a := net_) rfl)) (evx_cons (evf_of (ev_var (e := eInt) (a := a_) rfl)) (evx_cons (evf_of (ev_var (e := eInt) (a := b_) rfl)) evx_nil))) (fun _ => rfl) (fun (a : ((Int × (List (Int × Int))) × Int × Int × Unit)) => fn_lots_parting a.1 a.2.1 a.2.2.1)))) (fun q1 => (tg_n rfl)) (fun q1 => evt_yes) (fun q1 => (evf_of (ev_call (evx_cons (evf_of (ev_var (e := (eP2 eInt (eTup (eP2 eInt eInt)))) (a := net_) rfl)) (evx_cons (evf_of (ev_var (e := (eTup eInt)) (a := q1) rfl)) evx_nil)) (fun _ => rfl) (fun (a : ((Int × (List (Int × Int))) × (List Int) × Unit)) => fn_cut_number a.1 a.2.1)))) (fun _ => rfl)))) rt_f)
def t_hold_table (net_ : (Int × (List (Int × Int)))) : Option (List (List Int)) :=
  (bnd (bnd (ret net_) fun (p : (Int × (List (Int × Int)))) => ret p.1) fun (n_ : Int) => 
  (bnd (bnd (bnd (bnd (ret n_) fun (a : Int) => out (rngO 0 a)) fun xs => lcM xs (fun (q1 : Int) => (ret true)) (fun (q1 : Int) => (bnd (bnd (bnd (ret n_) fun (a : Int) => out (rngO 0 a)) fun xs => lcM xs (fun (q2 : Int) => (ret true)) (fun (q2 : Int) => (bnd (bnd (ret q1) fun (a : Int) => bnd (ret q2) fun (b : Int) => out (neV a b)) fun z => cnd z (bnd (bnd (ret net_) fun (a : (Int × (List (Int × Int)))) => bnd (bnd (ret q1) fun (a : Int) => bnd (bnd (ret q2) fun (a : Int) => bnd (ret ()) fun b => ret (a, b)) fun b => ret (a, b)) fun b => ret (a, b)) fun (a : ((Int × (List (Int × Int))) × Int × Int × Unit)) => out (t_hold a.1 a.2.1 a.2.2.1)) (ret (0 : Int))))) fun (a : (List Int)) => out (some a)))) fun (a : (List (List Int))) => out (some a)) fun (a : (List (List Int))) => ret a))
theorem fn_hold_table (net_ : (Int × (List (Int × Int)))) : FnP K17.g_hold_table [.v ((eP2 eInt (eTup (eP2 eInt eInt))) net_)] (t_hold_table net_) (eTup (eTup eInt)) .val :=
  fn_p (n := 4) (m := K17.m_hold_table) (ρ := [.val ((eP2 eInt (eTup (eP2 eInt eInt))) net_), .dead, .dead, .dead]) rfl rfl (hs_v (hs_no (hs_no (hs_no hs_nil)))) (by
    refine k_seq (ρ' := fun (n_ : Int) => [.val ((eP2 eInt (eTup (eP2 eInt eInt))) net_), .val (eInt n_), .dead, .dead]) (k_set (ev_2_0 (evp_val (e := (eP2 eInt (eTup (eP2 eInt eInt)))) (a := net_) rfl)) (fun _ => rfl)) (fun (n_ : Int) => ?_)
    exact k_ret (inj := fun r => r) (ev_1 (op_tuple sq_lst) (evp_of (ev_lc (e1 := eInt) (ρa := fun (q1 : Int) => [.val ((eP2 eInt (eTup (eP2 eInt eInt))) net_), .val (eInt n_), .val (eInt q1), .dead]) rfl (evi_rg1 (evf_of (ev_var (e := eInt) (a := n_) rfl))) (fun q1 => (tg_n rfl)) (fun q1 => evt_yes) (fun q1 => (evf_of (ev_1 (op_tuple sq_lst) (evp_of (ev_lc (e1 := eInt) (ρa := fun (q2 : Int) => [.val ((eP2 eInt (eTup (eP2 eInt eInt))) net_), .val (eInt n_), .val (eInt q1), .val (eInt q2)]) rfl (evi_rg1 (evf_of (ev_var (e := eInt) (a := n_) rfl))) (fun q2 => (tg_n rfl)) (fun q2 => evt_yes) (fun q2 => (evf_of (ev_if (evt_of (ev_2 (op_ne eq_int (by decide)) (evp_val (e := eInt) (a := q1) rfl) (evp_val (e := eInt) (a := q2) rfl))) (ev_call (evx_cons (evf_of (ev_var (e := (eP2 eInt (eTup (eP2 eInt eInt)))) (a := net_) rfl)) (evx_cons (evf_of (ev_var (e := eInt) (a := q1) rfl)) (evx_cons (evf_of (ev_var (e := eInt) (a := q2) rfl)) evx_nil))) (fun _ => rfl) (fun (a : ((Int × (List (Int × Int))) × Int × Int × Unit)) => fn_hold a.1 a.2.1 a.2.2.1)) (ev_c (e := eInt) (a := (0 : Int)) rfl)))) (fun _ => rfl)))))) (fun _ => rfl)))) rt_f)
def t_bad_three (table_ : (List (List Int))) : Option (Option (Int × Int × Int)) :=
  (bnd (bnd (ret table_) fun (a : (List (List Int))) => out ((some ((a).length : Int)))) fun (n_ : Int) => 
  (bnd (bnd (bnd (ret n_) fun (a : Int) => out (rngO 0 a)) fun xs => foldO (fun (b1 : Unit) (q2 : Int) => 
  (bnd (bnd (bnd (ret n_) fun (a : Int) => out (rngO 0 a)) fun xs => foldO (fun (b3 : Unit) (q4 : Int) => 
  (bnd (bnd (bnd (ret n_) fun (a : Int) => out (rngO 0 a)) fun xs => foldO (fun (b5 : Unit) (q6 : Int) => 
  (bnd (andB (bnd (bnd (bnd (bnd (ret q2) fun (a : Int) => bnd (bnd (ret q4) fun (a : Int) => bnd (bnd (ret q6) fun (a : Int) => bnd (ret ([] : List Int)) fun as => ret (a :: as)) fun as => ret (a :: as)) fun as => ret (a :: as)) fun xs => out (lenOk xs)) fun (a : (List Int)) => out (lenSetO a)) fun (a : Int) => bnd (ret (3 : Int)) fun (b : Int) => out (eqV a b)) (bnd (bnd (bnd (ret table_) fun (a : (List (List Int))) => bnd (ret q2) fun (b : Int) => out (at_ a b)) fun (a : (List Int)) => bnd (ret q6) fun (b : Int) => out (at_ a b)) fun (a : Int) => bnd (bnd (bnd (bnd (ret table_) fun (a : (List (List Int))) => bnd (ret q2) fun (b : Int) => out (at_ a b)) fun (a : (List Int)) => bnd (ret q4) fun (b : Int) => out (at_ a b)) fun (a : Int) => bnd (bnd (bnd (ret table_) fun (a : (List (List Int))) => bnd (ret q4) fun (b : Int) => out (at_ a b)) fun (a : (List Int)) => bnd (ret q6) fun (b : Int) => out (at_ a b)) fun (b : Int) => out (min2 a b)) fun (b : Int) => out (ltI a b))) fun z => cnd z
  (bnd (bnd (bnd (ret q2) fun a => bnd (ret q4) fun b => bnd (ret q6) fun d => ret (a, b, d)) fun a => ret (some a)) fun (a : (Option (Int × Int × Int))) => ret (Out.rt a))
  (ret (Out.nx ())))) xs ()) fun (o : Out Unit (Option (Int × Int × Int))) => outK o (fun (b7 : Unit) => 
  (ret (Out.nx ()))) fun (r : (Option (Int × Int × Int))) => ret (Out.rt r))) xs ()) fun (o : Out Unit (Option (Int × Int × Int))) => outK o (fun (b8 : Unit) => 
  (ret (Out.nx ()))) fun (r : (Option (Int × Int × Int))) => ret (Out.rt r))) xs ()) fun (o : Out Unit (Option (Int × Int × Int))) => outK o (fun (b9 : Unit) => 
  (bnd (bnd (ret ()) fun _ => ret (none : (Option (Int × Int × Int)))) fun (a : (Option (Int × Int × Int))) => ret a)) fun (r : (Option (Int × Int × Int))) => ret r))
theorem fn_bad_three (table_ : (List (List Int))) : FnP K17.g_bad_three [.v ((eTup (eTup eInt)) table_)] (t_bad_three table_) (eOpt (eP3 eInt eInt eInt)) .val :=
  fn_p (n := 5) (m := K17.m_bad_three) (ρ := [.val ((eTup (eTup eInt)) table_), .dead, .dead, .dead, .dead]) rfl rfl (hs_v (hs_no (hs_no (hs_no (hs_no hs_nil))))) (by
    refine k_seq (ρ' := fun (n_ : Int) => [.val ((eTup (eTup eInt)) table_), .val (eInt n_), .dead, .dead, .dead]) (k_set (ev_1 (op_len sq_tup) (evp_val (e := (eTup (eTup eInt))) (a := table_) rfl)) (fun _ => rfl)) (fun (n_ : Int) => ?_)
    refine k_seqE (e3 := (eOpt (eP3 eInt eInt eInt))) (w := .val) (ρL := fun (b1 : Unit) => [.val ((eTup (eTup eInt)) table_), .val (eInt n_), .dead, .dead, .dead]) (inj := fun r => r) ?_ (fun (b9 : Unit) => ?_) rt_f
    · refine k_forO (e3 := (eOpt (eP3 eInt eInt eInt))) (w := .val) (e1 := eInt) (ρL := fun (b1 : Unit) => [.val ((eTup (eTup eInt)) table_), .val (eInt n_), .dead, .dead, .dead]) (ρa := fun (b1 : Unit) (q2 : Int) => [.val ((eTup (eTup eInt)) table_), .val (eInt n_), .val (eInt q2), .dead, .dead]) (b0 := ()) (evi_rg1 (evf_of (ev_var (e := eInt) (a := n_) rfl))) (.cons .same (.cons .same (.cons .same (.cons .same (.cons .same .nil))))) (fun (b1 : Unit) (q2 : Int) => (tg_n rfl)) (fun (b1 : Unit) (q2 : Int) => ?_)
      refine k_lastE (e3 := (eOpt (eP3 eInt eInt eInt))) (w := .val) (ρL := fun (b3 : Unit) => [.val ((eTup (eTup eInt)) table_), .val (eInt n_), .val (eInt q2), .dead, .dead]) (inj := fun r => (Out.rt r)) ?_ (fun (b8 : Unit) => ?_) rt_o
      · refine k_forO (e3 := (eOpt (eP3 eInt eInt eInt))) (w := .val) (e1 := eInt) (ρL := fun (b3 : Unit) => [.val ((eTup (eTup eInt)) table_), .val (eInt n_), .val (eInt q2), .dead, .dead]) (ρa := fun (b3 : Unit) (q4 : Int) => [.val ((eTup (eTup eInt)) table_), .val (eInt n_), .val (eInt q2), .val (eInt q4), .dead]) (b0 := ()) (evi_rg1 (evf_of (ev_var (e := eInt) (a := n_) rfl))) (.cons .same (.cons .same (.cons .same (.cons .same (.cons .same .nil))))) (fun (b3 : Unit) (q4 : Int) => (tg_n rfl)) (fun (b3 : Unit) (q4 : Int) => ?_)
        refine k_lastE (e3 := (eOpt (eP3 eInt eInt eInt))) (w := .val) (ρL := fun (b5 : Unit) => [.val ((eTup (eTup eInt)) table_), .val (eInt n_), .val (eInt q2), .val (eInt q4), .dead]) (inj := fun r => (Out.rt r)) ?_ (fun (b7 : Unit) => ?_) rt_o
        · refine k_forO (e3 := (eOpt (eP3 eInt eInt eInt))) (w := .val) (e1 := eInt) (ρL := fun (b5 : Unit) => [.val ((eTup (eTup eInt)) table_), .val (eInt n_), .val (eInt q2), .val (eInt q4), .dead]) (ρa := fun (b5 : Unit) (q6 : Int) => [.val ((eTup (eTup eInt)) table_), .val (eInt n_), .val (eInt q2), .val (eInt q4), .val (eInt q6)]) (b0 := ()) (evi_rg1 (evf_of (ev_var (e := eInt) (a := n_) rfl))) (.cons .same (.cons .same (.cons .same (.cons .same (.cons .same .nil))))) (fun (b5 : Unit) (q6 : Int) => (tg_n rfl)) (fun (b5 : Unit) (q6 : Int) => ?_)
          refine k_if (evt_and (evt_of (ev_2 (op_eq eq_int (by decide)) (evp_of (ev_1 (op_lenSet (fun _ => rfl)) (evp_of (ev_lst (eva_cons (evf_of (ev_var (e := eInt) (a := q2) rfl)) (eva_cons (evf_of (ev_var (e := eInt) (a := q4) rfl)) (eva_cons (evf_of (ev_var (e := eInt) (a := q6) rfl)) (eva_nil (e := eInt))))))))) (evp_of (ev_c (e := eInt) (a := (3 : Int)) rfl)))) (evt_of (ev_2 op_ltI (evp_of (ev_2 (op_ix sq_tup) (evp_of (ev_2 (op_ix sq_tup) (evp_val (e := (eTup (eTup eInt))) (a := table_) rfl) (evp_val (e := eInt) (a := q2) rfl))) (evp_val (e := eInt) (a := q6) rfl))) (evp_of (ev_2 op_min2 (evp_of (ev_2 (op_ix sq_tup) (evp_of (ev_2 (op_ix sq_tup) (evp_val (e := (eTup (eTup eInt))) (a := table_) rfl) (evp_val (e := eInt) (a := q2) rfl))) (evp_val (e := eInt) (a := q4) rfl))) (evp_of (ev_2 (op_ix sq_tup) (evp_of (ev_2 (op_ix sq_tup) (evp_val (e := (eTup (eTup eInt))) (a := table_) rfl) (evp_val (e := eInt) (a := q4) rfl))) (evp_val (e := eInt) (a := q6) rfl)))))))) ?_ ?_
          · exact k_ret (inj := fun r => (Out.rt r)) (ev_some (ev_p3 (evf_of (ev_var (e := eInt) (a := q2) rfl)) (evf_of (ev_var (e := eInt) (a := q4) rfl)) (evf_of (ev_var (e := eInt) (a := q6) rfl)))) rt_o
          exact k_nil (nx_o (.cons .same (.cons .same (.cons .same (.cons .same (.cons .dead .nil))))))
        exact k_nil (nx_o (.cons .same (.cons .same (.cons .same (.cons .dead (.cons .same .nil))))))
      exact k_nil (nx_o (.cons .same (.cons .same (.cons .dead (.cons .same (.cons .same .nil))))))
    exact k_ret (inj := fun r => r) (ev_none (e := (eP3 eInt eInt eInt)) (ev_c (e := eNon) (a := ()) rfl)) rt_f)
def t_table_net (table_ : (List (List Int))) : Option (Int × (List (Int × Int))) :=
  (bnd (bnd (bnd (ret table_) fun (a : (List (List Int))) => out ((some ((a).length : Int)))) fun a => bnd (bnd (ret ([] : List (Int × Int))) fun xs => out (lenOk xs)) fun b => ret (a, b)) fun (p1 : (Int × (List (Int × Int)))) => 
  (bnd (bnd (bnd (ret p1.1) fun a => ret ((0 : Int), a)) fun (p : Int × Int) => out (rngO p.1 p.2)) fun (names_ : (List Int)) => 
  (bnd (bnd (bnd (bnd (ret p1.1) fun (a : Int) => out (rngO 0 a)) fun xs => lcM2 xs (fun (q2 : Int) => (ret true)) (fun (q2 : Int) => (bnd (bnd (ret q2) fun (a : Int) => bnd (ret (1 : Int)) fun (b : Int) => out (addI a b)) fun (a : Int) => bnd (ret p1.1) fun (b : Int) => out (rngO a b))) (fun (q2 : Int) (r3 : Int) => (ret true)) (fun (q2 : Int) (r3 : Int) => (bnd (bnd (ret (0 : Int)) fun (a : Int) => bnd (bnd (bnd (ret table_) fun (a : (List (List Int))) => bnd (ret q2) fun (b : Int) => out (at_ a b)) fun (a : (List Int)) => bnd (ret r3) fun (b : Int) => out (at_ a b)) fun (b : Int) => out (subI a b)) fun a => bnd (ret q2) fun b => bnd (ret r3) fun d => ret (a, b, d)))) fun (a : (List (Int × Int × Int))) => out (some (sortW (ltP3 ltZ ltZ ltZ) a))) fun (pairs_ : (List (Int × Int × Int))) => 
  (bnd (bnd (bnd (ret pairs_) fun (a : (List (Int × Int × Int))) => ret a) fun xs => foldM (fun (b4 : ((List (Int × Int)) × (List Int))) (q5 : (Int × Int × Int)) => 
  (bnd (bnd (bnd (ret b4.2) fun (a : (List Int)) => bnd (ret q5.2.1) fun (b : Int) => out (at_ a b)) fun (a : Int) => bnd (bnd (ret b4.2) fun (a : (List Int)) => bnd (ret q5.2.2) fun (b : Int) => out (at_ a b)) fun (b : Int) => out (neV a b)) fun z => cnd z
  (bnd (bnd (ret b4.1) fun (a : (List (Int × Int))) => bnd (bnd (bnd (bnd (bnd (ret q5.2.1) fun a => bnd (ret q5.2.2) fun b => ret (a, b)) fun (a : (Int × Int)) => bnd (ret ([] : List (Int × Int))) fun as => ret (a :: as)) fun xs => out (lenOk xs)) fun (a : (List (Int × Int))) => bnd (bnd (bnd (ret table_) fun (a : (List (List Int))) => bnd (ret q5.2.1) fun (b : Int) => out (at_ a b)) fun (a : (List Int)) => bnd (ret q5.2.2) fun (b : Int) => out (at_ a b)) fun (b : Int) => out (repL a b)) fun (b : (List (Int × Int))) => out (cat a b)) fun (links_ : (List (Int × Int))) => 
  (bnd (bnd (bnd (ret b4.2) fun (a : (List Int)) => ret a) fun xs => lcM xs (fun (q6 : Int) => (ret true)) (fun (q6 : Int) => (bnd (bnd (ret q6) fun (a : Int) => bnd (bnd (ret b4.2) fun (a : (List Int)) => bnd (ret q5.2.2) fun (b : Int) => out (at_ a b)) fun (b : Int) => out (eqV a b)) fun z => cnd z (bnd (ret b4.2) fun (a : (List Int)) => bnd (ret q5.2.1) fun (b : Int) => out (at_ a b)) (ret q6)))) fun (names_ : (List Int)) => 
  (ret (links_, names_))))
  (ret (b4.1, b4.2)))) xs (p1.2, names_)) fun (b7 : ((List (Int × Int)) × (List Int))) => 
  (bnd (bnd (ret p1.1) fun a => bnd (bnd (bnd (ret b7.1) fun (a : (List (Int × Int))) => out (some (sortW (ltP ltZ ltZ) a))) fun (a : (List (Int × Int))) => out (some a)) fun b => ret (a, b)) fun (a : (Int × (List (Int × Int)))) => ret a)))))
theorem fn_table_net (table_ : (List (List Int))) : FnP K17.g_table_net [.v ((eTup (eTup eInt)) table_)] (t_table_net table_) (eP2 eInt (eTup (eP2 eInt eInt))) .val :=
  fn_p (n := 9) (m := K17.m_table_net) (ρ := [.val ((eTup (eTup eInt)) table_), .dead, .dead, .dead, .dead, .dead, .dead, .dead, .dead]) rfl rfl (hs_v (hs_no (hs_no (hs_no (hs_no (hs_no (hs_no (hs_no (hs_no hs_nil))))))))) (by
    refine k_seq (ρ' := fun (p1 : (Int × (List (Int × Int)))) => [.val ((eTup (eTup eInt)) table_), .val (eInt p1.1), .own ((eLst (eP2 eInt eInt)) p1.2), .dead, .dead, .dead, .dead, .dead, .dead]) (k_par2 (ev_1 (op_len sq_tup) (evp_val (e := (eTup (eTup eInt))) (a := table_) rfl)) (ev_lst (eva_nil (e := (eP2 eInt eInt)))) (fun _ => rfl)) (fun (p1 : (Int × (List (Int × Int)))) => ?_)
    refine k_seq (ρ' := fun (names_ : (List Int)) => [.val ((eTup (eTup eInt)) table_), .val (eInt p1.1), .own ((eLst (eP2 eInt eInt)) p1.2), .own ((eLst eInt) names_), .dead, .dead, .dead, .dead, .dead]) (k_set (ev_lrg (evr_1 (ev_var (e := eInt) (a := p1.1) rfl))) (fun _ => rfl)) (fun (names_ : (List Int)) => ?_)
    refine k_seq (ρ' := fun (pairs_ : (List (Int × Int × Int))) => [.val ((eTup (eTup eInt)) table_), .val (eInt p1.1), .own ((eLst (eP2 eInt eInt)) p1.2), .own ((eLst eInt) names_), .own ((eLst (eP3 eInt eInt eInt)) pairs_), .dead, .dead, .dead, .dead]) (k_set (ev_1 (op_sort sq_lst (or_p3 or_int or_int or_int) (by decide) (.inl fun _ => rfl)) (evp_of (ev_lc2 (e1 := eInt) (e2 := eInt) (ρa := fun (q2 : Int) => [.val ((eTup (eTup eInt)) table_), .val (eInt p1.1), .own ((eLst (eP2 eInt eInt)) p1.2), .own ((eLst eInt) names_), .dead, .dead, .val (eInt q2), .dead, .dead]) (ρb := fun (q2 : Int) (r3 : Int) => [.val ((eTup (eTup eInt)) table_), .val (eInt p1.1), .own ((eLst (eP2 eInt eInt)) p1.2), .own ((eLst eInt) names_), .dead, .dead, .val (eInt q2), .val (eInt r3), .dead]) rfl (evi_rg1 (evf_of (ev_var (e := eInt) (a := p1.1) rfl))) (fun q2 => (tg_n rfl)) (fun q2 => evt_yes) (fun q2 => (evi_rg2 (evf_of (ev_2 op_addI (evp_val (e := eInt) (a := q2) rfl) (evp_of (ev_c (e := eInt) (a := (1 : Int)) rfl)))) (evf_of (ev_var (e := eInt) (a := p1.1) rfl)))) (fun q2 r3 => (tg_n rfl)) (fun q2 r3 => evt_yes) (fun q2 r3 => (evf_of (ev_p3 (evf_of (ev_2 op_subI (evp_of (ev_c (e := eInt) (a := (0 : Int)) rfl)) (evp_of (ev_2 (op_ix sq_tup) (evp_of (ev_2 (op_ix sq_tup) (evp_val (e := (eTup (eTup eInt))) (a := table_) rfl) (evp_val (e := eInt) (a := q2) rfl))) (evp_val (e := eInt) (a := r3) rfl))))) (evf_of (ev_var (e := eInt) (a := q2) rfl)) (evf_of (ev_var (e := eInt) (a := r3) rfl))))) (fun _ _ => rfl) (fun _ => rfl) (fun _ => rfl)))) (fun _ => rfl)) (fun (pairs_ : (List (Int × Int × Int))) => ?_)
    refine k_weak (ρ1 := [.val ((eTup (eTup eInt)) table_), .val (eInt p1.1), .own ((eLst (eP2 eInt eInt)) p1.2), .own ((eLst eInt) names_), .any ((eLst (eP3 eInt eInt eInt)) pairs_), .dead, .dead, .dead, .dead]) (.cons .same (.cons .same (.cons .same (.cons .same (.cons .ow (.cons .same (.cons .same (.cons .same (.cons .same .nil))))))))) ?_
    refine k_seq (ρ' := fun (b7 : ((List (Int × Int)) × (List Int))) => [.val ((eTup (eTup eInt)) table_), .val (eInt p1.1), .own ((eLst (eP2 eInt eInt)) b7.1), .own ((eLst eInt) b7.2), .any ((eLst (eP3 eInt eInt eInt)) pairs_), .dead, .dead, .dead, .dead]) ?_ (fun (b7 : ((List (Int × Int)) × (List Int))) => ?_)
    · refine k_for (e1 := (eP3 eInt eInt eInt)) (ρL := fun (b4 : ((List (Int × Int)) × (List Int))) => [.val ((eTup (eTup eInt)) table_), .val (eInt p1.1), .own ((eLst (eP2 eInt eInt)) b4.1), .own ((eLst eInt) b4.2), .any ((eLst (eP3 eInt eInt eInt)) pairs_), .dead, .dead, .dead, .dead]) (ρa := fun (b4 : ((List (Int × Int)) × (List Int))) (q5 : (Int × Int × Int)) => [.val ((eTup (eTup eInt)) table_), .val (eInt p1.1), .own ((eLst (eP2 eInt eInt)) b4.1), .own ((eLst eInt) b4.2), .any ((eLst (eP3 eInt eInt eInt)) pairs_), .val (eInt q5.1), .val (eInt q5.2.1), .val (eInt q5.2.2), .dead]) (b0 := (p1.2, names_)) (evi_seq sq_lst (evf_of (ev_varA (e := (eLst (eP3 eInt eInt eInt))) (a := pairs_) rfl))) (.cons .same (.cons .same (.cons .same (.cons .same (.cons .same (.cons .same (.cons .same (.cons .same (.cons .same .nil))))))))) (fun (b4 : ((List (Int × Int)) × (List Int))) (q5 : (Int × Int × Int)) => (tg_tp (tg_cn (tg_n rfl) (tg_cn (tg_n rfl) (tg_cn (tg_n rfl) tg_nl))))) (fun (b4 : ((List (Int × Int)) × (List Int))) (q5 : (Int × Int × Int)) => ?_)
      refine k_if (evt_of (ev_2 (op_ne eq_int (by decide)) (evp_of (ev_2 (op_ix sq_lst) (evp_own (e := (eLst eInt)) (a := b4.2) rfl) (evp_val (e := eInt) (a := q5.2.1) rfl))) (evp_of (ev_2 (op_ix sq_lst) (evp_own (e := (eLst eInt)) (a := b4.2) rfl) (evp_val (e := eInt) (a := q5.2.2) rfl))))) ?_ ?_
      · refine k_seq (ρ' := fun (links_ : (List (Int × Int))) => [.val ((eTup (eTup eInt)) table_), .val (eInt p1.1), .own ((eLst (eP2 eInt eInt)) links_), .own ((eLst eInt) b4.2), .any ((eLst (eP3 eInt eInt eInt)) pairs_), .val (eInt q5.1), .val (eInt q5.2.1), .val (eInt q5.2.2), .dead]) (k_set (ev_2 op_catL (evp_own (e := (eLst (eP2 eInt eInt))) (a := b4.1) rfl) (evp_of (ev_2 op_repL (evp_of (ev_lst (eva_cons (evf_of (ev_p2 (evf_of (ev_var (e := eInt) (a := q5.2.1) rfl)) (evf_of (ev_var (e := eInt) (a := q5.2.2) rfl)))) (eva_nil (e := (eP2 eInt eInt)))))) (evp_of (ev_2 (op_ix sq_tup) (evp_of (ev_2 (op_ix sq_tup) (evp_val (e := (eTup (eTup eInt))) (a := table_) rfl) (evp_val (e := eInt) (a := q5.2.1) rfl))) (evp_val (e := eInt) (a := q5.2.2) rfl)))))) (fun _ => rfl)) (fun (links_ : (List (Int × Int))) => ?_)
        refine k_weak (ρ1 := [.val ((eTup (eTup eInt)) table_), .val (eInt p1.1), .own ((eLst (eP2 eInt eInt)) links_), .any ((eLst eInt) b4.2), .any ((eLst (eP3 eInt eInt eInt)) pairs_), .val (eInt q5.1), .val (eInt q5.2.1), .val (eInt q5.2.2), .dead]) (.cons .same (.cons .same (.cons .same (.cons .ow (.cons .same (.cons .same (.cons .same (.cons .same (.cons .same .nil))))))))) ?_
        refine k_last (ρ' := fun (names_ : (List Int)) => [.val ((eTup (eTup eInt)) table_), .val (eInt p1.1), .own ((eLst (eP2 eInt eInt)) links_), .own ((eLst eInt) names_), .any ((eLst (eP3 eInt eInt eInt)) pairs_), .val (eInt q5.1), .val (eInt q5.2.1), .val (eInt q5.2.2), .dead]) (k_set (ev_lc (e1 := eInt) (ρa := fun (q6 : Int) => [.val ((eTup (eTup eInt)) table_), .val (eInt p1.1), .own ((eLst (eP2 eInt eInt)) links_), .any ((eLst eInt) b4.2), .any ((eLst (eP3 eInt eInt eInt)) pairs_), .val (eInt q5.1), .val (eInt q5.2.1), .val (eInt q5.2.2), .val (eInt q6)]) rfl (evi_seq sq_lst (evf_of (ev_varA (e := (eLst eInt)) (a := b4.2) rfl))) (fun q6 => (tg_n rfl)) (fun q6 => evt_yes) (fun q6 => (evf_of (ev_if (evt_of (ev_2 (op_eq eq_int (by decide)) (evp_val (e := eInt) (a := q6) rfl) (evp_of (ev_2 (op_ix sq_lst) (evp_any (e := (eLst eInt)) (a := b4.2) rfl) (evp_val (e := eInt) (a := q5.2.2) rfl))))) (ev_2 (op_ix sq_lst) (evp_any (e := (eLst eInt)) (a := b4.2) rfl) (evp_val (e := eInt) (a := q5.2.1) rfl)) (ev_var (e := eInt) (a := q6) rfl)))) (fun _ => rfl)) (fun _ => rfl)) (fun (names_ : (List Int)) => ?_)
        exact k_nil (nx_l (.cons .same (.cons .same (.cons .same (.cons .same (.cons .same (.cons .dead (.cons .dead (.cons .dead (.cons .same .nil))))))))))
      exact k_nil (nx_l (.cons .same (.cons .same (.cons .same (.cons .same (.cons .same (.cons .dead (.cons .dead (.cons .dead (.cons .same .nil))))))))))
    exact k_ret (inj := fun r => r) (ev_p2 (evf_of (ev_var (e := eInt) (a := p1.1) rfl)) (evf_of (ev_1 (op_tuple sq_lst) (evp_of (ev_1 (op_sort sq_lst (or_p2 or_int or_int) (by decide) (.inl fun _ => rfl)) (evp_own (e := (eLst (eP2 eInt eInt))) (a := b7.1) rfl)))))) rt_f)
def t_table_paper (table_ : (List (List Int))) : Option (Str × (Int × (List (Int × Int)))) :=
  (bnd (bnd (bnd (ret table_) fun (a : (List (List Int))) => bnd (ret ()) fun b => ret (a, b)) fun (a : ((List (List Int)) × Unit)) => out (t_bad_three a.1)) fun (three_ : (Option (Int × Int × Int))) => 
  (bnd (bnd (bnd (ret three_) fun (a : (Option (Int × Int × Int))) => bnd (ret ()) fun (b : Unit) => out (isN a b)) fun z => cnd z (bnd (ret (Str.ofString "net")) fun a => bnd (bnd (bnd (ret table_) fun (a : (List (List Int))) => bnd (ret ()) fun b => ret (a, b)) fun (a : ((List (List Int)) × Unit)) => out (t_table_net a.1)) fun b => ret (a, b)) (out none)) fun (a : (Str × (Int × (List (Int × Int))))) => ret a))
theorem fn_table_paper (table_ : (List (List Int))) : FnP K17.g_table_paper [.v ((eTup (eTup eInt)) table_)] (t_table_paper table_) (eP2 eStr (eP2 eInt (eTup (eP2 eInt eInt)))) .val :=
  fn_p (n := 2) (m := K17.m_table_paper) (ρ := [.val ((eTup (eTup eInt)) table_), .dead]) rfl rfl (hs_v (hs_no hs_nil)) (by
    refine k_seq (ρ' := fun (three_ : (Option (Int × Int × Int))) => [.val ((eTup (eTup eInt)) table_), .val ((eOpt (eP3 eInt eInt eInt)) three_)]) (k_set (ev_call (evx_cons (evf_of (ev_var (e := (eTup (eTup eInt))) (a := table_) rfl)) evx_nil) (fun _ => rfl) (fun (a : ((List (List Int)) × Unit)) => fn_bad_three a.1)) (fun _ => rfl)) (fun (three_ : (Option (Int × Int × Int))) => ?_)
    exact k_ret (inj := fun r => r) (ev_if (evt_of (ev_2 (op_is nn_p3) (evp_val (e := (eOpt (eP3 eInt eInt eInt))) (a := three_) rfl) (evp_of (ev_c (e := eNon) (a := ()) rfl)))) (ev_p2 (evf_of (ev_c (e := eStr) (a := (Str.ofString "net")) rfl)) (evf_of (ev_call (evx_cons (evf_of (ev_var (e := (eTup (eTup eInt))) (a := table_) rfl)) evx_nil) (fun _ => rfl) (fun (a : ((List (List Int)) × Unit)) => fn_table_net a.1)))) ev_fail) rt_f)
def t_law_L1 (moved_ : (List (List Int))) (names_ : (List Int)) (q14 : Int) (table_ : (List (List Int))) : Unit → Int → DM (Out Unit Bool) :=
  (fun (b15 : Unit) (q16 : Int) => 
  (bnd (bnd (bnd (bnd (ret moved_) fun (a : (List (List Int))) => bnd (bnd (ret names_) fun (a : (List Int)) => bnd (ret q14) fun (b : Int) => out (at_ a b)) fun (b : Int) => out (at_ a b)) fun (a : (List Int)) => bnd (bnd (ret names_) fun (a : (List Int)) => bnd (ret q16) fun (b : Int) => out (at_ a b)) fun (b : Int) => out (at_ a b)) fun (a : Int) => bnd (bnd (bnd (ret table_) fun (a : (List (List Int))) => bnd (ret q14) fun (b : Int) => out (at_ a b)) fun (a : (List Int)) => bnd (ret q16) fun (b : Int) => out (at_ a b)) fun (b : Int) => out (neV a b)) fun z => cnd z
  (bnd (ret false) fun (a : Bool) => ret (Out.rt a))
  (ret (Out.nx ()))))
def t_law_L2 (p3 : (Int × Str)) (moved_ : (List (List Int))) (names_ : (List Int)) (table_ : (List (List Int))) : Unit → Int → DM (Out Unit Bool) :=
  (fun (b13 : Unit) (q14 : Int) => 
  (bnd (bnd (bnd (ret p3.1) fun (a : Int) => out (rngO 0 a)) fun xs => foldO (t_law_L1 moved_ names_ q14 table_) xs ()) fun (o : Out Unit Bool) => outK o (fun (b17 : Unit) => 
  (ret (Out.nx ()))) fun (r : Bool) => ret (Out.rt r)))
def t_law_L3 (p3 : (Int × Str)) (table_ : (List (List Int))) (less_ : (List (List Int))) : Unit → Int → DM (Out Unit Bool) :=
  (fun (b19 : Unit) (q20 : Int) => 
  (bnd (bnd (bnd (bnd (ret p3.1) fun (a : Int) => out (rngO 0 a)) fun xs => lcM xs (fun (q21 : Int) => (bnd (bnd (bnd (bnd (ret table_) fun (a : (List (List Int))) => bnd (ret q20) fun (b : Int) => out (at_ a b)) fun (a : (List Int)) => bnd (ret q21) fun (b : Int) => out (at_ a b)) fun (a : Int) => bnd (bnd (bnd (ret less_) fun (a : (List (List Int))) => bnd (ret q20) fun (b : Int) => out (at_ a b)) fun (a : (List Int)) => bnd (ret q21) fun (b : Int) => out (at_ a b)) fun (b : Int) => out (subI a b)) fun (a : Int) => bnd (bnd (ret (0 : Int)) fun a => bnd (ret (1 : Int)) fun b => ret (a, b)) fun (b : (Int × Int)) => out (niV a [b.1, b.2]))) (fun (q21 : Int) => (ret q21))) fun (a : (List Int)) => bnd (bnd (ret ([] : List Int)) fun xs => out (lenOk xs)) fun (b : (List Int)) => out (neV a b)) fun z => cnd z
  (bnd (ret false) fun (a : Bool) => ret (Out.rt a))
  (ret (Out.nx ()))))
def t_law_L4 : Unit → Int → DM (Out Unit Bool) :=
  (fun (b1 : Unit) (q2 : Int) => 
  (bnd (bnd (bnd (bnd (bnd (bnd (ret (4 : Int)) fun (a : Int) => bnd (bnd (ret (5 : Int)) fun (a : Int) => bnd (bnd (ret (6 : Int)) fun (a : Int) => bnd (bnd (ret (7 : Int)) fun (a : Int) => bnd (ret ([] : List Int)) fun as => ret (a :: as)) fun as => ret (a :: as)) fun as => ret (a :: as)) fun as => ret (a :: as)) fun xs => out (lenOk xs)) fun (a : (List Int)) => bnd (ret q2) fun (b : Int) => out (at_ a b)) fun (a : Int) => bnd (bnd (bnd (bnd (bnd (ret (8 : Int)) fun (a : Int) => bnd (bnd (ret (12 : Int)) fun (a : Int) => bnd (bnd (ret (16 : Int)) fun (a : Int) => bnd (bnd (ret (20 : Int)) fun (a : Int) => bnd (ret ([] : List Int)) fun as => ret (a :: as)) fun as => ret (a :: as)) fun as => ret (a :: as)) fun as => ret (a :: as)) fun xs => out (lenOk xs)) fun (a : (List Int)) => bnd (ret q2) fun (b : Int) => out (at_ a b)) fun (a : Int) => bnd (ret ()) fun b => ret (a, b)) fun b => ret (a, b)) fun (a : (Int × Int × Unit)) => t_law_draw_net a.1 a.2.1) fun (net_ : (Int × (List (Int × Int)))) => 
  (bnd (bnd (bnd (ret net_) fun (p : (Int × (List (Int × Int)))) => ret p.1) fun a => bnd (bnd (ret net_) fun (a : (Int × (List (Int × Int)))) => out (reprO (eP2 eInt (eTup (eP2 eInt eInt))) a)) fun b => ret (a, b)) fun (p3 : (Int × Str)) => 
  (bnd (bnd (bnd (bnd (bnd (ret p3.1) fun a => ret ((0 : Int), a)) fun (p : Int × Int) => out (rngO p.1 p.2)) fun (a : (List Int)) => bnd (ret ()) fun b => ret (a, b)) fun (a : ((List Int) × Unit)) => anyD eInt a.1) fun (order_ : (List Int)) => 
  (bnd (bnd (bnd (bnd (bnd (ret order_) fun xs => bnd (ret ()) fun a => bnd (bnd (bnd (bnd (ret p3.1) fun (a : Int) => bnd (ret (1 : Int)) fun (b : Int) => out (addI a b)) fun (a : Int) => bnd (ret ()) fun b => ret (a, b)) fun (a : (Int × Unit)) => pickD a.1) fun b => ret (cut xs none (some b))) fun (a : (List Int)) => out (some (sortW ltZ a))) fun (a : (List Int)) => out (some a)) fun a => bnd (bnd (bnd (bnd (ret order_) fun xs => bnd (bnd (bnd (bnd (ret p3.1) fun (a : Int) => bnd (ret (1 : Int)) fun (b : Int) => out (addI a b)) fun (a : Int) => bnd (ret ()) fun b => ret (a, b)) fun (a : (Int × Unit)) => pickD a.1) fun a => bnd (ret ()) fun b => ret (cut xs (some a) none)) fun (a : (List Int)) => out (some (sortW ltZ a))) fun (a : (List Int)) => out (some a)) fun b => ret (a, b)) fun (p4 : ((List Int) × (List Int))) => 
  (bnd (bnd (bnd (bnd (ret p4.1) fun (a : (List Int)) => ret a) fun xs => lcM xs (fun (q5 : Int) => (bnd (ret q5) fun (a : Int) => bnd (ret p4.2) fun (b : (List Int)) => out (inV a b))) (fun (q5 : Int) => (ret q5))) fun a => bnd (bnd (bnd (ret p3.1) fun (a : Int) => out (rngO 0 a)) fun xs => lcM xs (fun (q6 : Int) => (orB (bnd (ret q6) fun (a : Int) => bnd (ret p4.1) fun (b : (List Int)) => out (inV a b)) (bnd (ret q6) fun (a : Int) => bnd (ret p4.2) fun (b : (List Int)) => out (inV a b)))) (fun (q6 : Int) => (ret q6))) fun b => ret (a, b)) fun (p7 : ((List Int) × (List Int))) => 
  (bnd (bnd (bnd (bnd (ret p4.1) fun (a : (List Int)) => ret a) fun xs => lcM xs (fun (q8 : Int) => (bnd (ret q8) fun (a : Int) => bnd (ret p4.2) fun (b : (List Int)) => out (niV a b))) (fun (q8 : Int) => (ret q8))) fun a => bnd (bnd (bnd (ret p4.2) fun (a : (List Int)) => ret a) fun xs => lcM xs (fun (q9 : Int) => (bnd (ret q9) fun (a : Int) => bnd (ret p4.1) fun (b : (List Int)) => out (niV a b))) (fun (q9 : Int) => (ret q9))) fun b => ret (a, b)) fun (p10 : ((List Int) × (List Int))) => 
  (bnd (bnd (bnd (bnd (ret net_) fun (a : (Int × (List (Int × Int)))) => bnd (bnd (ret p4.1) fun (a : (List Int)) => bnd (ret ()) fun b => ret (a, b)) fun b => ret (a, b)) fun (a : ((Int × (List (Int × Int))) × (List Int) × Unit)) => out (t_cut_number a.1 a.2.1)) fun (a : Int) => bnd (bnd (bnd (ret net_) fun (a : (Int × (List (Int × Int)))) => bnd (bnd (ret p4.2) fun (a : (List Int)) => bnd (ret ()) fun b => ret (a, b)) fun b => ret (a, b)) fun (a : ((Int × (List (Int × Int))) × (List Int) × Unit)) => out (t_cut_number a.1 a.2.1)) fun (b : Int) => out (addI a b)) fun (told_ : Int) => 
  (bnd (bnd (ret told_) fun (a : Int) => bnd (bnd (bnd (bnd (ret net_) fun (a : (Int × (List (Int × Int)))) => bnd (bnd (bnd (ret p7.1) fun (a : (List Int)) => out (some a)) fun (a : (List Int)) => bnd (ret ()) fun b => ret (a, b)) fun b => ret (a, b)) fun (a : ((Int × (List (Int × Int))) × (List Int) × Unit)) => out (t_cut_number a.1 a.2.1)) fun (a : Int) => bnd (bnd (bnd (ret net_) fun (a : (Int × (List (Int × Int)))) => bnd (bnd (bnd (ret p7.2) fun (a : (List Int)) => out (some a)) fun (a : (List Int)) => bnd (ret ()) fun b => ret (a, b)) fun b => ret (a, b)) fun (a : ((Int × (List (Int × Int))) × (List Int) × Unit)) => out (t_cut_number a.1 a.2.1)) fun (b : Int) => out (addI a b)) fun (b : Int) => out (ltI a b)) fun z => cnd z
  (bnd (ret false) fun (a : Bool) => ret (Out.rt a))
  (bnd (bnd (ret told_) fun (a : Int) => bnd (bnd (bnd (bnd (ret net_) fun (a : (Int × (List (Int × Int)))) => bnd (bnd (bnd (ret p10.1) fun (a : (List Int)) => out (some a)) fun (a : (List Int)) => bnd (ret ()) fun b => ret (a, b)) fun b => ret (a, b)) fun (a : ((Int × (List (Int × Int))) × (List Int) × Unit)) => out (t_cut_number a.1 a.2.1)) fun (a : Int) => bnd (bnd (bnd (ret net_) fun (a : (Int × (List (Int × Int)))) => bnd (bnd (bnd (ret p10.2) fun (a : (List Int)) => out (some a)) fun (a : (List Int)) => bnd (ret ()) fun b => ret (a, b)) fun b => ret (a, b)) fun (a : ((Int × (List (Int × Int))) × (List Int) × Unit)) => out (t_cut_number a.1 a.2.1)) fun (b : Int) => out (addI a b)) fun (b : Int) => out (ltI a b)) fun z => cnd z
  (bnd (ret false) fun (a : Bool) => ret (Out.rt a))
  (bnd (bnd (bnd (bnd (ret net_) fun (a : (Int × (List (Int × Int)))) => bnd (bnd (ret p4.1) fun (a : (List Int)) => bnd (ret ()) fun b => ret (a, b)) fun b => ret (a, b)) fun (a : ((Int × (List (Int × Int))) × (List Int) × Unit)) => out (t_cut_number a.1 a.2.1)) fun (a : Int) => bnd (bnd (bnd (ret net_) fun (a : (Int × (List (Int × Int)))) => bnd (bnd (bnd (bnd (bnd (ret p3.1) fun (a : Int) => out (rngO 0 a)) fun xs => lcM xs (fun (q11 : Int) => (bnd (ret q11) fun (a : Int) => bnd (ret p4.1) fun (b : (List Int)) => out (niV a b))) (fun (q11 : Int) => (ret q11))) fun (a : (List Int)) => out (some a)) fun (a : (List Int)) => bnd (ret ()) fun b => ret (a, b)) fun b => ret (a, b)) fun (a : ((Int × (List (Int × Int))) × (List Int) × Unit)) => out (t_cut_number a.1 a.2.1)) fun (b : Int) => out (neV a b)) fun z => cnd z
  (bnd (ret false) fun (a : Bool) => ret (Out.rt a))
  (bnd (bnd (bnd (ret net_) fun (a : (Int × (List (Int × Int)))) => bnd (ret ()) fun b => ret (a, b)) fun (a : ((Int × (List (Int × Int))) × Unit)) => out (t_hold_table a.1)) fun (table_ : (List (List Int))) => 
  (bnd (orB (bnd (bnd (bnd (bnd (ret table_) fun (a : (List (List Int))) => bnd (ret ()) fun b => ret (a, b)) fun (a : ((List (List Int)) × Unit)) => out (t_table_paper a.1)) fun (p : (Str × (Int × (List (Int × Int))))) => ret p.1) fun (a : Str) => bnd (ret (Str.ofString "net")) fun (b : Str) => out (neV a b)) (bnd (bnd (bnd (bnd (bnd (bnd (ret table_) fun (a : (List (List Int))) => bnd (ret ()) fun b => ret (a, b)) fun (a : ((List (List Int)) × Unit)) => out (t_table_paper a.1)) fun (p : (Str × (Int × (List (Int × Int))))) => ret p.2) fun (a : (Int × (List (Int × Int)))) => bnd (ret ()) fun b => ret (a, b)) fun (a : ((Int × (List (Int × Int))) × Unit)) => out (t_hold_table a.1)) fun (a : (List (List Int))) => bnd (ret table_) fun (b : (List (List Int))) => out (neV a b))) fun z => cnd z
  (bnd (ret false) fun (a : Bool) => ret (Out.rt a))
  (bnd (bnd (bnd (bnd (bnd (ret p3.1) fun a => ret ((0 : Int), a)) fun (p : Int × Int) => out (rngO p.1 p.2)) fun (a : (List Int)) => bnd (ret ()) fun b => ret (a, b)) fun (a : ((List Int) × Unit)) => anyD eInt a.1) fun (names_ : (List Int)) => 
  (bnd (bnd (ret p3.1) fun a => bnd (bnd (bnd (bnd (bnd (bnd (ret net_) fun (p : (Int × (List (Int × Int)))) => ret p.2) fun (a : (List (Int × Int))) => ret a) fun xs => lcM xs (fun (q12 : (Int × Int)) => (ret true)) (fun (q12 : (Int × Int)) => (bnd (bnd (bnd (bnd (bnd (ret names_) fun (a : (List Int)) => bnd (ret q12.1) fun (b : Int) => out (at_ a b)) fun a => bnd (bnd (ret names_) fun (a : (List Int)) => bnd (ret q12.2) fun (b : Int) => out (at_ a b)) fun b => ret (a, b)) fun (a : (Int × Int)) => out (some (sortW ltZ [a.1, a.2]))) fun (a : (List Int)) => out (some a)) fun xs => out (two xs)))) fun (a : (List (Int × Int))) => out (some (sortW (ltP ltZ ltZ) a))) fun (a : (List (Int × Int))) => out (some a)) fun b => ret (a, b)) fun (late_ : (Int × (List (Int × Int)))) => 
  (bnd (bnd (bnd (ret late_) fun (a : (Int × (List (Int × Int)))) => bnd (ret ()) fun b => ret (a, b)) fun (a : ((Int × (List (Int × Int))) × Unit)) => out (t_hold_table a.1)) fun (moved_ : (List (List Int))) => 
  (bnd (bnd (bnd (ret p3.1) fun (a : Int) => out (rngO 0 a)) fun xs => foldO (t_law_L2 p3 moved_ names_ table_) xs ()) fun (o : Out Unit Bool) => outK o (fun (b18 : Unit) => 
  (bnd (bnd (bnd (ret net_) fun (p : (Int × (List (Int × Int)))) => ret p.2) fun (a : (List (Int × Int))) => bnd (bnd (ret ([] : List (Int × Int))) fun xs => out (lenOk xs)) fun (b : (List (Int × Int))) => out (neV a b)) fun z => cnd z
  (bnd (bnd (bnd (bnd (bnd (ret net_) fun (p : (Int × (List (Int × Int)))) => ret p.2) fun (a : (List (Int × Int))) => out ((some ((a).length : Int)))) fun (a : Int) => bnd (ret ()) fun b => ret (a, b)) fun (a : (Int × Unit)) => pickD a.1) fun (k_ : Int) => 
  (bnd (bnd (bnd (bnd (ret p3.1) fun a => bnd (bnd (bnd (bnd (ret net_) fun (p : (Int × (List (Int × Int)))) => ret p.2) fun xs => bnd (ret ()) fun a => bnd (ret k_) fun b => ret (cut xs none (some b))) fun (a : (List (Int × Int))) => bnd (bnd (bnd (ret net_) fun (p : (Int × (List (Int × Int)))) => ret p.2) fun xs => bnd (bnd (ret k_) fun (a : Int) => bnd (ret (1 : Int)) fun (b : Int) => out (addI a b)) fun a => bnd (ret ()) fun b => ret (cut xs (some a) none)) fun (b : (List (Int × Int))) => out (cat a b)) fun b => ret (a, b)) fun (a : (Int × (List (Int × Int)))) => bnd (ret ()) fun b => ret (a, b)) fun (a : ((Int × (List (Int × Int))) × Unit)) => out (t_hold_table a.1)) fun (less_ : (List (List Int))) => 
  (bnd (bnd (bnd (ret p3.1) fun (a : Int) => out (rngO 0 a)) fun xs => foldO (t_law_L3 p3 table_ less_) xs ()) fun (o : Out Unit Bool) => outK o (fun (b22 : Unit) => 
  (bnd (bnd (bnd (ret net_) fun (a : (Int × (List (Int × Int)))) => out (reprO (eP2 eInt (eTup (eP2 eInt eInt))) a)) fun (a : Str) => bnd (ret p3.2) fun (b : Str) => out (neV a b)) fun z => cnd z
  (bnd (ret false) fun (a : Bool) => ret (Out.rt a))
  (ret (Out.nx ())))) fun (r : Bool) => ret (Out.rt r))))
  (bnd (bnd (bnd (ret net_) fun (a : (Int × (List (Int × Int)))) => out (reprO (eP2 eInt (eTup (eP2 eInt eInt))) a)) fun (a : Str) => bnd (ret p3.2) fun (b : Str) => out (neV a b)) fun z => cnd z
  (bnd (ret false) fun (a : Bool) => ret (Out.rt a))
  (ret (Out.nx ()))))) fun (r : Bool) => ret (Out.rt r))))))))))))))))))
def t_law : DM Bool :=
  (bnd (bnd (bnd (ret (4 : Int)) fun (a : Int) => out (rngO 0 a)) fun xs => foldO (t_law_L4) xs ()) fun (o : Out Unit Bool) => outK o (fun (b23 : Unit) => 
  (bnd (ret true) fun (a : Bool) => ret a)) fun (r : Bool) => ret r)
open K17 in
def law_rest : S → RS := (sSeq (sFor (jRg (mCons (mF (mC (.int 4))) mNil)) (gN 2) (sSeq (sSet 3 (mCall g_law_draw_net (xSrc 1 (xCons (mF (m2 gIx (mO (mLst (mCons (mF (mC (.int 4))) (mCons (mF (mC (.int 5))) (mCons (mF (mC (.int 6))) (mCons (mF (mC (.int 7))) mNil)))))) (mPk 2))) (xCons (mF (m2 gIx (mO (mLst (mCons (mF (mC (.int 8))) (mCons (mF (mC (.int 12))) (mCons (mF (mC (.int 16))) (mCons (mF (mC (.int 20))) mNil)))))) (mPk 2))) xNil)))))
  (sSeq (sPar2 4 5 (m2 gIx (mPk 3) (mO (mC (.int 0)))) (m1 gRepr (mPk 3)))
  (sSeq (sSet 6 (mCall g_law_any_order (xSrc 1 (xCons (mF (mLRg (mRg1 (mVar 4)))) xNil))))
  (sSeq (sPar2 7 8 (m1 gTuple (mO (m1 gSorted (mO (mSl (mPk 6) mNoP (mP (mCall g_law_pick (xSrc 1 (xCons (mF (m2 gAdd (mPk 4) (mO (mC (.int 1))))) xNil))))))))) (m1 gTuple (mO (m1 gSorted (mO (mSl (mPk 6) (mP (mCall g_law_pick (xSrc 1 (xCons (mF (m2 gAdd (mPk 4) (mO (mC (.int 1))))) xNil)))) mNoP))))))
  (sSeq (sPar2 9 10 (mLc (jSeq (mF (mVar 7))) [23] (gN 23) (mB (m2 (gIn false) (mPk 23) (mPk 8))) (mF (mVar 23))) (mLc (jRg (mCons (mF (mVar 4)) mNil)) [23] (gN 23) (mOr (mB (m2 (gIn false) (mPk 23) (mPk 7))) (mB (m2 (gIn false) (mPk 23) (mPk 8)))) (mF (mVar 23))))
  (sSeq (sPar2 11 12 (mLc (jSeq (mF (mVar 7))) [23] (gN 23) (mB (m2 (gIn true) (mPk 23) (mPk 8))) (mF (mVar 23))) (mLc (jSeq (mF (mVar 8))) [23] (gN 23) (mB (m2 (gIn true) (mPk 23) (mPk 7))) (mF (mVar 23))))
  (sSeq (sSet 13 (m2 gAdd (mO (mCall g_cut_number (xCons (mF (mVar 3)) (xCons (mF (mVar 7)) xNil)))) (mO (mCall g_cut_number (xCons (mF (mVar 3)) (xCons (mF (mVar 8)) xNil))))))
  (sSeq (sIf (mB (m2 gLt (mPk 13) (mO (m2 gAdd (mO (mCall g_cut_number (xCons (mF (mVar 3)) (xCons (mF (m1 gTuple (mPk 9))) xNil)))) (mO (mCall g_cut_number (xCons (mF (mVar 3)) (xCons (mF (m1 gTuple (mPk 10))) xNil)))))))) (sRet (mC (.bool false))) sNil)
  (sSeq (sIf (mB (m2 gLt (mPk 13) (mO (m2 gAdd (mO (mCall g_cut_number (xCons (mF (mVar 3)) (xCons (mF (m1 gTuple (mPk 11))) xNil)))) (mO (mCall g_cut_number (xCons (mF (mVar 3)) (xCons (mF (m1 gTuple (mPk 12))) xNil)))))))) (sRet (mC (.bool false))) sNil)
  (sSeq (sIf (mB (m2 gNe (mO (mCall g_cut_number (xCons (mF (mVar 3)) (xCons (mF (mVar 7)) xNil)))) (mO (mCall g_cut_number (xCons (mF (mVar 3)) (xCons (mF (m1 gTuple (mO (mLc (jRg (mCons (mF (mVar 4)) mNil)) [23] (gN 23) (mB (m2 (gIn true) (mPk 23) (mPk 7))) (mF (mVar 23)))))) xNil)))))) (sRet (mC (.bool false))) sNil)
  (sSeq (sSet 14 (mCall g_hold_table (xCons (mF (mVar 3)) xNil)))
  (sSeq (sIf (mOr (mB (m2 gNe (mO (m2 gIx (mO (mCall g_table_paper (xCons (mF (mVar 14)) xNil))) (mO (mC (.int 0))))) (mO (mC (.str (Str.ofString "net")))))) (mB (m2 gNe (mO (mCall g_hold_table (xCons (mF (m2 gIx (mO (mCall g_table_paper (xCons (mF (mVar 14)) xNil))) (mO (mC (.int 1))))) xNil))) (mPk 14)))) (sRet (mC (.bool false))) sNil)
  (sSeq (sSet 15 (mCall g_law_any_order (xSrc 1 (xCons (mF (mLRg (mRg1 (mVar 4)))) xNil))))
  (sSeq (sSet 16 (mTup (mCons (mF (mVar 4)) (mCons (mF (m1 gTuple (mO (m1 gSorted (mO (mLc (jSeq (mF (m2 gIx (mPk 3) (mO (mC (.int 1)))))) [18, 19] (gTp (gCn (gN 18) (gCn (gN 19) gNl))) tYesM (mF (m1 gTuple (mO (m1 gSorted (mO (mTup (mCons (mF (m2 gIx (mPk 15) (mPk 18))) (mCons (mF (m2 gIx (mPk 15) (mPk 19))) mNil)))))))))))))) mNil))))
  (sSeq (sSet 17 (mCall g_hold_table (xCons (mF (mVar 16)) xNil)))
  (sSeq (sFor (jRg (mCons (mF (mVar 4)) mNil)) (gN 18) (sFor (jRg (mCons (mF (mVar 4)) mNil)) (gN 19) (sIf (mB (m2 gNe (mO (m2 gIx (mO (m2 gIx (mPk 17) (mO (m2 gIx (mPk 15) (mPk 18))))) (mO (m2 gIx (mPk 15) (mPk 19))))) (mO (m2 gIx (mO (m2 gIx (mPk 14) (mPk 18))) (mPk 19))))) (sRet (mC (.bool false))) sNil)))
  (sSeq (sIf (mB (m2 gNe0 (mO (m2 gIx (mPk 3) (mO (mC (.int 1))))) (mO (mTup mNil)))) (sSeq (sSet 20 (mCall g_law_pick (xSrc 1 (xCons (mF (m1 gLen (mO (m2 gIx (mPk 3) (mO (mC (.int 1))))))) xNil))))
  (sSeq (sSet 21 (mCall g_hold_table (xCons (mF (mTup (mCons (mF (mVar 4)) (mCons (mF (m2 gAdd (mO (mSl (mO (m2 gIx (mPk 3) (mO (mC (.int 1))))) mNoP (mP (mVar 20)))) (mO (mSl (mO (m2 gIx (mPk 3) (mO (mC (.int 1))))) (mP (m2 gAdd (mPk 20) (mO (mC (.int 1))))) mNoP)))) mNil)))) xNil)))
  (sFor (jRg (mCons (mF (mVar 4)) mNil)) (gN 22) (sIf (mB (m2 gNe0 (mO (mLc (jRg (mCons (mF (mVar 4)) mNil)) [24] (gN 24) (mB (m2 (gIn true) (mO (m2 gSub (mO (m2 gIx (mO (m2 gIx (mPk 14) (mPk 22))) (mPk 24))) (mO (m2 gIx (mO (m2 gIx (mPk 21) (mPk 22))) (mPk 24))))) (mO (mTup (mCons (mF (mC (.int 0))) (mCons (mF (mC (.int 1))) mNil)))))) (mF (mVar 24)))) (mO (mLst mNil)))) (sRet (mC (.bool false))) sNil)))) sNil)
  (sIf (mB (m2 gNe (mO (m1 gRepr (mPk 3))) (mPk 5))) (sRet (mC (.bool false))) sNil)))))))))))))))))))
  (sRet (mC (.bool true))))
theorem law_ev : EvK (M := DM) law_rest [.dead, .src, .dead, .dead, .dead, .dead, .dead, .dead, .dead, .dead, .dead, .dead, .dead, .dead, .dead, .dead, .dead, .dead, .dead, .dead, .dead, .dead, .dead, .dead, .dead] t_law (kF eBool .val) := by
  refine k_seqE (e3 := eBool) (w := .val) (ρL := fun (b1 : Unit) => [.dead, .src, .dead, .dead, .dead, .dead, .dead, .dead, .dead, .dead, .dead, .dead, .dead, .dead, .dead, .dead, .dead, .dead, .dead, .dead, .dead, .dead, .dead, .dead, .dead]) (inj := fun r => r) ?_ (fun (b23 : Unit) => ?_) rt_f
  · refine k_forO (e3 := eBool) (w := .val) (e1 := eInt) (ρL := fun (b1 : Unit) => [.dead, .src, .dead, .dead, .dead, .dead, .dead, .dead, .dead, .dead, .dead, .dead, .dead, .dead, .dead, .dead, .dead, .dead, .dead, .dead, .dead, .dead, .dead, .dead, .dead]) (ρa := fun (b1 : Unit) (q2 : Int) => [.dead, .src, .val (eInt q2), .dead, .dead, .dead, .dead, .dead, .dead, .dead, .dead, .dead, .dead, .dead, .dead, .dead, .dead, .dead, .dead, .dead, .dead, .dead, .dead, .dead, .dead]) (b0 := ()) (evi_rg1 (evf_of (ev_c (e := eInt) (a := (4 : Int)) rfl))) (.cons .same (.cons .same (.cons .same (.cons .same (.cons .same (.cons .same (.cons .same (.cons .same (.cons .same (.cons .same (.cons .same (.cons .same (.cons .same (.cons .same (.cons .same (.cons .same (.cons .same (.cons .same (.cons .same (.cons .same (.cons .same (.cons .same (.cons .same (.cons .same (.cons .same .nil))))))))))))))))))))))))) (fun (b1 : Unit) (q2 : Int) => (tg_n rfl)) (fun (b1 : Unit) (q2 : Int) => ?_)
    refine k_seq (ρ' := fun (net_ : (Int × (List (Int × Int)))) => [.dead, .src, .val (eInt q2), .val ((eP2 eInt (eTup (eP2 eInt eInt))) net_), .dead, .dead, .dead, .dead, .dead, .dead, .dead, .dead, .dead, .dead, .dead, .dead, .dead, .dead, .dead, .dead, .dead, .dead, .dead, .dead, .dead]) (k_set (ev_callD (evx_src rfl (evx_cons (evf_of (ev_2 (op_ix sq_lst) (evp_of (ev_lst (eva_cons (evf_of (ev_c (e := eInt) (a := (4 : Int)) rfl)) (eva_cons (evf_of (ev_c (e := eInt) (a := (5 : Int)) rfl)) (eva_cons (evf_of (ev_c (e := eInt) (a := (6 : Int)) rfl)) (eva_cons (evf_of (ev_c (e := eInt) (a := (7 : Int)) rfl)) (eva_nil (e := eInt)))))))) (evp_val (e := eInt) (a := q2) rfl))) (evx_cons (evf_of (ev_2 (op_ix sq_lst) (evp_of (ev_lst (eva_cons (evf_of (ev_c (e := eInt) (a := (8 : Int)) rfl)) (eva_cons (evf_of (ev_c (e := eInt) (a := (12 : Int)) rfl)) (eva_cons (evf_of (ev_c (e := eInt) (a := (16 : Int)) rfl)) (eva_cons (evf_of (ev_c (e := eInt) (a := (20 : Int)) rfl)) (eva_nil (e := eInt)))))))) (evp_val (e := eInt) (a := q2) rfl))) evx_nil))) (fun _ => rfl) (fun (a : (Int × Int × Unit)) => fn_law_draw_net a.1 a.2.1)) (fun _ => rfl)) (fun (net_ : (Int × (List (Int × Int)))) => ?_)
    refine k_seq (ρ' := fun (p3 : (Int × Str)) => [.dead, .src, .val (eInt q2), .val ((eP2 eInt (eTup (eP2 eInt eInt))) net_), .val (eInt p3.1), .val (eStr p3.2), .dead, .dead, .dead, .dead, .dead, .dead, .dead, .dead, .dead, .dead, .dead, .dead, .dead, .dead, .dead, .dead, .dead, .dead, .dead]) (k_par2 (ev_2_0 (evp_val (e := (eP2 eInt (eTup (eP2 eInt eInt)))) (a := net_) rfl)) (ev_1 op_repr (evp_val (e := (eP2 eInt (eTup (eP2 eInt eInt)))) (a := net_) rfl)) (fun _ => rfl)) (fun (p3 : (Int × Str)) => ?_)
    refine k_seq (ρ' := fun (order_ : (List Int)) => [.dead, .src, .val (eInt q2), .val ((eP2 eInt (eTup (eP2 eInt eInt))) net_), .val (eInt p3.1), .val (eStr p3.2), .own ((eLst eInt) order_), .dead, .dead, .dead, .dead, .dead, .dead, .dead, .dead, .dead, .dead, .dead, .dead, .dead, .dead, .dead, .dead, .dead, .dead]) (k_set (ev_callD (evx_src rfl (evx_cons (evf_of (ev_lrg (evr_1 (ev_var (e := eInt) (a := p3.1) rfl)))) evx_nil)) (fun _ => rfl) (fun (a : ((List Int) × Unit)) => fn_any eInt a.1)) (fun _ => rfl)) (fun (order_ : (List Int)) => ?_)
    refine k_seq (ρ' := fun (p4 : ((List Int) × (List Int))) => [.dead, .src, .val (eInt q2), .val ((eP2 eInt (eTup (eP2 eInt eInt))) net_), .val (eInt p3.1), .val (eStr p3.2), .own ((eLst eInt) order_), .val ((eTup eInt) p4.1), .val ((eTup eInt) p4.2), .dead, .dead, .dead, .dead, .dead, .dead, .dead, .dead, .dead, .dead, .dead, .dead, .dead, .dead, .dead, .dead]) (k_par2 (ev_1 (op_tuple sq_lst) (evp_of (ev_1 (op_sort sq_lst or_int (by decide) (.inr fun _ => rfl)) (evp_of (ev_sl (evp_own (e := (eLst eInt)) (a := order_) rfl) evo_none (evo_some (ev_callD (evx_src rfl (evx_cons (evf_of (ev_2 op_addI (evp_val (e := eInt) (a := p3.1) rfl) (evp_of (ev_c (e := eInt) (a := (1 : Int)) rfl)))) evx_nil)) (fun _ => rfl) (fun (a : (Int × Unit)) => fn_pick a.1)))))))) (ev_1 (op_tuple sq_lst) (evp_of (ev_1 (op_sort sq_lst or_int (by decide) (.inr fun _ => rfl)) (evp_of (ev_sl (evp_own (e := (eLst eInt)) (a := order_) rfl) (evo_some (ev_callD (evx_src rfl (evx_cons (evf_of (ev_2 op_addI (evp_val (e := eInt) (a := p3.1) rfl) (evp_of (ev_c (e := eInt) (a := (1 : Int)) rfl)))) evx_nil)) (fun _ => rfl) (fun (a : (Int × Unit)) => fn_pick a.1))) evo_none))))) (fun _ => rfl)) (fun (p4 : ((List Int) × (List Int))) => ?_)
    refine k_seq (ρ' := fun (p7 : ((List Int) × (List Int))) => [.dead, .src, .val (eInt q2), .val ((eP2 eInt (eTup (eP2 eInt eInt))) net_), .val (eInt p3.1), .val (eStr p3.2), .own ((eLst eInt) order_), .val ((eTup eInt) p4.1), .val ((eTup eInt) p4.2), .own ((eLst eInt) p7.1), .own ((eLst eInt) p7.2), .dead, .dead, .dead, .dead, .dead, .dead, .dead, .dead, .dead, .dead, .dead, .dead, .dead, .dead]) (k_par2 (ev_lc (e1 := eInt) (ρa := fun (q5 : Int) => [.dead, .src, .val (eInt q2), .val ((eP2 eInt (eTup (eP2 eInt eInt))) net_), .val (eInt p3.1), .val (eStr p3.2), .own ((eLst eInt) order_), .val ((eTup eInt) p4.1), .val ((eTup eInt) p4.2), .dead, .dead, .dead, .dead, .dead, .dead, .dead, .dead, .dead, .dead, .dead, .dead, .dead, .dead, .val (eInt q5), .dead]) rfl (evi_seq sq_tup (evf_of (ev_var (e := (eTup eInt)) (a := p4.1) rfl))) (fun q5 => (tg_n rfl)) (fun q5 => (evt_of (ev_2 (op_in sq_tup eq_int (by decide)) (evp_val (e := eInt) (a := q5) rfl) (evp_val (e := (eTup eInt)) (a := p4.2) rfl)))) (fun q5 => (evf_of (ev_var (e := eInt) (a := q5) rfl))) (fun _ => rfl)) (ev_lc (e1 := eInt) (ρa := fun (q6 : Int) => [.dead, .src, .val (eInt q2), .val ((eP2 eInt (eTup (eP2 eInt eInt))) net_), .val (eInt p3.1), .val (eStr p3.2), .own ((eLst eInt) order_), .val ((eTup eInt) p4.1), .val ((eTup eInt) p4.2), .dead, .dead, .dead, .dead, .dead, .dead, .dead, .dead, .dead, .dead, .dead, .dead, .dead, .dead, .val (eInt q6), .dead]) rfl (evi_rg1 (evf_of (ev_var (e := eInt) (a := p3.1) rfl))) (fun q6 => (tg_n rfl)) (fun q6 => (evt_or (evt_of (ev_2 (op_in sq_tup eq_int (by decide)) (evp_val (e := eInt) (a := q6) rfl) (evp_val (e := (eTup eInt)) (a := p4.1) rfl))) (evt_of (ev_2 (op_in sq_tup eq_int (by decide)) (evp_val (e := eInt) (a := q6) rfl) (evp_val (e := (eTup eInt)) (a := p4.2) rfl))))) (fun q6 => (evf_of (ev_var (e := eInt) (a := q6) rfl))) (fun _ => rfl)) (fun _ => rfl)) (fun (p7 : ((List Int) × (List Int))) => ?_)
    refine k_seq (ρ' := fun (p10 : ((List Int) × (List Int))) => [.dead, .src, .val (eInt q2), .val ((eP2 eInt (eTup (eP2 eInt eInt))) net_), .val (eInt p3.1), .val (eStr p3.2), .own ((eLst eInt) order_), .val ((eTup eInt) p4.1), .val ((eTup eInt) p4.2), .own ((eLst eInt) p7.1), .own ((eLst eInt) p7.2), .own ((eLst eInt) p10.1), .own ((eLst eInt) p10.2), .dead, .dead, .dead, .dead, .dead, .dead, .dead, .dead, .dead, .dead, .dead, .dead]) (k_par2 (ev_lc (e1 := eInt) (ρa := fun (q8 : Int) => [.dead, .src, .val (eInt q2), .val ((eP2 eInt (eTup (eP2 eInt eInt))) net_), .val (eInt p3.1), .val (eStr p3.2), .own ((eLst eInt) order_), .val ((eTup eInt) p4.1), .val ((eTup eInt) p4.2), .own ((eLst eInt) p7.1), .own ((eLst eInt) p7.2), .dead, .dead, .dead, .dead, .dead, .dead, .dead, .dead, .dead, .dead, .dead, .dead, .val (eInt q8), .dead]) rfl (evi_seq sq_tup (evf_of (ev_var (e := (eTup eInt)) (a := p4.1) rfl))) (fun q8 => (tg_n rfl)) (fun q8 => (evt_of (ev_2 (op_ni sq_tup eq_int (by decide)) (evp_val (e := eInt) (a := q8) rfl) (evp_val (e := (eTup eInt)) (a := p4.2) rfl)))) (fun q8 => (evf_of (ev_var (e := eInt) (a := q8) rfl))) (fun _ => rfl)) (ev_lc (e1 := eInt) (ρa := fun (q9 : Int) => [.dead, .src, .val (eInt q2), .val ((eP2 eInt (eTup (eP2 eInt eInt))) net_), .val (eInt p3.1), .val (eStr p3.2), .own ((eLst eInt) order_), .val ((eTup eInt) p4.1), .val ((eTup eInt) p4.2), .own ((eLst eInt) p7.1), .own ((eLst eInt) p7.2), .dead, .dead, .dead, .dead, .dead, .dead, .dead, .dead, .dead, .dead, .dead, .dead, .val (eInt q9), .dead]) rfl (evi_seq sq_tup (evf_of (ev_var (e := (eTup eInt)) (a := p4.2) rfl))) (fun q9 => (tg_n rfl)) (fun q9 => (evt_of (ev_2 (op_ni sq_tup eq_int (by decide)) (evp_val (e := eInt) (a := q9) rfl) (evp_val (e := (eTup eInt)) (a := p4.1) rfl)))) (fun q9 => (evf_of (ev_var (e := eInt) (a := q9) rfl))) (fun _ => rfl)) (fun _ => rfl)) (fun (p10 : ((List Int) × (List Int))) => ?_)
    refine k_seq (ρ' := fun (told_ : Int) => [.dead, .src, .val (eInt q2), .val ((eP2 eInt (eTup (eP2 eInt eInt))) net_), .val (eInt p3.1), .val (eStr p3.2), .own ((eLst eInt) order_), .val ((eTup eInt) p4.1), .val ((eTup eInt) p4.2), .own ((eLst eInt) p7.1), .own ((eLst eInt) p7.2), .own ((eLst eInt) p10.1), .own ((eLst eInt) p10.2), .val (eInt told_), .dead, .dead, .dead, .dead, .dead, .dead, .dead, .dead, .dead, .dead, .dead]) (k_set (ev_2 op_addI (evp_of (ev_call (evx_cons (evf_of (ev_var (e := (eP2 eInt (eTup (eP2 eInt eInt)))) (a := net_) rfl)) (evx_cons (evf_of (ev_var (e := (eTup eInt)) (a := p4.1) rfl)) evx_nil)) (fun _ => rfl) (fun (a : ((Int × (List (Int × Int))) × (List Int) × Unit)) => fn_cut_number a.1 a.2.1))) (evp_of (ev_call (evx_cons (evf_of (ev_var (e := (eP2 eInt (eTup (eP2 eInt eInt)))) (a := net_) rfl)) (evx_cons (evf_of (ev_var (e := (eTup eInt)) (a := p4.2) rfl)) evx_nil)) (fun _ => rfl) (fun (a : ((Int × (List (Int × Int))) × (List Int) × Unit)) => fn_cut_number a.1 a.2.1)))) (fun _ => rfl)) (fun (told_ : Int) => ?_)
    refine k_ifx (evt_of (ev_2 op_ltI (evp_val (e := eInt) (a := told_) rfl) (evp_of (ev_2 op_addI (evp_of (ev_call (evx_cons (evf_of (ev_var (e := (eP2 eInt (eTup (eP2 eInt eInt)))) (a := net_) rfl)) (evx_cons (evf_of (ev_1 (op_tuple sq_lst) (evp_own (e := (eLst eInt)) (a := p7.1) rfl))) evx_nil)) (fun _ => rfl) (fun (a : ((Int × (List (Int × Int))) × (List Int) × Unit)) => fn_cut_number a.1 a.2.1))) (evp_of (ev_call (evx_cons (evf_of (ev_var (e := (eP2 eInt (eTup (eP2 eInt eInt)))) (a := net_) rfl)) (evx_cons (evf_of (ev_1 (op_tuple sq_lst) (evp_own (e := (eLst eInt)) (a := p7.2) rfl))) evx_nil)) (fun _ => rfl) (fun (a : ((Int × (List (Int × Int))) × (List Int) × Unit)) => fn_cut_number a.1 a.2.1))))))) ?_ ?_
    · exact k_ret (inj := fun r => (Out.rt r)) (ev_c (e := eBool) (a := false) rfl) (rt_ex rt_o)
    refine k_nilseq ?_
    refine k_ifx (evt_of (ev_2 op_ltI (evp_val (e := eInt) (a := told_) rfl) (evp_of (ev_2 op_addI (evp_of (ev_call (evx_cons (evf_of (ev_var (e := (eP2 eInt (eTup (eP2 eInt eInt)))) (a := net_) rfl)) (evx_cons (evf_of (ev_1 (op_tuple sq_lst) (evp_own (e := (eLst eInt)) (a := p10.1) rfl))) evx_nil)) (fun _ => rfl) (fun (a : ((Int × (List (Int × Int))) × (List Int) × Unit)) => fn_cut_number a.1 a.2.1))) (evp_of (ev_call (evx_cons (evf_of (ev_var (e := (eP2 eInt (eTup (eP2 eInt eInt)))) (a := net_) rfl)) (evx_cons (evf_of (ev_1 (op_tuple sq_lst) (evp_own (e := (eLst eInt)) (a := p10.2) rfl))) evx_nil)) (fun _ => rfl) (fun (a : ((Int × (List (Int × Int))) × (List Int) × Unit)) => fn_cut_number a.1 a.2.1))))))) ?_ ?_
    · exact k_ret (inj := fun r => (Out.rt r)) (ev_c (e := eBool) (a := false) rfl) (rt_ex rt_o)
    refine k_nilseq ?_
    refine k_ifx (evt_of (ev_2 (op_ne eq_int (by decide)) (evp_of (ev_call (evx_cons (evf_of (ev_var (e := (eP2 eInt (eTup (eP2 eInt eInt)))) (a := net_) rfl)) (evx_cons (evf_of (ev_var (e := (eTup eInt)) (a := p4.1) rfl)) evx_nil)) (fun _ => rfl) (fun (a : ((Int × (List (Int × Int))) × (List Int) × Unit)) => fn_cut_number a.1 a.2.1))) (evp_of (ev_call (evx_cons (evf_of (ev_var (e := (eP2 eInt (eTup (eP2 eInt eInt)))) (a := net_) rfl)) (evx_cons (evf_of (ev_1 (op_tuple sq_lst) (evp_of (ev_lc (e1 := eInt) (ρa := fun (q11 : Int) => [.dead, .src, .val (eInt q2), .val ((eP2 eInt (eTup (eP2 eInt eInt))) net_), .val (eInt p3.1), .val (eStr p3.2), .own ((eLst eInt) order_), .val ((eTup eInt) p4.1), .val ((eTup eInt) p4.2), .own ((eLst eInt) p7.1), .own ((eLst eInt) p7.2), .own ((eLst eInt) p10.1), .own ((eLst eInt) p10.2), .val (eInt told_), .dead, .dead, .dead, .dead, .dead, .dead, .dead, .dead, .dead, .val (eInt q11), .dead]) rfl (evi_rg1 (evf_of (ev_var (e := eInt) (a := p3.1) rfl))) (fun q11 => (tg_n rfl)) (fun q11 => (evt_of (ev_2 (op_ni sq_tup eq_int (by decide)) (evp_val (e := eInt) (a := q11) rfl) (evp_val (e := (eTup eInt)) (a := p4.1) rfl)))) (fun q11 => (evf_of (ev_var (e := eInt) (a := q11) rfl))) (fun _ => rfl))))) evx_nil)) (fun _ => rfl) (fun (a : ((Int × (List (Int × Int))) × (List Int) × Unit)) => fn_cut_number a.1 a.2.1))))) ?_ ?_
    · exact k_ret (inj := fun r => (Out.rt r)) (ev_c (e := eBool) (a := false) rfl) (rt_ex rt_o)
    refine k_nilseq ?_
    refine k_seq (ρ' := fun (table_ : (List (List Int))) => [.dead, .src, .val (eInt q2), .val ((eP2 eInt (eTup (eP2 eInt eInt))) net_), .val (eInt p3.1), .val (eStr p3.2), .own ((eLst eInt) order_), .val ((eTup eInt) p4.1), .val ((eTup eInt) p4.2), .own ((eLst eInt) p7.1), .own ((eLst eInt) p7.2), .own ((eLst eInt) p10.1), .own ((eLst eInt) p10.2), .val (eInt told_), .val ((eTup (eTup eInt)) table_), .dead, .dead, .dead, .dead, .dead, .dead, .dead, .dead, .dead, .dead]) (k_set (ev_call (evx_cons (evf_of (ev_var (e := (eP2 eInt (eTup (eP2 eInt eInt)))) (a := net_) rfl)) evx_nil) (fun _ => rfl) (fun (a : ((Int × (List (Int × Int))) × Unit)) => fn_hold_table a.1)) (fun _ => rfl)) (fun (table_ : (List (List Int))) => ?_)
    refine k_ifx (evt_or (evt_of (ev_2 (op_ne eq_str (by decide)) (evp_of (ev_2_0 (evp_of (ev_call (evx_cons (evf_of (ev_var (e := (eTup (eTup eInt))) (a := table_) rfl)) evx_nil) (fun _ => rfl) (fun (a : ((List (List Int)) × Unit)) => fn_table_paper a.1))))) (evp_of (ev_c (e := eStr) (a := (Str.ofString "net")) rfl)))) (evt_of (ev_2 (op_ne (eq_tup (eq_tup eq_int)) (by decide)) (evp_of (ev_call (evx_cons (evf_of (ev_2_1 (evp_of (ev_call (evx_cons (evf_of (ev_var (e := (eTup (eTup eInt))) (a := table_) rfl)) evx_nil) (fun _ => rfl) (fun (a : ((List (List Int)) × Unit)) => fn_table_paper a.1))))) evx_nil) (fun _ => rfl) (fun (a : ((Int × (List (Int × Int))) × Unit)) => fn_hold_table a.1))) (evp_val (e := (eTup (eTup eInt))) (a := table_) rfl)))) ?_ ?_
    · exact k_ret (inj := fun r => (Out.rt r)) (ev_c (e := eBool) (a := false) rfl) (rt_ex rt_o)
    refine k_nilseq ?_
    refine k_seq (ρ' := fun (names_ : (List Int)) => [.dead, .src, .val (eInt q2), .val ((eP2 eInt (eTup (eP2 eInt eInt))) net_), .val (eInt p3.1), .val (eStr p3.2), .own ((eLst eInt) order_), .val ((eTup eInt) p4.1), .val ((eTup eInt) p4.2), .own ((eLst eInt) p7.1), .own ((eLst eInt) p7.2), .own ((eLst eInt) p10.1), .own ((eLst eInt) p10.2), .val (eInt told_), .val ((eTup (eTup eInt)) table_), .own ((eLst eInt) names_), .dead, .dead, .dead, .dead, .dead, .dead, .dead, .dead, .dead]) (k_set (ev_callD (evx_src rfl (evx_cons (evf_of (ev_lrg (evr_1 (ev_var (e := eInt) (a := p3.1) rfl)))) evx_nil)) (fun _ => rfl) (fun (a : ((List Int) × Unit)) => fn_any eInt a.1)) (fun _ => rfl)) (fun (names_ : (List Int)) => ?_)
    refine k_seq (ρ' := fun (late_ : (Int × (List (Int × Int)))) => [.dead, .src, .val (eInt q2), .val ((eP2 eInt (eTup (eP2 eInt eInt))) net_), .val (eInt p3.1), .val (eStr p3.2), .own ((eLst eInt) order_), .val ((eTup eInt) p4.1), .val ((eTup eInt) p4.2), .own ((eLst eInt) p7.1), .own ((eLst eInt) p7.2), .own ((eLst eInt) p10.1), .own ((eLst eInt) p10.2), .val (eInt told_), .val ((eTup (eTup eInt)) table_), .own ((eLst eInt) names_), .val ((eP2 eInt (eTup (eP2 eInt eInt))) late_), .dead, .dead, .dead, .dead, .dead, .dead, .dead, .dead]) (k_set (ev_p2 (evf_of (ev_var (e := eInt) (a := p3.1) rfl)) (evf_of (ev_1 (op_tuple sq_lst) (evp_of (ev_1 (op_sort sq_lst (or_p2 or_int or_int) (by decide) (.inl fun _ => rfl)) (evp_of (ev_lc (e1 := (eP2 eInt eInt)) (ρa := fun (q12 : (Int × Int)) => [.dead, .src, .val (eInt q2), .val ((eP2 eInt (eTup (eP2 eInt eInt))) net_), .val (eInt p3.1), .val (eStr p3.2), .own ((eLst eInt) order_), .val ((eTup eInt) p4.1), .val ((eTup eInt) p4.2), .own ((eLst eInt) p7.1), .own ((eLst eInt) p7.2), .own ((eLst eInt) p10.1), .own ((eLst eInt) p10.2), .val (eInt told_), .val ((eTup (eTup eInt)) table_), .own ((eLst eInt) names_), .dead, .dead, .val (eInt q12.1), .val (eInt q12.2), .dead, .dead, .dead, .dead, .dead]) rfl (evi_seq sq_tup (evf_of (ev_2_1 (evp_val (e := (eP2 eInt (eTup (eP2 eInt eInt)))) (a := net_) rfl)))) (fun q12 => (tg_tp (tg_cn (tg_n rfl) (tg_cn (tg_n rfl) tg_nl)))) (fun q12 => evt_yes) (fun q12 => (evf_of (ev_two (ev_1 (op_tuple sq_lst) (evp_of (ev_1 (op_sort sq_p2 or_int (by decide) (.inr fun _ => rfl)) (evp_of (ev_p2 (evf_of (ev_2 (op_ix sq_lst) (evp_own (e := (eLst eInt)) (a := names_) rfl) (evp_val (e := eInt) (a := q12.1) rfl))) (evf_of (ev_2 (op_ix sq_lst) (evp_own (e := (eLst eInt)) (a := names_) rfl) (evp_val (e := eInt) (a := q12.2) rfl))))))))))) (fun _ => rfl)))))))) (fun _ => rfl)) (fun (late_ : (Int × (List (Int × Int)))) => ?_)
    refine k_seq (ρ' := fun (moved_ : (List (List Int))) => [.dead, .src, .val (eInt q2), .val ((eP2 eInt (eTup (eP2 eInt eInt))) net_), .val (eInt p3.1), .val (eStr p3.2), .own ((eLst eInt) order_), .val ((eTup eInt) p4.1), .val ((eTup eInt) p4.2), .own ((eLst eInt) p7.1), .own ((eLst eInt) p7.2), .own ((eLst eInt) p10.1), .own ((eLst eInt) p10.2), .val (eInt told_), .val ((eTup (eTup eInt)) table_), .own ((eLst eInt) names_), .val ((eP2 eInt (eTup (eP2 eInt eInt))) late_), .val ((eTup (eTup eInt)) moved_), .dead, .dead, .dead, .dead, .dead, .dead, .dead]) (k_set (ev_call (evx_cons (evf_of (ev_var (e := (eP2 eInt (eTup (eP2 eInt eInt)))) (a := late_) rfl)) evx_nil) (fun _ => rfl) (fun (a : ((Int × (List (Int × Int))) × Unit)) => fn_hold_table a.1)) (fun _ => rfl)) (fun (moved_ : (List (List Int))) => ?_)
    refine k_seqE (e3 := eBool) (w := .val) (ρL := fun (b13 : Unit) => [.dead, .src, .val (eInt q2), .val ((eP2 eInt (eTup (eP2 eInt eInt))) net_), .val (eInt p3.1), .val (eStr p3.2), .own ((eLst eInt) order_), .val ((eTup eInt) p4.1), .val ((eTup eInt) p4.2), .own ((eLst eInt) p7.1), .own ((eLst eInt) p7.2), .own ((eLst eInt) p10.1), .own ((eLst eInt) p10.2), .val (eInt told_), .val ((eTup (eTup eInt)) table_), .own ((eLst eInt) names_), .val ((eP2 eInt (eTup (eP2 eInt eInt))) late_), .val ((eTup (eTup eInt)) moved_), .dead, .dead, .dead, .dead, .dead, .dead, .dead]) (inj := fun r => (Out.rt r)) ?_ (fun (b18 : Unit) => ?_) rt_o
    · refine k_forO (e3 := eBool) (w := .val) (e1 := eInt) (ρL := fun (b13 : Unit) => [.dead, .src, .val (eInt q2), .val ((eP2 eInt (eTup (eP2 eInt eInt))) net_), .val (eInt p3.1), .val (eStr p3.2), .own ((eLst eInt) order_), .val ((eTup eInt) p4.1), .val ((eTup eInt) p4.2), .own ((eLst eInt) p7.1), .own ((eLst eInt) p7.2), .own ((eLst eInt) p10.1), .own ((eLst eInt) p10.2), .val (eInt told_), .val ((eTup (eTup eInt)) table_), .own ((eLst eInt) names_), .val ((eP2 eInt (eTup (eP2 eInt eInt))) late_), .val ((eTup (eTup eInt)) moved_), .dead, .dead, .dead, .dead, .dead, .dead, .dead]) (ρa := fun (b13 : Unit) (q14 : Int) => [.dead, .src, .val (eInt q2), .val ((eP2 eInt (eTup (eP2 eInt eInt))) net_), .val (eInt p3.1), .val (eStr p3.2), .own ((eLst eInt) order_), .val ((eTup eInt) p4.1), .val ((eTup eInt) p4.2), .own ((eLst eInt) p7.1), .own ((eLst eInt) p7.2), .own ((eLst eInt) p10.1), .own ((eLst eInt) p10.2), .val (eInt told_), .val ((eTup (eTup eInt)) table_), .own ((eLst eInt) names_), .val ((eP2 eInt (eTup (eP2 eInt eInt))) late_), .val ((eTup (eTup eInt)) moved_), .val (eInt q14), .dead, .dead, .dead, .dead, .dead, .dead]) (b0 := ()) (evi_rg1 (evf_of (ev_var (e := eInt) (a := p3.1) rfl))) (.cons .same (.cons .same (.cons .same (.cons .same (.cons .same (.cons .same (.cons .same (.cons .same (.cons .same (.cons .same (.cons .same (.cons .same (.cons .same (.cons .same (.cons .same (.cons .same (.cons .same (.cons .same (.cons .same (.cons .same (.cons .same (.cons .same (.cons .same (.cons .same (.cons .same .nil))))))))))))))))))))))))) (fun (b13 : Unit) (q14 : Int) => (tg_n rfl)) (fun (b13 : Unit) (q14 : Int) => ?_)
      refine k_lastE (e3 := eBool) (w := .val) (ρL := fun (b15 : Unit) => [.dead, .src, .val (eInt q2), .val ((eP2 eInt (eTup (eP2 eInt eInt))) net_), .val (eInt p3.1), .val (eStr p3.2), .own ((eLst eInt) order_), .val ((eTup eInt) p4.1), .val ((eTup eInt) p4.2), .own ((eLst eInt) p7.1), .own ((eLst eInt) p7.2), .own ((eLst eInt) p10.1), .own ((eLst eInt) p10.2), .val (eInt told_), .val ((eTup (eTup eInt)) table_), .own ((eLst eInt) names_), .val ((eP2 eInt (eTup (eP2 eInt eInt))) late_), .val ((eTup (eTup eInt)) moved_), .val (eInt q14), .dead, .dead, .dead, .dead, .dead, .dead]) (inj := fun r => (Out.rt r)) ?_ (fun (b17 : Unit) => ?_) rt_o
      · refine k_forO (e3 := eBool) (w := .val) (e1 := eInt) (ρL := fun (b15 : Unit) => [.dead, .src, .val (eInt q2), .val ((eP2 eInt (eTup (eP2 eInt eInt))) net_), .val (eInt p3.1), .val (eStr p3.2), .own ((eLst eInt) order_), .val ((eTup eInt) p4.1), .val ((eTup eInt) p4.2), .own ((eLst eInt) p7.1), .own ((eLst eInt) p7.2), .own ((eLst eInt) p10.1), .own ((eLst eInt) p10.2), .val (eInt told_), .val ((eTup (eTup eInt)) table_), .own ((eLst eInt) names_), .val ((eP2 eInt (eTup (eP2 eInt eInt))) late_), .val ((eTup (eTup eInt)) moved_), .val (eInt q14), .dead, .dead, .dead, .dead, .dead, .dead]) (ρa := fun (b15 : Unit) (q16 : Int) => [.dead, .src, .val (eInt q2), .val ((eP2 eInt (eTup (eP2 eInt eInt))) net_), .val (eInt p3.1), .val (eStr p3.2), .own ((eLst eInt) order_), .val ((eTup eInt) p4.1), .val ((eTup eInt) p4.2), .own ((eLst eInt) p7.1), .own ((eLst eInt) p7.2), .own ((eLst eInt) p10.1), .own ((eLst eInt) p10.2), .val (eInt told_), .val ((eTup (eTup eInt)) table_), .own ((eLst eInt) names_), .val ((eP2 eInt (eTup (eP2 eInt eInt))) late_), .val ((eTup (eTup eInt)) moved_), .val (eInt q14), .val (eInt q16), .dead, .dead, .dead, .dead, .dead]) (b0 := ()) (evi_rg1 (evf_of (ev_var (e := eInt) (a := p3.1) rfl))) (.cons .same (.cons .same (.cons .same (.cons .same (.cons .same (.cons .same (.cons .same (.cons .same (.cons .same (.cons .same (.cons .same (.cons .same (.cons .same (.cons .same (.cons .same (.cons .same (.cons .same (.cons .same (.cons .same (.cons .same (.cons .same (.cons .same (.cons .same (.cons .same (.cons .same .nil))))))))))))))))))))))))) (fun (b15 : Unit) (q16 : Int) => (tg_n rfl)) (fun (b15 : Unit) (q16 : Int) => ?_)
        refine k_if (evt_of (ev_2 (op_ne eq_int (by decide)) (evp_of (ev_2 (op_ix sq_tup) (evp_of (ev_2 (op_ix sq_tup) (evp_val (e := (eTup (eTup eInt))) (a := moved_) rfl) (evp_of (ev_2 (op_ix sq_lst) (evp_own (e := (eLst eInt)) (a := names_) rfl) (evp_val (e := eInt) (a := q14) rfl))))) (evp_of (ev_2 (op_ix sq_lst) (evp_own (e := (eLst eInt)) (a := names_) rfl) (evp_val (e := eInt) (a := q16) rfl))))) (evp_of (ev_2 (op_ix sq_tup) (evp_of (ev_2 (op_ix sq_tup) (evp_val (e := (eTup (eTup eInt))) (a := table_) rfl) (evp_val (e := eInt) (a := q14) rfl))) (evp_val (e := eInt) (a := q16) rfl))))) ?_ ?_
        · exact k_ret (inj := fun r => (Out.rt r)) (ev_c (e := eBool) (a := false) rfl) rt_o
        exact k_nil (nx_o (.cons .same (.cons .same (.cons .same (.cons .same (.cons .same (.cons .same (.cons .same (.cons .same (.cons .same (.cons .same (.cons .same (.cons .same (.cons .same (.cons .same (.cons .same (.cons .same (.cons .same (.cons .same (.cons .same (.cons .dead (.cons .same (.cons .same (.cons .same (.cons .same (.cons .same .nil))))))))))))))))))))))))))
      exact k_nil (nx_o (.cons .same (.cons .same (.cons .same (.cons .same (.cons .same (.cons .same (.cons .same (.cons .same (.cons .same (.cons .same (.cons .same (.cons .same (.cons .same (.cons .same (.cons .same (.cons .same (.cons .same (.cons .same (.cons .dead (.cons .same (.cons .same (.cons .same (.cons .same (.cons .same (.cons .same .nil))))))))))))))))))))))))))
    refine k_if2 (evt_of (ev_2 (op_ne0 (eq_tup (eq_p2 eq_int eq_int)) (by decide)) (evp_of (ev_2_1 (evp_val (e := (eP2 eInt (eTup (eP2 eInt eInt)))) (a := net_) rfl))) (evp_of (ev_tup (eva_nil (e := (eP2 eInt eInt))))))) ?_ ?_
    · refine k_assoc ?_
      refine k_seq (ρ' := fun (k_ : Int) => [.dead, .src, .val (eInt q2), .val ((eP2 eInt (eTup (eP2 eInt eInt))) net_), .val (eInt p3.1), .val (eStr p3.2), .own ((eLst eInt) order_), .val ((eTup eInt) p4.1), .val ((eTup eInt) p4.2), .own ((eLst eInt) p7.1), .own ((eLst eInt) p7.2), .own ((eLst eInt) p10.1), .own ((eLst eInt) p10.2), .val (eInt told_), .val ((eTup (eTup eInt)) table_), .own ((eLst eInt) names_), .val ((eP2 eInt (eTup (eP2 eInt eInt))) late_), .val ((eTup (eTup eInt)) moved_), .dead, .dead, .val (eInt k_), .dead, .dead, .dead, .dead]) (k_set (ev_callD (evx_src rfl (evx_cons (evf_of (ev_1 (op_len sq_tup) (evp_of (ev_2_1 (evp_val (e := (eP2 eInt (eTup (eP2 eInt eInt)))) (a := net_) rfl))))) evx_nil)) (fun _ => rfl) (fun (a : (Int × Unit)) => fn_pick a.1)) (fun _ => rfl)) (fun (k_ : Int) => ?_)
      refine k_assoc ?_
      refine k_seq (ρ' := fun (less_ : (List (List Int))) => [.dead, .src, .val (eInt q2), .val ((eP2 eInt (eTup (eP2 eInt eInt))) net_), .val (eInt p3.1), .val (eStr p3.2), .own ((eLst eInt) order_), .val ((eTup eInt) p4.1), .val ((eTup eInt) p4.2), .own ((eLst eInt) p7.1), .own ((eLst eInt) p7.2), .own ((eLst eInt) p10.1), .own ((eLst eInt) p10.2), .val (eInt told_), .val ((eTup (eTup eInt)) table_), .own ((eLst eInt) names_), .val ((eP2 eInt (eTup (eP2 eInt eInt))) late_), .val ((eTup (eTup eInt)) moved_), .dead, .dead, .val (eInt k_), .val ((eTup (eTup eInt)) less_), .dead, .dead, .dead]) (k_set (ev_call (evx_cons (evf_of (ev_p2 (evf_of (ev_var (e := eInt) (a := p3.1) rfl)) (evf_of (ev_2 op_catT (evp_of (ev_slT (evp_of (ev_2_1 (evp_val (e := (eP2 eInt (eTup (eP2 eInt eInt)))) (a := net_) rfl))) evo_none (evo_some (ev_var (e := eInt) (a := k_) rfl)))) (evp_of (ev_slT (evp_of (ev_2_1 (evp_val (e := (eP2 eInt (eTup (eP2 eInt eInt)))) (a := net_) rfl))) (evo_some (ev_2 op_addI (evp_val (e := eInt) (a := k_) rfl) (evp_of (ev_c (e := eInt) (a := (1 : Int)) rfl)))) evo_none)))))) evx_nil) (fun _ => rfl) (fun (a : ((Int × (List (Int × Int))) × Unit)) => fn_hold_table a.1)) (fun _ => rfl)) (fun (less_ : (List (List Int))) => ?_)
      refine k_seqE (e3 := eBool) (w := .val) (ρL := fun (b19 : Unit) => [.dead, .src, .val (eInt q2), .val ((eP2 eInt (eTup (eP2 eInt eInt))) net_), .val (eInt p3.1), .val (eStr p3.2), .own ((eLst eInt) order_), .val ((eTup eInt) p4.1), .val ((eTup eInt) p4.2), .own ((eLst eInt) p7.1), .own ((eLst eInt) p7.2), .own ((eLst eInt) p10.1), .own ((eLst eInt) p10.2), .val (eInt told_), .val ((eTup (eTup eInt)) table_), .own ((eLst eInt) names_), .val ((eP2 eInt (eTup (eP2 eInt eInt))) late_), .val ((eTup (eTup eInt)) moved_), .dead, .dead, .val (eInt k_), .val ((eTup (eTup eInt)) less_), .dead, .dead, .dead]) (inj := fun r => (Out.rt r)) ?_ (fun (b22 : Unit) => ?_) rt_o
      · refine k_forO (e3 := eBool) (w := .val) (e1 := eInt) (ρL := fun (b19 : Unit) => [.dead, .src, .val (eInt q2), .val ((eP2 eInt (eTup (eP2 eInt eInt))) net_), .val (eInt p3.1), .val (eStr p3.2), .own ((eLst eInt) order_), .val ((eTup eInt) p4.1), .val ((eTup eInt) p4.2), .own ((eLst eInt) p7.1), .own ((eLst eInt) p7.2), .own ((eLst eInt) p10.1), .own ((eLst eInt) p10.2), .val (eInt told_), .val ((eTup (eTup eInt)) table_), .own ((eLst eInt) names_), .val ((eP2 eInt (eTup (eP2 eInt eInt))) late_), .val ((eTup (eTup eInt)) moved_), .dead, .dead, .val (eInt k_), .val ((eTup (eTup eInt)) less_), .dead, .dead, .dead]) (ρa := fun (b19 : Unit) (q20 : Int) => [.dead, .src, .val (eInt q2), .val ((eP2 eInt (eTup (eP2 eInt eInt))) net_), .val (eInt p3.1), .val (eStr p3.2), .own ((eLst eInt) order_), .val ((eTup eInt) p4.1), .val ((eTup eInt) p4.2), .own ((eLst eInt) p7.1), .own ((eLst eInt) p7.2), .own ((eLst eInt) p10.1), .own ((eLst eInt) p10.2), .val (eInt told_), .val ((eTup (eTup eInt)) table_), .own ((eLst eInt) names_), .val ((eP2 eInt (eTup (eP2 eInt eInt))) late_), .val ((eTup (eTup eInt)) moved_), .dead, .dead, .val (eInt k_), .val ((eTup (eTup eInt)) less_), .val (eInt q20), .dead, .dead]) (b0 := ()) (evi_rg1 (evf_of (ev_var (e := eInt) (a := p3.1) rfl))) (.cons .same (.cons .same (.cons .same (.cons .same (.cons .same (.cons .same (.cons .same (.cons .same (.cons .same (.cons .same (.cons .same (.cons .same (.cons .same (.cons .same (.cons .same (.cons .same (.cons .same (.cons .same (.cons .same (.cons .same (.cons .same (.cons .same (.cons .same (.cons .same (.cons .same .nil))))))))))))))))))))))))) (fun (b19 : Unit) (q20 : Int) => (tg_n rfl)) (fun (b19 : Unit) (q20 : Int) => ?_)
        refine k_if (evt_of (ev_2 (op_ne0 (eq_lst eq_int) (by decide)) (evp_of (ev_lc (e1 := eInt) (ρa := fun (q21 : Int) => [.dead, .src, .val (eInt q2), .val ((eP2 eInt (eTup (eP2 eInt eInt))) net_), .val (eInt p3.1), .val (eStr p3.2), .own ((eLst eInt) order_), .val ((eTup eInt) p4.1), .val ((eTup eInt) p4.2), .own ((eLst eInt) p7.1), .own ((eLst eInt) p7.2), .own ((eLst eInt) p10.1), .own ((eLst eInt) p10.2), .val (eInt told_), .val ((eTup (eTup eInt)) table_), .own ((eLst eInt) names_), .val ((eP2 eInt (eTup (eP2 eInt eInt))) late_), .val ((eTup (eTup eInt)) moved_), .dead, .dead, .val (eInt k_), .val ((eTup (eTup eInt)) less_), .val (eInt q20), .dead, .val (eInt q21)]) rfl (evi_rg1 (evf_of (ev_var (e := eInt) (a := p3.1) rfl))) (fun q21 => (tg_n rfl)) (fun q21 => (evt_of (ev_2 (op_ni sq_p2 eq_int (by decide)) (evp_of (ev_2 op_subI (evp_of (ev_2 (op_ix sq_tup) (evp_of (ev_2 (op_ix sq_tup) (evp_val (e := (eTup (eTup eInt))) (a := table_) rfl) (evp_val (e := eInt) (a := q20) rfl))) (evp_val (e := eInt) (a := q21) rfl))) (evp_of (ev_2 (op_ix sq_tup) (evp_of (ev_2 (op_ix sq_tup) (evp_val (e := (eTup (eTup eInt))) (a := less_) rfl) (evp_val (e := eInt) (a := q20) rfl))) (evp_val (e := eInt) (a := q21) rfl))))) (evp_of (ev_p2 (evf_of (ev_c (e := eInt) (a := (0 : Int)) rfl)) (evf_of (ev_c (e := eInt) (a := (1 : Int)) rfl))))))) (fun q21 => (evf_of (ev_var (e := eInt) (a := q21) rfl))) (fun _ => rfl))) (evp_of (ev_lst (eva_nil (e := eInt)))))) ?_ ?_
        · exact k_ret (inj := fun r => (Out.rt r)) (ev_c (e := eBool) (a := false) rfl) rt_o
        exact k_nil (nx_o (.cons .same (.cons .same (.cons .same (.cons .same (.cons .same (.cons .same (.cons .same (.cons .same (.cons .same (.cons .same (.cons .same (.cons .same (.cons .same (.cons .same (.cons .same (.cons .same (.cons .same (.cons .same (.cons .same (.cons .same (.cons .same (.cons .same (.cons .dead (.cons .same (.cons .same .nil))))))))))))))))))))))))))
      refine k_if (evt_of (ev_2 (op_ne eq_str (by decide)) (evp_of (ev_1 op_repr (evp_val (e := (eP2 eInt (eTup (eP2 eInt eInt)))) (a := net_) rfl))) (evp_val (e := eStr) (a := p3.2) rfl))) ?_ ?_
      · exact k_ret (inj := fun r => (Out.rt r)) (ev_c (e := eBool) (a := false) rfl) rt_o
      exact k_nil (nx_o (.cons .same (.cons .same (.cons .dead (.cons .dead (.cons .dead (.cons .dead (.cons .dead (.cons .dead (.cons .dead (.cons .dead (.cons .dead (.cons .dead (.cons .dead (.cons .dead (.cons .dead (.cons .dead (.cons .dead (.cons .dead (.cons .same (.cons .same (.cons .dead (.cons .dead (.cons .same (.cons .same (.cons .same .nil))))))))))))))))))))))))))
    refine k_nilseq ?_
    refine k_if (evt_of (ev_2 (op_ne eq_str (by decide)) (evp_of (ev_1 op_repr (evp_val (e := (eP2 eInt (eTup (eP2 eInt eInt)))) (a := net_) rfl))) (evp_val (e := eStr) (a := p3.2) rfl))) ?_ ?_
    · exact k_ret (inj := fun r => (Out.rt r)) (ev_c (e := eBool) (a := false) rfl) rt_o
    exact k_nil (nx_o (.cons .same (.cons .same (.cons .dead (.cons .dead (.cons .dead (.cons .dead (.cons .dead (.cons .dead (.cons .dead (.cons .dead (.cons .dead (.cons .dead (.cons .dead (.cons .dead (.cons .dead (.cons .dead (.cons .dead (.cons .dead (.cons .same (.cons .same (.cons .same (.cons .same (.cons .same (.cons .same (.cons .same .nil))))))))))))))))))))))))))
  exact k_ret (inj := fun r => r) (ev_c (e := eBool) (a := true) rfl) rt_f
theorem law_good (good : Tri t_law fun r => r = true) : ∀ ns : List Int, ns.length ≤ 63 → ∃ s, K17.g_law [.scr ns] none = some (.v (.bool true), s) := fun ns hn =>
  law_ends (g := K17.g_law) (go := K17.g_law_open_cells) (n := 25) (rest := law_rest) (i := 1) rfl rfl (ρ := [.dead, .src, .dead, .dead, .dead, .dead, .dead, .dead, .dead, .dead, .dead, .dead, .dead, .dead, .dead, .dead, .dead, .dead, .dead, .dead, .dead, .dead, .dead, .dead, .dead]) (fun ns sl e => by
    subst e
    exact (hs_cons True.intro (hs_src (hs_cons True.intro (hs_cons True.intro (hs_cons True.intro (hs_cons True.intro (hs_cons True.intro (hs_cons True.intro (hs_cons True.intro (hs_cons True.intro (hs_cons True.intro (hs_cons True.intro (hs_cons True.intro (hs_cons True.intro (hs_cons True.intro (hs_cons True.intro (hs_cons True.intro (hs_cons True.intro (hs_cons True.intro (hs_cons True.intro (hs_cons True.intro (hs_cons True.intro (hs_cons True.intro (hs_cons True.intro (hs_cons True.intro hs_nil)))))))))))))))))))))))))) (fun _ => rfl) law_ev good ns hn
end T17
end
set_option linter.all false
set_option maxRecDepth 100000
set_option maxHeartbeats 1000000
noncomputable section
namespace T17
open PySem PySem.Spec PyProof.Rows L2 Pd Td PM K70
open Nt (NetOk tie cr cut_sum cut_perm cut_cons cut_app cr_is sum_more srtL_mem)
def cutP (E : List (Int × Int)) (p : Int → Bool) : Int := (E.map fun e => if p e.1 = p e.2 then 0 else 1).sum
theorem cutP_cons (e : Int × Int) (E : List (Int × Int)) (p : Int → Bool) : cutP (e :: E) p = (if p e.1 = p e.2 then 0 else 1) + cutP E p := by
  unfold cutP
  rw [List.map_cons, List.sum_cons]
theorem cutP_app (E F : List (Int × Int)) (p : Int → Bool) : cutP (E ++ F) p = cutP E p + cutP F p := by
  unfold cutP
  rw [List.map_append, List.sum_append]
theorem cutP_perm {E F : List (Int × Int)} (h : E.Perm F) (p : Int → Bool) : cutP E p = cutP F p := by
  induction h with
  | nil => rfl
  | cons x _ ih => rw [cutP_cons, cutP_cons, ih]
  | swap x y l =>
    simp only [cutP_cons]
    omega
  | trans _ _ a b => exact a.trans b
theorem cutP_nn (E : List (Int × Int)) (p : Int → Bool) : 0 ≤ cutP E p := by
  induction E with
  | nil => exact Int.le_refl 0
  | cons e E ih =>
    rw [cutP_cons]
    split <;> omega
theorem cutP_rep (k : Nat) (e : Int × Int) (p : Int → Bool) : cutP (List.replicate k e) p = if p e.1 = p e.2 then 0 else (k : Int) := by
  induction k with
  | zero => simp [cutP]
  | succ k ih =>
    rw [List.replicate_succ, cutP_cons, ih]
    split <;> omega
theorem cutP_le {E : List (Int × Int)} {p q : Int → Bool} (h : ∀ e ∈ E, q e.1 ≠ q e.2 → p e.1 ≠ p e.2) : cutP E q ≤ cutP E p := by
  induction E with
  | nil => exact Int.le_refl 0
  | cons e E ih =>
    rw [cutP_cons, cutP_cons]
    have := ih fun x hx => h x (List.mem_cons_of_mem _ hx)
    have h1 := h e List.mem_cons_self
    by_cases c : q e.1 = q e.2
    · rw [if_pos c]
      split <;> omega
    · rw [if_neg c, if_neg (h1 c)]
      omega
theorem cutP_congr {E : List (Int × Int)} {p q : Int → Bool} (h : ∀ e ∈ E, (q e.1 = q e.2 ↔ p e.1 = p e.2)) : cutP E q = cutP E p :=
  Int.le_antisymm (cutP_le fun e he c z => c ((h e he).mpr z)) (cutP_le fun e he c z => c ((h e he).mp z))
theorem cutP_one : ∀ E : List (Int × Int), cutP E (fun _ => true) = 0
  | [] => rfl
  | e :: E => by rw [cutP_cons, cutP_one E]; rfl
theorem cutP_len (E : List (Int × Int)) (p : Int → Bool) : cutP E p ≤ E.length := by
  induction E with
  | nil => exact Int.le_refl 0
  | cons e E ih =>
    rw [cutP_cons, List.length_cons]
    split <;> omega
theorem cutZ_P (E : List (Int × Int)) (l : List Int) : cutZ E l = cutP E fun x => decide (x ∈ l) := by
  rw [cut_sum]
  unfold cutP
  congr 1
  refine List.map_congr_left fun e _ => ?_
  rw [cr_is]
/-- h links hold a and b together -/
def Hd (E : List (Int × Int)) (a b h : Int) : Prop := (∃ p : Int → Bool, p a ≠ p b ∧ cutP E p = h) ∧ ∀ p : Int → Bool, p a ≠ p b → h ≤ cutP E p
theorem Hd.uniq {E : List (Int × Int)} {a b h k : Int} (x : Hd E a b h) (y : Hd E a b k) : h = k := by
  obtain ⟨⟨p, p1, p2⟩, p3⟩ := x
  obtain ⟨⟨q, q1, q2⟩, q3⟩ := y
  have := p3 q q1
  have := q3 p p1
  omega
theorem Hd.symm {E : List (Int × Int)} {a b h : Int} (x : Hd E a b h) : Hd E b a h :=
  ⟨x.1.imp fun p hp => ⟨fun z => hp.1 z.symm, hp.2⟩, fun p hp => x.2 p fun z => hp z.symm⟩
theorem Hd.three {E : List (Int × Int)} {a b c x y z : Int} (h1 : Hd E a b x) (h2 : Hd E b c y) (h3 : Hd E a c z) : min x y ≤ z := by
  obtain ⟨⟨p, p1, p2⟩, _⟩ := h3
  by_cases q : p a = p b
  · have := h2.2 p fun w => p1 (q.trans w)
    omega
  · have := h1.2 p q
    omega
theorem Hd.nn {E : List (Int × Int)} {a b h : Int} (x : Hd E a b h) : 0 ≤ h := by
  obtain ⟨⟨p, _, p2⟩, _⟩ := x
  rw [← p2]
  exact cutP_nn E p
theorem Hd.len {E : List (Int × Int)} {a b h : Int} (x : Hd E a b h) : h ≤ E.length := by
  obtain ⟨⟨p, _, p2⟩, _⟩ := x
  rw [← p2]
  exact cutP_len E p
theorem Hd.perm {E F : List (Int × Int)} {a b h : Int} (e : E.Perm F) (x : Hd E a b h) : Hd F a b h :=
  ⟨x.1.imp fun p hp => ⟨hp.1, (cutP_perm e p).symm.trans hp.2⟩, fun p hp => by rw [← cutP_perm e p]; exact x.2 p hp⟩
/-- a link taken away -/
theorem Hd.less {E F : List (Int × Int)} {a b h k : Int} {e : Int × Int} (pe : E.Perm (e :: F)) (x : Hd E a b h) (y : Hd F a b k) : h - k = 0 ∨ h - k = 1 := by
  obtain ⟨⟨p, p1, p2⟩, p3⟩ := x
  obtain ⟨⟨q, q1, q2⟩, q3⟩ := y
  have r1 := p3 q q1
  have r2 := q3 p p1
  rw [cutP_perm pe, cutP_cons] at r1 p2
  have : (if q e.1 = q e.2 then (0 : Int) else 1) ≤ 1 := by split <;> omega
  have : 0 ≤ (if p e.1 = p e.2 then (0 : Int) else 1) := by split <;> omega
  omega
/-- stations called by other names -/
theorem Hd.turn {E F : List (Int × Int)} {f g : Int → Int} {a b h : Int} (hg : ∀ e ∈ E, g (f e.1) = e.1 ∧ g (f e.2) = e.2) (ha : g (f a) = a) (hb : g (f b) = b)
    (cF : ∀ q : Int → Bool, cutP F q = cutP E fun x => q (f x)) (x : Hd E a b h) : Hd F (f a) (f b) h := by
  obtain ⟨⟨p, p1, p2⟩, p3⟩ := x
  refine ⟨⟨fun y => p (g y), by dsimp only; rw [ha, hb]; exact p1, ?_⟩, fun q hq => ?_⟩
  · rw [cF, ← p2]
    exact cutP_congr fun e he => by rw [(hg e he).1, (hg e he).2]
  · rw [cF]
    exact p3 (fun x => q (f x)) hq
theorem cut_both {E : List (Int × Int)} (p q : Int → Bool) : cutP E (fun x => p x && q x) + cutP E (fun x => p x || q x) ≤ cutP E p + cutP E q := by
  induction E with
  | nil => exact Int.le_refl 0
  | cons e E ih =>
    simp only [cutP_cons]
    have : (if (p e.1 && q e.1) = (p e.2 && q e.2) then (0 : Int) else 1) + (if (p e.1 || q e.1) = (p e.2 || q e.2) then (0 : Int) else 1) ≤ (if p e.1 = p e.2 then (0 : Int) else 1) + (if q e.1 = q e.2 then (0 : Int) else 1) := by
      cases p e.1 <;> cases p e.2 <;> cases q e.1 <;> cases q e.2 <;> decide
    omega
theorem cut_apart {E : List (Int × Int)} (p q : Int → Bool) : cutP E (fun x => p x && !q x) + cutP E (fun x => q x && !p x) ≤ cutP E p + cutP E q := by
  induction E with
  | nil => exact Int.le_refl 0
  | cons e E ih =>
    simp only [cutP_cons]
    have : (if (p e.1 && !q e.1) = (p e.2 && !q e.2) then (0 : Int) else 1) + (if (q e.1 && !p e.1) = (q e.2 && !p e.2) then (0 : Int) else 1) ≤ (if p e.1 = p e.2 then (0 : Int) else 1) + (if q e.1 = q e.2 then (0 : Int) else 1) := by
      cases p e.1 <;> cases p e.2 <;> cases q e.1 <;> cases q e.2 <;> decide
    omega
theorem cut_not {E : List (Int × Int)} (p : Int → Bool) : cutP E (fun x => !p x) = cutP E p := cutP_congr fun e _ => by
  cases p e.1 <;> cases p e.2 <;> decide
def jn (nm : Int → Int) (a b : Int) : Int → Int := fun x => if nm x = nm b then nm a else nm x
section
variable {n : Int} {t : Int → Int → Int}
def krs (t : Int → Int → Int) (st : List (Int × Int) × (Int → Int)) (q : Int × Int × Int) : List (Int × Int) × (Int → Int) :=
  if st.2 q.2.1 = st.2 q.2.2 then st else (st.1 ++ List.replicate (t q.2.1 q.2.2).toNat (q.2.1, q.2.2), jn st.2 q.2.1 q.2.2)
def In (n x : Int) : Prop := 0 ≤ x ∧ x < n
structure Kr (n : Int) (t : Int → Int → Int) (rem : List (Int × Int × Int)) (L : List (Int × Int)) (nm : Int → Int) : Prop where
  i2 : ∀ x y, In n x → In n y → x ≠ y → nm x = nm y → Hd L x y (t x y)
  i3 : ∀ e ∈ L, nm e.1 = nm e.2
  i4 : ∀ x y, In n x → In n y → x < y → nm x ≠ nm y → (0 - t x y, x, y) ∈ rem
  i5 : ∀ x y, In n x → In n y → x ≠ y → nm x = nm y → ∀ q ∈ rem, 0 - q.1 ≤ t x y
theorem kr_step (hs : ∀ x y, In n x → In n y → x ≠ y → t x y = t y x) (h0 : ∀ x y, In n x → In n y → x ≠ y → 0 ≤ t x y) (h3 : ∀ x y z, In n x → In n y → In n z → x ≠ y → y ≠ z → x ≠ z → min (t x y) (t y z) ≤ t x z)
    {q : Int × Int × Int} {rem : List (Int × Int × Int)} {L : List (Int × Int)} {nm : Int → Int} (K : Kr n t (q :: rem) L nm) (ord : ∀ r ∈ rem, q.1 ≤ r.1) (hq : q.1 = 0 - t q.2.1 q.2.2 ∧ In n q.2.1 ∧ In n q.2.2 ∧ q.2.1 < q.2.2) :
    Kr n t rem (krs t (L, nm) q).1 (krs t (L, nm) q).2 := by
  obtain ⟨i2, i3, i4, i5⟩ := K
  obtain ⟨w0, a, b⟩ := q
  obtain ⟨q1, qa, qb, qlt⟩ := hq
  dsimp only at q1 qa qb qlt ord
  unfold krs
  dsimp only
  by_cases c : nm a = nm b
  · rw [if_pos c]
    refine ⟨i2, i3, fun x y hx hy lt ne => ?_, fun x y hx hy ne e r hr => i5 x y hx hy ne e r (List.mem_cons_of_mem _ hr)⟩
    rcases List.mem_cons.mp (i4 x y hx hy lt ne) with z | z
    · cases z
      exact absurd c ne
    · exact z
  · rw [if_neg c]
    have ab : a ≠ b := by omega
    have w : 0 ≤ t a b := h0 a b qa qb ab
    have wn : ((t a b).toNat : Int) = t a b := Int.toNat_of_nonneg w
    -- cut of the new net
    have cn : ∀ p : Int → Bool, cutP (L ++ List.replicate (t a b).toNat (a, b)) p = cutP L p + if p a = p b then 0 else t a b := fun p => by
      rw [cutP_app, cutP_rep, wn]
    -- what is within a class is at least as much as what is now laid
    have big : ∀ x y, In n x → In n y → x ≠ y → nm x = nm y → t a b ≤ t x y := fun x y hx hy ne e => by
      have := i5 x y hx hy ne e _ List.mem_cons_self
      dsimp only at this
      omega
    have less : ∀ x y, In n x → In n y → nm x ≠ nm y → t x y ≤ t a b := fun x y hx hy ne => by
      have xy : x ≠ y := fun z => ne (by rw [z])
      have go : ∀ x y, In n x → In n y → x < y → nm x ≠ nm y → t x y ≤ t a b := fun x y hx hy lt ne => by
        rcases List.mem_cons.mp (i4 x y hx hy lt ne) with z | z
        · cases z
          exact Int.le_refl _
        · have := ord _ z
          dsimp only at this
          omega
      by_cases l : x < y
      · exact go x y hx hy l ne
      · rw [hs x y hx hy xy]
        exact go y x hy hx (by omega) fun z => ne z.symm
    -- one in a's class, one in b's
    have across : ∀ x y, In n x → In n y → nm x = nm a → nm y = nm b → Hd (L ++ List.replicate (t a b).toNat (a, b)) x y (t x y) := fun x y hx hy ex ey => by
      have xy : nm x ≠ nm y := by rw [ex, ey]; exact c
      have xy' : x ≠ y := fun z => xy (by rw [z])
      have up := less x y hx hy xy
      have lo : t a b ≤ t x y := by
        -- x .. a .. b .. y
        have s1 : t a b ≤ t x b := by
          by_cases z : x = a
          · rw [z]; exact Int.le_refl _
          · have xb : x ≠ b := fun z => c (by rw [← ex, z])
            have := h3 x a b hx qa qb z ab xb
            have := big x a hx qa z ex
            omega
        by_cases z : y = b
        · rw [z]; exact s1
        · have xb : x ≠ b := fun z => c (by rw [← ex, z])
          have := h3 x b y hx qb hy xb (fun z' => z z'.symm) xy'
          have := big b y qb hy (fun z' => z z'.symm) ey.symm
          omega
      have tt : t x y = t a b := Int.le_antisymm up lo
      refine ⟨⟨fun z => decide (nm z = nm a), ?_, ?_⟩, fun p hp => ?_⟩
      · dsimp only
        rw [decide_eq_true ex, decide_eq_false (by rw [ey]; exact fun z => c z.symm)]
        decide
      · rw [cn, if_neg, tt]
        · have : cutP L (fun z => decide (nm z = nm a)) ≤ cutP L fun _ => true := cutP_le fun e he z => absurd (by rw [i3 e he]) z
          have z0 : cutP L (fun _ => true) = 0 := cutP_one L
          have := cutP_nn L fun z => decide (nm z = nm a)
          omega
        · rw [decide_eq_true rfl, decide_eq_false (fun z => c z.symm)]
          decide
      · rw [cn]
        have n0 := cutP_nn L p
        by_cases z : p a = p b
        · rw [if_pos z]
          by_cases z1 : p x = p a
          · have z2 : p b ≠ p y := fun z2 => hp (z1.trans (z.trans z2))
            have by' : b ≠ y := fun w => z2 (by rw [w])
            have := (i2 b y qb hy by' ey.symm).2 p z2
            have := big b y qb hy by' ey.symm
            omega
          · have xa : x ≠ a := fun w => z1 (by rw [w])
            have := (i2 x a hx qa xa ex).2 p z1
            have := big x a hx qa xa ex
            omega
        · rw [if_neg z]
          omega
    -- both in one class of old
    have within : ∀ x y, In n x → In n y → x ≠ y → nm x = nm y → Hd (L ++ List.replicate (t a b).toNat (a, b)) x y (t x y) := fun x y hx hy ne e => by
      obtain ⟨⟨p, p1, p2⟩, p3⟩ := i2 x y hx hy ne e
      refine ⟨⟨fun z => if nm z = nm x then p z else if nm x = nm a then p a else p b, ?_, ?_⟩, fun q hq => ?_⟩
      · dsimp only
        rw [if_pos rfl, if_pos e.symm]
        exact p1
      · have same : (fun z => if nm z = nm x then p z else if nm x = nm a then p a else p b) a = (fun z => if nm z = nm x then p z else if nm x = nm a then p a else p b) b := by
          dsimp only
          by_cases xa : nm x = nm a
          · rw [if_pos xa.symm, if_pos xa, if_neg (fun z => c (xa.symm.trans z.symm))]
          · rw [if_neg (fun z => xa z.symm), if_neg xa]
            by_cases xb : nm b = nm x
            · rw [if_pos xb]
            · rw [if_neg xb]
        rw [cn, if_pos same]
        have le : cutP L (fun z => if nm z = nm x then p z else if nm x = nm a then p a else p b) ≤ cutP L p := cutP_le fun e he z z' => z (by
          rw [i3 e he]
          by_cases k : nm e.2 = nm x
          · rw [if_pos k, if_pos k, z']
          · rw [if_neg k, if_neg k])
        have ge := p3 (fun z => if nm z = nm x then p z else if nm x = nm a then p a else p b) (by
          rw [if_pos rfl, if_pos e.symm]
          exact p1)
        omega
      · rw [cn]
        have := p3 q hq
        split <;> omega
    have jx : ∀ x y, jn nm a b x = jn nm a b y → nm x = nm y ∨ (nm x = nm a ∧ nm y = nm b) ∨ (nm x = nm b ∧ nm y = nm a) := fun x y e => by
      unfold jn at e
      by_cases z1 : nm x = nm b <;> by_cases z2 : nm y = nm b
      · exact .inl (z1.trans z2.symm)
      · rw [if_pos z1, if_neg z2] at e
        exact .inr (.inr ⟨z1, e.symm⟩)
      · rw [if_neg z1, if_pos z2] at e
        exact .inr (.inl ⟨e, z2⟩)
      · rw [if_neg z1, if_neg z2] at e
        exact .inl e
    show Kr n t rem (L ++ List.replicate (t a b).toNat (a, b)) (jn nm a b)
    refine ⟨fun x y hx hy ne e => ?_, fun e he => ?_, fun x y hx hy lt ne => ?_, fun x y hx hy ne e r hr => ?_⟩
    · rcases jx x y e with z | ⟨z1, z2⟩ | ⟨z1, z2⟩
      · exact within x y hx hy ne z
      · exact across x y hx hy z1 z2
      · rw [hs x y hx hy ne]
        exact (across y x hy hx z2 z1).symm
    · rcases List.mem_append.mp he with z | z
      · unfold jn
        rw [i3 e z]
      · rw [List.eq_of_mem_replicate z]
        unfold jn
        dsimp only
        rw [if_neg c, if_pos rfl]
    · have ne' : nm x ≠ nm y := fun z => ne (by unfold jn; rw [z])
      rcases List.mem_cons.mp (i4 x y hx hy lt ne') with z | z
      · cases z
        exfalso
        refine ne ?_
        unfold jn
        rw [if_neg c, if_pos rfl]
      · exact z
    · have rw' : 0 - r.1 ≤ t a b := by
        have := ord r hr
        omega
      rcases jx x y e with z | ⟨z1, z2⟩ | ⟨z1, z2⟩
      · exact i5 x y hx hy ne z r (List.mem_cons_of_mem _ hr)
      · have lo := (across x y hx hy z1 z2).uniq (across x y hx hy z1 z2)
        have s : t a b ≤ t x y := by
          have s1 : t a b ≤ t x b := by
            by_cases z : x = a
            · rw [z]; exact Int.le_refl _
            · have xb : x ≠ b := fun z => c (by rw [← z1, z])
              have := h3 x a b hx qa qb z ab xb
              have := big x a hx qa z z1
              omega
          by_cases z : y = b
          · rw [z]; exact s1
          · have xb : x ≠ b := fun z => c (by rw [← z1, z])
            have := h3 x b y hx qb hy xb (fun z' => z z'.symm) ne
            have := big b y qb hy (fun z' => z z'.symm) z2.symm
            omega
        omega
      · have s : t a b ≤ t y x := by
          have s1 : t a b ≤ t y b := by
            by_cases z : y = a
            · rw [z]; exact Int.le_refl _
            · have xb : y ≠ b := fun z => c (by rw [← z2, z])
              have := h3 y a b hy qa qb z ab xb
              have := big y a hy qa z z2
              omega
          by_cases z : x = b
          · rw [z]; exact s1
          · have xb : y ≠ b := fun z => c (by rw [← z2, z])
            have := h3 y b x hy qb hx xb (fun z' => z z'.symm) (fun z => ne z.symm)
            have := big b x qb hx (fun z' => z z'.symm) z1.symm
            omega
        rw [hs x y hx hy ne]
        omega
theorem kr_all (hs : ∀ x y, In n x → In n y → x ≠ y → t x y = t y x) (h0 : ∀ x y, In n x → In n y → x ≠ y → 0 ≤ t x y) (h3 : ∀ x y z, In n x → In n y → In n z → x ≠ y → y ≠ z → x ≠ z → min (t x y) (t y z) ≤ t x z) :
    ∀ (rem : List (Int × Int × Int)) (L : List (Int × Int)) (nm : Int → Int), Kr n t rem L nm → rem.Pairwise (fun q r => q.1 ≤ r.1) → (∀ q ∈ rem, q.1 = 0 - t q.2.1 q.2.2 ∧ In n q.2.1 ∧ In n q.2.2 ∧ q.2.1 < q.2.2) →
      ∀ x y, In n x → In n y → x ≠ y → Hd (rem.foldl (krs t) (L, nm)).1 x y (t x y)
  | [], L, nm, K, _, _, x, y, hx, hy, ne => by
    refine K.i2 x y hx hy ne ?_
    by_cases c : nm x = nm y
    · exact c
    · rcases Int.lt_trichotomy x y with z | z | z
      · exact absurd (K.i4 x y hx hy z c) List.not_mem_nil
      · exact absurd z ne
      · exact absurd (K.i4 y x hy hx z fun w => c w.symm) List.not_mem_nil
  | q :: rem, L, nm, K, ord, hq, x, y, hx, hy, ne => by
    rw [List.foldl_cons]
    obtain ⟨o1, o2⟩ := List.pairwise_cons.mp ord
    have K' := kr_step hs h0 h3 K o1 (hq q List.mem_cons_self)
    exact kr_all hs h0 h3 rem _ _ K' o2 (fun r hr => hq r (List.mem_cons_of_mem _ hr)) x y hx hy ne
theorem kr_start (rem : List (Int × Int × Int)) (h : ∀ x y, In n x → In n y → x < y → (0 - t x y, x, y) ∈ rem) : Kr n t rem [] id :=
  ⟨fun x y _ _ ne e => absurd e ne, fun e he => by simp at he, fun x y hx hy lt _ => h x y hx hy lt, fun x y _ _ ne e => absurd e ne⟩
/-- links of the net told -/
theorem kr_net {P : Int × Int → Prop} {m : Nat} (ht : ∀ x y, In n x → In n y → x ≠ y → t x y ≤ m) : ∀ (rem : List (Int × Int × Int)) (st : List (Int × Int) × (Int → Int)), (∀ q ∈ rem, In n q.2.1 ∧ In n q.2.2 ∧ q.2.1 < q.2.2) →
    (∀ e ∈ (rem.foldl (krs t) st).1, e ∈ st.1 ∨ In n e.1 ∧ In n e.2 ∧ e.1 < e.2) ∧ (rem.foldl (krs t) st).1.length ≤ st.1.length + rem.length * m
  | [], st, _ => ⟨fun e he => .inl he, by simp⟩
  | q :: rem, st, hq => by
    rw [List.foldl_cons]
    obtain ⟨a, b⟩ := kr_net (P := P) ht rem (krs t st q) fun r hr => hq r (List.mem_cons_of_mem _ hr)
    obtain ⟨q1, q2, q3⟩ := hq q List.mem_cons_self
    have tm := ht _ _ q1 q2 (by omega)
    rw [List.length_cons, Nat.add_mul]
    unfold krs at a b ⊢
    by_cases c : st.2 q.2.1 = st.2 q.2.2
    · rw [if_pos c] at a b ⊢
      exact ⟨a, by omega⟩
    · rw [if_neg c] at a b ⊢
      dsimp only at a b ⊢
      rw [List.length_append, List.length_replicate] at b
      refine ⟨fun e he => ?_, by omega⟩
      rcases a e he with z | z
      · rcases List.mem_append.mp z with z | z
        · exact .inl z
        · rw [List.eq_of_mem_replicate z]
          exact .inr ⟨q1, q2, q3⟩
      · exact .inr z
end
end T17
end
set_option linter.all false
set_option maxRecDepth 100000
set_option maxHeartbeats 1000000
noncomputable section
namespace T17
open PySem PySem.Spec PyProof.Rows L2 Pd Td PM K70
open Nt (NetOk tie cr cut_sum cut_perm cut_cons cut_app cr_is sum_more srtL_mem)
theorem srt_mem {L : List Int} {x : Int} : x ∈ srtI L ↔ x ∈ L := (List.mergeSort_perm _ _ : (srtI L).Perm L).mem_iff
def stepC (a b : Int) (L : List (List Int)) (c : Int) : List (List Int) := if c ∈ [a, b] then L else stepL L c
theorem stepC_fold (a b : Int) : ∀ (S : List Int) (L : List (List Int)), S.foldl (stepC a b) L = (S.filter fun c => !decide (c ∈ [a, b])).foldl stepL L
  | [], L => rfl
  | c :: S, L => by
    rw [List.foldl_cons, stepC_fold a b S]
    by_cases h : c ∈ [a, b]
    · rw [List.filter_cons_of_neg (by rw [decide_eq_true h]; decide)]
      unfold stepC
      rw [if_pos h]
    · rw [List.filter_cons_of_pos (by simpa using h), List.foldl_cons]
      unfold stepC
      rw [if_neg h]
def partG (n a b : Int) : List (List Int) := ((rngL n).filter fun c => !decide (c ∈ [a, b])).foldl stepL [[a]]
def partL (n a b : Int) : List (List Int) := (partG n a b).map srtI
section
variable {n : Int} {E : List (Int × Int)} (h1 : 0 ≤ n) (h2 : n ≤ 7) (hE : E.length ≤ 1000)
include hE in
theorem cut_eq (l : List Int) : t_cut_number (n, E) l = some (cutZ E l) := by
  unfold t_cut_number
  simp only [o_ret, o_bnd, o_out, o_and, o_or, o_bndS, o_bndB, Td.addI, Td.subI, Td.ltI, Td.gtI, Td.leI', Td.geI, Td.negI, Td.absI, Td.intB, Td.min2, Td.max2, Td.eqV, Td.neV, Td.inV, Td.niV]
  rw [lcM_pp (by omega)]
  simp only [o_ret, o_bnd, o_out, o_and, o_or, o_bndS, o_bndB, Td.addI, Td.subI, Td.ltI, Td.gtI, Td.leI', Td.geI, Td.negI, Td.absI, Td.intB, Td.min2, Td.max2, Td.eqV, Td.neV, Td.inV, Td.niV, List.length_map]
  unfold cutZ cutC
  rw [List.countP_eq_length_filter]
  congr 4
theorem part_few {n : Int} (h2 : n ≤ 7) (a b : Int) : (partG n a b).length ≤ 128 := by
  unfold partG
  rw [foldl_step_len, List.length_singleton, Nat.one_mul]
  have : ((rngL n).filter fun c => !decide (c ∈ [a, b])).length ≤ 7 := Nat.le_trans (List.length_filter_le _ _) (by rw [rngL_len]; omega)
  exact Nat.pow_le_pow_right (n := 2) (i := _) (j := 7) (by omega) this
include h1 h2 in
theorem part_eq (a b : Int) : t_lots_parting (n, E) a b = some (partL n a b) := by
  unfold t_lots_parting
  simp only [o_ret, o_bnd, o_out, o_and, o_or, o_bndS, o_bndB, Td.addI, Td.subI, Td.ltI, Td.gtI, Td.leI', Td.geI, Td.negI, Td.absI, Td.intB, Td.min2, Td.max2, Td.eqV, Td.neV, Td.inV, Td.niV]
  rw [lenOk_of (α := Int) (xs := [a]) (Nat.le_of_ble_eq_true rfl), o_bnd, lenOk_of (α := List Int) (xs := [[a]]) (Nat.le_of_ble_eq_true rfl), o_bnd, rngO_0 (n := n) (by omega) (by omega), o_bnd]
  rw [foldM_eq (f := stepC a b) (fun i L => L.length ≤ 2 ^ i ∧ ∀ l ∈ L, l.length ≤ i + 1) ⟨Nat.le_refl _, fun l hl => by
    rw [List.mem_singleton.mp hl]
    exact Nat.le_refl _⟩ ?_]
  · rw [o_bnd, stepC_fold, lcM_f (f := fun l => sortW ltZ l) (by have := part_few h2 a b; unfold partG at this; omega)]
    unfold partL partG
    congr 1
    exact List.map_congr_left fun l _ => sortW_int l
  · intro i c L hc ⟨q1, q2⟩
    have hi := (List.getElem?_eq_some_iff.mp hc).1
    rw [rngL_len] at hi
    have small : 2 ^ i ≤ 2 ^ 7 := Nat.pow_le_pow_right (by omega) (by omega)
    unfold stepC
    by_cases h : c ∈ [a, b]
    · rw [if_pos h, show (!decide (c ∈ [a, b])) = false by rw [decide_eq_true h]; rfl, cnd_f]
      exact ⟨rfl, by rw [Nat.pow_succ]; omega, fun l hl => by have := q2 l hl; omega⟩
    · rw [if_neg h, show (!decide (c ∈ [a, b])) = true by rw [decide_eq_false h]; rfl, cnd_t]
      refine ⟨lots_turn L c (by omega) fun l hl => by have := q2 l hl; omega, by rw [stepL_len, Nat.pow_succ]; omega, fun l hl => ?_⟩
      rcases stepL_mem hl with z | ⟨m, z1, z2⟩
      · have := q2 l z
        omega
      · rw [z2, List.length_append, List.length_singleton]
        have := q2 m z1
        omega
def holdZ (n : Int) (E : List (Int × Int)) (a b : Int) : Int := leastI ((partL n a b).map (cutZ E))
theorem part_ne (n a b : Int) : partL n a b ≠ [] := by
  unfold partL partG
  intro h
  have := fold_in ((rngL n).filter fun c => !decide (c ∈ [a, b])) [[a]] [a] (fun _ => true) (List.mem_singleton.mpr rfl)
  rw [List.map_eq_nil_iff] at h
  rw [h] at this
  cases this
include h1 h2 hE in
theorem hold_eq (a b : Int) : t_hold (n, E) a b = some (holdZ n E a b) := by
  unfold t_hold
  simp only [o_ret, o_bnd, o_out, o_and, o_or, o_bndS, o_bndB, Td.addI, Td.subI, Td.ltI, Td.gtI, Td.leI', Td.geI, Td.negI, Td.absI, Td.intB, Td.min2, Td.max2, Td.eqV, Td.neV, Td.inV, Td.niV, part_eq h1 h2, cut_eq hE]
  rw [lcM_f (by unfold partL; rw [List.length_map]; have := part_few h2 a b; omega), o_bnd, minW_int]
  · rfl
  · intro h
    exact part_ne n a b (List.map_eq_nil_iff.mp h)
theorem cutZ_in {n : Int} {E : List (Int × Int)} (ok : NetOk n E) {l : List Int} {p : Int → Bool} (h : ∀ x, In n x → (x ∈ l ↔ p x = true)) : cutZ E l = cutP E p := by
  rw [cutZ_P]
  refine cutP_congr fun e he => ?_
  obtain ⟨a, b, c⟩ := ok e he
  have x1 : decide (e.1 ∈ l) = p e.1 := by
    rw [Bool.eq_iff_iff, decide_eq_true_iff]
    exact h e.1 ⟨a, by omega⟩
  have x2 : decide (e.2 ∈ l) = p e.2 := by
    rw [Bool.eq_iff_iff, decide_eq_true_iff]
    exact h e.2 ⟨by omega, c⟩
  rw [x1, x2]
theorem hold_hd {n : Int} {E : List (Int × Int)} (ok : NetOk n E) {a b : Int} (ha : In n a) (hb : In n b) (ne : a ≠ b) : Hd E a b (holdZ n E a b) := by
  unfold holdZ
  constructor
  · obtain ⟨l, hl, e⟩ := List.mem_map.mp (leastI_mem (l := (partL n a b).map (cutZ E)) fun h => part_ne n a b (List.map_eq_nil_iff.mp h))
    rw [← e]
    unfold partL at hl
    obtain ⟨m, hm, rfl⟩ := List.mem_map.mp hl
    obtain ⟨k, hk, p, rfl⟩ := fold_out _ _ m (List.filter_sublist.nodup (rngL_nodup n)) hm
    rw [List.mem_singleton.mp hk]
    refine ⟨fun x => decide (x ∈ srtI ([a] ++ ((rngL n).filter fun c => !decide (c ∈ [a, b])).filter p)), ?_, (cutZ_P E _).symm⟩
    dsimp only
    rw [decide_eq_true (srt_mem.mpr (List.mem_append_left _ (List.mem_singleton.mpr rfl))), decide_eq_false]
    · decide
    · intro z
      rcases List.mem_append.mp (srt_mem.mp z) with w | w
      · exact ne (List.mem_singleton.mp w).symm
      · have := (List.mem_filter.mp (List.mem_filter.mp w).1).2
        simp at this
  · intro p hp
    -- one side of it holds a
    have go : ∀ p : Int → Bool, p a = true → p b = false → leastI ((partL n a b).map (cutZ E)) ≤ cutP E p := fun p pa pb => by
      rw [← cutZ_in ok (l := srtI ([a] ++ ((rngL n).filter fun c => !decide (c ∈ [a, b])).filter p)) (p := p) fun x hx => ?_]
      · refine leastI_le (List.mem_map.mpr ⟨_, ?_, rfl⟩)
        unfold partL
        exact List.mem_map.mpr ⟨_, fold_in _ _ [a] p (List.mem_singleton.mpr rfl), rfl⟩
      · rw [srt_mem, List.mem_append, List.mem_singleton]
        constructor
        · rintro (z | z)
          · rw [z]; exact pa
          · exact (List.mem_filter.mp z).2
        · intro z
          by_cases xa : x = a
          · exact .inl xa
          · have xb : x ≠ b := fun w => by rw [w, pb] at z; cases z
            refine .inr (List.mem_filter.mpr ⟨List.mem_filter.mpr ⟨rngL_mem.mpr hx, ?_⟩, z⟩)
            simp [xa, xb]
    cases pa : p a with
    | true =>
      exact go p pa (by cases pb : p b with
        | true => exact absurd (pa.trans pb.symm) hp
        | false => rfl)
    | false =>
      rw [← cut_not]
      exact go (fun x => !p x) (by simp [pa]) (by
        cases pb : p b with
        | true => rfl
        | false => exact absurd (pa.trans pb.symm) hp)
def tab (n : Int) (t : Int → Int → Int) : List (List Int) := (rngL n).map fun a => (rngL n).map (t a)
def hT (n : Int) (E : List (Int × Int)) (a b : Int) : Int := if a = b then 0 else holdZ n E a b
theorem tab_len {n : Int} (h1 : 0 ≤ n) (t : Int → Int → Int) : ((tab n t).length : Int) = n := by
  unfold tab
  rw [List.length_map, rngL_len]
  omega
theorem tab_at {n : Int} (t : Int → Int → Int) {a : Int} (ha : In n a) : at_ (tab n t) a = some ((rngL n).map (t a)) := at_tab _ ha.1 ha.2
theorem tab_at2 {n : Int} (t : Int → Int → Int) {a b : Int} (hb : In n b) : at_ ((rngL n).map (t a)) b = some (t a b) := at_tab _ hb.1 hb.2
include h1 h2 hE in
theorem table_eq : t_hold_table (n, E) = some (tab n (hT n E)) := by
  unfold t_hold_table
  simp only [o_ret, o_bnd, o_out, o_and, o_or, o_bndS, o_bndB, Td.addI, Td.subI, Td.ltI, Td.gtI, Td.leI', Td.geI, Td.negI, Td.absI, Td.intB, Td.min2, Td.max2, Td.eqV, Td.neV, Td.inV, Td.niV, hold_eq h1 h2 hE]
  rw [rngO_0 (n := n) (by omega) (by omega)]
  simp only [o_ret, o_bnd, o_out, o_and, o_or, o_bndS, o_bndB, Td.addI, Td.subI, Td.ltI, Td.gtI, Td.leI', Td.geI, Td.negI, Td.absI, Td.intB, Td.min2, Td.max2, Td.eqV, Td.neV, Td.inV, Td.niV]
  rw [lcM_all (f := fun a => (rngL n).map (hT n E a)) (by rw [rngL_len]; omega) fun a ha => ?_]
  · rfl
  · refine lcM_all (by rw [rngL_len]; omega) fun b hb => ?_
    unfold hT
    by_cases c : a = b
    · rw [if_pos c, decide_eq_true c]
      rfl
    · rw [if_neg c, decide_eq_false c]
      rfl
theorem tab_same {n : Int} {t u : Int → Int → Int} (h : ∀ a b, In n a → In n b → t a b = u a b) : tab n t = tab n u := by
  unfold tab
  refine List.map_congr_left fun a ha => List.map_congr_left fun b hb => h a b (rngL_mem.mp ha) (rngL_mem.mp hb)
theorem len_set (a b c : Int) : ∃ k : Int, lenSetO [a, b, c] = some k ∧ (k = 3 → a ≠ b ∧ b ≠ c ∧ a ≠ c) := by
  refine ⟨_, if_pos (show ([a, b, c] : List Int).length < 4000 from Nat.le_of_ble_eq_true rfl), ?_⟩
  show (((Pd.stepI (Pd.stepI (Pd.stepI [] a) b) c).length : Nat) : Int) = 3 → _
  have e0 : Pd.stepI [] a = [a] := if_neg List.not_mem_nil
  rw [e0]
  by_cases x : b = a
  · have e1 : Pd.stepI [a] b = [a] := if_pos (List.mem_singleton.mpr x)
    rw [e1]
    intro h
    exfalso
    by_cases y : c = a
    · rw [show Pd.stepI [a] c = [a] from if_pos (List.mem_singleton.mpr y)] at h
      exact absurd h (by simp)
    · rw [show Pd.stepI [a] c = [a] ++ [c] from if_neg (by rwa [List.mem_singleton])] at h
      exact absurd h (by simp)
  · have e1 : Pd.stepI [a] b = [a] ++ [b] := if_neg (by rwa [List.mem_singleton])
    rw [e1]
    by_cases y : c ∈ [a] ++ [b]
    · rw [show Pd.stepI ([a] ++ [b]) c = [a] ++ [b] from if_pos y]
      intro h
      exact absurd h (by simp)
    · intro _
      simp only [List.mem_append, List.mem_singleton, not_or] at y
      exact ⟨fun z => x z.symm, fun z => y.2 z.symm, fun z => y.1 z.symm⟩
theorem foldO_nx {α γ : Type} {cb : Unit → α → Option (Out Unit γ)} {xs : List α} (h : ∀ x ∈ xs, cb () x = some (.nx ())) : foldO cb xs () = some (.nx ()) := by
  induction xs with
  | nil => rfl
  | cons x xs ih =>
    show (cb () x).bind _ = _
    rw [h x List.mem_cons_self]
    exact ih fun y hy => h y (List.mem_cons_of_mem _ hy)
include h1 h2 in
theorem bad_eq {t : Int → Int → Int} (h3 : ∀ x y z, In n x → In n y → In n z → x ≠ y → y ≠ z → x ≠ z → min (t x y) (t y z) ≤ t x z) : t_bad_three (tab n t) = some none := by
  unfold t_bad_three
  simp only [o_ret, o_bnd, o_out, o_and, o_or, o_bndS, o_bndB, Td.addI, Td.subI, Td.ltI, Td.gtI, Td.leI', Td.geI, Td.negI, Td.absI, Td.intB, Td.min2, Td.max2, Td.eqV, Td.neV, Td.inV, Td.niV]
  rw [tab_len h1 t, rngO_0 (n := n) (by omega) (by omega)]
  simp only [o_ret, o_bnd, o_out, o_and, o_or, o_bndS, o_bndB, Td.addI, Td.subI, Td.ltI, Td.gtI, Td.leI', Td.geI, Td.negI, Td.absI, Td.intB, Td.min2, Td.max2, Td.eqV, Td.neV, Td.inV, Td.niV]
  rw [foldO_nx fun a ha => ?_]
  · rfl
  · rw [foldO_nx fun b hb => ?_]
    · rfl
    · rw [foldO_nx fun c hc => ?_]
      · rfl
      · have ha := rngL_mem.mp ha
        have hb := rngL_mem.mp hb
        have hc := rngL_mem.mp hc
        obtain ⟨k, e, hk⟩ := len_set a b c
        rw [lenOk_of (xs := [a, b, c]) (Nat.le_of_ble_eq_true rfl)]
        simp only [o_ret, o_bnd, o_out, o_and, o_or, o_bndS, o_bndB, Td.addI, Td.subI, Td.ltI, Td.gtI, Td.leI', Td.geI, Td.negI, Td.absI, Td.intB, Td.min2, Td.max2, Td.eqV, Td.neV, Td.inV, Td.niV, e]
        by_cases k3 : k = 3
        · obtain ⟨x, y, z⟩ := hk k3
          have := h3 a b c ha hb hc x y z
          rw [decide_eq_true k3, tab_at t ha, tab_at t hb]
          simp only [o_ret, o_bnd, o_out, o_and, o_or, o_bndS, o_bndB, Td.addI, Td.subI, Td.ltI, Td.gtI, Td.leI', Td.geI, Td.negI, Td.absI, Td.intB, Td.min2, Td.max2, Td.eqV, Td.neV, Td.inV, Td.niV]
          rw [tab_at2 t hc, tab_at2 t hb, tab_at2 t hc]
          simp only [o_ret, o_bnd, o_out, o_and, o_or, o_bndS, o_bndB, Td.addI, Td.subI, Td.ltI, Td.gtI, Td.leI', Td.geI, Td.negI, Td.absI, Td.intB, Td.min2, Td.max2, Td.eqV, Td.neV, Td.inV, Td.niV]
          rw [decide_eq_false (show ¬ t a c < min (t a b) (t b c) by omega)]
          rfl
        · rw [decide_eq_false k3]
          rfl
end
end T17
end
set_option linter.all false
set_option maxRecDepth 100000
set_option maxHeartbeats 1000000
noncomputable section
namespace T17
open PySem PySem.Spec PyProof.Rows L2 Pd Td PM K70
open Nt (NetOk tie cr cut_sum cut_perm cut_cons cut_app cr_is sum_more srtL_mem)
def pairsL (n : Int) (t : Int → Int → Int) : List (Int × Int × Int) := (rngL n).flatMap fun a => (rng (a + 1) n).map fun b => (0 - t a b, a, b)
theorem pairs_mem {n : Int} {t : Int → Int → Int} {q : Int × Int × Int} : q ∈ pairsL n t ↔ q.1 = 0 - t q.2.1 q.2.2 ∧ In n q.2.1 ∧ In n q.2.2 ∧ q.2.1 < q.2.2 := by
  unfold pairsL
  rw [List.mem_flatMap]
  constructor
  · rintro ⟨a, ha, h⟩
    obtain ⟨b, hb, rfl⟩ := List.mem_map.mp h
    have ha := rngL_mem.mp ha
    have hb := rng_mem.mp hb
    exact ⟨rfl, ha, ⟨by dsimp only; omega, hb.2⟩, by dsimp only; omega⟩
  · obtain ⟨w, a, b⟩ := q
    rintro ⟨h1, h2, h3, h4⟩
    dsimp only at h1 h2 h3 h4
    exact ⟨a, rngL_mem.mpr h2, List.mem_map.mpr ⟨b, rng_mem.mpr ⟨by omega, h3.2⟩, by rw [h1]⟩⟩
theorem flat_len {α β : Type} {f : α → List β} {m : Nat} : ∀ {xs : List α}, (∀ x ∈ xs, (f x).length ≤ m) → (xs.flatMap f).length ≤ xs.length * m
  | [], _ => by simp
  | x :: xs, h => by
    rw [List.flatMap_cons, List.length_append, List.length_cons, Nat.add_mul]
    have := flat_len (xs := xs) fun y hy => h y (List.mem_cons_of_mem _ hy)
    have := h x List.mem_cons_self
    omega
theorem pairs_few {n : Int} (h1 : 0 ≤ n) (h2 : n ≤ 7) (t : Int → Int → Int) : (pairsL n t).length ≤ 49 := by
  unfold pairsL
  refine Nat.le_trans (flat_len (m := 7) fun a ha => ?_) ?_
  · have := rngL_mem.mp ha
    rw [List.length_map]
    unfold rng
    rw [List.length_map, List.length_range]
    omega
  · rw [rngL_len]
    have : n.toNat ≤ 7 := by omega
    omega
def sortT3 (l : List (Int × Int × Int)) : List (Int × Int × Int) := sortW (ltP3 ltZ ltZ ltZ) l
theorem sort3_perm (l : List (Int × Int × Int)) : (sortT3 l).Perm l := List.mergeSort_perm _ _
theorem sort3_pw (l : List (Int × Int × Int)) : (sortT3 l).Pairwise fun q r => q.1 ≤ r.1 := by
  have o : OrdL (ltP3 ltZ ltZ ltZ) := ord_P3 ord_Z ord_Z ord_Z
  refine (List.pairwise_mergeSort (le := leW (ltP3 ltZ ltZ ltZ)) (fun a b c h1 h2 => ?_) (fun a b => ?_) l).imp fun {a b} h => ?_
  · unfold leW at h1 h2 ⊢
    simp only [Bool.not_eq_true'] at h1 h2 ⊢
    exact o.tr _ _ _ h2 h1
  · unfold leW
    cases z : ltP3 ltZ ltZ ltZ b a with
    | false => rfl
    | true => rw [o.asym _ _ z]; rfl
  · unfold leW ltP3 at h
    by_cases e : b.1 = a.1
    · omega
    · rw [if_neg e] at h
      unfold ltZ at h
      simp only [Bool.not_eq_true', decide_eq_false_iff_not] at h
      omega
section
variable {n : Int} {t : Int → Int → Int}
theorem net_loop {m : Nat} {cb : (List (Int × Int)) × (List Int) → Int × Int × Int → Option ((List (Int × Int)) × (List Int))} (ht : ∀ x y, In n x → In n y → x ≠ y → t x y ≤ m)
    (hc : ∀ (L : List (Int × Int)) (nm : Int → Int) (q : Int × Int × Int), In n q.2.1 ∧ In n q.2.2 ∧ q.2.1 < q.2.2 → L.length ≤ 100000 → cb (L, (rngL n).map nm) q = some ((krs t (L, nm) q).1, (rngL n).map (krs t (L, nm) q).2)) :
    ∀ (rem : List (Int × Int × Int)) (L : List (Int × Int)) (nm : Int → Int), (∀ q ∈ rem, In n q.2.1 ∧ In n q.2.2 ∧ q.2.1 < q.2.2) → L.length + rem.length * m ≤ 100000 →
      foldM cb rem (L, (rngL n).map nm) = some ((rem.foldl (krs t) (L, nm)).1, (rngL n).map (rem.foldl (krs t) (L, nm)).2)
  | [], L, nm, _, _ => rfl
  | q :: rem, L, nm, hq, hl => by
    rw [List.length_cons, Nat.add_mul] at hl
    show (cb (L, (rngL n).map nm) q).bind _ = _
    rw [hc L nm q (hq q List.mem_cons_self) (by omega), List.foldl_cons]
    obtain ⟨q1, q2, q3⟩ := hq q List.mem_cons_self
    have tm := ht _ _ q1 q2 (by omega)
    have fw : (krs t (L, nm) q).1.length ≤ L.length + m := by
      unfold krs
      by_cases c : nm q.2.1 = nm q.2.2
      · rw [if_pos c]
        dsimp only
        omega
      · rw [if_neg c]
        dsimp only
        rw [List.length_append, List.length_replicate]
        omega
    exact net_loop ht hc rem _ _ (fun r hr => hq r (List.mem_cons_of_mem _ hr)) (by omega)
def cbT (n : Int) (t : Int → Int → Int) (b4 : (List (Int × Int)) × (List Int)) (q5 : Int × Int × Int) : Option ((List (Int × Int)) × (List Int)) :=
  bnd (at_ b4.2 q5.2.1) fun a => bnd (at_ b4.2 q5.2.2) fun a_3 => cnd (!decide (a = a_3)) (bnd (lenOk [(q5.2.1, q5.2.2)]) fun a => bnd (at_ (tab n t) q5.2.1) fun a_4 => bnd (at_ a_4 q5.2.2) fun a_5 => bnd (repL a a_5) fun a => bnd (cat b4.1 a) fun links_ => bnd (lcM b4.2 (fun q2 => some true) fun q6 => bnd (at_ b4.2 q5.2.2) fun a => cnd (decide (q6 = a)) (at_ b4.2 q5.2.1) (some q6)) fun names_ => some (links_, names_)) (some (b4.1, b4.2))
theorem cbT_eq {n : Int} {t : Int → Int → Int} (h0 : ∀ x y, In n x → In n y → x ≠ y → 0 ≤ t x y) (h20 : ∀ x y, In n x → In n y → x ≠ y → t x y ≤ (20 : Nat)) {L : List (Int × Int)} {nm : Int → Int} {q : Int × Int × Int} (hq : In n q.2.1 ∧ In n q.2.2 ∧ q.2.1 < q.2.2) (hl : L.length ≤ 100000) (h1 : 0 ≤ n) (h2 : n ≤ 7) :
    cbT n t (L, (rngL n).map nm) q = some ((krs t (L, nm) q).1, (rngL n).map (krs t (L, nm) q).2) := by
  obtain ⟨w, a, b⟩ := q
  obtain ⟨ha, hb, lt⟩ := hq
  unfold cbT
  dsimp only at ha hb lt ⊢
  have t0 := h0 a b ha hb (by omega)
  have t20 := h20 a b ha hb (by omega)
  rw [at_tab nm ha.1 ha.2, o_bnd, at_tab nm hb.1 hb.2, o_bnd]
  unfold krs
  dsimp only
  by_cases c : nm a = nm b
  · rw [if_pos c, decide_eq_true c]
    rfl
  · rw [if_neg c, decide_eq_false c]
    show cnd true _ _ = _
    rw [cnd_t, lenOk_of (xs := [(a, b)]) (Nat.le_of_ble_eq_true rfl), o_bnd, tab_at t ha, o_bnd, tab_at2 t hb, o_bnd, repL_of (by omega) (by omega) (by rw [List.length_singleton]; omega), o_bnd, List.flatten_replicate_singleton, cat_of (by rw [List.length_replicate]; omega), o_bnd]
    rw [lcM_all (f := fun x => if x = nm b then nm a else x) (by rw [List.length_map, rngL_len]; omega) fun x _ => ?_]
    · rw [o_bnd, List.map_map]
      rfl
    · rw [o_bnd]
      by_cases z : x = nm b
      · rw [if_pos z, decide_eq_true z]
        rfl
      · rw [if_neg z, decide_eq_false z]
        rfl
def netR (n : Int) (t : Int → Int → Int) : List (Int × Int) := ((sortT3 (pairsL n t)).foldl (krs t) ([], id)).1
def netL (n : Int) (t : Int → Int → Int) : List (Int × Int) := sortW (Td.ltP ltZ ltZ) (netR n t)
theorem net_perm : (netL n t).Perm (netR n t) := List.mergeSort_perm _ _
variable (h1 : 0 ≤ n) (h2 : n ≤ 7) (h0 : ∀ x y, In n x → In n y → x ≠ y → 0 ≤ t x y) (h20 : ∀ x y, In n x → In n y → x ≠ y → t x y ≤ (20 : Nat))
include h1 h2 h0 h20
theorem net_eq : t_table_net (tab n t) = some (n, netL n t) := by
  have few := pairs_few h1 h2 t
  unfold t_table_net
  simp only [o_ret, o_bnd, o_out, o_and, o_or, o_bndS, o_bndB, Td.addI, Td.subI, Td.ltI, Td.gtI, Td.leI', Td.geI, Td.negI, Td.absI, Td.intB, Td.min2, Td.max2, Td.eqV, Td.neV, Td.inV, Td.niV]
  rw [tab_len h1 t, lenOk_of (α := Int × Int) (xs := []) (by decide), o_bnd, rngO_0 (n := n) (by omega) (by omega), o_bnd, o_bnd]
  rw [lcM2_some (p := fun _ : Int => true) (l := fun a : Int => rng (a + 1) n) (p1 := fun _ _ => true) (f := fun a b => (0 - t a b, a, b)) (fun _ _ => rfl) (fun a ha _ => ?_) ?_]
  · rw [List.filter_eq_self.mpr fun _ _ => rfl, o_bnd]
    have e : ((rngL n).flatMap fun x => ((rng (x + 1) n).filter fun _ => true).map fun b => (0 - t x b, x, b)) = pairsL n t := by
      unfold pairsL
      congr 1
      funext x
      rw [List.filter_eq_self.mpr fun _ _ => rfl]
    rw [e]
    have fl := net_loop (n := n) (t := t) (m := 20) h20 (cb := cbT n t) (fun L nm q hq hl => cbT_eq h0 h20 hq hl h1 h2) (sortT3 (pairsL n t)) [] id (fun q hq => (pairs_mem.mp ((sort3_perm _).mem_iff.mp hq)).2) (by
      rw [(sort3_perm _).length_eq, List.length_nil]
      omega)
    rw [List.map_id] at fl
    show (bnd (foldM (cbT n t) (sortT3 (pairsL n t)) ([], rngL n)) fun b7 => some (n, sortW (Td.ltP ltZ ltZ) b7.1)) = _
    rw [fl]
    rfl
  · rw [List.filter_eq_self.mpr fun _ _ => rfl]
    have : ((rngL n).flatMap fun x => ((rng (x + 1) n).filter fun _ => true).map fun b => (0 - t x b, x, b)) = pairsL n t := by
      unfold pairsL
      congr 1
      funext x
      rw [List.filter_eq_self.mpr fun _ _ => rfl]
    rw [this]
    omega
  · have ha := rngL_mem.mp ha
    refine ⟨rngO_of (by omega) (by omega) (by omega) (by omega) (by omega), fun b hb => ⟨rfl, fun _ => ?_⟩⟩
    have hb := rng_mem.mp hb
    rw [tab_at t ha, o_bnd, tab_at2 t ⟨by omega, hb.2⟩]
    rfl
theorem net_ok : NetOk n (netL n t) ∧ (netL n t).length ≤ 1000 := by
  obtain ⟨a, b⟩ := kr_net (n := n) (t := t) (P := fun _ => True) (m := 20) h20 (sortT3 (pairsL n t)) ([], id) fun q hq => (pairs_mem.mp ((sort3_perm _).mem_iff.mp hq)).2
  constructor
  · intro e he
    rcases a e (net_perm.mem_iff.mp he) with z | ⟨z1, z2, z3⟩
    · simp at z
    · exact ⟨z1.1, z3, z2.2⟩
  · rw [net_perm.length_eq]
    have few := pairs_few h1 h2 t
    rw [(sort3_perm _).length_eq] at b
    dsimp only [List.length_nil] at b
    unfold netR
    omega
theorem net_holds (hs : ∀ x y, In n x → In n y → x ≠ y → t x y = t y x) (h3 : ∀ x y z, In n x → In n y → In n z → x ≠ y → y ≠ z → x ≠ z → min (t x y) (t y z) ≤ t x z) {x y : Int} (hx : In n x) (hy : In n y) (ne : x ≠ y) : Hd (netL n t) x y (t x y) := by
  refine Hd.perm net_perm.symm ?_
  exact kr_all hs h0 h3 (sortT3 (pairsL n t)) [] id (kr_start _ fun x y hx hy lt => (sort3_perm _).mem_iff.mpr (pairs_mem.mpr ⟨rfl, hx, hy, lt⟩)) (sort3_pw _) (fun q hq => pairs_mem.mp ((sort3_perm _).mem_iff.mp hq)) x y hx hy ne
end
structure Nw (n : Int) (E : List (Int × Int)) : Prop where
  n1 : 0 ≤ n
  n2 : n ≤ 7
  ok : NetOk n E
  el : E.length ≤ 20
section
variable {n : Int} {E : List (Int × Int)} (g : Nw n E)
include g
theorem hT_hd {x y : Int} (hx : In n x) (hy : In n y) (ne : x ≠ y) : Hd E x y (hT n E x y) := by
  unfold hT
  rw [if_neg ne]
  exact hold_hd g.ok hx hy ne
theorem hT_sym : ∀ x y, In n x → In n y → x ≠ y → hT n E x y = hT n E y x := fun x y hx hy ne => (hT_hd g hx hy ne).uniq (hT_hd g hy hx fun z => ne z.symm).symm
theorem hT_nn : ∀ x y, In n x → In n y → x ≠ y → 0 ≤ hT n E x y := fun x y hx hy ne => (hT_hd g hx hy ne).nn
theorem hT_20 : ∀ x y, In n x → In n y → x ≠ y → hT n E x y ≤ (20 : Nat) := fun x y hx hy ne => by
  have := (hT_hd g hx hy ne).len
  have := g.el
  omega
theorem hT_three : ∀ x y z, In n x → In n y → In n z → x ≠ y → y ≠ z → x ≠ z → min (hT n E x y) (hT n E y z) ≤ hT n E x z := fun x y z hx hy hz a b c => (hT_hd g hx hy a).three (hT_hd g hy hz b) (hT_hd g hx hz c)
theorem paper_eq : t_table_paper (tab n (hT n E)) = some (Str.ofString "net", (n, netL n (hT n E))) := by
  unfold t_table_paper
  simp only [o_ret, o_bnd, o_out, o_and, o_or, o_bndS, o_bndB, Td.addI, Td.subI, Td.ltI, Td.gtI, Td.leI', Td.geI, Td.negI, Td.absI, Td.intB, Td.min2, Td.max2, Td.eqV, Td.neV, Td.inV, Td.niV, bad_eq g.n1 g.n2 (hT_three g), net_eq g.n1 g.n2 (hT_nn g) (hT_20 g)]
  rfl
theorem tables_same : t_hold_table (n, netL n (hT n E)) = some (tab n (hT n E)) := by
  obtain ⟨ok, el⟩ := net_ok g.n1 g.n2 (hT_nn g) (hT_20 g)
  rw [table_eq g.n1 g.n2 el]
  congr 1
  refine tab_same fun a b ha hb => ?_
  by_cases c : a = b
  · unfold hT
    rw [if_pos c, if_pos c]
  · have := net_holds g.n1 g.n2 (hT_nn g) (hT_20 g) (hT_sym g) (hT_three g) ha hb c
    have e1 : hT n (netL n (hT n E)) a b = holdZ n (netL n (hT n E)) a b := if_neg c
    rw [e1]
    exact (hold_hd ok ha hb c).uniq this
theorem table_eq' : t_hold_table (n, E) = some (tab n (hT n E)) := table_eq g.n1 g.n2 (by have := g.el; omega)
theorem cut_eq' (l : List Int) : t_cut_number (n, E) l = some (cutZ E l) := cut_eq (by have := g.el; omega) l
end
end T17
end
set_option linter.all false
set_option maxRecDepth 100000
set_option maxHeartbeats 1000000
noncomputable section
namespace T17
open PySem PySem.Spec PyProof.Rows L2 Pd Td PM K70
open Nt (NetOk tie cr cut_sum cut_perm cut_cons cut_app cr_is sum_more srtL_mem)
def nmF (N : List Int) (x : Int) : Int := N.getD x.toNat 0
def nmG (N : List Int) (y : Int) : Int := (N.idxOf y : Nat)
structure Nm (n : Int) (N : List Int) : Prop where
  at' : ∀ x, In n x → at_ N x = some (nmF N x)
  inn : ∀ x, In n x → In n (nmF N x)
  inv : ∀ x, In n x → nmG N (nmF N x) = x
theorem nm_of {n : Int} {N : List Int} (p : N.Perm (rngL n)) : Nm n N := by
  have len : N.length = n.toNat := by rw [p.length_eq, rngL_len]
  have nd : N.Nodup := p.nodup_iff.mpr (rngL_nodup n)
  have get : ∀ x (hx : In n x), ∃ h : x.toNat < N.length, nmF N x = N[x.toNat] := fun x hx => by
    obtain ⟨a, b⟩ := hx
    have h : x.toNat < N.length := by omega
    refine ⟨h, ?_⟩
    unfold nmF
    rw [List.getD_eq_getElem?_getD, List.getElem?_eq_getElem h]
    rfl
  refine ⟨fun x hx => ?_, fun x hx => ?_, fun x hx => ?_⟩
  · obtain ⟨a, b⟩ := hx
    exact Nt.at_some a (by omega)
  · obtain ⟨h, e⟩ := get x hx
    rw [e]
    exact rngL_mem.mp (p.mem_iff.mp (List.getElem_mem h))
  · obtain ⟨h, e⟩ := get x hx
    unfold nmG
    rw [e, nd.idxOf_getElem]
    have := hx.1
    omega
theorem Nm.ne {n : Int} {N : List Int} (g : Nm n N) {x y : Int} (hx : In n x) (hy : In n y) (ne : x ≠ y) : nmF N x ≠ nmF N y := fun e => ne (by
  rw [← g.inv x hx, ← g.inv y hy, e])
theorem Nm.two {n : Int} {N : List Int} (g : Nm n N) {x y : Int} (hx : In n x) (hy : In n y) (ne : x ≠ y) : two (sortW ltZ [nmF N x, nmF N y]) = some (tie (nmF N x) (nmF N y)) ∧ 0 ≤ (tie (nmF N x) (nmF N y)).1 ∧ (tie (nmF N x) (nmF N y)).1 < (tie (nmF N x) (nmF N y)).2 ∧ (tie (nmF N x) (nmF N y)).2 < n := by
  have a := g.inn x hx
  have b := g.inn y hy
  have c := g.ne hx hy ne
  unfold In at a b
  refine ⟨Nt.two_min _ _, ?_⟩
  unfold tie
  dsimp only
  omega
def PrOk (n : Int) (q : Int × Int) : Prop := In n q.1 ∧ In n q.2 ∧ q.1 ≠ q.2
theorem rep_all {α : Type} {P : α → Prop} {l : List α} {k : Int} {m : Nat} (h : ∀ q ∈ l, P q) (hk : k ≤ m) (k0 : 0 ≤ k) (hm : m ≤ 1000) (hl : l.length ≤ 10) : ∃ r, repL l k = some r ∧ (∀ q ∈ r, P q) ∧ r.length ≤ 10 * m := by
  have e : ∀ j : Nat, (List.replicate j l).flatten.length = j * l.length := fun j => by
    induction j with
    | zero => simp
    | succ j ih => rw [List.replicate_succ, List.flatten_cons, List.length_append, ih, Nat.add_mul]; omega
  have le : k.toNat ≤ m := by omega
  have p1 : l.length * k.toNat ≤ 10 * m := Nat.mul_le_mul hl le
  refine ⟨_, repL_of (by omega) (by omega) (by omega), fun q hq => ?_, ?_⟩
  · obtain ⟨z, hz, hq⟩ := List.mem_flatten.mp hq
    rw [(List.mem_replicate.mp hz).2] at hq
    exact h q hq
  · rw [e, Nat.mul_comm]
    exact p1
theorem far_tri {n way : Int} (n1 : 2 ≤ n) (n2 : n ≤ 7) {E : List (Int × Int)} {i : Nat} (hE : E.length ≤ 30 + i) (hi : i ≤ 100) (ok : ∀ q ∈ E, PrOk n q) (x : Int) : Tri (t_law_draw_net_L1 (n, way) E x) fun F => F.length ≤ 30 + i + 1 ∧ ∀ q ∈ F, PrOk n q := by
  unfold t_law_draw_net_L1
  simp only [d_bnd, d_out, Td.d_and, Td.d_or, d_bndB, d_bndR, Td.addI, Td.subI, Td.ltI, Td.gtI, Td.leI', Td.geI, Td.negI, Td.absI, Td.intB, Td.min2, Td.max2, Td.eqV, Td.neV, Td.inV, Td.niV]
  refine Tri.bnd (Tri.pick' (by omega) (by omega)) fun a ha => ?_
  refine Tri.bnd (Tri.pick' (by omega) (by omega)) fun c hc => ?_
  refine Nt.Tri.outB (modI_of _ (by omega)) ?_
  rw [divI_of _ (b := 2) (by decide) (by decide)]
  simp only [d_bnd, d_out, Td.d_and, Td.d_or, d_bndB, d_bndR, Td.addI, Td.subI, Td.ltI, Td.gtI, Td.leI', Td.geI, Td.negI, Td.absI, Td.intB, Td.min2, Td.max2, Td.eqV, Td.neV, Td.inV, Td.niV]
  have hb : In n ((a + 1 + c) % n) := ⟨Int.emod_nonneg _ (by omega), Int.emod_lt_of_pos _ (by omega)⟩
  have ne : a ≠ (a + 1 + c) % n := by
    by_cases z : a + 1 + c < n
    · rw [Int.emod_eq_of_lt (by omega) z]
      omega
    · rw [← Int.sub_emod_right, Int.emod_eq_of_lt (by omega) (by omega)]
      omega
  refine Tri.bnd (P := fun _ => True) ?_ fun z _ => ?_
  · refine Tri.bnd (P := fun _ => True) (Tri.ret trivial) fun z _ => Tri.cnd (fun _ => Tri.ret trivial) fun _ => Tri.bnd (P := fun _ => True) (Tri.ret trivial) fun z _ => Tri.cnd (fun _ => Tri.ret trivial) fun _ => Tri.bnd (Tri.pick' (by omega) (by omega)) fun _ _ => Tri.ret trivial
  refine Tri.bnd (P := fun l : List (Int × Int) => l.length ≤ 1 ∧ ∀ q ∈ l, PrOk n q) (Tri.cnd (fun _ => ?_) fun _ => ?_) fun l ⟨l1, l2⟩ => ?_
  · rw [lenOk_of (xs := [(a, (a + 1 + c) % n)]) (Nat.le_of_ble_eq_true rfl)]
    exact Tri.ret ⟨Nat.le_refl _, fun q hq => by
      rw [List.mem_singleton.mp hq]
      exact ⟨ha, hb, ne⟩⟩
  · rw [lenOk_of (α := Int × Int) (xs := []) (by decide)]
    exact Tri.ret ⟨Nat.zero_le _, fun q hq => by cases hq⟩
  · rw [cat_of (by omega)]
    refine Tri.ret ⟨by rw [List.length_append]; omega, fun q hq => ?_⟩
    rcases List.mem_append.mp hq with z | z
    · exact ok q z
    · exact l2 q z
theorem net_tri {m k : Int} (hm : 4 ≤ m) (hm2 : m ≤ 7) (hk : 0 ≤ k) (hk2 : k ≤ 20) : Tri (t_law_draw_net m k) fun r => 1 ≤ r.1 ∧ Nw r.1 r.2 := by
  unfold t_law_draw_net
  simp only [d_bnd, d_out, Td.d_and, Td.d_or, d_bndB, d_bndR, Td.addI, Td.subI, Td.ltI, Td.gtI, Td.leI', Td.geI, Td.negI, Td.absI, Td.intB, Td.min2, Td.max2, Td.eqV, Td.neV, Td.inV, Td.niV]
  refine Tri.bnd (Tri.pick' (by omega) (by omega)) fun d hd => ?_
  have n1 : 1 ≤ 1 + d := by omega
  have n2 : 1 + d ≤ 7 := by omega
  generalize 1 + d = n at n1 n2 ⊢
  refine Tri.bnd (Tri.pick' (by omega) (by omega)) fun way hw => ?_
  refine Tri.cnd (fun _ => ?_) fun hn => ?_
  · rw [lenOk_of (α := Int × Int) (xs := []) (by decide)]
    have nil : 1 ≤ (1 : Int) ∧ Nw 1 [] := ⟨Int.le_refl 1, ⟨by decide, by decide, fun q hq => (nomatch hq), Nat.zero_le _⟩⟩
    exact Tri.ret (a := ((1 : Int), ([] : List (Int × Int)))) (P := fun r => 1 ≤ r.1 ∧ Nw r.1 r.2) nil
  have n1 : 2 ≤ n := by
    have := of_decide_eq_false hn
    omega
  rw [lenOk_of (α := Int × Int) (xs := []) (by decide)]
  simp only [d_bnd, d_out, Td.d_and, Td.d_or, d_bndB, d_bndR, Td.addI, Td.subI, Td.ltI, Td.gtI, Td.leI', Td.geI, Td.negI, Td.absI, Td.intB, Td.min2, Td.max2, Td.eqV, Td.neV, Td.inV, Td.niV]
  refine Tri.bnd (P := fun S : List (Int × Int) => S.length ≤ 30 ∧ ∀ q ∈ S, PrOk n q) (Tri.cnd (fun h => ?_) fun _ => Tri.ret ⟨by simp, fun q hq => by cases hq⟩) fun S ⟨s1, s2⟩ => ?_
  · rw [rngO_0 (n := n) (by omega) (by omega)]
    simp only [d_bnd, d_out, Td.d_and, Td.d_or, d_bndB, d_bndR, Td.addI, Td.subI, Td.ltI, Td.gtI, Td.leI', Td.geI, Td.negI, Td.absI, Td.intB, Td.min2, Td.max2, Td.eqV, Td.neV, Td.inV, Td.niV]
    simp only [Bool.and_eq_true, decide_eq_true_eq] at h
    refine Tri.bnd (P := fun Z : List (Int × Int) => Z.length ≤ 7 ∧ ∀ q ∈ Z, PrOk n q) ((Tri.lcM (by rw [rngL_len]; omega) (Tri.lcAll (P := PrOk n) fun q hq => ?_)).imp fun Z ⟨a, b⟩ => ⟨by rw [a, rngL_len]; omega, b⟩) fun Z ⟨z1, z2⟩ => ?_
    · have q1 := rngL_mem.mp hq
      rw [modI_of _ (by omega)]
      refine Tri.ret (show PrOk n (q, (q + 1) % n) from ⟨q1, ⟨Int.emod_nonneg _ (by omega), Int.emod_lt_of_pos _ (by omega)⟩, ?_⟩)
      dsimp only
      by_cases c : q + 1 = n
      · rw [c, Int.emod_self]
        omega
      · rw [Int.emod_eq_of_lt (by omega) (by omega)]
        omega
    · refine Tri.bnd (Tri.pick' (by omega) (by omega)) fun r hr => ?_
      obtain ⟨R, e, r1, r2⟩ := rep_all (k := 1 + r) (m := 2) z2 (by omega) (by omega) (by omega) (by omega)
      rw [e]
      exact Tri.ret (show R.length ≤ 30 ∧ ∀ q ∈ R, PrOk n q from ⟨by omega, r1⟩)
  refine Tri.bnd (P := fun S : List (Int × Int) => S.length ≤ 30 ∧ ∀ q ∈ S, PrOk n q) (Tri.cnd (fun h => ?_) fun _ => Tri.ret ⟨s1, s2⟩) fun S ⟨s1, s2⟩ => ?_
  · rw [rngO_of (a := 1) (b := n) (by omega) (by omega) (by omega) (by omega) (by omega)]
    simp only [d_bnd, d_out, Td.d_and, Td.d_or, d_bndB, d_bndR, Td.addI, Td.subI, Td.ltI, Td.gtI, Td.leI', Td.geI, Td.negI, Td.absI, Td.intB, Td.min2, Td.max2, Td.eqV, Td.neV, Td.inV, Td.niV]
    refine Tri.bnd (P := fun Z : List (Int × Int) => Z.length ≤ 7 ∧ ∀ q ∈ Z, PrOk n q) ((Tri.lcM (by unfold rng; rw [List.length_map, List.length_range]; omega) (Tri.lcAll (P := PrOk n) fun q hq => ?_)).imp fun Z ⟨a, b⟩ => ⟨by rw [a]; unfold rng; rw [List.length_map, List.length_range]; omega, b⟩) fun Z ⟨z1, z2⟩ => ?_
    · have q1 := rng_mem.mp hq
      refine Tri.bnd (Tri.pick' (by omega) (by omega)) fun r hr => ?_
      exact Tri.ret (show PrOk n (q, r) from ⟨⟨by dsimp only; omega, q1.2⟩, ⟨hr.1, by dsimp only; omega⟩, by dsimp only; omega⟩)
    · refine Tri.bnd (Tri.pick' (by omega) (by omega)) fun r hr => ?_
      obtain ⟨R, e, r1, r2⟩ := rep_all (k := 1 + r) (m := 3) z2 (by omega) (by omega) (by omega) (by omega)
      rw [e]
      exact Tri.ret (show R.length ≤ 30 ∧ ∀ q ∈ R, PrOk n q from ⟨by omega, r1⟩)
  refine Tri.bnd (P := fun f : Int => 0 ≤ f ∧ f ≤ 20) (Tri.cnd (fun _ => (Tri.pick' (by omega) (by omega)).imp fun f hf => by omega) fun _ => (Tri.pick' (by omega) (by omega)).imp fun f hf => by omega) fun f hf => ?_
  rw [rngO_0 (n := f) (by omega) (by omega)]
  simp only [d_bnd, d_out, Td.d_and, Td.d_or, d_bndB, d_bndR, Td.addI, Td.subI, Td.ltI, Td.gtI, Td.leI', Td.geI, Td.negI, Td.absI, Td.intB, Td.min2, Td.max2, Td.eqV, Td.neV, Td.inV, Td.niV]
  refine Tri.bnd (Tri.foldM (fun i (E : List (Int × Int)) => E.length ≤ 30 + i ∧ ∀ q ∈ E, PrOk n q) (rngL f) 0 S ⟨by omega, s2⟩ fun i x E hx ⟨e1, e2⟩ => ?_) fun E ⟨e1, e2⟩ => ?_
  · have hi := (List.getElem?_eq_some_iff.mp hx).1
    rw [rngL_len] at hi
    exact (far_tri n1 n2 e1 (by omega) e2 x).imp fun F hF => ⟨by omega, hF.2⟩
  rw [rngL_len] at e1
  rw [rngO_0 (n := n) (by omega) (by omega)]
  simp only [d_bnd, d_out, Td.d_and, Td.d_or, d_bndB, d_bndR, Td.addI, Td.subI, Td.ltI, Td.gtI, Td.leI', Td.geI, Td.negI, Td.absI, Td.intB, Td.min2, Td.max2, Td.eqV, Td.neV, Td.inV, Td.niV]
  refine Tri.bnd (Tri.any (by rw [rngL_len]; omega)) fun N hN => ?_
  have g := nm_of hN
  refine Tri.bnd (Tri.any (by omega)) fun F hF => ?_
  have fl : F.length ≤ 60 := by rw [hF.length_eq]; omega
  have cl : (cut F none (some k)).length ≤ 20 := by
    rw [cut_take _ hk, List.length_take]
    omega
  refine Tri.bnd (P := fun Z : List (Int × Int) => Z.length ≤ 20 ∧ NetOk n Z) ((Tri.lcM (by omega) (Tri.lcAll (P := fun q : Int × Int => 0 ≤ q.1 ∧ q.1 < q.2 ∧ q.2 < n) fun q hq => ?_)).imp fun Z ⟨a, b⟩ => ⟨by omega, b⟩) fun Z ⟨z1, z2⟩ => ?_
  · obtain ⟨p1, p2, p3⟩ := e2 q (hF.mem_iff.mp (by
      rw [cut_take _ hk] at hq
      exact List.mem_of_mem_take hq))
    rw [g.at' _ p1, g.at' _ p2]
    simp only [d_bnd, d_out, Td.d_and, Td.d_or, d_bndB, d_bndR, Td.addI, Td.subI, Td.ltI, Td.gtI, Td.leI', Td.geI, Td.negI, Td.absI, Td.intB, Td.min2, Td.max2, Td.eqV, Td.neV, Td.inV, Td.niV]
    obtain ⟨t1, t2⟩ := g.two p1 p2 p3
    rw [t1]
    exact Tri.ret t2
  · have pm : (sortW (Td.ltP ltZ ltZ) Z).Perm Z := List.mergeSort_perm _ _
    exact Tri.ret ⟨by dsimp only; omega, by dsimp only; omega, n2, fun q hq => z2 q (pm.mem_iff.mp hq), by dsimp only; rw [pm.length_eq]; exact z1⟩
end T17
end
set_option linter.all false
set_option maxRecDepth 100000
set_option maxHeartbeats 2000000
noncomputable section
namespace T17
open PySem PySem.Spec PyProof.Rows L2 Pd Td PM K70
open Nt (NetOk tie cr cut_sum cut_perm cut_cons cut_app cr_is sum_more srtL_mem)
theorem sh_net {n : Int} {E : List (Int × Int)} (g : Nw n E) : ∃ s, reprO (eP2 eInt (eTup (eP2 eInt eInt))) (n, E) = some s := by
  have h0 := g.n1
  have h8 := g.n2
  have hE := g.el
  exact shown (k := 3) (w := 2 * (60 * 23 + 1)) (sh_p2 2 (60 * 23) (sh_small (x := n) (by omega) (by omega)) (sh_tup (k := 1) (w := 22) 60 (fun q hq => by
    obtain ⟨a, b, c⟩ := g.ok q hq
    exact sh_p2 0 10 (sh_small (by omega) (by omega)) (sh_small (by omega) (by omega)) (by decide) (by decide)) (by omega)) (by decide) (by decide)) (by decide) (by decide)
def lateL (N : List Int) (E : List (Int × Int)) : List (Int × Int) := E.map fun e => tie (nmF N e.1) (nmF N e.2)
theorem late_nw {n : Int} {E : List (Int × Int)} {N : List Int} (g : Nw n E) (m : Nm n N) : Nw n (sortW (Td.ltP ltZ ltZ) (lateL N E)) := by
  have pm : (sortW (Td.ltP ltZ ltZ) (lateL N E)).Perm (lateL N E) := List.mergeSort_perm _ _
  refine ⟨g.n1, g.n2, fun q hq => ?_, by rw [pm.length_eq]; unfold lateL; rw [List.length_map]; exact g.el⟩
  obtain ⟨e, he, rfl⟩ := List.mem_map.mp (pm.mem_iff.mp hq)
  obtain ⟨a, b, c⟩ := g.ok e he
  exact (m.two ⟨a, by omega⟩ ⟨by omega, c⟩ (by omega)).2
theorem cutP_tie (f : Int → Int) (E : List (Int × Int)) (q : Int → Bool) : cutP (E.map fun e => tie (f e.1) (f e.2)) q = cutP E fun x => q (f x) := by
  induction E with
  | nil => rfl
  | cons e E ih =>
    rw [List.map_cons, cutP_cons, cutP_cons, ih]
    congr 1
    unfold tie
    dsimp only
    rcases Int.le_total (f e.1) (f e.2) with h | h
    · rw [Int.min_eq_left h, Int.max_eq_right h]
    · rw [Int.min_eq_right h, Int.max_eq_left h]
      by_cases z : q (f e.1) = q (f e.2)
      · rw [if_pos z, if_pos z.symm]
      · rw [if_neg z, if_neg fun w => z w.symm]
theorem late_holds {n : Int} {E : List (Int × Int)} {N : List Int} (g : Nw n E) (m : Nm n N) {x y : Int} (hx : In n x) (hy : In n y) : hT n (sortW (Td.ltP ltZ ltZ) (lateL N E)) (nmF N x) (nmF N y) = hT n E x y := by
  by_cases c : x = y
  · subst c
    unfold hT
    rw [if_pos rfl, if_pos rfl]
  · have pm : (sortW (Td.ltP ltZ ltZ) (lateL N E)).Perm (lateL N E) := List.mergeSort_perm _ _
    have a := hT_hd (late_nw g m) (m.inn x hx) (m.inn y hy) (m.ne hx hy c)
    refine a.uniq ?_
    refine Hd.turn (f := nmF N) (g := nmG N) (E := E) (fun e he => ?_) (m.inv x hx) (m.inv y hy) (fun q => ?_) (hT_hd g hx hy c)
    · obtain ⟨u, v, w⟩ := g.ok e he
      exact ⟨m.inv _ ⟨u, by omega⟩, m.inv _ ⟨by omega, w⟩⟩
    · rw [cutP_perm pm]
      exact cutP_tie _ _ _
theorem less_perm {E : List (Int × Int)} {k : Int} (h0 : 0 ≤ k) (h1 : k < E.length) : ∃ e, E.Perm (e :: (cut E none (some k) ++ cut E (some (k + 1)) none)) := by
  have hk : k.toNat < E.length := by omega
  refine ⟨E[k.toNat], ?_⟩
  rw [cut_take _ h0, cut_drop _ (by omega), show (k + 1).toNat = k.toNat + 1 by omega, ← List.eraseIdx_eq_take_drop_succ]
  exact Nt.idx_perm E k.toNat _ (List.getElem?_eq_getElem hk)
theorem less_nw {n : Int} {E F : List (Int × Int)} {e : Int × Int} (g : Nw n E) (p : E.Perm (e :: F)) : Nw n F := by
  refine ⟨g.n1, g.n2, fun q hq => g.ok q (p.mem_iff.mpr (List.mem_cons_of_mem _ hq)), ?_⟩
  have := p.length_eq
  rw [List.length_cons] at this
  have := g.el
  omega
theorem less_holds {n : Int} {E F : List (Int × Int)} {e : Int × Int} (g : Nw n E) (p : E.Perm (e :: F)) {x y : Int} (hx : In n x) (hy : In n y) : hT n E x y - hT n F x y ∈ [(0 : Int), 1] := by
  rw [List.mem_cons, List.mem_singleton]
  by_cases c : x = y
  · unfold hT
    rw [if_pos c, if_pos c]
    exact .inl rfl
  · exact Hd.less p (hT_hd g hx hy c) (hT_hd (less_nw g p) hx hy c)
section
variable {n : Int} {E : List (Int × Int)} (g : Nw n E)
include g
theorem moved_tri {N : List Int} (m : Nm n N) (s : Str) {x : Int} (hx : In n x) : Tri (t_law_L2 (n, s) (tab n (hT n (sortW (Td.ltP ltZ ltZ) (lateL N E)))) N (tab n (hT n E)) () x) fun o => o = .nx () := by
  have n1 := g.n1
  have n2 := g.n2
  unfold t_law_L2
  simp only [d_bnd, d_out, Td.d_and, Td.d_or, d_bndB, d_bndR, Td.addI, Td.subI, Td.ltI, Td.gtI, Td.leI', Td.geI, Td.negI, Td.absI, Td.intB, Td.min2, Td.max2, Td.eqV, Td.neV, Td.inV, Td.niV]
  refine Nt.Tri.outB (rngO_0 (n := n) (by omega) (by omega)) ?_
  refine Tri.bnd (Tri.foldO0 fun y hy => ?_) fun o ho => ?_
  · have hy := rngL_mem.mp hy
    unfold t_law_L1
    simp only [d_bnd, d_out, Td.d_and, Td.d_or, d_bndB, d_bndR, Td.addI, Td.subI, Td.ltI, Td.gtI, Td.leI', Td.geI, Td.negI, Td.absI, Td.intB, Td.min2, Td.max2, Td.eqV, Td.neV, Td.inV, Td.niV]
    refine Nt.Tri.outB (m.at' x hx) (Nt.Tri.outB (tab_at _ (m.inn x hx)) (Nt.Tri.outB (m.at' y hy) (Nt.Tri.outB (tab_at2 _ (m.inn y hy)) (Nt.Tri.outB (tab_at _ hx) (Nt.Tri.outB (tab_at2 _ hy) ?_)))))
    rw [late_holds g m hx hy, decide_eq_true rfl]
    exact Tri.ret rfl
  · rw [ho]
    exact Tri.ret rfl
theorem less_tri {F : List (Int × Int)} {e : Int × Int} (p : E.Perm (e :: F)) (s : Str) {x : Int} (hx : In n x) : Tri (t_law_L3 (n, s) (tab n (hT n E)) (tab n (hT n F)) () x) fun o => o = .nx () := by
  have n1 := g.n1
  have n2 := g.n2
  unfold t_law_L3
  simp only [d_bnd, d_out, Td.d_and, Td.d_or, d_bndB, d_bndR, Td.addI, Td.subI, Td.ltI, Td.gtI, Td.leI', Td.geI, Td.negI, Td.absI, Td.intB, Td.min2, Td.max2, Td.eqV, Td.neV, Td.inV, Td.niV]
  refine Nt.Tri.outB (rngO_0 (n := n) (by omega) (by omega)) ?_
  rw [d_lcM (p := fun y => !decide (hT n E x y - hT n F x y ∈ [(0 : Int), 1])) (f := fun y => y) (by rw [rngL_len]; omega) (fun y hy => by
    have hy := rngL_mem.mp hy
    rw [tab_at _ hx, tab_at _ hx]
    simp only [d_bnd, d_out, Td.d_and, Td.d_or, d_bndB, d_bndR, Td.addI, Td.subI, Td.ltI, Td.gtI, Td.leI', Td.geI, Td.negI, Td.absI, Td.intB, Td.min2, Td.max2, Td.eqV, Td.neV, Td.inV, Td.niV]
    rw [tab_at2 _ hy, tab_at2 _ hy]
    rfl) fun _ _ _ => rfl, d_bnd]
  rw [List.filter_eq_nil_iff.mpr fun y hy => ?_]
  · rw [lenOk_of (α := Int) (xs := []) (by decide)]
    exact Tri.ret rfl
  · rw [decide_eq_true (less_holds g p hx (rngL_mem.mp hy))]
    decide
end
theorem lap_tri {q : Int} (hq : 0 ≤ q ∧ q < 4) : Tri (t_law_L4 () q) fun o => o = .nx () := by
  unfold t_law_L4
  simp only [d_bnd, d_out, Td.d_and, Td.d_or, d_bndB, d_bndR, Td.addI, Td.subI, Td.ltI, Td.gtI, Td.leI', Td.geI, Td.negI, Td.absI, Td.intB, Td.min2, Td.max2, Td.eqV, Td.neV, Td.inV, Td.niV]
  obtain ⟨m, hm, m0, m8⟩ : ∃ m : Int, at_ [(4 : Int), 5, 6, 7] q = some m ∧ 4 ≤ m ∧ m ≤ 7 := by
    have : q = 0 ∨ q = 1 ∨ q = 2 ∨ q = 3 := by omega
    rcases this with rfl | rfl | rfl | rfl
    · exact ⟨4, rfl, by decide, by decide⟩
    · exact ⟨5, rfl, by decide, by decide⟩
    · exact ⟨6, rfl, by decide, by decide⟩
    · exact ⟨7, rfl, by decide, by decide⟩
  obtain ⟨k, hk, k0, k1⟩ : ∃ m : Int, at_ [(8 : Int), 12, 16, 20] q = some m ∧ 0 ≤ m ∧ m ≤ 20 := by
    have : q = 0 ∨ q = 1 ∨ q = 2 ∨ q = 3 := by omega
    rcases this with rfl | rfl | rfl | rfl
    · exact ⟨8, rfl, by decide, by decide⟩
    · exact ⟨12, rfl, by decide, by decide⟩
    · exact ⟨16, rfl, by decide, by decide⟩
    · exact ⟨20, rfl, by decide, by decide⟩
  refine Nt.Tri.outB (lenOk_of (Nat.le_of_ble_eq_true rfl)) (Nt.Tri.outB hm (Nt.Tri.outB (lenOk_of (Nat.le_of_ble_eq_true rfl)) (Nt.Tri.outB hk ?_)))
  refine Tri.bnd (net_tri m0 m8 k0 k1) fun net ⟨g0, g⟩ => ?_
  obtain ⟨n, E⟩ := net
  have g0 : 1 ≤ n := g0
  have g : Nw n E := g
  have n2 := g.n2
  have el := g.el
  have ok := g.ok
  obtain ⟨s, hs⟩ := sh_net g
  refine Nt.Tri.outB hs ?_
  dsimp only
  refine Nt.Tri.outB (rngO_0 (n := n) (by omega) (by omega)) ?_
  refine Tri.bnd (Tri.any (by rw [rngL_len]; omega)) fun O hO => ?_
  have ol : O.length ≤ 7 := by rw [hO.length_eq, rngL_len]; omega
  refine Tri.bnd (Tri.pick' (by omega) (by omega)) fun a ha => ?_
  refine Tri.bnd (Tri.pick' (by omega) (by omega)) fun b hb => ?_
  have one_in : ∀ x ∈ sortW ltZ (cut O none (some a)), In n x := fun x hx => by
    rw [sortW_int, srt_mem, cut_take _ ha.1] at hx
    exact rngL_mem.mp (hO.mem_iff.mp (List.mem_of_mem_take hx))
  have two_in : ∀ x ∈ sortW ltZ (cut O (some b) none), In n x := fun x hx => by
    rw [sortW_int, srt_mem, cut_drop _ hb.1] at hx
    exact rngL_mem.mp (hO.mem_iff.mp (List.mem_of_mem_drop hx))
  have one_few : (sortW ltZ (cut O none (some a))).length ≤ 7 := by
    unfold sortW
    rw [List.length_mergeSort, cut_take _ ha.1, List.length_take]
    omega
  have two_few : (sortW ltZ (cut O (some b) none)).length ≤ 7 := by
    unfold sortW
    rw [List.length_mergeSort, cut_drop _ hb.1, List.length_drop]
    omega
  generalize sortW ltZ (cut O none (some a)) = A at one_in one_few ⊢
  generalize sortW ltZ (cut O (some b) none) = B at two_in two_few ⊢
  have rl : (rngL n).length ≤ 7 := by rw [rngL_len]; omega
  rw [d_lcM_p (by omega), d_bnd]
  refine Nt.Tri.outB (rngO_0 (n := n) (by omega) (by omega)) ?_
  rw [d_lcM_p (by omega), d_bnd, d_lcM_p (by omega), d_bnd, d_lcM_p (by omega), d_bnd]
  refine Nt.Tri.outB (cut_eq' g _) (Nt.Tri.outB (cut_eq' g _) (Nt.Tri.outB (cut_eq' g _) (Nt.Tri.outB (cut_eq' g _) ?_)))
  have cA := cutZ_P E A
  have cB := cutZ_P E B
  have c1 : cutZ E (A.filter fun x => decide (x ∈ B)) = cutP E fun x => decide (x ∈ A) && decide (x ∈ B) := cutZ_in ok fun x _ => by simp [List.mem_filter]
  have c2 : cutZ E ((rngL n).filter fun x => decide (x ∈ A) || decide (x ∈ B)) = cutP E fun x => decide (x ∈ A) || decide (x ∈ B) := cutZ_in ok fun x hx => by
    rw [List.mem_filter, rngL_mem]
    exact ⟨fun z => z.2, fun z => ⟨hx, z⟩⟩
  have c3 : cutZ E (A.filter fun x => !decide (x ∈ B)) = cutP E fun x => decide (x ∈ A) && !decide (x ∈ B) := cutZ_in ok fun x _ => by simp [List.mem_filter]
  have c4 : cutZ E (B.filter fun x => !decide (x ∈ A)) = cutP E fun x => decide (x ∈ B) && !decide (x ∈ A) := cutZ_in ok fun x _ => by simp [List.mem_filter]
  have c5 : cutZ E ((rngL n).filter fun x => !decide (x ∈ A)) = cutP E fun x => !decide (x ∈ A) := cutZ_in ok fun x hx => by
    rw [List.mem_filter, rngL_mem]
    exact ⟨fun z => z.2, fun z => ⟨hx, z⟩⟩
  have both := cut_both (E := E) (fun x => decide (x ∈ A)) (fun x => decide (x ∈ B))
  have apart := cut_apart (E := E) (fun x => decide (x ∈ A)) (fun x => decide (x ∈ B))
  have other := cut_not (E := E) (fun x => decide (x ∈ A))
  rw [decide_eq_false (show ¬ cutZ E A + cutZ E B < cutZ E (A.filter fun x => decide (x ∈ B)) + cutZ E ((rngL n).filter fun x => decide (x ∈ A) || decide (x ∈ B)) by rw [cA, cB, c1, c2]; omega), cnd_f]
  refine Nt.Tri.outB (cut_eq' g _) (Nt.Tri.outB (cut_eq' g _) ?_)
  rw [decide_eq_false (show ¬ cutZ E A + cutZ E B < cutZ E (A.filter fun x => !decide (x ∈ B)) + cutZ E (B.filter fun x => !decide (x ∈ A)) by rw [cA, cB, c3, c4]; omega), cnd_f]
  refine Nt.Tri.outB (cut_eq' g _) ?_
  refine Nt.Tri.outB (rngO_0 (n := n) (by omega) (by omega)) ?_
  rw [d_lcM_p (by omega), d_bnd]
  refine Nt.Tri.outB (cut_eq' g _) ?_
  rw [decide_eq_true (show cutZ E A = cutZ E ((rngL n).filter fun x => !decide (x ∈ A)) by rw [cA, c5, other])]
  show Tri (cnd false _ _) _
  rw [cnd_f]
  refine Nt.Tri.outB (table_eq' g) ?_
  refine Tri.bnd (P := fun z => z = false) ?_ fun z hz => ?_
  · simp only [paper_eq g, tables_same g, d_bnd, d_out, Td.d_and, Td.d_or, d_bndB, d_bndR, Td.addI, Td.subI, Td.ltI, Td.gtI, Td.leI', Td.geI, Td.negI, Td.absI, Td.intB, Td.min2, Td.max2, Td.eqV, Td.neV, Td.inV, Td.niV, decide_true]
    exact Tri.ret rfl
  rw [hz, cnd_f]
  refine Nt.Tri.outB (rngO_0 (n := n) (by omega) (by omega)) ?_
  refine Tri.bnd (Tri.any (by rw [rngL_len]; omega)) fun N hN => ?_
  have mm := nm_of hN
  rw [d_lcM_all (f := fun e => tie (nmF N e.1) (nmF N e.2)) (by omega) fun e he => by
    obtain ⟨u, v, w⟩ := ok e he
    rw [mm.at' e.1 ⟨u, by omega⟩, mm.at' e.2 ⟨by omega, w⟩]
    simp only [d_bnd, d_out, Td.d_and, Td.d_or, d_bndB, d_bndR, Td.addI, Td.subI, Td.ltI, Td.gtI, Td.leI', Td.geI, Td.negI, Td.absI, Td.intB, Td.min2, Td.max2, Td.eqV, Td.neV, Td.inV, Td.niV]
    rw [(mm.two (x := e.1) (y := e.2) ⟨u, by omega⟩ ⟨by omega, w⟩ (by omega)).1]
    rfl, d_bnd]
  refine Nt.Tri.outB (table_eq' (late_nw g mm)) ?_
  refine Nt.Tri.outB (rngO_0 (n := n) (by omega) (by omega)) ?_
  refine Tri.bnd (Tri.foldO0 fun x hx => moved_tri g mm s (rngL_mem.mp hx)) fun o ho => ?_
  rw [ho, outK_nx]
  refine Nt.Tri.outB (lenOk_of (α := Int × Int) (xs := []) (by decide)) ?_
  by_cases e0 : E = []
  · rw [decide_eq_true e0]
    show Tri (cnd false _ _) _
    rw [cnd_f]
    refine Nt.Tri.outB hs ?_
    rw [decide_eq_true rfl]
    exact Tri.ret rfl
  · rw [decide_eq_false e0]
    show Tri (cnd true _ _) _
    rw [cnd_t]
    have pos : 0 < E.length := List.length_pos_iff.mpr e0
    refine Tri.bnd (Tri.pick' (by omega) (by omega)) fun j hj => ?_
    obtain ⟨e, p⟩ := less_perm hj.1 hj.2
    have gl := less_nw g p
    refine Nt.Tri.outB (cat_of (by have := gl.el; rw [List.length_append] at this; omega)) ?_
    refine Nt.Tri.outB (table_eq' gl) ?_
    refine Nt.Tri.outB (rngO_0 (n := n) (by omega) (by omega)) ?_
    refine Tri.bnd (Tri.foldO0 fun x hx => less_tri g p s (rngL_mem.mp hx)) fun o ho => ?_
    rw [ho, outK_nx]
    refine Nt.Tri.outB hs ?_
    rw [decide_eq_true rfl]
    exact Tri.ret rfl
theorem law_is : Tri t_law fun r => r = true := by
  unfold t_law
  simp only [d_bnd, d_out, Td.d_and, Td.d_or, d_bndB, d_bndR, Td.addI, Td.subI, Td.ltI, Td.gtI, Td.leI', Td.geI, Td.negI, Td.absI, Td.intB, Td.min2, Td.max2, Td.eqV, Td.neV, Td.inV, Td.niV]
  refine Nt.Tri.outB (rngO_0 (by decide) (by decide)) ?_
  refine Tri.bnd (Tri.foldO0 fun q hq => lap_tri (rngL_mem.mp hq)) fun o ho => ?_
  rw [ho]
  exact Tri.ret rfl
end T17
end
theorem PySem.Challenge.cw_waysandcuts_k17_whole_cuts_and_holds_holds : PySem.Challenge.rw_waysandcuts_k17_whole_cuts_and_holds.Holds := by
  exact K17.closes (T17.law_good T17.law_is)
