import PyProof.Rows.All
import Wide.All
import OpenK.AllK
import Wide.FinOn
import HandS.ForMost
import HandS.Wide
import HandS.Style
import HandS.TupAny
import HandS.IsInst
import HandS.Zip
import HandS.Walk
import KE.KDictKeyed
import KE.KeyNested
import KE.SortData
import KE.LtData
import KE.DataMinMax
import PyProof.ReprRoads
import KE.KDictWalk
import KE.GoesEnum
import KE.KDictPairs
import KE.KDictSum
import KE.KDictCopyH
import HandS.DictTup
import HandS.Keys
import HandS.Conv
import HandS.Exc
import HandS.Ends
import HandS.Star
import PyProof.ReprLen
import PySem.Challenge.RW_warmeveryhour_k97_whole_great_stoves_and
import KE.KStateDown
import Lean
import HandS.Base
import HandS.Call
import HandS.More
import HandS.Words
import HandS.WordsExc
import HandS.Defaults
import HandS.Head0
import HandS.Head1
import HandS.Head2
import HandS.HeadEnd
import HandS.HeadHook1
import HandS.HeadHook2
set_option Elab.async false
set_option linter.all false
set_option maxRecDepth 100000
/-! The data layer, part 1: data as trees, what a value stands for in the frozen heap, environments. -/
namespace DL
open PySem PySem.Spec PyProof.Rows L2

/-- data: trees; pot is the law's own box of draws -/
inductive D where
  | non | bl (b : Bool) | int (i : Int) | str (s : Str) | tup (xs : List D) | lst (xs : List D) | dct (kvs : List (D × D)) | pot | scr (ns : List Int)

mutual
def D.py : D → PyData
  | .non => .none
  | .bl b => .bool b
  | .int i => .int i
  | .str s => .str s
  | .tup xs => .tuple (D.pys xs)
  | .lst xs => .list (D.pys xs)
  | .dct _ => .dict []
  | .pot => .dict []
  | .scr _ => .dict []
def D.pys : List D → List PyData
  | [] => []
  | x :: xs => x.py :: D.pys xs
end
theorem D.pys_map : ∀ xs : List D, D.pys xs = xs.map D.py
  | [] => rfl
  | x :: xs => by rw [D.pys, D.pys_map xs, List.map_cons]

mutual
/-- no dict, no pot within -/
def D.plain : D → Bool
  | .tup xs => D.plains xs
  | .lst xs => D.plains xs
  | .dct _ => false
  | .pot => false
  | .scr _ => false
  | _ => true
def D.plains : List D → Bool
  | [] => true
  | x :: xs => x.plain && D.plains xs
end
theorem D.plains_all : ∀ xs : List D, D.plains xs = xs.all D.plain
  | [] => rfl
  | x :: xs => by rw [D.plains, D.plains_all xs, List.all_cons]

mutual
/-- as a dict's key -/
def D.nk : D → Option NestedKey
  | .non => some .none
  | .bl b => some (.num (if b = true then 1 else 0))
  | .int i => some (.num i)
  | .str s => some (.text s)
  | .tup xs => (D.nks xs).map .tup
  | .lst _ => none
  | .dct _ => none
  | .pot => none
  | .scr _ => none
def D.nks : List D → Option (List NestedKey)
  | [] => some []
  | x :: xs => match x.nk, D.nks xs with
    | some k, some ks => some (k :: ks)
    | _, _ => none
end

/-- a box: the pot, the script -/
def D.box : D → Bool
  | .pot => true
  | .scr _ => true
  | _ => false
/-- == of data without dicts -/
def eqD (a b : D) : Bool := PyData.eqv a.py b.py
/-- two keys are the same -/
def eqK (a b : D) : Bool := decide (a.nk = b.nk)
def lookD (kvs : List (D × D)) (k : D) : Option D := (kvs.find? fun p => eqK p.1 k).map (·.2)
def putD (kvs : List (D × D)) (k v : D) : List (D × D) := if (kvs.any fun p => eqK p.1 k) = true then kvs.map fun p => if eqK p.1 k = true then (p.1, v) else p else kvs ++ [(k, v)]
/-- a key that is a tuple; an int or a text -/
def isTK (d : D) : Bool := match d with
  | .tup xs => match (D.tup xs).nk with
    | some k => decide (k.depth ≤ 8)
    | none => false
  | _ => false
def isSK (d : D) : Bool := match d with
  | .int _ => true
  | .str _ => true
  | _ => false
/-- k may be looked up in a dict with these entries -/
def kOk (kvs : List (D × D)) (k : D) : Bool := (isTK k && kvs.all fun p => isTK p.1) || (isSK k && kvs.all fun p => isSK p.1)

/-! ### the heap -/
/-- a dict whose keys are tuples: its entries with the keys' addresses -/
def NDict (P : Program) (w : World) (a : Addr) (es : List (NestedKey × Addr × V)) (h : Heap) : Prop :=
  es.length ≤ sizeLine ∧ (a == sysModules) = false ∧ ∃ (ys : List (NestedKey × Addr × Value)) (o : Obj) (ents : Array DictEntry) (ep : Nat),
    Paired (fun (p : NestedKey × Addr × V) (q : NestedKey × Addr × Value) => p.1 = q.1 ∧ p.2.1 = q.2.1 ∧ RelV p.2.2 q.2.2) es ys ∧
    h.get? a = some o ∧ o.ExactDict ∧ o.data = .dict ents ep ∧ ents.toList = ys.map (entryOfKey (nestedKind P w)) ∧ (ys.map (·.1)).Nodup
def dN (P : Program) (w : World) (a : Addr) (es : List (NestedKey × Addr × V)) : HO := .ext (NDict P w a es)
def potMark : HO := .ext fun _ => True

variable {P : Program} {w : World} {K : PySem.W.Frag}

mutual
/-- v stands for d; F: what is frozen -/
inductive Is (P : Program) (w : World) (K : PySem.W.Frag) (F : Hp) : V → D → Prop
  | non : Is P w K F .non .non
  | bl (b : Bool) : Is P w K F (.bl b) (.bl b)
  | int (i : Int) : Is P w K F (.int i) (.int i)
  | str (s : Str) : Is P w K F (.str s) (.str s)
  | tup {a : Addr} {xs : List V} {ds : List D} : SqT K F a xs → IsA P w K F xs ds → Is P w K F (.ref a) (.tup ds)
  | lst {a : Addr} {xs : List V} {ds : List D} : F a = some (.lst xs) → IsA P w K F xs ds → Is P w K F (.ref a) (.lst ds)
  | dctK {a : Addr} {kvs : List (Key × V)} {ps : List (D × D)} : F a = some (.dK kvs) → IsK P w K F kvs ps → Is P w K F (.ref a) (.dct ps)
  | dctN {a : Addr} {es : List (NestedKey × Addr × V)} {ps : List (D × D)} : F a = some (dN P w a es) → IsN P w K F es ps → Is P w K F (.ref a) (.dct ps)
  | pot {a : Addr} : F a = some potMark → Is P w K F (.ref a) .pot
  | scr {a : Addr} {ns : List Int} : SqL K F a (ns.map V.int) → ns.length ≤ 63 → Is P w K F (.ref a) (.scr ns)
inductive IsA (P : Program) (w : World) (K : PySem.W.Frag) (F : Hp) : List V → List D → Prop
  | nil : IsA P w K F [] []
  | cons {v : V} {vs : List V} {d : D} {ds : List D} : Is P w K F v d → IsA P w K F vs ds → IsA P w K F (v :: vs) (d :: ds)
inductive IsK (P : Program) (w : World) (K : PySem.W.Frag) (F : Hp) : List (Key × V) → List (D × D) → Prop
  | nil : IsK P w K F [] []
  | cons {k : Key} {dk d : D} {v : V} {kvs : List (Key × V)} {ps : List (D × D)} : Is P w K F (kV k) dk → Is P w K F v d → IsK P w K F kvs ps → IsK P w K F ((k, v) :: kvs) ((dk, d) :: ps)
inductive IsN (P : Program) (w : World) (K : PySem.W.Frag) (F : Hp) : List (NestedKey × Addr × V) → List (D × D) → Prop
  | nil : IsN P w K F [] []
  | cons {k : NestedKey} {b : Addr} {dk d : D} {v : V} {es : List (NestedKey × Addr × V)} {ps : List (D × D)} : Is P w K F (.ref b) dk → isTK dk = true → dk.nk = some k → Is P w K F v d → IsN P w K F es ps → IsN P w K F ((k, b, v) :: es) ((dk, d) :: ps)
end

def Sub (F F' : Hp) : Prop := ∀ a o, F a = some o → F' a = some o
theorem Sub.refl (F : Hp) : Sub F F := fun _ _ h => h
theorem Sub.trans {F G H : Hp} (h : Sub F G) (h' : Sub G H) : Sub F H := fun a o e => h' a o (h a o e)
theorem Sub.upd {F : Hp} {p : Addr} {o : HO} (h : F p = none) : Sub F (upd F p o) := fun a u e => by
  rw [upd_ne (ne_of_none e h)]; exact e
theorem Sub.sqL {F F' : Hp} (s : Sub F F') {a : Addr} {xs : List V} (h : SqL K F a xs) : SqL K F' a xs := Same.seq s h
theorem Sub.sqT {F F' : Hp} (s : Sub F F') {a : Addr} {xs : List V} (h : SqT K F a xs) : SqT K F' a xs := by
  rcases h with (h | ⟨o, h⟩) | h
  · exact .inl (.inl (s _ _ h))
  · exact .inl (.inr ⟨o, s _ _ h⟩)
  · exact .inr h

mutual
theorem Is.mono {F F' : Hp} (s : Sub F F') : ∀ {v : V} {d : D}, Is P w K F v d → Is P w K F' v d
  | _, _, .non => .non
  | _, _, .bl b => .bl b
  | _, _, .int i => .int i
  | _, _, .str x => .str x
  | _, _, .tup h ha => .tup (s.sqT h) (IsA.mono s ha)
  | _, _, .lst h ha => .lst (s _ _ h) (IsA.mono s ha)
  | _, _, .dctK h ha => .dctK (s _ _ h) (IsK.mono s ha)
  | _, _, .dctN h ha => .dctN (s _ _ h) (IsN.mono s ha)
  | _, _, .pot h => .pot (s _ _ h)
  | _, _, .scr h hl => .scr (s.sqL h) hl
theorem IsA.mono {F F' : Hp} (s : Sub F F') : ∀ {vs : List V} {ds : List D}, IsA P w K F vs ds → IsA P w K F' vs ds
  | _, _, .nil => .nil
  | _, _, .cons h t => .cons (Is.mono s h) (IsA.mono s t)
theorem IsK.mono {F F' : Hp} (s : Sub F F') : ∀ {vs : List (Key × V)} {ds : List (D × D)}, IsK P w K F vs ds → IsK P w K F' vs ds
  | _, _, .nil => .nil
  | _, _, .cons h0 h t => .cons (Is.mono s h0) (Is.mono s h) (IsK.mono s t)
theorem IsN.mono {F F' : Hp} (s : Sub F F') : ∀ {vs : List (NestedKey × Addr × V)} {ds : List (D × D)}, IsN P w K F vs ds → IsN P w K F' vs ds
  | _, _, .nil => .nil
  | _, _, .cons h0 h1 h2 h t => .cons (Is.mono s h0) h1 h2 (Is.mono s h) (IsN.mono s t)
end

theorem IsA.length {F : Hp} : ∀ {vs : List V} {ds : List D}, IsA P w K F vs ds → vs.length = ds.length
  | _, _, .nil => rfl
  | _, _, .cons _ t => by rw [List.length_cons, List.length_cons, IsA.length t]
theorem IsA.append {F : Hp} : ∀ {vs us : List V} {ds es : List D}, IsA P w K F vs ds → IsA P w K F us es → IsA P w K F (vs ++ us) (ds ++ es)
  | _, _, _, _, .nil, h => h
  | _, _, _, _, .cons h t, h' => .cons h (IsA.append t h')
theorem IsA.snoc {F : Hp} {vs : List V} {ds : List D} {v : V} {d : D} (h : IsA P w K F vs ds) (h' : Is P w K F v d) : IsA P w K F (vs ++ [v]) (ds ++ [d]) := h.append (.cons h' .nil)
theorem IsA.get {F : Hp} : ∀ {vs : List V} {ds : List D} {i : Nat} {d : D}, IsA P w K F vs ds → ds[i]? = some d → ∃ v, vs[i]? = some v ∧ Is P w K F v d
  | _, _, _, _, .nil, e => by simp at e
  | _, _, 0, _, .cons h _, e => by simp at e; subst e; exact ⟨_, rfl, h⟩
  | _, _, i + 1, d, .cons _ t, e => by
    obtain ⟨v, e1, e2⟩ := IsA.get (i := i) (d := d) t (by simpa using e)
    exact ⟨v, by simpa using e1, e2⟩
theorem IsA.getV {F : Hp} : ∀ {vs : List V} {ds : List D} {i : Nat} {v : V}, IsA P w K F vs ds → vs[i]? = some v → ∃ d, ds[i]? = some d ∧ Is P w K F v d
  | _, _, _, _, .nil, e => by simp at e
  | _, _, 0, _, .cons h _, e => by simp at e; subst e; exact ⟨_, rfl, h⟩
  | _, _, i + 1, v, .cons _ t, e => by
    obtain ⟨d, e1, e2⟩ := IsA.getV (i := i) (v := v) t (by simpa using e)
    exact ⟨d, by simpa using e1, e2⟩
theorem IsA.take {F : Hp} : ∀ {vs : List V} {ds : List D} (n : Nat), IsA P w K F vs ds → IsA P w K F (vs.take n) (ds.take n)
  | _, _, 0, _ => .nil
  | _, _, _ + 1, .nil => .nil
  | _, _, n + 1, .cons h t => .cons h (IsA.take n t)
theorem IsA.drop {F : Hp} : ∀ {vs : List V} {ds : List D} (n : Nat), IsA P w K F vs ds → IsA P w K F (vs.drop n) (ds.drop n)
  | _, _, 0, h => h
  | _, _, _ + 1, .nil => .nil
  | _, _, n + 1, .cons _ t => IsA.drop n t
theorem IsA.set {F : Hp} {x : V} {dx : D} (hx : Is P w K F x dx) : ∀ {vs : List V} {ds : List D} (n : Nat), IsA P w K F vs ds → IsA P w K F (vs.set n x) (ds.set n dx)
  | _, _, _, .nil => .nil
  | _, _, 0, .cons h t => .cons hx t
  | _, _, n + 1, .cons h t => .cons h (IsA.set hx n t)
theorem IsA.reverse {F : Hp} : ∀ {vs : List V} {ds : List D}, IsA P w K F vs ds → IsA P w K F vs.reverse ds.reverse
  | _, _, .nil => .nil
  | _, _, .cons h t => by rw [List.reverse_cons, List.reverse_cons]; exact (IsA.reverse t).snoc h
theorem IsA.dropLast {F : Hp} {vs : List V} {ds : List D} (h : IsA P w K F vs ds) : IsA P w K F vs.dropLast ds.dropLast := by
  rw [List.dropLast_eq_take, List.dropLast_eq_take, ← h.length]; exact h.take _
theorem IsA.rep {F : Hp} {vs : List V} {ds : List D} (h : IsA P w K F vs ds) : ∀ k : Nat, IsA P w K F (List.replicate k vs).flatten (List.replicate k ds).flatten
  | 0 => .nil
  | k + 1 => by rw [List.replicate_succ, List.replicate_succ, List.flatten_cons, List.flatten_cons]; exact h.append (h.rep k)

/-! ### inversions -/
theorem Is.inv_int {F : Hp} {v : V} {i : Int} (h : Is P w K F v (.int i)) : v = .int i := by cases h; rfl
theorem Is.inv_bl {F : Hp} {v : V} {b : Bool} (h : Is P w K F v (.bl b)) : v = .bl b := by cases h; rfl
theorem Is.inv_str {F : Hp} {v : V} {s : Str} (h : Is P w K F v (.str s)) : v = .str s := by cases h; rfl
theorem Is.inv_non {F : Hp} {v : V} (h : Is P w K F v .non) : v = .non := by cases h; rfl
theorem Is.inv_tup {F : Hp} {v : V} {ds : List D} (h : Is P w K F v (.tup ds)) : ∃ a xs, v = .ref a ∧ SqT K F a xs ∧ IsA P w K F xs ds := by cases h with | tup h1 h2 => exact ⟨_, _, rfl, h1, h2⟩
theorem IsA.ints {F : Hp} : ∀ {vs : List V} {ns : List Int}, IsA P w K F vs (ns.map .int) → vs = ns.map V.int
  | _, [], h => by cases h; rfl
  | _, n :: ns, h => by
    cases h with
    | cons h t => rw [h.inv_int, IsA.ints t]; rfl
theorem IsA.of_ints {F : Hp} : ∀ ns : List Int, IsA P w K F (ns.map V.int) (ns.map .int)
  | [] => .nil
  | n :: ns => .cons (.int n) (IsA.of_ints ns)
theorem IsA.bls {F : Hp} : ∀ {vs : List V} {ns : List Bool}, IsA P w K F vs (ns.map .bl) → vs = ns.map V.bl
  | _, [], h => by cases h; rfl
  | _, n :: ns, h => by
    cases h with
    | cons h t => rw [h.inv_bl, IsA.bls t]; rfl
theorem IsA.of_bls {F : Hp} : ∀ ns : List Bool, IsA P w K F (ns.map V.bl) (ns.map .bl)
  | [] => .nil
  | n :: ns => .cons (.bl n) (IsA.of_bls ns)

/-! ### the frozen heap within the heap -/
/-- the law's box of draws: three whole numbers, the last one at most the number of draws so far -/
def PotOk (k : Nat) (o : Option HO) : Prop := ∃ a b c : Int, o = some (.lst [.int a, .int b, .int c]) ∧ 0 ≤ a ∧ 0 ≤ b ∧ b < 2305843009213693921 ∧ 0 ≤ c ∧ c ≤ (k : Int)
theorem PotOk.mono {k k' : Nat} {o : Option HO} (h : PotOk k o) (l : k ≤ k') : PotOk k' o := by
  obtain ⟨a, b, c, e, h1, h2, h3, h4, h5⟩ := h
  exact ⟨a, b, c, e, h1, h2, h3, h4, by omega⟩
def isDct : HO → Prop
  | .dK _ => True
  | .ext _ => True
  | _ => False
abbrev Lks := Addr → Option Obj
def locked (Lk : Lks) (a : Addr) (o : HO) : HO := match Lk a with
  | none => o
  | some ob => .frz ob o
/-- Fo: the cells of others; Lk: dicts that are walked; k: draws so far; F: what is frozen -/
structure Hs (Fo : Hp) (Lk : Lks) (k : Nat) (F H : Hp) : Prop where
  sub : ∀ a o, F a = some o → (o = potMark ∧ PotOk k (H a)) ∨ (¬ o = potMark ∧ H a = some (locked Lk a o))
  fo : ∀ a o, Fo a = some o → H a = some o ∧ F a = none
  lk : ∀ a ob, Lk a = some ob → (∃ o, F a = some o ∧ isDct o) ∨ (F a = none ∧ ∃ o, H a = some (.frz ob o) ∧ isDct o)
section
variable {Fo F H : Hp} {Lk : Lks} {k : Nat}
theorem Hs.nF (S : Hs Fo Lk k F H) {a : Addr} (h : H a = none) : F a = none := by
  cases e : F a with
  | none => rfl
  | some o =>
    rcases S.sub a o e with ⟨_, _, _, _, q, _⟩ | ⟨_, q⟩
    · rw [h] at q; cases q
    · rw [h] at q; cases q
theorem Hs.noFo (S : Hs Fo Lk k F H) {a : Addr} (h : H a = none) : Fo a = none := by
  cases e : Fo a with
  | none => rfl
  | some o => have q := (S.fo a o e).1; rw [h] at q; cases q
theorem Hs.noLk (S : Hs Fo Lk k F H) {a : Addr} (h : H a = none) : Lk a = none := by
  cases e : Lk a with
  | none => rfl
  | some ob =>
    rcases S.lk a ob e with ⟨o, q, _⟩ | ⟨_, o, q, _⟩
    · rw [S.nF h] at q; cases q
    · rw [h] at q; cases q
theorem Hs.noLkL (S : Hs Fo Lk k F H) {a : Addr} {xs : List V} (hf : F a = none) (h : H a = some (.lst xs)) : Lk a = none := by
  cases e : Lk a with
  | none => rfl
  | some ob =>
    rcases S.lk a ob e with ⟨o, q, _⟩ | ⟨_, o, q, _⟩
    · rw [hf] at q; cases q
    · rw [h] at q; cases q
/-- what is no dict is not walked -/
theorem Hs.noLkF (S : Hs Fo Lk k F H) {a : Addr} {o : HO} (h : F a = some o) (hd : ¬ isDct o) : Lk a = none := by
  cases e : Lk a with
  | none => rfl
  | some ob =>
    rcases S.lk a ob e with ⟨u, q, i⟩ | ⟨q, _⟩
    · rw [h] at q; cases q; exact (hd i).elim
    · rw [h] at q; cases q
theorem Hs.lst (S : Hs Fo Lk k F H) {a : Addr} {xs : List V} (h : F a = some (.lst xs)) : H a = some (.lst xs) := by
  have hl : Lk a = none := S.noLkF h fun z => z
  rcases S.sub a _ h with ⟨q, _⟩ | ⟨_, q⟩
  · exact nomatch q
  · unfold locked at q; rw [hl] at q; exact q
theorem Hs.frz (S : Hs Fo Lk k F H) {a : Addr} {o : Obj} {u : HO} (h : F a = some (.frz o u)) : H a = some (.frz o u) := by
  have hl : Lk a = none := S.noLkF h fun z => z
  rcases S.sub a _ h with ⟨q, _⟩ | ⟨_, q⟩
  · exact nomatch q
  · unfold locked at q; rw [hl] at q; exact q
theorem Hs.tup (S : Hs Fo Lk k F H) {a : Addr} {xs : List V} (h : F a = some (.tup xs)) : H a = some (.tup xs) := by
  have hl : Lk a = none := S.noLkF h fun z => z
  rcases S.sub a _ h with ⟨q, _⟩ | ⟨_, q⟩
  · exact nomatch q
  · unfold locked at q; rw [hl] at q; exact q
theorem Hs.sqL (S : Hs Fo Lk k F H) {a : Addr} {xs : List V} (h : SqL K F a xs) : SqL K H a xs := by
  rcases h with (h | ⟨o, h⟩) | h
  · exact .inl (.inl (S.lst h))
  · exact .inl (.inr ⟨o, S.frz h⟩)
  · exact .inr h
theorem Hs.sqT (S : Hs Fo Lk k F H) {a : Addr} {xs : List V} (h : SqT K F a xs) : SqT K H a xs := by
  rcases h with (h | ⟨o, h⟩) | h
  · exact .inl (.inl (S.tup h))
  · exact .inl (.inr ⟨o, S.frz h⟩)
  · exact .inr h
/-- a new object is laid and frozen -/
theorem Hs.newF (S : Hs Fo Lk k F H) {p : Addr} {o : HO} (hp : H p = Option.none) (ho : ¬ o = potMark) : Hs Fo Lk k (upd F p o) (upd H p o) where
  sub := fun a u e => by
    by_cases ha : a = p
    · subst ha
      rw [upd_same] at e; cases e
      refine .inr ⟨ho, ?_⟩
      rw [upd_same]; unfold locked; rw [S.noLk hp]
    · rw [upd_ne ha] at e ⊢
      exact S.sub a u e
  fo := fun a u e => by
    have ha : a ≠ p := fun z => by subst z; rw [S.noFo hp] at e; cases e
    rw [upd_ne ha, upd_ne ha]
    exact S.fo a u e
  lk := fun a ob e => by
    have ha : a ≠ p := fun z => by subst z; rw [S.noLk hp] at e; cases e
    rw [upd_ne ha, upd_ne ha]
    exact S.lk a ob e
/-- a cell that is neither frozen nor another's is changed -/
theorem Hs.write (S : Hs Fo Lk k F H) {p : Addr} {o : HO} (hp : F p = Option.none) (hf : Fo p = Option.none) (hl : Lk p = Option.none) : Hs Fo Lk k F (upd H p o) where
  sub := fun a u e => by
    have ha : a ≠ p := ne_of_none e hp
    rw [upd_ne ha]
    exact S.sub a u e
  fo := fun a u e => by
    have ha : a ≠ p := ne_of_none e hf
    rw [upd_ne ha]
    exact S.fo a u e
  lk := fun a ob e => by
    have ha : a ≠ p := fun z => by subst z; rw [hl] at e; cases e
    rw [upd_ne ha]
    exact S.lk a ob e
/-- a cell is frozen as it stands -/
theorem Hs.freeze (S : Hs Fo Lk k F H) {p : Addr} {o : HO} (hp : F p = none) (hf : Fo p = none) (hh : H p = some (locked Lk p o)) (ho : ¬ o = potMark) (hd : isDct o ∨ Lk p = none) : Hs Fo Lk k (upd F p o) H where
  sub := fun a u e => by
    by_cases ha : a = p
    · subst ha
      rw [upd_same] at e; cases e
      exact .inr ⟨ho, hh⟩
    · rw [upd_ne ha] at e
      exact S.sub a u e
  fo := fun a u e => by
    have ha : a ≠ p := ne_of_none e hf
    rw [upd_ne ha]
    exact S.fo a u e
  lk := fun a ob e => by
    by_cases ha : a = p
    · subst ha
      rcases hd with hd | hd
      · exact .inl ⟨o, upd_same, hd⟩
      · rw [hd] at e; cases e
    · rw [upd_ne ha]
      exact S.lk a ob e
end

/-! ### environments -/
/-- what a slot holds: unknown; a frozen datum; a list, a dict of the def's own -/
inductive Sl where
  | any | dat (d : D) | ol (ds : List D) | od (kvs : List (D × D)) | odl (kvs : List (D × List D))
structure Ev where
  sl : List Sl
  k : Nat
def getS : List Sl → Nat → Sl
  | [], _ => .any
  | s :: _, 0 => s
  | _ :: r, n + 1 => getS r n
def setS : List Sl → Nat → Sl → List Sl
  | [], _, _ => []
  | _ :: r, 0, x => x :: r
  | s :: r, n + 1, x => s :: setS r n x
theorem getS_set : ∀ (l : List Sl) (i j : Nat) (x : Sl), getS (setS l i x) j = if i = j ∧ i < l.length then x else getS l j
  | [], i, j, x => by simp [setS, getS]
  | s :: r, 0, 0, x => by simp [setS, getS]
  | s :: r, 0, j + 1, x => by simp [setS, getS]
  | s :: r, i + 1, 0, x => by simp [setS, getS]
  | s :: r, i + 1, j + 1, x => by
    simp only [setS, getS, getS_set r i j x, List.length_cons, Nat.add_lt_add_iff_right, Nat.add_right_cancel_iff]
theorem setS_length : ∀ (l : List Sl) (i : Nat) (x : Sl), (setS l i x).length = l.length
  | [], _, _ => rfl
  | _ :: _, 0, _ => rfl
  | _ :: r, i + 1, x => by simp only [setS, List.length_cons, setS_length r i x]
def Ev.get (ρ : Ev) (i : Nat) : Sl := getS ρ.sl i
def Ev.set (ρ : Ev) (i : Nat) (x : Sl) : Ev := ⟨setS ρ.sl i x, ρ.k⟩

/-- an owned dict at p -/
def OwnD (P : Program) (w : World) (K : PySem.W.Frag) (Lk : Lks) (F H : Hp) (p : Addr) (ps : List (D × D)) : Prop :=
  (∃ kvs, H p = some (locked Lk p (.dK kvs)) ∧ IsK P w K F kvs ps) ∨ ∃ es, H p = some (locked Lk p (dN P w p es)) ∧ IsN P w K F es ps
/-- an own dict of own lists, by the cells of others; qs: the lists' cells -/
inductive IsL (P : Program) (w : World) (K : PySem.W.Frag) (F Fo : Hp) : List (NestedKey × Addr × V) → List Addr → List (D × List D) → Prop
  | nil : IsL P w K F Fo [] [] []
  | cons {k : NestedKey} {b q : Addr} {dk : D} {xs : List V} {ds : List D} {es : List (NestedKey × Addr × V)} {qs : List Addr} {ps : List (D × List D)} : Is P w K F (.ref b) dk → isTK dk = true → dk.nk = some k → Fo q = some (.lst xs) → IsA P w K F xs ds → IsL P w K F Fo es qs ps → IsL P w K F Fo ((k, b, .ref q) :: es) (q :: qs) ((dk, ds) :: ps)
theorem IsL.mono {P : Program} {w : World} {K : PySem.W.Frag} {F F' Fo : Hp} (s : Sub F F') : ∀ {es : List (NestedKey × Addr × V)} {qs : List Addr} {ps : List (D × List D)}, IsL P w K F Fo es qs ps → IsL P w K F' Fo es qs ps
  | _, _, _, .nil => .nil
  | _, _, _, .cons a b c d e t => .cons (a.mono s) b c d (e.mono s) (IsL.mono s t)
theorem IsL.fo {P : Program} {w : World} {K : PySem.W.Frag} {F Fo Fo' : Hp} : ∀ {es : List (NestedKey × Addr × V)} {qs : List Addr} {ps : List (D × List D)}, IsL P w K F Fo es qs ps → (∀ q ∈ qs, ∀ o, Fo q = some o → Fo' q = some o) → IsL P w K F Fo' es qs ps
  | _, _, _, .nil, _ => .nil
  | _, _, _, .cons a b c d e t, h => .cons a b c (h _ List.mem_cons_self _ d) e (IsL.fo t fun q hq => h q (List.mem_cons_of_mem _ hq))
def OdL (P : Program) (w : World) (K : PySem.W.Frag) (F Fo : Hp) (p : Addr) (kvs : List (D × List D)) : Prop := ∃ es qs, Fo p = some (dN P w p es) ∧ IsL P w K F Fo es qs kvs ∧ (p :: qs).Nodup
theorem OdL.mono {P : Program} {w : World} {K : PySem.W.Frag} {F F' Fo : Hp} {p : Addr} {kvs : List (D × List D)} (s : Sub F F') (h : OdL P w K F Fo p kvs) : OdL P w K F' Fo p kvs := by
  obtain ⟨es, qs, h1, h2, h3⟩ := h
  exact ⟨es, qs, h1, h2.mono s, h3⟩
theorem IsL.dom {P : Program} {w : World} {K : PySem.W.Frag} {F Fo : Hp} : ∀ {es : List (NestedKey × Addr × V)} {qs : List Addr} {ps : List (D × List D)}, IsL P w K F Fo es qs ps → ∀ q ∈ qs, ∃ o, Fo q = some o
  | _, _, _, .nil, q, h => nomatch h
  | _, _, _, .cons a b c d e t, q, h => by
    rcases List.mem_cons.mp h with z | h
    · rw [z]; exact ⟨_, d⟩
    · exact IsL.dom t q h
/-- other cells may change -/
theorem OdL.fo {P : Program} {w : World} {K : PySem.W.Frag} {F Fo Fo' : Hp} {p : Addr} {kvs : List (D × List D)} (h : OdL P w K F Fo p kvs) (s : ∀ a o, Fo a = some o → Fo' a = some o) : OdL P w K F Fo' p kvs := by
  obtain ⟨es, qs, h1, h2, h3⟩ := h
  exact ⟨es, qs, s _ _ h1, h2.fo fun q _ o e => s q o e, h3⟩
/-- the slot's value is as the environment says -/
def SlIs (P : Program) (w : World) (K : PySem.W.Frag) (Fo : Hp) (Lk : Lks) (F H : Hp) (o : Option (Option V)) : Sl → Prop
  | .any => True
  | .dat d => ∃ v, o = some (some v) ∧ Is P w K F v d
  | .ol ds => ∃ p xs, o = some (some (.ref p)) ∧ F p = none ∧ Fo p = none ∧ H p = some (.lst xs) ∧ IsA P w K F xs ds
  | .od ps => ∃ p, o = some (some (.ref p)) ∧ F p = none ∧ Fo p = none ∧ OwnD P w K Lk F H p ps
  | .odl ps => ∃ p, o = some (some (.ref p)) ∧ OdL P w K F Fo p ps
def Sl.own : Sl → Bool
  | .ol _ => true
  | .od _ => true
  | _ => false
structure Sx (P : Program) (w : World) (K : PySem.W.Frag) (Fo : Hp) (Lk : Lks) (F H : Hp) (σ : L2.St) (ρ : Ev) : Prop where
  hs : Hs Fo Lk ρ.k F H
  len : σ.length = ρ.sl.length
  sl : ∀ i, SlIs P w K Fo Lk F H σ[i]? (ρ.get i)
  sep : ∀ i j p, i ≠ j → (ρ.get i).own = true → (ρ.get j).own = true → σ[i]? = some (some (.ref p)) → σ[j]? = some (some (.ref p)) → False
/-- H grows, but for pots -/
def Gr (F H H' : Hp) : Prop := ∀ a o, H a = some o → ¬ F a = some potMark → H' a = some o
theorem Gr.refl (F H : Hp) : Gr F H H := fun _ _ h _ => h
/-- what is newly frozen is new -/
def New (F H F' : Hp) : Prop := ∀ a o, F a = none → H a = some o → F' a = none
theorem OwnD.some {P : Program} {w : World} {K : PySem.W.Frag} {Lk : Lks} {F H : Hp} {p : Addr} {ps : List (D × D)} (h : OwnD P w K Lk F H p ps) : ∃ o, H p = some o ∧ ∀ F' H', Sub F F' → H' p = some o → OwnD P w K Lk F' H' p ps := by
  rcases h with ⟨kvs, h, i⟩ | ⟨es, h, i⟩
  · exact ⟨_, h, fun F' H' s h' => .inl ⟨kvs, h', i.mono s⟩⟩
  · exact ⟨_, h, fun F' H' s h' => .inr ⟨es, h', i.mono s⟩⟩
/-- a pot is never an own cell -/
theorem Gr.trans {F F' H H' H'' : Hp} (g : Gr F H H') (s : Sub F F') (n : ∀ a, F a = none → F' a = some potMark → H a = none) (g' : Gr F' H' H'') : Gr F H H'' := fun a o h hp => g' a o (g a o h hp) fun z => by
  cases e : F a with
  | none => have q := n a e z; rw [h] at q; cases q
  | some u =>
    have q := s a u e
    rw [z] at q; cases q
    exact hp e
/-- pots are as new as they are frozen -/
def NewP (F H F' : Hp) : Prop := ∀ a, F a = none → F' a = some potMark → H a = none
theorem New.toP {F H F' : Hp} (n : New F H F') : NewP F H F' := fun a h1 h2 => by
  cases e : H a with
  | none => rfl
  | some o => have q := n a o h1 e; rw [h2] at q; cases q
/-- a step: frozen grows by what is new, the heap grows -/
structure Stp (F H F' H' : Hp) : Prop where
  sub : Sub F F'
  gr : Gr F H H'
  new : New F H F'
theorem Sx.step {P : Program} {w : World} {K : PySem.W.Frag} {Fo : Hp} {Lk : Lks} {F H F' H' : Hp} {σ : L2.St} {ρ : Ev} {k : Nat} (S : Sx P w K Fo Lk F H σ ρ) (h : Hs Fo Lk k F' H') (t : Stp F H F' H') : Sx P w K Fo Lk F' H' σ ⟨ρ.sl, k⟩ where
  hs := h
  len := S.len
  sl := fun i => by
    have q := S.sl i
    show SlIs P w K Fo Lk F' H' σ[i]? (ρ.get i)
    cases e : ρ.get i with
    | any => trivial
    | dat d => rw [e] at q; obtain ⟨v, h1, h2⟩ := q; exact ⟨v, h1, h2.mono t.sub⟩
    | ol ds => rw [e] at q; obtain ⟨p, xs, h1, h2, h3, h4, h5⟩ := q; exact ⟨p, xs, h1, t.new p _ h2 h4, h3, t.gr p _ h4 (by rw [h2]; exact fun z => nomatch z), h5.mono t.sub⟩
    | odl ps => rw [e] at q; obtain ⟨p, h1, h2⟩ := q; exact ⟨p, h1, h2.mono t.sub⟩
    | od ps =>
      rw [e] at q
      obtain ⟨p, h1, h2, h3, h4⟩ := q
      obtain ⟨o, h5, h6⟩ := h4.some
      exact ⟨p, h1, t.new p _ h2 h5, h3, h6 F' H' t.sub (t.gr p _ h5 (by rw [h2]; exact fun z => nomatch z))⟩
  sep := S.sep
end DL
/-! The data layer, part 2: the small language, and what it asks of data alone. -/
namespace DL
open PySem PySem.Spec PyProof.Rows L2

inductive BO where
  | add | sub | mul | fdiv | mod | pow
inductive CO where
  | lt | le | gt | ge | eq | ne | isin | notin | is_ | isnt
/-- built-in functions of values -/
inductive Bt where
  | len | abs | min2 | max2 | int | str | repr | isi (T : String)
/-- built-in functions of what can be walked -/
inductive Bi where
  | list | tuple | dict | sorted | min | max | sum | all | any
inductive Mt where
  | get | getD | index | join | split
inductive TgX where
  | nm (i : Nat)
  | one (a : TgX)
  | cons (a b : TgX)
mutual
inductive PX where
  | var (i : Nat)
  | lit (d : D)
  | bin (op : BO) (a b : PX)
  | neg (a : PX)
  | not (a : PX)
  | band (a b : PX)
  | bor (a b : PX)
  | cmp (op : CO) (a b : PX)
  | chain (o1 o2 : CO) (a b c : PX)
  | ife (c a b : PX)
  | tup (xs : PXs)
  | lst (xs : PXs)
  | star (pre : PXs) (x : PX) (post : PXs)
  | dct0
  | dct1 (k v : PX)
  | idx (a i : PX)
  | slc (a : PX) (lo hi : OX)
  | rev (a : PX)
  | call (f : Nat) (args : PXs)
  | blt (b : Bt) (args : PXs)
  | bit (b : Bi) (it : PI)
  | bitv (b : Bi) (a : PX)
  | meth (m : Mt) (o : PX) (args : PXs)
  | opv (S : List D → (D → Prop) → Prop) (args : PXs)
  | opb (S : List D → (D → Prop) → Prop) (args : PXs)
  | sem (W : Ev → (D → Ev → Prop) → Prop)
  | and1 (S : D → (D → Prop) → Prop) (a : PX)
  | lc (elt : PX) (tg : TgX) (it : PI) (cond : OX) (own : List Nat)
inductive PXs where
  | nil
  | cons (a : PX) (r : PXs)
inductive OX where
  | no
  | yes (a : PX)
inductive PI where
  | sq (e : PX)
  | rng1 (a : PX)
  | rng2 (a b : PX)
  | rng3 (a b c : PX)
  | enum (a : PX)
  | zip (a b : PX)
  | items (a : PX)
  | vals (a : PX)
  | semv (S : List D → (List D → Prop) → Prop) (args : PXs)
end

/-! ### what the operations ask -/
/-- the place of an index -/
def ixD (n : Nat) (i : Int) : Option Nat := if 0 ≤ i then (if i < n then some i.toNat else none) else if -(n : Int) ≤ i then some (i + n).toNat else none
def atD (xs : List D) (i : Int) : Option D := (ixD xs.length i).bind fun j => xs[j]?
def rangeD (lo : Int) (n : Nat) : List D := (List.range n).map fun i => .int (lo + (i : Nat))
def downD (lo : Int) (n : Nat) : List D := (List.range n).map fun i => .int (lo + (i : Nat) * (-1))
def enumD : Nat → List D → List D
  | _, [] => []
  | i, x :: xs => .tup [.int (i : Nat), x] :: enumD (i + 1) xs
def zipD (xs ys : List D) : List D := List.zipWith (fun x y => .tup [x, y]) xs ys
def charsD (s : Str) : List D := s.cps.toList.map fun c => .str ⟨#[c]⟩
def cutD (xs : List D) (lo hi : Option Int) : List D := (xs.drop (HT.sIx xs.length 0 lo)).take (HT.sIx xs.length xs.length hi - HT.sIx xs.length 0 lo)
def isT : D → Bool
  | .bl b => b
  | _ => false
def toI : D → Int
  | .int i => i
  | _ => 0
def isBl : D → Bool
  | .bl _ => true
  | _ => false
def isInt : D → Bool
  | .int _ => true
  | _ => false
/-- a < b for data that are alike -/
def ltD (a b : D) : Bool := PySem.W.dataLt a.py b.py
def leD (a b : D) : Bool := PySem.W.dataLe false id a.py b.py
/-- what can be sorted: all pairs are alike, and no two kinds -/
def sortable (xs : List D) : Prop := PySem.W.AllAlike (xs.map D.py) ∧ PySem.W.Sortable (xs.map D.py) ∧ (∀ d ∈ xs, d.plain = true ∧ d.py.depth ≤ 60)
def cmpAll (xs : List D) : Prop := PySem.W.AlikeAll (xs.map D.py) ∧ PyData.depthAll (xs.map D.py) ≤ 60 ∧ D.plains xs = true
def okData (d : D) : Bool := d.plain && SeqAt.shaped d.py

/-- a power of few bits; a product of one small factor, or of few bits -/
def CPw (i j : Int) : Prop := 0 ≤ j ∧ (Builtin.Int.intBits i : Int) * j ≤ 2 ^ 27
def CMx (i j : Int) : Prop := (-(2 ^ 64) < i ∧ i < 2 ^ 64) ∨ (-(2 ^ 64) < j ∧ j < 2 ^ 64) ∨ CMulW i j
def binS (op : BO) (x y : D) (Q : D → Prop) : Prop := match op, x, y with
  | .add, .int i, .int j => Q (.int (i + j))
  | .add, .str a, .str b => a.length + b.length ≤ sizeLine ∧ Q (.str (a ++ b))
  | .add, .lst a, .lst b => a.length + b.length ≤ sizeLine ∧ Q (.lst (a ++ b))
  | .add, .tup a, .tup b => a.length + b.length ≤ sizeLine ∧ Q (.tup (a ++ b))
  | .sub, .int i, .int j => Q (.int (i - j))
  | .mul, .int i, .int j => CMx i j ∧ Q (.int (i * j))
  | .mul, .lst a, .int k => (-(2 ^ 63) ≤ k ∧ k < 2 ^ 63 ∧ a.length * k.toNat ≤ sizeLine) ∧ Q (.lst (List.replicate k.toNat a).flatten)
  | .fdiv, .int i, .int j => CDivW i j ∧ Q (.int (i / j))
  | .mod, .int i, .int j => 0 < j ∧ Q (.int (i % j))
  | .pow, .int i, .int j => CPw i j ∧ Q (.int (i ^ j.toNat))
  | _, _, _ => False
def cmpS (op : CO) (x y : D) (Q : Bool → Prop) : Prop := match op with
  | .lt => match x, y with
    | .int i, .int j => Q (decide (i < j))
    | x, y => (okData x = true ∧ okData y = true ∧ PySem.W.alike x.py y.py = true ∧ ¬ x.py = .none) ∧ Q (ltD x y)
  | .le => match x, y with
    | .int i, .int j => Q (decide (i ≤ j))
    | _, _ => False
  | .gt => match x, y with
    | .int i, .int j => Q (decide (j < i))
    | _, _ => False
  | .ge => match x, y with
    | .int i, .int j => Q (decide (j ≤ i))
    | _, _ => False
  | .eq => match x, y with
    | .int i, .int j => Q (decide (i = j))
    | .str i, .str j => Q (decide (i = j))
    | .dct a, .dct [] => Q a.isEmpty
    | x, y => (okData x = true ∧ okData y = true) ∧ Q (eqD x y)
  | .ne => match x, y with
    | .int i, .int j => Q (!decide (i = j))
    | .str i, .str j => Q (!decide (i = j))
    | .dct a, .dct [] => Q (!a.isEmpty)
    | x, y => (okData x = true ∧ okData y = true) ∧ Q (!eqD x y)
  | .isin => match y with
    | .lst ys => (okData x = true ∧ okData (.lst ys) = true) ∧ Q (ys.any fun z => eqD z x)
    | .tup ys => (okData x = true ∧ okData (.tup ys) = true) ∧ Q (ys.any fun z => eqD z x)
    | .dct kvs => kOk kvs x = true ∧ Q (lookD kvs x).isSome
    | .str b => match x with
      | .str a => Q (!(Builtin.Str.occurrences b a 0 b.length 1).isEmpty)
      | _ => False
    | _ => False
  | .notin => match y with
    | .lst ys => (okData x = true ∧ okData (.lst ys) = true) ∧ Q (!ys.any fun z => eqD z x)
    | .tup ys => (okData x = true ∧ okData (.tup ys) = true) ∧ Q (!ys.any fun z => eqD z x)
    | .dct kvs => kOk kvs x = true ∧ Q (!(lookD kvs x).isSome)
    | .str b => match x with
      | .str a => Q (!(!(Builtin.Str.occurrences b a 0 b.length 1).isEmpty))
      | _ => False
    | _ => False
  | .is_ => match y with
    | .non => Q (match x with | .non => true | _ => false)
    | .bl b => match x with
      | .bl a => Q (decide (a = b))
      | _ => False
    | _ => False
  | .isnt => match y with
    | .non => Q (match x with | .non => false | _ => true)
    | .bl b => match x with
      | .bl a => Q (!decide (a = b))
      | _ => False
    | _ => False
def idxS (x y : D) (Q : D → Prop) : Prop := match x with
  | .lst xs => match y with
    | .int i => match atD xs i with
      | some d => Q d
      | none => False
    | _ => False
  | .tup xs => match y with
    | .int i => match atD xs i with
      | some d => Q d
      | none => False
    | _ => False
  | .scr ns => match y with
    | .int i => match (ixD ns.length i).bind fun j => ns[j]? with
      | some n => Q (.int n)
      | none => False
    | _ => False
  | .str s => match y with
    | .int i => match ixD s.cps.size i with
      | some j => s.length ≤ sizeLine ∧ Q (.str ⟨#[s.cps.getD j 0]⟩)
      | none => False
    | _ => False
  | .dct kvs => kOk kvs y = true ∧ match lookD kvs y with
    | some d => Q d
    | none => False
  | _ => False
def slcS (x : D) (lo hi : Option Int) (Q : D → Prop) : Prop := match x with
  | .lst xs => Q (.lst (cutD xs lo hi))
  | .tup xs => Q (.tup (cutD xs lo hi))
  | .scr ns => Q (.lst (cutD (ns.map .int) lo hi))
  | .str s => s.length ≤ sizeLine ∧ Q (.str (cutS s lo hi))
  | _ => False
def isiD (T : String) : D → Bool
  | .non => T == "NoneType"
  | .bl _ => T == "bool" || T == "int"
  | .int _ => T == "int"
  | .str _ => T == "str"
  | .tup _ => T == "tuple"
  | .lst _ => T == "list"
  | .dct _ => T == "dict"
  | .pot => T == "list"
  | .scr _ => T == "list"
def bltS (b : Bt) (ds : List D) (Q : D → Prop) : Prop := match b, ds with
  | .len, [.lst xs] => Q (.int (xs.length : Nat))
  | .len, [.tup xs] => Q (.int (xs.length : Nat))
  | .len, [.dct xs] => Q (.int (xs.length : Nat))
  | .len, [.scr xs] => Q (.int (xs.length : Nat))
  | .len, [.str s] => s.length ≤ sizeLine ∧ Q (.int (s.length : Nat))
  | .abs, [.int i] => Q (.int (if i < 0 then -i else i))
  | .min2, [.int i, .int j] => Q (.int (if j < i then j else i))
  | .max2, [.int i, .int j] => Q (.int (if j > i then j else i))
  | .int, [.int i] => Q (.int i)
  | .int, [.bl b] => Q (.int (if b = true then 1 else 0))
  | .str, [.int i] => i.natAbs.log2 < 1920 ∧ Q (.str (toString i))
  | .repr, [d] => (d.plain = true ∧ d.py.showable = true ∧ d.py.depth ≤ 60 ∧ d.py.shown.length ≤ sizeLine) ∧ Q (.str d.py.shown)
  | .isi T, [d] => d.box = false ∧ Q (.bl (isiD T d))
  | _, _ => False
/-- the first of the least, of the greatest -/
def minD (x : D) (xs : List D) : D := xs.foldl (fun m y => if ltD y m = true then y else m) x
def maxD (x : D) (xs : List D) : D := xs.foldl (fun m y => if ltD m y = true then y else m) x
def pairsD : List D → Option (List (D × D))
  | [] => some []
  | .tup [k, v] :: r => (pairsD r).map fun ps => (k, v) :: ps
  | _ :: _ => none
def putAll (kvs ps : List (D × D)) : List (D × D) := ps.foldl (fun acc p => putD acc p.1 p.2) kvs
/-- all keys of one kind -/
def keysOk (ps : List (D × D)) : Bool := (ps.all fun p => isTK p.1) || (ps.all fun p => isSK p.1)
/-- the stops of the walk: what is asked and what goes on -/
structure DictS (ds : List D) (Q : D → Prop) : Prop where
  go : match pairsD ds with
    | some ps => keysOk ps = true ∧ Q (.dct (putAll [] ps))
    | none => False
structure SortS (ds : List D) (Q : D → Prop) : Prop where
  ok : sortable ds
  go : Q (.lst (ds.mergeSort leD))
structure MinS (ds : List D) (Q : D → Prop) : Prop where
  ok : cmpAll ds
  go : match ds with
    | [] => False
    | x :: xs => Q (minD x xs)
structure MaxS (ds : List D) (Q : D → Prop) : Prop where
  ok : cmpAll ds
  go : match ds with
    | [] => False
    | x :: xs => Q (maxD x xs)
def bitS (b : Bi) (ds : List D) (Q : D → Prop) : Prop := match b with
  | .list => Q (.lst ds)
  | .tuple => Q (.tup ds)
  | .dict => DictS ds Q
  | .sorted => SortS ds Q
  | .min => MinS ds Q
  | .max => MaxS ds Q
  | .sum => ds.all isInt = true ∧ Q (.int (ds.map toI).sum)
  | .all => ds.all isBl = true ∧ Q (.bl (ds.all isT))
  | .any => ds.all isBl = true ∧ Q (.bl (ds.any isT))
/-- what a built-in may walk, as a value -/
def srcOk (b : Bi) (d : D) : Bool := match b, d with
  | .all, .lst _ => true
  | .any, .lst _ => true
  | .sum, .lst _ => true
  | .min, .lst _ => true
  | .max, .lst _ => true
  | .tuple, .lst _ => true
  | .tuple, .tup _ => true
  | .list, .lst _ => true
  | .list, .tup _ => true
  | .sorted, .lst _ => true
  | .sorted, .dct _ => true
  | .dict, .lst _ => true
  | _, _ => false
def methO (m : Mt) (o : D) : Bool := match m, o with
  | .get, .dct _ => true
  | .getD, .dct _ => true
  | _, _ => false
def methS (m : Mt) (o : D) (ds : List D) (Q : D → Prop) : Prop := match m, o, ds with
  | .get, .dct kvs, [k] => kOk kvs k = true ∧ Q ((lookD kvs k).getD .non)
  | .getD, .dct kvs, [k, x] => kOk kvs k = true ∧ Q ((lookD kvs k).getD x)
  | _, _, _ => False

/-! ### weakest preconditions over data -/
abbrev FSpec := List D → Nat → (D → Nat → Prop) → Prop
abbrev QD := D → Ev → Prop
/-- a name is read where nothing can keep it; w: the reading as a value -/
def brw (e : PX) (we : Ev → QD → Prop) (ρ : Ev) (Q : QD) : Prop := match e with
  | .var i => match ρ.get i with
    | .any => False
    | .dat d => Q d ρ
    | .ol ds => Q (.lst ds) ρ
    | .od ps => Q (.dct ps) ρ
    | .odl _ => False
  | _ => we ρ Q
def bindT : TgX → D → Ev → (Ev → Prop) → Prop
  | .nm i, d, ρ, Q => Q (ρ.set i (.dat d))
  | .one a, d, ρ, Q => match d with
    | .tup [x] => bindT a x ρ Q
    | _ => False
  | .cons a b, d, ρ, Q => match d with
    | .tup (x :: r) => bindT a x ρ fun ρ' => bindT b (.tup r) ρ' Q
    | _ => False
def wipeE (own : List Nat) (ρ : Ev) : Ev := ⟨own.foldr (fun i sl => setS sl i .any) ρ.sl, ρ.k⟩
/-- behind a block: its own slots as they were -/
def backE (own : List Nat) (ρ ρ' : Ev) : Ev := ⟨own.foldr (fun i sl => setS sl i (getS ρ.sl i)) ρ'.sl, ρ'.k⟩
def isOdl : Sl → Bool
  | .odl _ => true
  | _ => false
def noOdl (ρ : Ev) : Bool := ρ.sl.all fun s => !isOdl s
def ownOk (own : List Nat) (ρ : Ev) : Bool := own.all fun i => !(ρ.get i).own
def wpLc (own : List Nat) (tg : TgX) (we wc : Ev → QD → Prop) : List D → List D → Ev → QD → Prop
  | [], acc, ρ, Q => noOdl ρ = true ∧ Q (.lst acc) ρ
  | d :: ds, acc, ρ, Q => (ownOk own ρ && noOdl ρ) = true ∧ bindT tg d (wipeE own ρ) fun ρ1 => wc ρ1 fun c ρ2 => match c with
    | .bl b => if b = true then we ρ2 fun x ρ3 => wpLc own tg we wc ds (acc ++ [x]) (backE own ρ ρ3) Q else wpLc own tg we wc ds acc (backE own ρ ρ2) Q
    | _ => False
def seqS (d : D) (Q : List D → Prop) : Prop := match d with
  | .lst xs => Q xs
  | .tup xs => Q xs
  | .dct ps => Q (ps.map (·.1))
  | .str s => s.length ≤ sizeLine ∧ Q (charsD s)
  | _ => False
def seqS2 (d : D) (Q : List D → Prop) : Prop := match d with
  | .lst xs => Q xs
  | .tup xs => Q xs
  | _ => False
/-- two lists, two tuples -/
def zipS (x y : D) (Q : List D → List D → Prop) : Prop := match x, y with
  | .lst xs, .lst ys => xs.length ≤ sizeLine ∧ Q xs ys
  | .tup xs, .tup ys => xs.length ≤ sizeLine ∧ Q xs ys
  | _, _ => False
structure rngS (lo hi : Int) (Q : List D → Prop) : Prop where
  ok : (-(2 ^ 62) ≤ lo ∧ lo < 2 ^ 62 ∧ -(2 ^ 62) ≤ hi ∧ hi < 2 ^ 62) ∧ (hi - lo).toNat ≤ sizeLine
  go : Q (rangeD lo (hi - lo).toNat)
structure WpLc (own : List Nat) (tg : TgX) (we wc : Ev → QD → Prop) (ds : List D) (ρ : Ev) (Q : QD) : Prop where
  run : wpLc own tg we wc ds [] ρ Q
variable (Γ : Nat → FSpec)
mutual
def wpE : PX → Ev → QD → Prop
  | .var i, ρ, Q => match ρ.get i with
    | .any => False
    | .dat d => Q d ρ
    | .ol ds => Q (.lst ds) (ρ.set i (.dat (.lst ds)))
    | .od ps => Q (.dct ps) (ρ.set i (.dat (.dct ps)))
    | .odl _ => False
  | .lit d, ρ, Q => Q d ρ
  | .bin op a b, ρ, Q => brw a (wpE a) ρ fun x ρ1 => brw b (wpE b) ρ1 fun y ρ2 => binS op x y fun z => Q z ρ2
  | .neg a, ρ, Q => brw a (wpE a) ρ fun x ρ1 => match x with
    | .int i => Q (.int (-i)) ρ1
    | _ => False
  | .not a, ρ, Q => wpE a ρ fun x ρ1 => match x with
    | .bl b => Q (.bl (!b)) ρ1
    | _ => False
  | .band a b, ρ, Q => wpE a ρ fun x ρ1 => match x with
    | .bl c => if c = true then wpE b ρ1 fun y ρ2 => isBl y = true ∧ Q y ρ2 else Q (.bl false) ρ1
    | _ => False
  | .bor a b, ρ, Q => wpE a ρ fun x ρ1 => match x with
    | .bl c => if c = true then Q (.bl true) ρ1 else wpE b ρ1 fun y ρ2 => isBl y = true ∧ Q y ρ2
    | _ => False
  | .cmp op a b, ρ, Q => brw a (wpE a) ρ fun x ρ1 => brw b (wpE b) ρ1 fun y ρ2 => cmpS op x y fun c => Q (.bl c) ρ2
  | .chain o1 o2 a b c, ρ, Q => brw a (wpE a) ρ fun x ρ1 => brw b (wpE b) ρ1 fun y ρ2 => cmpS o1 x y fun k => if k = true then brw c (wpE c) ρ2 fun z ρ3 => cmpS o2 y z fun k' => Q (.bl k') ρ3 else Q (.bl false) ρ2
  | .ife c a b, ρ, Q => wpE c ρ fun x ρ1 => match x with
    | .bl k => if k = true then wpE a ρ1 Q else wpE b ρ1 Q
    | _ => False
  | .tup xs, ρ, Q => wpEs xs ρ fun ds ρ1 => Q (.tup ds) ρ1
  | .lst xs, ρ, Q => wpEs xs ρ fun ds ρ1 => Q (.lst ds) ρ1
  | .star pre x post, ρ, Q => wpEs pre ρ fun ps ρ1 => brw x (wpE x) ρ1 fun y ρ2 => seqS2 y fun ys => wpEs post ρ2 fun qs ρ3 => (ps ++ ys ++ qs).length ≤ sizeLine ∧ Q (.tup (ps ++ ys ++ qs)) ρ3
  | .dct0, ρ, Q => Q (.dct []) ρ
  | .dct1 k v, ρ, Q => wpE k ρ fun x ρ1 => wpE v ρ1 fun y ρ2 => kOk [] x = true ∧ Q (.dct [(x, y)]) ρ2
  | .idx a i, ρ, Q => brw a (wpE a) ρ fun x ρ1 => brw i (wpE i) ρ1 fun y ρ2 => idxS x y fun z => Q z ρ2
  | .slc a lo hi, ρ, Q => brw a (wpE a) ρ fun x ρ1 => wpO lo ρ1 fun l ρ2 => wpO hi ρ2 fun h ρ3 => slcS x l h fun z => Q z ρ3
  | .rev a, ρ, Q => brw a (wpE a) ρ fun x ρ1 => match x with
    | .lst xs => Q (.lst xs.reverse) ρ1
    | _ => False
  | .call f args, ρ, Q => wpEs args ρ fun ds ρ1 => Γ f ds ρ1.k fun d k => Q d ⟨ρ1.sl, k⟩
  | .blt b args, ρ, Q => wpBs args ρ fun ds ρ1 => bltS b ds fun d => Q d ρ1
  | .bit b it, ρ, Q => wpI true it ρ fun ds ρ1 => bitS b ds fun d => Q d ρ1
  | .bitv b a, ρ, Q => brw a (wpE a) ρ fun x ρ1 => srcOk b x = true ∧ seqS x fun ds => bitS b ds fun d => Q d ρ1
  | .meth m o args, ρ, Q => brw o (wpE o) ρ fun x ρ1 => methO m x = true ∧ wpEs args ρ1 fun ds ρ2 => methS m x ds fun d => Q d ρ2
  | .opv S args, ρ, Q => wpEs args ρ fun ds ρ1 => S ds fun d => Q d ρ1
  | .opb S args, ρ, Q => wpBs args ρ fun ds ρ1 => S ds fun d => Q d ρ1
  | .sem W, ρ, Q => W ρ Q
  | .and1 S a, ρ, Q => brw a (wpE a) ρ fun x ρ1 => S x fun d => Q d ρ1
  | .lc elt tg it cond own, ρ, Q => wpI true it ρ fun ds ρ1 => WpLc own tg (wpE elt) (wpT cond) ds ρ1 Q
def wpEs : PXs → Ev → (List D → Ev → Prop) → Prop
  | .nil, ρ, Q => Q [] ρ
  | .cons a r, ρ, Q => wpE a ρ fun x ρ1 => wpEs r ρ1 fun ds ρ2 => Q (x :: ds) ρ2
def wpBs : PXs → Ev → (List D → Ev → Prop) → Prop
  | .nil, ρ, Q => Q [] ρ
  | .cons a r, ρ, Q => brw a (wpE a) ρ fun x ρ1 => wpBs r ρ1 fun ds ρ2 => Q (x :: ds) ρ2
def wpO : OX → Ev → (Option Int → Ev → Prop) → Prop
  | .no, ρ, Q => Q none ρ
  | .yes a, ρ, Q => brw a (wpE a) ρ fun x ρ1 => match x with
    | .int i => Q (some i) ρ1
    | _ => False
def wpT : OX → Ev → QD → Prop
  | .no, ρ, Q => Q (.bl true) ρ
  | .yes a, ρ, Q => wpE a ρ Q
/-- what is walked; b: the walked thing is read where nothing can keep it -/
def wpI : Bool → PI → Ev → (List D → Ev → Prop) → Prop
  | b, .sq e, ρ, Q => (if b = true then brw e (wpE e) else wpE e) ρ fun x ρ1 => seqS x fun ds => Q ds ρ1
  | _, .rng1 a, ρ, Q => brw a (wpE a) ρ fun x ρ1 => match x with
    | .int n => rngS 0 n fun ds => Q ds ρ1
    | _ => False
  | _, .rng2 a b, ρ, Q => brw a (wpE a) ρ fun x ρ1 => brw b (wpE b) ρ1 fun y ρ2 => match x, y with
    | .int m, .int n => rngS m n fun ds => Q ds ρ2
    | _, _ => False
  | _, .rng3 a b c, ρ, Q => brw a (wpE a) ρ fun x ρ1 => brw b (wpE b) ρ1 fun y ρ2 => brw c (wpE c) ρ2 fun z ρ3 => match x, y, z with
    | .int m, .int n, .int k => (k = -1 ∧ (-(2 ^ 62) ≤ m ∧ m < 2 ^ 62 ∧ -(2 ^ 62) ≤ n ∧ n < 2 ^ 62) ∧ (m - n).toNat ≤ sizeLine) ∧ Q (downD m (m - n).toNat) ρ3
    | _, _, _ => False
  | bb, .enum a, ρ, Q => (if bb = true then brw a (wpE a) else wpE a) ρ fun x ρ1 => seqS2 x fun ds => Q (enumD 0 ds) ρ1
  | bb, .zip a b, ρ, Q => (if bb = true then brw a (wpE a) else wpE a) ρ fun x ρ1 => (if bb = true then brw b (wpE b) else wpE b) ρ1 fun y ρ2 => zipS x y fun xs ys => Q (zipD xs ys) ρ2
  | bb, .items a, ρ, Q => (if bb = true then brw a (wpE a) else wpE a) ρ fun x ρ1 => match x with
    | .dct ps => Q (ps.map fun p => .tup [p.1, p.2]) ρ1
    | _ => False
  | bb, .vals a, ρ, Q => (if bb = true then brw a (wpE a) else wpE a) ρ fun x ρ1 => match x with
    | .dct ps => Q (ps.map (·.2)) ρ1
    | _ => False
  | _, .semv S args, ρ, Q => wpBs args ρ fun ds ρ1 => S ds fun xs => Q xs ρ1
end

/-! ### statements -/
inductive PS where
  | skip
  | seq (a b : PS)
  | set (i : Nat) (e : PX)
  | setO (i : Nat) (e : PX)
  | asg (tg : TgX) (e : PX)
  | par (is : List Nat) (os : List Bool) (es : PXs)
  | fz (i : Nat)
  | toL (i : Nat)
  | sdap (i : Nat) (k e : PX)
  | ife (c : PX) (a b : PS)
  | for_ (tg : TgX) (it : PI) (body : PS)
  | whl (c : PX) (body : PS)
  | ret (e : PX)
  | retN
  | brk
  | cont
  | expr (e : PX)
  | app (i : Nat) (e : PX)
  | ext (i : Nat) (e : PX)
  | put (i : Nat) (k e : PX)
  | updv (S : D → Ev → (Ev → Prop) → Prop) (e : PX)
  | sem (W : Ev → (Ev → Prop) → Prop)
  | never
structure Po where
  nx : Ev → Prop
  rt : D → Nat → Prop
  bk : Ev → Prop := fun _ => False
  ct : Ev → Prop := fun _ => False
def ownS (o : Bool) (d : D) (Q : Sl → Prop) : Prop := match o with
  | false => Q (.dat d)
  | true => match d with
    | .lst ds => Q (.ol ds)
    | .dct ps => Q (.od ps)
    | _ => False
def parS : List Nat → List Bool → List D → Ev → (Ev → Prop) → Prop
  | [], [], [], ρ, Q => Q ρ
  | i :: is, o :: os, d :: ds, ρ, Q => ownS o d fun s => parS is os ds (ρ.set i s) Q
  | _, _, _, _, _ => False
/-- no slot but i holds a dict of own lists -/
def onlyOdl (i : Nat) (ρ : Ev) : Bool := noOdl (ρ.set i .any)
def lookL (kvs : List (D × List D)) (k : D) : List D := ((kvs.find? fun p => eqK p.1 k).map (·.2)).getD []
/-- the key k is there -/
def addK : List (D × List D) → D → List (D × List D)
  | [], k => [(k, [])]
  | p :: r, k => if eqK p.1 k = true then p :: r else p :: addK r k
def addL : List (D × List D) → D → D → List (D × List D)
  | [], k, v => [(k, [v])]
  | p :: r, k, v => if eqK p.1 k = true then (p.1, p.2 ++ [v]) :: r else p :: addL r k v
def wpL (tg : TgX) (B : Ev → Po → Prop) (P : Po) : List D → Ev → Prop
  | [], ρ => P.nx ρ
  | d :: ds, ρ => bindT tg d ρ fun ρ1 => B ρ1 { nx := wpL tg B P ds, ct := wpL tg B P ds, bk := P.nx, rt := P.rt }
structure WpL (tg : TgX) (B : Ev → Po → Prop) (P : Po) (ds : List D) (ρ : Ev) : Prop where
  run : wpL tg B P ds ρ
def wpW (C : Ev → QD → Prop) (B : Ev → Po → Prop) (P : Po) : Nat → Ev → Prop
  | 0, _ => False
  | n + 1, ρ => C ρ fun c ρ1 => match c with
    | .bl b => if b = true then B ρ1 { nx := wpW C B P n, ct := wpW C B P n, bk := P.nx, rt := P.rt } else P.nx ρ1
    | _ => False
def putS (s : Sl) (k v : D) (Q : Sl → Prop) : Prop := match s with
  | .ol ds => match k with
    | .int i => match ixD ds.length i with
      | some j => Q (.ol (ds.set j v))
      | none => False
    | _ => False
  | .od ps => (kOk ps k = true ∧ ps.length < sizeLine) ∧ Q (.od (putD ps k v))
  | _ => False
def wpS : PS → Ev → Po → Prop
  | .skip, ρ, P => P.nx ρ
  | .seq a b, ρ, P => wpS a ρ { P with nx := fun ρ1 => wpS b ρ1 P }
  | .set i e, ρ, P => wpE Γ e ρ fun d ρ1 => P.nx (ρ1.set i (.dat d))
  | .setO i e, ρ, P => wpE Γ e ρ fun d ρ1 => ownS true d fun s => P.nx (ρ1.set i s)
  | .asg tg e, ρ, P => wpE Γ e ρ fun d ρ1 => bindT tg d ρ1 P.nx
  | .par is os es, ρ, P => wpEs Γ es ρ fun ds ρ1 => noOdl ρ1 = true ∧ parS is os ds ρ1 P.nx
  | .fz i, ρ, P => match ρ.get i with
    | .odl kvs => onlyOdl i ρ = true ∧ P.nx (ρ.set i (.dat (.dct (kvs.map fun p => (p.1, .lst p.2)))))
    | _ => P.nx ρ
  | .toL i, ρ, P => match ρ.get i with
    | .od [] => noOdl ρ = true ∧ P.nx (ρ.set i (.odl []))
    | _ => False
  | .sdap i k e, ρ, P => match ρ.get i with
    | .odl kvs => wpE Γ k ρ fun x ρ1 => (ρ1.get i = .odl kvs ∧ (onlyOdl i ρ1 && isTK x && decide (kvs.length < sizeLine) && decide ((lookL kvs x).length < sizeLine)) = true) ∧ wpE Γ e (ρ1.set i (.odl (addK kvs x))) fun v ρ2 => (ρ2.get i = .odl (addK kvs x) ∧ onlyOdl i ρ2 = true) ∧ P.nx (ρ2.set i (.odl (addL (addK kvs x) x v)))
    | _ => False
  | .ife c a b, ρ, P => wpE Γ c ρ fun x ρ1 => match x with
    | .bl k => if k = true then wpS a ρ1 P else wpS b ρ1 P
    | _ => False
  | .for_ tg it body, ρ, P => wpI Γ false it ρ fun ds ρ1 => WpL tg (wpS body) P ds ρ1
  | .whl c body, ρ, P => ∃ n, wpW (wpE Γ c) (wpS body) P n ρ
  | .ret e, ρ, P => wpE Γ e ρ fun d ρ1 => P.rt d ρ1.k
  | .retN, ρ, P => P.rt .non ρ.k
  | .brk, ρ, P => P.bk ρ
  | .cont, ρ, P => P.ct ρ
  | .expr e, ρ, P => wpE Γ e ρ fun _ ρ1 => P.nx ρ1
  | .app i e, ρ, P => match ρ.get i with
    | .ol _ => wpE Γ e ρ fun d ρ1 => match ρ1.get i with
      | .ol ds => ds.length < sizeLine ∧ P.nx (ρ1.set i (.ol (ds ++ [d])))
      | _ => False
    | _ => False
  | .ext i e, ρ, P => match ρ.get i with
    | .ol _ => wpE Γ e ρ fun d ρ1 => match ρ1.get i, d with
      | .ol ds, .lst es => ds.length + es.length ≤ sizeLine ∧ P.nx (ρ1.set i (.ol (ds ++ es)))
      | _, _ => False
    | _ => False
  | .put i k e, ρ, P => wpE Γ e ρ fun v ρ1 => match ρ1.get i with
    | .ol _ => wpE Γ k ρ1 fun x ρ2 => putS (ρ2.get i) x v fun s => P.nx (ρ2.set i s)
    | .od _ => wpE Γ k ρ1 fun x ρ2 => putS (ρ2.get i) x v fun s => P.nx (ρ2.set i s)
    | _ => False
  | .updv S e, ρ, P => wpE Γ e ρ fun d ρ1 => S d ρ1 P.nx
  | .sem W, ρ, P => W ρ P.nx
  | .never, _, _ => False
end DL
/-! The data layer, part 3: the judgements, names, operators. -/
namespace DL
open PySem PySem.Spec PyProof.Rows L2

structure Stq (F H F' H' : Hp) : Prop where
  sub : Sub F F'
  gr : Gr F H H'
  np : NewP F H F'
theorem Stq.refl (F H : Hp) : Stq F H F H := ⟨Sub.refl F, Gr.refl F H, fun a h1 h2 => by rw [h1] at h2; cases h2⟩
theorem Stq.trans {F H F' H' F'' H'' : Hp} (a : Stq F H F' H') (b : Stq F' H' F'' H'') : Stq F H F'' H'' where
  sub := a.sub.trans b.sub
  gr := a.gr.trans a.sub a.np b.gr
  np := fun x h1 h2 => by
    cases e : F' x with
    | none =>
      have q := b.np x e h2
      cases e2 : H x with
      | none => rfl
      | some o =>
        have q2 := a.gr x o e2 (by rw [h1]; exact fun z => nomatch z)
        rw [q] at q2; cases q2
    | some u =>
      have q := b.sub x u e
      rw [h2] at q; cases q
      exact a.np x h1 e
theorem Stp.q {F H F' H' : Hp} (t : Stp F H F' H') : Stq F H F' H' := ⟨t.sub, t.gr, t.new.toP⟩
theorem Stp.refl (F H : Hp) : Stp F H F H := ⟨Sub.refl F, Gr.refl F H, fun _ _ h _ => h⟩
theorem Stp.trans {F H F' H' F'' H'' : Hp} (a : Stp F H F' H') (b : Stp F' H' F'' H'') : Stp F H F'' H'' where
  sub := a.sub.trans b.sub
  gr := a.gr.trans a.sub a.new.toP b.gr
  new := fun x o h1 h2 => b.new x o (a.new x o h1 h2) (a.gr x o h2 (by rw [h1]; exact fun z => nomatch z))

abbrev SxX (X : Cx) (Fo : Hp) (Lk : Lks) (F H : Hp) (σ : L2.St) (ρ : Ev) : Prop := Sx X.prog X.w X.K Fo Lk F H σ ρ
abbrev IsX (X : Cx) (F : Hp) (v : V) (d : D) : Prop := Is X.prog X.w X.K F v d
abbrev IsAX (X : Cx) (F : Hp) (v : List V) (d : List D) : Prop := IsA X.prog X.w X.K F v d

/-- what an expression must have, by its own run -/
def TEw (X : Cx) (e : Expr) : TE := fun σ H R => ∀ (pins : List (Addr × Obj)) (s : Shared), Inv X pins σ H s → wpAny (model X.prog X.w) X.A (eval e X.env) (EP X pins σ R) X.xe s
theorem pe_w (X : Cx) (e : Expr) : PE X e (TEw X e) := ⟨fun pins s _ _ _ I h => h pins s I⟩
theorem TEw.of {X : Cx} {e : Expr} {t : TE} {σ : L2.St} {H : Hp} {R : VK} (h : PE X e t) (q : t σ H R) : TEw X e σ H R := fun pins s I => h.run pins s σ H R I q

/-- a value that is read: frozen, or an own list or dict -/
inductive Bor (X : Cx) (Fo : Hp) (Lk : Lks) (F H : Hp) : V → D → Prop
  | fr {v : V} {d : D} : IsX X F v d → Bor X Fo Lk F H v d
  | ol {p : Addr} {xs : List V} {ds : List D} : H p = some (.lst xs) → ¬ F p = some potMark → IsAX X F xs ds → Bor X Fo Lk F H (.ref p) (.lst ds)
  | od {p : Addr} {ps : List (D × D)} : OwnD X.prog X.w X.K Lk F H p ps → ¬ F p = some potMark → Fo p = none → Bor X Fo Lk F H (.ref p) (.dct ps)
theorem Stq.nopot {F H F' H' : Hp} (t : Stq F H F' H') {p : Addr} {o : HO} (h : H p = some o) (hp : ¬ F p = some potMark) : ¬ F' p = some potMark := fun z => by
  cases e : F p with
  | none => have q := t.np p e z; rw [h] at q; cases q
  | some u => have q := t.sub p u e; rw [z] at q; cases q; exact hp e
theorem Bor.mono {X : Cx} {Fo : Hp} {Lk : Lks} {F H F' H' : Hp} {v : V} {d : D} (t : Stq F H F' H') : Bor X Fo Lk F H v d → Bor X Fo Lk F' H' v d
  | .fr h => .fr (h.mono t.sub)
  | .ol h hp i => .ol (t.gr _ _ h hp) (t.nopot h hp) (i.mono t.sub)
  | .od h hp hf => by
    obtain ⟨o, h1, h2⟩ := h.some
    exact .od (h2 F' H' t.sub (t.gr _ _ h1 hp)) (t.nopot h1 hp) hf
section
variable {X : Cx} {Fo : Hp} {Lk : Lks} {F H : Hp} {k : Nat} {v : V}
theorem Bor.int {i : Int} (h : Bor X Fo Lk F H v (.int i)) : v = .int i := by cases h with | fr h => exact h.inv_int
theorem Bor.bl {i : Bool} (h : Bor X Fo Lk F H v (.bl i)) : v = .bl i := by cases h with | fr h => exact h.inv_bl
theorem Bor.str {i : Str} (h : Bor X Fo Lk F H v (.str i)) : v = .str i := by cases h with | fr h => exact h.inv_str
theorem Bor.non (h : Bor X Fo Lk F H v .non) : v = .non := by cases h with | fr h => exact h.inv_non
theorem Bor.tup (S : Hs Fo Lk k F H) {ds : List D} (h : Bor X Fo Lk F H v (.tup ds)) : ∃ p xs, v = .ref p ∧ SqT X.K H p xs ∧ IsAX X F xs ds := by
  cases h with
  | fr h =>
    cases h with
    | tup h1 h2 => exact ⟨_, _, rfl, S.sqT h1, h2⟩
theorem Bor.lst (S : Hs Fo Lk k F H) {ds : List D} (h : Bor X Fo Lk F H v (.lst ds)) : ∃ p xs, v = .ref p ∧ H p = some (.lst xs) ∧ IsAX X F xs ds := by
  cases h with
  | fr h =>
    cases h with
    | lst h1 h2 => exact ⟨_, _, rfl, S.lst h1, h2⟩
  | ol h hp i => exact ⟨_, _, rfl, h, i⟩
/-- a dict that is read -/
theorem Bor.dct (S : Hs Fo Lk k F H) {ps : List (D × D)} (h : Bor X Fo Lk F H v (.dct ps)) : ∃ p, v = .ref p ∧ ((∃ kvs, H p = some (locked Lk p (.dK kvs)) ∧ IsK X.prog X.w X.K F kvs ps) ∨ ∃ es, H p = some (locked Lk p (dN X.prog X.w p es)) ∧ IsN X.prog X.w X.K F es ps) := by
  cases h with
  | fr h =>
    cases h with
    | dctK h1 h2 =>
      rcases S.sub _ _ h1 with ⟨q, _⟩ | ⟨_, q⟩
      · exact nomatch q
      · exact ⟨_, rfl, .inl ⟨_, q, h2⟩⟩
    | @dctN p es ps h1 h2 =>
      rcases S.sub _ _ h1 with ⟨q, b⟩ | ⟨_, q⟩
      · exfalso
        have q' : NDict X.prog X.w p es = fun _ => True := HO.ext.inj q
        have t : NDict X.prog X.w p es ({} : Heap) := by rw [q']; trivial
        obtain ⟨_, _, _, o, _, _, _, e, _⟩ := t
        exact nomatch e
      · exact ⟨_, rfl, .inr ⟨_, q, h2⟩⟩
  | od h hp hf => exact ⟨_, rfl, h⟩
end

variable (Γ : Nat → FSpec)
/-- what is wanted behind an expression, by data -/
def Ct (X : Cx) (Fo : Hp) (Lk : Lks) (F H : Hp) (σ : L2.St) (Q : QD) (R : VK) : Prop :=
  ∀ v F' H' ρ' d, SxX X Fo Lk F' H' σ ρ' → Stq F H F' H' → IsX X F' v d → Q d ρ' → R v H'
def Cb (X : Cx) (Fo : Hp) (Lk : Lks) (F H : Hp) (σ : L2.St) (Q : QD) (R : VK) : Prop :=
  ∀ v F' H' ρ' d, SxX X Fo Lk F' H' σ ρ' → Stq F H F' H' → Bor X Fo Lk F' H' v d → Q d ρ' → R v H'
structure SE (X : Cx) (e : Expr) (p : PX) : Prop where
  run : ∀ {Fo : Hp} {Lk : Lks} {F H : Hp} {σ : L2.St} {ρ : Ev} {Q : QD} {R : VK}, SxX X Fo Lk F H σ ρ → wpE Γ p ρ Q → Ct X Fo Lk F H σ Q R → TEw X e σ H R
structure SB (X : Cx) (e : Expr) (p : PX) : Prop where
  run : ∀ {Fo : Hp} {Lk : Lks} {F H : Hp} {σ : L2.St} {ρ : Ev} {Q : QD} {R : VK}, SxX X Fo Lk F H σ ρ → brw p (wpE Γ p) ρ Q → Cb X Fo Lk F H σ Q R → TEw X e σ H R
structure S2 (X : Cx) (e : Expr) (p : PX) : Prop where
  val : SE Γ X e p
  bor : SB Γ X e p
def PX.isVar : PX → Bool
  | .var _ => true
  | _ => false
theorem brw_no {p : PX} (h : p.isVar = false) (we : Ev → QD → Prop) (ρ : Ev) (Q : QD) : brw p we ρ Q = we ρ Q := by
  cases p <;> first | rfl | cases h
variable {Γ}
theorem SE.two {X : Cx} {e : Expr} {p : PX} (h : SE Γ X e p) (hp : p.isVar = false) : S2 Γ X e p :=
  ⟨h, ⟨fun {Fo Lk F H σ ρ Q R} S q c => h.run S (by rw [brw_no hp] at q; exact q) fun v F' H' ρ' d S' t i q' => c v F' H' ρ' d S' t (.fr i) q'⟩⟩

/-! ### names -/
theorem Ev.get_set (ρ : Ev) (i j : Nat) (x : Sl) : (ρ.set i x).get j = if i = j ∧ i < ρ.sl.length then x else ρ.get j := getS_set ρ.sl i j x
section
variable {P : Program} {w : World} {K : PySem.W.Frag} {Fo : Hp} {Lk : Lks} {F H : Hp} {σ : L2.St} {ρ : Ev} {i : Nat}
/-- an own cell is frozen -/
theorem Sx.freeze (S : Sx P w K Fo Lk F H σ ρ) {p : Addr} {o : HO} {d : D} (ho : (ρ.get i).own = true) (hi : σ[i]? = some (some (.ref p))) (hp : F p = none) (hf : Fo p = none) (hh : H p = some (locked Lk p o)) (hn : ¬ o = potMark) (hd : isDct o ∨ Lk p = none)
    (hI : Is P w K (upd F p o) (.ref p) d) : Sx P w K Fo Lk (upd F p o) H σ (ρ.set i (.dat d)) where
  hs := S.hs.freeze hp hf hh hn hd
  len := by show _ = (setS ρ.sl i _).length; rw [setS_length]; exact S.len
  sl := fun j => by
    rw [Ev.get_set]
    by_cases hij : i = j ∧ i < ρ.sl.length
    · rw [if_pos hij, ← hij.1]
      exact ⟨_, hi, hI⟩
    · rw [if_neg hij]
      have hne : i ≠ j := fun z => hij ⟨z, by
        have := (List.getElem?_eq_some_iff.mp hi).1
        rw [S.len] at this; exact this⟩
      have s : Sub F (upd F p o) := Sub.upd hp
      have q := S.sl j
      cases e : ρ.get j with
      | any => trivial
      | dat d => rw [e] at q; obtain ⟨v, h1, h2⟩ := q; exact ⟨v, h1, h2.mono s⟩
      | ol ds =>
        rw [e] at q
        obtain ⟨r, xs, h1, h2, h3, h4, h5⟩ := q
        have hr : r ≠ p := fun z => by subst z; exact S.sep i j r hne ho (by rw [e]; rfl) hi h1
        exact ⟨r, xs, h1, by rw [upd_ne hr]; exact h2, h3, h4, h5.mono s⟩
      | odl ps => rw [e] at q; obtain ⟨p', h1, h2⟩ := q; exact ⟨p', h1, h2.mono s⟩
      | od ps =>
        rw [e] at q
        obtain ⟨r, h1, h2, h3, h4⟩ := q
        have hr : r ≠ p := fun z => by subst z; exact S.sep i j r hne ho (by rw [e]; rfl) hi h1
        obtain ⟨o', h5, h6⟩ := h4.some
        exact ⟨r, h1, by rw [upd_ne hr]; exact h2, h3, h6 _ H s h5⟩
  sep := fun a b q hab ha hb => by
    rw [Ev.get_set] at ha hb
    refine S.sep a b q hab ?_ ?_
    · split at ha
      · exact nomatch ha
      · exact ha
    · split at hb
      · exact nomatch hb
      · exact hb
theorem dN_ne {a : Addr} {es : List (NestedKey × Addr × V)} : ¬ dN P w a es = potMark := fun q => by
  have q' : NDict P w a es = fun _ => True := HO.ext.inj q
  have t : NDict P w a es ({} : Heap) := by rw [q']; trivial
  obtain ⟨_, _, _, o, _, _, _, e, _⟩ := t
  exact nomatch e
theorem Sx.freezeL (S : Sx P w K Fo Lk F H σ ρ) {ds : List D} (e : ρ.get i = .ol ds) : ∃ p F', σ[i]? = some (some (.ref p)) ∧ Sx P w K Fo Lk F' H σ (ρ.set i (.dat (.lst ds))) ∧ Stq F H F' H ∧ Is P w K F' (.ref p) (.lst ds) := by
  have q := S.sl i
  rw [e] at q
  obtain ⟨p, xs, h1, h2, h3, h4, h5⟩ := q
  have hl := S.hs.noLkL h2 h4
  have hI : Is P w K (upd F p (.lst xs)) (.ref p) (.lst ds) := .lst upd_same (h5.mono (Sub.upd h2))
  refine ⟨p, upd F p (.lst xs), h1, S.freeze (by rw [e]; rfl) h1 h2 h3 (by unfold locked; rw [hl]; exact h4) (fun z => nomatch z) (.inr hl) hI, ⟨Sub.upd h2, Gr.refl _ _, fun a ha hb => ?_⟩, hI⟩
  by_cases hap : a = p
  · subst hap; rw [upd_same] at hb; exact nomatch hb
  · rw [upd_ne hap, ha] at hb; cases hb
theorem Sx.freezeD (S : Sx P w K Fo Lk F H σ ρ) {ds : List (D × D)} (e : ρ.get i = .od ds) : ∃ p F', σ[i]? = some (some (.ref p)) ∧ Sx P w K Fo Lk F' H σ (ρ.set i (.dat (.dct ds))) ∧ Stq F H F' H ∧ Is P w K F' (.ref p) (.dct ds) := by
  have q := S.sl i
  rw [e] at q
  obtain ⟨p, h1, h2, h3, h4⟩ := q
  rcases h4 with ⟨kvs, h4, h5⟩ | ⟨es, h4, h5⟩
  · have hI : Is P w K (upd F p (.dK kvs)) (.ref p) (.dct ds) := .dctK upd_same (h5.mono (Sub.upd h2))
    refine ⟨p, upd F p (.dK kvs), h1, S.freeze (by rw [e]; rfl) h1 h2 h3 h4 (fun z => nomatch z) (.inl trivial) hI, ⟨Sub.upd h2, Gr.refl _ _, fun a ha hb => ?_⟩, hI⟩
    by_cases hap : a = p
    · subst hap; rw [upd_same] at hb; exact nomatch hb
    · rw [upd_ne hap, ha] at hb; cases hb
  · have hI : Is P w K (upd F p (dN P w p es)) (.ref p) (.dct ds) := .dctN upd_same (h5.mono (Sub.upd h2))
    refine ⟨p, upd F p (dN P w p es), h1, S.freeze (by rw [e]; rfl) h1 h2 h3 h4 dN_ne (.inl trivial) hI, ⟨Sub.upd h2, Gr.refl _ _, fun a ha hb => ?_⟩, hI⟩
    by_cases hap : a = p
    · subst hap; rw [upd_same] at hb; exact absurd (Option.some.inj hb) dN_ne
    · rw [upd_ne hap, ha] at hb; cases hb
end
section
variable {X : Cx}
theorem s_var {i : Nat} {x : Str} {pos : Pos} (hN : X.N[i]? = some x) (hv : Vis X.env.scope x) (hd : (x == ("__debug__" : Str)) = false) (hcd : (x == ("__classdict__" : Str)) = false) : S2 Γ X (.Name x pos) (.var i) where
  val := ⟨fun {Fo Lk F H σ ρ Q R} S q c => by
    refine TEw.of (pe_var hN hv hd hcd) ?_
    cases e : ρ.get i with
    | any => simp only [wpE, e] at q
    | dat d =>
      simp only [wpE, e] at q
      have z := S.sl i
      rw [e] at z
      obtain ⟨v, h1, h2⟩ := z
      exact ⟨v, h1, c v F H ρ d S (Stq.refl F H) h2 q⟩
    | ol ds =>
      simp only [wpE, e] at q
      obtain ⟨p, F', h1, S', t, hI⟩ := S.freezeL e
      exact ⟨_, h1, c _ F' H _ _ S' t hI q⟩
    | odl ps => simp only [wpE, e] at q
    | od ps =>
      simp only [wpE, e] at q
      obtain ⟨p, F', h1, S', t, hI⟩ := S.freezeD e
      exact ⟨_, h1, c _ F' H _ _ S' t hI q⟩⟩
  bor := ⟨fun {Fo Lk F H σ ρ Q R} S q c => by
    refine TEw.of (pe_var hN hv hd hcd) ?_
    have z := S.sl i
    cases e : ρ.get i with
    | any => simp only [brw, e] at q
    | dat d =>
      simp only [brw, e] at q
      rw [e] at z
      obtain ⟨v, h1, h2⟩ := z
      exact ⟨v, h1, c v F H ρ d S (Stq.refl F H) (.fr h2) q⟩
    | ol ds =>
      simp only [brw, e] at q
      rw [e] at z
      obtain ⟨p, xs, h1, h2, h3, h4, h5⟩ := z
      exact ⟨_, h1, c _ F H ρ _ S (Stq.refl F H) (.ol h4 (by rw [h2]; exact fun z => nomatch z) h5) q⟩
    | odl ps => simp only [brw, e] at q
    | od ps =>
      simp only [brw, e] at q
      rw [e] at z
      obtain ⟨p, h1, h2, h3, h4⟩ := z
      exact ⟨_, h1, c _ F H ρ _ S (Stq.refl F H) (.od h4 (by rw [h2]; exact fun z => nomatch z) h3) q⟩⟩
/-- a constant -/
theorem s_const {e : Expr} {d : D} {v : V} (h : PE X e (tC v)) (hI : ∀ F, IsX X F v d) : S2 Γ X e (.lit d) :=
  SE.two ⟨fun {Fo Lk F H σ ρ Q R} S q c => TEw.of h (c v F H ρ d S (Stq.refl F H) (hI F) q)⟩ rfl

/-! ### operators by data -/
/-- an operation on two values that are read -/
def DOp (X : Cx) (f : Value → Value → Sem Value) (S : D → D → (D → Prop) → Prop) : Prop :=
  ∀ (pins : List (Addr × Obj)) (s : Shared) (σ : L2.St) (Fo : Hp) (Lk : Lks) (k : Nat) (F H : Hp) (x y : V) (u v : Value) (dx dy : D) (Q : D → Prop) (R : VK), Inv X pins σ H s → Hs Fo Lk k F H → RelV x u → RelV y v → Bor X Fo Lk F H x dx → Bor X Fo Lk F H y dy → S dx dy Q →
    (∀ z F' H' d, Hs Fo Lk k F' H' → Stp F H F' H' → IsX X F' z d → Q d → R z H') → wpAny (model X.prog X.w) X.A (f u v) (EP X pins σ R) X.xe s
/-- by a rule of the hand layer -/
theorem DOp.of {f : Value → Value → Sem Value} {r : R2} {S : D → D → (D → Prop) → Prop} (h : OpR X f r)
    (hr : ∀ (Fo : Hp) (Lk : Lks) (k : Nat) (F H : Hp) (x y : V) (dx dy : D) (Q : D → Prop) (R : VK), Hs Fo Lk k F H → Bor X Fo Lk F H x dx → Bor X Fo Lk F H y dy → S dx dy Q →
      (∀ z F' H' d, Hs Fo Lk k F' H' → Stp F H F' H' → IsX X F' z d → Q d → R z H') → r x y H R) : DOp X f S :=
  fun pins s σ Fo Lk k F H x y u v dx dy Q R I S' ru rv bx bys q c => h pins s σ H x y u v R I ru rv (hr Fo Lk k F H x y dx dy Q R S' bx bys q c)
/-- two values, one behind the other -/
theorem s_two {e a b : Expr} {p : PX} {pa pb : PX} {f : Value → Value → Sem Value} {S : D → D → (D → Prop) → Prop} (ha : SB Γ X a pa) (hb : SB Γ X b pb) (hf : DOp X f S)
    (hp : ∀ ρ Q, wpE Γ p ρ Q = brw pa (wpE Γ pa) ρ fun x ρ1 => brw pb (wpE Γ pb) ρ1 fun y ρ2 => S x y fun z => Q z ρ2)
    (he : ∀ (pins : List (Addr × Obj)) (s : Shared) (σ : L2.St) (R : VK), wpAny (model X.prog X.w) X.A (eval a X.env) (fun v s₁ => wpAny (model X.prog X.w) X.A (eval b X.env) (fun u s₂ => wpAny (model X.prog X.w) X.A (f v u) (EP X pins σ R) X.xe s₂) X.xe s₁) X.xe s → wpAny (model X.prog X.w) X.A (eval e X.env) (EP X pins σ R) X.xe s) : SE Γ X e p :=
  ⟨fun {Fo Lk F H σ ρ Q R} S' q c pins s I => by
    rw [hp] at q
    refine he pins s σ R ?_
    have h1 : TEw X a σ H (fun x H1 => TEw X b σ H1 fun y H2 => ∀ pins s u v, Inv X pins σ H2 s → RelV x u → RelV y v → wpAny (model X.prog X.w) X.A (f u v) (EP X pins σ R) X.xe s) := by
      refine ha.run S' q fun x F1 H1 ρ1 dx S1 t1 b1 q1 => hb.run S1 q1 fun y F2 H2 ρ2 dy S2' t2 b2 q2 => fun pins s u v I ru rv => ?_
      refine hf pins s σ Fo Lk ρ2.k F2 H2 x y u v dx dy _ R I S2'.hs ru rv (b1.mono t2) b2 q2 fun z F3 H3 d h3 t3 i3 q3 => ?_
      exact c z F3 H3 ρ2 d (S2'.step h3 t3) (t1.trans (t2.trans t3.q)) i3 q3
    refine thn (h1 pins s I) fun u s1 ⟨x, H1, I1, r1, q1⟩ => ?_
    refine thn (q1 pins s1 I1) fun v s2 ⟨y, H2, I2, r2, q2⟩ => ?_
    exact q2 pins s2 u v I2 r1 r2⟩
end
end DL
/-! The data layer, part 4: operators. -/
namespace DL
open PySem PySem.Spec PyProof.Rows L2
section
variable {X : Cx} {Fo : Hp} {Lk : Lks} {F H : Hp} {k : Nat} {P : Program} {w : World} {K : PySem.W.Frag}

theorem Stp.lay {p : Addr} {o : HO} (hf : F p = none) (hp : H p = none) : Stp F H (upd F p o) (upd H p o) where
  sub := Sub.upd hf
  gr := fun a u e _ => by rw [upd_ne (ne_of_none e hp)]; exact e
  new := fun a u h1 h2 => by rw [upd_ne (ne_of_none h2 hp)]; exact h1
/-- a new list, a new tuple -/
theorem new_lst (S : Hs Fo Lk k F H) {xs : List V} {ds : List D} (i : IsAX X F xs ds) {p : Addr} (hp : H p = none) : Hs Fo Lk k (upd F p (.lst xs)) (upd H p (.lst xs)) ∧ Stp F H (upd F p (.lst xs)) (upd H p (.lst xs)) ∧ IsX X (upd F p (.lst xs)) (.ref p) (.lst ds) :=
  ⟨S.newF hp (fun z => nomatch z), Stp.lay (S.nF hp) hp, .lst upd_same (i.mono (Sub.upd (S.nF hp)))⟩
theorem new_tup (S : Hs Fo Lk k F H) {xs : List V} {ds : List D} (i : IsAX X F xs ds) {p : Addr} (hp : H p = none) : Hs Fo Lk k (upd F p (.tup xs)) (upd H p (.tup xs)) ∧ Stp F H (upd F p (.tup xs)) (upd H p (.tup xs)) ∧ IsX X (upd F p (.tup xs)) (.ref p) (.tup ds) :=
  ⟨S.newF hp (fun z => nomatch z), Stp.lay (S.nF hp) hp, .tup (SqT.of upd_same) (i.mono (Sub.upd (S.nF hp)))⟩

theorem Bor.tupI {v : V} {ds : List D} (h : Bor X Fo Lk F H v (.tup ds)) : IsX X F v (.tup ds) := by cases h with | fr h => exact h
theorem op_pw : OpR X (binaryOp .Pow) (rI CPw fun i j => .int (i ^ j.toNat)) := opI fun _ _ _ _ _ _ _ hc q => pow_int hc.1 hc.2 q
theorem op_mx : OpR X (binaryOp .Mult) (rI CMx fun i j => .int (i * j)) := fun pins s σ H x y u v R I ru rv q => by
  obtain ⟨i, j, e1, e2, hc, q⟩ := q
  rcases hc with hc | hc | hc
  · exact op_mul pins s σ H x y u v R I ru rv ⟨i, j, e1, e2, .inl hc, q⟩
  · exact op_mul pins s σ H x y u v R I ru rv ⟨i, j, e1, e2, .inr hc, q⟩
  · exact op_mulW pins s σ H x y u v R I ru rv ⟨i, j, e1, e2, hc, q⟩
theorem d_add : DOp X (binaryOp .Add) (binS .add) := by
  intro pins s σ Fo Lk k F H x y u v dx dy Q R I S ru rv bx bys q c
  cases dx with
  | int i =>
    cases dy with
    | int j => exact op_add pins s σ H x y u v R I ru rv ⟨i, j, bx.int, bys.int, c _ F H _ S (Stp.refl F H) (.int _) q⟩
    | _ => exact q.elim
  | str a =>
    cases dy with
    | str b => exact op_add_str pins s σ H x y u v R I ru rv ⟨a, b, bx.str, bys.str, q.1, c _ F H _ S (Stp.refl F H) (.str _) q.2⟩
    | _ => exact q.elim
  | lst a =>
    cases dy with
    | lst b =>
      obtain ⟨p, xs, e1, h1, i1⟩ := bx.lst S
      obtain ⟨p', ys, e2, h2, i2⟩ := bys.lst S
      refine op_cat pins s σ H x y u v R I ru rv ⟨p, p', xs, ys, e1, e2, h1, h2, by rw [i1.length, i2.length]; exact q.1, fun r hr => ?_⟩
      obtain ⟨n1, n2, n3⟩ := new_lst S (i1.append i2) hr
      exact c _ _ _ _ n1 n2 n3 q.2
    | _ => exact q.elim
  | tup a =>
    cases dy with
    | tup b =>
      obtain ⟨p, xs, e1, h1, i1⟩ := bx.tup S
      obtain ⟨p', ys, e2, h2, i2⟩ := bys.tup S
      have hl : xs.length + ys.length ≤ sizeLine := by rw [i1.length, i2.length]; exact q.1
      refine op_catA pins s σ H x y u v R I ru rv ⟨p, p', xs, ys, e1, e2, h1, h2, hl, ?_⟩
      refine ⟨fun z => ?_, fun _ z => ?_, fun _ _ r hr => ?_⟩
      · subst z
        cases i1
        exact c _ F H _ S (Stp.refl F H) (e2 ▸ bys.tupI) q.2
      · subst z
        cases i2
        have q2 := q.2
        rw [List.append_nil] at q2
        exact c _ F H _ S (Stp.refl F H) (e1 ▸ bx.tupI) q2
      · obtain ⟨n1, n2, n3⟩ := new_tup S (i1.append i2) hr
        exact c _ _ _ _ n1 n2 n3 q.2
    | _ => exact q.elim
  | _ => exact q.elim
theorem d_sub : DOp X (binaryOp .Sub) (binS .sub) := by
  intro pins s σ Fo Lk k F H x y u v dx dy Q R I S ru rv bx bys q c
  cases dx with
  | int i =>
    cases dy with
    | int j => exact op_sub pins s σ H x y u v R I ru rv ⟨i, j, bx.int, bys.int, c _ F H _ S (Stp.refl F H) (.int _) q⟩
    | _ => exact q.elim
  | _ => exact q.elim
theorem d_mul : DOp X (binaryOp .Mult) (binS .mul) := by
  intro pins s σ Fo Lk k F H x y u v dx dy Q R I S ru rv bx bys q c
  cases dx with
  | int i =>
    cases dy with
    | int j => exact op_mx pins s σ H x y u v R I ru rv ⟨i, j, bx.int, bys.int, q.1, c _ F H _ S (Stp.refl F H) (.int _) q.2⟩
    | _ => exact q.elim
  | lst a =>
    cases dy with
    | int j =>
      obtain ⟨p, xs, e1, h1, i1⟩ := bx.lst S
      refine op_rep pins s σ H x y u v R I ru rv ⟨p, j, xs, e1, bys.int, h1, q.1.1, q.1.2.1, by rw [i1.length]; exact q.1.2.2, fun r hr => ?_⟩
      obtain ⟨n1, n2, n3⟩ := new_lst S (i1.rep j.toNat) hr
      exact c _ _ _ _ n1 n2 n3 q.2
    | _ => exact q.elim
  | _ => exact q.elim
theorem d_fdiv : DOp X (binaryOp .FloorDiv) (binS .fdiv) := by
  intro pins s σ Fo Lk k F H x y u v dx dy Q R I S ru rv bx bys q c
  cases dx with
  | int i =>
    cases dy with
    | int j => exact op_fdivW pins s σ H x y u v R I ru rv ⟨i, j, bx.int, bys.int, q.1, c _ F H _ S (Stp.refl F H) (.int _) q.2⟩
    | _ => exact q.elim
  | _ => exact q.elim
theorem d_mod : DOp X (binaryOp .Mod) (binS .mod) := by
  intro pins s σ Fo Lk k F H x y u v dx dy Q R I S ru rv bx bys q c
  cases dx with
  | int i =>
    cases dy with
    | int j => exact op_mod pins s σ H x y u v R I ru rv ⟨i, j, bx.int, bys.int, q.1, c _ F H _ S (Stp.refl F H) (.int _) q.2⟩
    | _ => exact q.elim
  | _ => exact q.elim
theorem d_pow : DOp X (binaryOp .Pow) (binS .pow) := by
  intro pins s σ Fo Lk k F H x y u v dx dy Q R I S ru rv bx bys q c
  cases dx with
  | int i =>
    cases dy with
    | int j => exact op_pw pins s σ H x y u v R I ru rv ⟨i, j, bx.int, bys.int, q.1, c _ F H _ S (Stp.refl F H) (.int _) q.2⟩
    | _ => exact q.elim
  | _ => exact q.elim

/-! ### data without dicts, as the library reads it -/
mutual
theorem Is.dp (S : Hs Fo Lk k F H) : ∀ {v : V} {d : D}, Is P w K F v d → d.plain = true → Dp K H v d.py
  | _, _, .non, _ => .non
  | _, _, .bl b, _ => .bl b
  | _, _, .int i, _ => .int i
  | _, _, .str x, _ => .str x
  | _, _, .tup h ha, e => .tup (S.sqT h) (IsA.dp S ha e)
  | _, _, .lst h ha, e => .lst (SqL.of (S.lst h)) (IsA.dp S ha e)
  | _, _, .dctK h ha, e => nomatch e
  | _, _, .dctN h ha, e => nomatch e
  | _, _, .pot h, e => nomatch e
  | _, _, .scr h _, e => nomatch e
theorem IsA.dp (S : Hs Fo Lk k F H) : ∀ {vs : List V} {ds : List D}, IsA P w K F vs ds → D.plains ds = true → DpAll K H vs (D.pys ds)
  | _, _, .nil, _ => .nil
  | _, _, .cons h t, e => .cons (Is.dp S h (Bool.and_eq_true_iff.mp e).1) (IsA.dp S t (Bool.and_eq_true_iff.mp e).2)
end
theorem Bor.dp (S : Hs Fo Lk k F H) {v : V} {d : D} (h : Bor X Fo Lk F H v d) (e : d.plain = true) : Dp X.K H v d.py := by
  cases h with
  | fr h => exact h.dp S e
  | ol h hp i => exact .lst (SqL.of h) (i.dp S e)
  | od h => exact nomatch e
theorem okData_and {d : D} (h : okData d = true) : d.plain = true ∧ SeqAt.shaped d.py = true := Bool.and_eq_true_iff.mp h

theorem d_lt (hu : X.A.units + 70 < cLine) : DOp X (compareOp .Lt) (fun x y Q => cmpS .lt x y fun c => Q (.bl c)) := by
  intro pins s σ Fo Lk k F H x y u v dx dy Q R I S ru rv bx bys q c
  have gen : (okData dx = true ∧ okData dy = true ∧ PySem.W.alike dx.py dy.py = true ∧ ¬ dx.py = .none) ∧ Q (.bl (ltD dx dy)) → wpAny (model X.prog X.w) X.A (compareOp .Lt u v) (EP X pins σ R) X.xe s := by
    rintro ⟨⟨ox, oy, al, nn⟩, q⟩
    obtain ⟨as, rx⟩ := Dp.reads I dx.py x u (bx.dp S (okData_and ox).1) ru
    obtain ⟨bs, ry⟩ := Dp.reads I dy.py y v (bys.dp S (okData_and oy).1) rv
    have hd : dx.py.depth ≤ 64 := of_decide_eq_true (Bool.and_eq_true_iff.mp (okData_and ox).2).2
    refine PySem.W.rcLt_alike dx.py dy.py X.A s u v as bs rx ry al nn (Nat.lt_of_le_of_lt (Nat.add_le_add_left (Nat.le_trans (Nat.min_le_left _ _) hd) _) (by omega)) X.prog X.w X.xe _ ?_
    exact ⟨.bl _, H, I, rfl, c _ F H _ S (Stp.refl F H) (.bl _) q⟩
  cases dx with
  | int i =>
    cases dy with
    | int j => exact op_lt pins s σ H x y u v R I ru rv ⟨i, j, bx.int, bys.int, c _ F H _ S (Stp.refl F H) (.bl _) q⟩
    | _ => exact gen q
  | _ => exact gen q
theorem d_le : DOp X (compareOp .LtE) (fun x y Q => cmpS .le x y fun c => Q (.bl c)) := by
  intro pins s σ Fo Lk k F H x y u v dx dy Q R I S ru rv bx bys q c
  cases dx with
  | int i =>
    cases dy with
    | int j => exact op_le pins s σ H x y u v R I ru rv ⟨i, j, bx.int, bys.int, c _ F H _ S (Stp.refl F H) (.bl _) q⟩
    | _ => exact q.elim
  | _ => exact q.elim
theorem d_gt : DOp X (compareOp .Gt) (fun x y Q => cmpS .gt x y fun c => Q (.bl c)) := by
  intro pins s σ Fo Lk k F H x y u v dx dy Q R I S ru rv bx bys q c
  cases dx with
  | int i =>
    cases dy with
    | int j => exact op_gt pins s σ H x y u v R I ru rv ⟨i, j, bx.int, bys.int, c _ F H _ S (Stp.refl F H) (.bl _) q⟩
    | _ => exact q.elim
  | _ => exact q.elim
theorem d_ge : DOp X (compareOp .GtE) (fun x y Q => cmpS .ge x y fun c => Q (.bl c)) := by
  intro pins s σ Fo Lk k F H x y u v dx dy Q R I S ru rv bx bys q c
  cases dx with
  | int i =>
    cases dy with
    | int j => exact op_ge pins s σ H x y u v R I ru rv ⟨i, j, bx.int, bys.int, c _ F H _ S (Stp.refl F H) (.bl _) q⟩
    | _ => exact q.elim
  | _ => exact q.elim
theorem d_is : DOp X (compareOp .Is) (fun x y Q => cmpS .is_ x y fun c => Q (.bl c)) := by
  intro pins s σ Fo Lk k F H x y u v dx dy Q R I S ru rv bx bys q c
  cases dy with
  | non =>
    refine op_isN pins s σ H x y u v R I ru rv ⟨bys.non, c _ F H _ S (Stp.refl F H) (.bl _) ?_⟩
    cases dx with
    | non => have e := bx.non; subst e; simpa [cmpS] using q
    | bl b => have e := bx.bl; subst e; simpa [cmpS] using q
    | int b => have e := bx.int; subst e; simpa [cmpS] using q
    | str b => have e := bx.str; subst e; simpa [cmpS] using q
    | tup b => obtain ⟨p, xs, e, _, _⟩ := bx.tup S; subst e; simpa [cmpS] using q
    | lst b => obtain ⟨p, xs, e, _, _⟩ := bx.lst S; subst e; simpa [cmpS] using q
    | dct b => obtain ⟨p, e, _⟩ := bx.dct S; subst e; simpa [cmpS] using q
    | pot => cases bx with | fr h => cases h with | pot h => simpa [cmpS] using q
    | scr _ => cases bx with | fr h => cases h with | scr h _ => simpa [cmpS] using q
  | bl b =>
    cases dx with
    | bl a => exact op_isBl pins s σ H x y u v R I ru rv ⟨a, b, bx.bl, bys.bl, c _ F H _ S (Stp.refl F H) (.bl _) q⟩
    | _ => exact q.elim
  | _ => exact q.elim
theorem d_isnt : DOp X (compareOp .IsNot) (fun x y Q => cmpS .isnt x y fun c => Q (.bl c)) := by
  intro pins s σ Fo Lk k F H x y u v dx dy Q R I S ru rv bx bys q c
  cases dy with
  | non =>
    refine op_notN pins s σ H x y u v R I ru rv ⟨bys.non, c _ F H _ S (Stp.refl F H) (.bl _) ?_⟩
    cases dx with
    | non => have e := bx.non; subst e; simpa [cmpS] using q
    | bl b => have e := bx.bl; subst e; simpa [cmpS] using q
    | int b => have e := bx.int; subst e; simpa [cmpS] using q
    | str b => have e := bx.str; subst e; simpa [cmpS] using q
    | tup b => obtain ⟨p, xs, e, _, _⟩ := bx.tup S; subst e; simpa [cmpS] using q
    | lst b => obtain ⟨p, xs, e, _, _⟩ := bx.lst S; subst e; simpa [cmpS] using q
    | dct b => obtain ⟨p, e, _⟩ := bx.dct S; subst e; simpa [cmpS] using q
    | pot => cases bx with | fr h => cases h with | pot h => simpa [cmpS] using q
    | scr _ => cases bx with | fr h => cases h with | scr h _ => simpa [cmpS] using q
  | bl b =>
    cases dx with
    | bl a => exact op_notBl pins s σ H x y u v R I ru rv ⟨a, b, bx.bl, bys.bl, c _ F H _ S (Stp.refl F H) (.bl _) q⟩
    | _ => exact q.elim
  | _ => exact q.elim
end
end DL
/-! The data layer, part 5: dicts. -/
namespace DL
open PySem PySem.Spec PyProof.Rows L2

section
variable {P : Program} {w : World} {K : PySem.W.Frag}
/-- an option of a value stands for an option of data -/
def RO (P : Program) (w : World) (K : PySem.W.Frag) (F : Hp) : Option Value → Option D → Prop
  | none, none => True
  | some u, some d => ∃ v, RelV v u ∧ Is P w K F v d
  | _, _ => False
theorem nks_ok : ∀ {xs : List D} {ks : List NestedKey}, D.nks xs = some ks → xs.length = ks.length
  | [], ks, h => by simp only [D.nks] at h; cases h; rfl
  | x :: xs, ks, h => by
    rw [D.nks] at h
    split at h
    · rename_i k r e1 e2
      cases h
      rw [List.length_cons, List.length_cons, nks_ok e2]
    · cases h
mutual
/-- a value that stands for a key is that key -/
theorem Is.nest {X : Cx} {pins : List (Addr × Obj)} {σ : L2.St} {H : Hp} {s : Shared} {Fo : Hp} {Lk : Lks} {k : Nat} {F : Hp} (I : Inv X pins σ H s) (S : Hs Fo Lk k F H) : ∀ {v : V} {d : D} {u : Value} {n : NestedKey}, IsX X F v d → d.nk = some n → RelV v u → NestedIs s.heap n u
  | _, _, _, _, .non, e, r => by simp only [D.nk] at e; cases e; cases r; exact .none
  | _, _, _, _, .bl b, e, r => by simp only [D.nk] at e; cases e; cases r; exact .bool rfl
  | _, _, _, _, .int i, e, r => by simp only [D.nk] at e; cases e; obtain ⟨t, rfl⟩ := r; exact .int _ _
  | _, _, _, _, .str x, e, r => by simp only [D.nk] at e; cases e; obtain ⟨t, rfl⟩ := r; exact .text _ _
  | _, _, _, n, .tup (ds := ds) h ha, e, r => by
    simp only [D.nk] at e
    obtain ⟨ks, e1, rfl⟩ := Option.map_eq_some_iff.mp e
    cases r
    obtain ⟨its, rv, ⟨o, ho, hc, m, hd⟩, _⟩ := I.tuple (S.sqT h)
    exact .tup ho hc hd (IsA.nest I S ha e1 rv)
  | _, _, _, _, .lst _ _, e, _ => by simp only [D.nk] at e; cases e
  | _, _, _, _, .dctK _ _, e, _ => by simp only [D.nk] at e; cases e
  | _, _, _, _, .dctN _ _, e, _ => by simp only [D.nk] at e; cases e
  | _, _, _, _, .pot _, e, _ => by simp only [D.nk] at e; cases e
  | _, _, _, _, .scr _ _, e, _ => by simp only [D.nk] at e; cases e
theorem IsA.nest {X : Cx} {pins : List (Addr × Obj)} {σ : L2.St} {H : Hp} {s : Shared} {Fo : Hp} {Lk : Lks} {k : Nat} {F : Hp} (I : Inv X pins σ H s) (S : Hs Fo Lk k F H) : ∀ {vs : List V} {ds : List D} {us : List Value} {ns : List NestedKey}, IsAX X F vs ds → D.nks ds = some ns → Vals vs us → NestedAll s.heap ns us
  | _, _, _, _, .nil, e, r => by simp only [D.nks] at e; cases e; cases r; exact .nil
  | _, _, _, _, .cons h t, e, r => by
    rw [D.nks] at e
    split at e
    · rename_i k ks e1 e2
      cases e
      cases r with
      | cons r1 r2 => exact .cons (Is.nest I S h e1 r1) (IsA.nest I S t e2 r2)
    · cases e
end
theorem isTK_inv {d : D} (h : isTK d = true) : ∃ xs n, d = .tup xs ∧ d.nk = some n ∧ n.depth ≤ 8 := by
  cases d with
  | tup xs =>
    unfold isTK at h
    simp only at h
    split at h
    · rename_i k e
      exact ⟨xs, k, rfl, e, of_decide_eq_true h⟩
    · cases h
  | _ => cases h
/-- a key as the hand layer has it -/
theorem isSK_inv {F : Hp} {v : V} {d : D} (h : isSK d = true) (i : Is P w K F v d) : ∃ key : Key, v = kV key ∧ d.nk = some (match key with | .inl j => .num j | .inr x => .text x) := by
  cases d with
  | int j => exact ⟨.inl j, i.inv_int, rfl⟩
  | str x => exact ⟨.inr x, i.inv_str, rfl⟩
  | _ => cases h
def keyN : Key → NestedKey
  | .inl j => .num j
  | .inr x => .text x
theorem keyN_inj {a b : Key} (h : keyN a = keyN b) : a = b := by
  cases a <;> cases b <;> simp_all [keyN]
theorem kV_nk {F : Hp} {key : Key} {d : D} (i : Is P w K F (kV key) d) : d.nk = some (keyN key) := by
  cases key with
  | inl j => have i' : Is P w K F (.int j) d := i; cases i'; rfl
  | inr x => have i' : Is P w K F (.str x) d := i; cases i'; rfl
theorem eqK_k {F : Hp} {a b : Key} {da db : D} (ha : Is P w K F (kV a) da) (hb : Is P w K F (kV b) db) : eqK da db = decide (a = b) := by
  unfold eqK
  rw [kV_nk ha, kV_nk hb]
  exact decide_eq_decide.mpr ⟨fun e => keyN_inj (Option.some.inj e), fun e => by rw [e]⟩
theorem eqK_n {a b : NestedKey} {da db : D} (ha : da.nk = some a) (hb : db.nk = some b) : eqK da db = decide (a = b) := by
  unfold eqK
  rw [ha, hb]
  exact decide_eq_decide.mpr ⟨fun e => Option.some.inj e, fun e => by rw [e]⟩
theorem lookD_cons (p : D × D) (ps : List (D × D)) (k : D) : lookD (p :: ps) k = if eqK p.1 k = true then some p.2 else lookD ps k := by
  unfold lookD
  rw [List.find?_cons]
  split <;> simp_all
theorem valueAt_cons {κ : Type} [DecidableEq κ] (p : κ × Value) (ps : List (κ × Value)) (k : κ) : valueAt (p :: ps) k = if p.1 = k then some p.2 else valueAt ps k := by
  unfold valueAt
  rw [List.find?_cons]
  by_cases h : p.1 = k <;> simp [h]
theorem look_k {F : Hp} {key : Key} {dk : D} (hk : Is P w K F (kV key) dk) : ∀ {kv : List (Key × V)} {vs : List (Key × Value)} {ps : List (D × D)}, KV kv vs → IsK P w K F kv ps → RO P w K F (valueAt vs key) (lookD ps dk)
  | _, _, _, .nil, .nil => trivial
  | _, _, _, .cons (a := (k1, v1)) (b := (k2, u2)) r t, .cons h0 h ht => by
    obtain ⟨e, rv⟩ := r
    have e' : k1 = k2 := e
    subst e'
    rw [valueAt_cons, lookD_cons, eqK_k h0 hk]
    by_cases hh : k1 = key
    · rw [if_pos hh, if_pos (by exact decide_eq_true hh)]
      exact ⟨_, rv, h⟩
    · rw [if_neg hh, if_neg (by simpa using hh)]
      exact look_k hk t ht
theorem look_n {F : Hp} {n : NestedKey} {dk : D} (hk : dk.nk = some n) : ∀ {es : List (NestedKey × Addr × V)} {ys : List (NestedKey × Addr × Value)} {ps : List (D × D)}, Paired (fun (p : NestedKey × Addr × V) (q : NestedKey × Addr × Value) => p.1 = q.1 ∧ p.2.1 = q.2.1 ∧ RelV p.2.2 q.2.2) es ys → IsN P w K F es ps → RO P w K F (valueAt (pairsH ys) n) (lookD ps dk)
  | _, _, _, .nil, .nil => trivial
  | _, _, _, .cons (a := (k1, b1, v1)) (b := (k2, b2, u2)) r t, .cons h0 h1 h2 h ht => by
    obtain ⟨e, _, rv⟩ := r
    have e' : k1 = k2 := e
    subst e'
    show RO P w K F (valueAt ((k1, u2) :: pairsH _) n) _
    rw [valueAt_cons, lookD_cons, eqK_n h2 hk]
    by_cases hh : k1 = n
    · rw [if_pos hh, if_pos (by exact decide_eq_true hh)]
      exact ⟨_, rv, h⟩
    · rw [if_neg hh, if_neg (by simpa using hh)]
      exact look_n hk t ht
end

/-- a dict and a key, as the library has them -/
inductive DAt (X : Cx) (F : Hp) (h : Heap) (p : Addr) (ps : List (D × D)) (dk : D) (u : Value) : Prop
  | kk {kv : List (Key × V)} {vs : List (Key × Value)} {key : Key} : h.DictOf (mixKind X.prog X.w) p vs → KV kv vs → IsK X.prog X.w X.K F kv ps → RelV (kV key) u → IsX X F (kV key) dk → DAt X F h p ps dk u
  | nn {es : List (NestedKey × Addr × V)} {ys : List (NestedKey × Addr × Value)} {n : NestedKey} {b : Addr} : h.DictOfH (nestedKind X.prog X.w) p ys → Paired (fun (p : NestedKey × Addr × V) (q : NestedKey × Addr × Value) => p.1 = q.1 ∧ p.2.1 = q.2.1 ∧ RelV p.2.2 q.2.2) es ys → IsN X.prog X.w X.K F es ps →
      u = .ref b → (nestedKind X.prog X.w).is h n b → dk.nk = some n → IsX X F (.ref b) dk → DAt X F h p ps dk u
section
variable {X : Cx} {pins : List (Addr × Obj)} {σ : L2.St} {Fo : Hp} {Lk : Lks} {k : Nat} {F H : Hp} {s : Shared} {p : Addr} {ps : List (D × D)} {dk : D} {u : Value} {x : V}
theorem locked_ok (I : Inv X pins σ H s) {o : HO} (h : H p = some (locked Lk p o)) : ObjOk X.prog X.w H s.heap p o := by
  unfold locked at h
  cases e : Lk p with
  | none => rw [e] at h; exact I.hok p _ h
  | some ob => rw [e] at h; exact (I.hok p _ h).2
theorem locked_rd {o : HO} (h : H p = some (locked Lk p o)) : Rd H p o := by
  unfold locked at h
  cases e : Lk p with
  | none => rw [e] at h; exact .inl h
  | some ob => rw [e] at h; exact .inr ⟨ob, h⟩
theorem isN_keys (I : Inv X pins σ H s) (S : Hs Fo Lk k F H) : ∀ {es : List (NestedKey × Addr × V)} {ys : List (NestedKey × Addr × Value)} {ps : List (D × D)}, Paired (fun (p : NestedKey × Addr × V) (q : NestedKey × Addr × Value) => p.1 = q.1 ∧ p.2.1 = q.2.1 ∧ RelV p.2.2 q.2.2) es ys → IsN X.prog X.w X.K F es ps → ∀ y ∈ ys, (nestedKind X.prog X.w).is s.heap y.1 y.2.1
  | _, _, _, .nil, .nil => fun y hy => absurd hy (by simp)
  | _, _, _, .cons (a := (k1, b1, v1)) (b := (k2, b2, u2)) r t, .cons h0 h1 h2 h ht => fun y hy => by
    obtain ⟨e, e2, rv⟩ := r
    have e' : k1 = k2 := e
    have e2' : b1 = b2 := e2
    subst e' e2'
    rcases List.mem_cons.mp hy with z | z
    · subst z
      obtain ⟨xs, n, _, hn, hd⟩ := isTK_inv h1
      rw [h2] at hn; cases hn
      exact ⟨h0.nest I S h2 rfl, hd⟩
    · exact isN_keys I S t ht y z
theorem dictOf_nil {h : Heap} {vs : List (Key × Value)} (d : h.DictOf (mixKind X.prog X.w) p vs) (e : vs = []) : h.DictOfH (nestedKind X.prog X.w) p [] := by
  subst e
  obtain ⟨o, es, ep, h1, h2, h3, h4, h5, h6⟩ := d
  cases hh : es.toList with
  | nil => exact ⟨o, es, ep, h1, h2, h3, by rw [hh]; rfl, fun y hy => absurd hy (by simp), List.nodup_nil⟩
  | cons a r => rw [hh] at h5; cases h5
theorem dictOfH_nil {h : Heap} {ys : List (NestedKey × Addr × Value)} (d : h.DictOfH (nestedKind X.prog X.w) p ys) (e : ys = []) : h.DictOf (mixKind X.prog X.w) p [] := by
  subst e
  obtain ⟨o, es, ep, h1, h2, h3, h4, h5, h6⟩ := d
  have hh : es.toList = [] := h4
  refine ⟨o, es, ep, h1, h2, h3, fun e he => ?_, by rw [hh]; exact .nil, List.nodup_nil⟩
  have : e ∈ es.toList := Array.mem_toList_iff.mpr he
  rw [hh] at this
  exact absurd this (by simp)
theorem isK_nil {F : Hp} {kv : List (Key × V)} (h : IsK X.prog X.w X.K F kv []) : kv = [] := by cases h; rfl
theorem isN_nil {F : Hp} {kv : List (NestedKey × Addr × V)} (h : IsN X.prog X.w X.K F kv []) : kv = [] := by cases h; rfl
theorem isK_kind {F : Hp} : ∀ {kv : List (Key × V)} {ps : List (D × D)}, IsK X.prog X.w X.K F kv ps → (ps.all fun p => isTK p.1) = true → ps = []
  | _, _, .nil, _ => rfl
  | _, _, .cons (k := key) (dk := dk) h0 h t, e => by
    exfalso
    rw [List.all_cons, Bool.and_eq_true] at e
    obtain ⟨xs, n, e1, e2, _⟩ := isTK_inv e.1
    have e1' : dk = .tup xs := e1
    subst e1'
    cases key with
    | inl j => have h0' : IsX X F (.int j) (.tup xs) := h0; cases h0'
    | inr j => have h0' : IsX X F (.str j) (.tup xs) := h0; cases h0'
theorem isN_kind {F : Hp} : ∀ {kv : List (NestedKey × Addr × V)} {ps : List (D × D)}, IsN X.prog X.w X.K F kv ps → (ps.all fun p => isSK p.1) = true → ps = []
  | _, _, .nil, _ => rfl
  | _, _, .cons (dk := dk) h0 h1 h2 h t, e => by
    exfalso
    rw [List.all_cons, Bool.and_eq_true] at e
    obtain ⟨xs, n, e1, _⟩ := isTK_inv h1
    have e1' : dk = .tup xs := e1
    subst e1'
    exact nomatch e.1
theorem DAt.of (I : Inv X pins σ H s) (S : Hs Fo Lk k F H) (hd : (∃ kvs, H p = some (locked Lk p (.dK kvs)) ∧ IsK X.prog X.w X.K F kvs ps) ∨ ∃ es, H p = some (locked Lk p (dN X.prog X.w p es)) ∧ IsN X.prog X.w X.K F es ps)
    (hk : kOk ps dk = true) (ix : IsX X F x dk) (ru : RelV x u) : DAt X F s.heap p ps dk u ∧ (p == sysModules) = false := by
  unfold kOk at hk
  rw [Bool.or_eq_true, Bool.and_eq_true, Bool.and_eq_true] at hk
  have tk : isTK dk = true → ∃ b n, u = .ref b ∧ x = .ref b ∧ (nestedKind X.prog X.w).is s.heap n b ∧ dk.nk = some n ∧ IsX X F (.ref b) dk := fun t => by
    obtain ⟨xs, n, e, hn, hd⟩ := isTK_inv t
    subst e
    obtain ⟨a, ys, e, _, _⟩ := ix.inv_tup
    subst e
    cases ru
    exact ⟨a, n, rfl, rfl, ⟨ix.nest I S hn rfl, hd⟩, hn, ix⟩
  rcases hd with ⟨kvs, h, i⟩ | ⟨es, h, i⟩
  · obtain ⟨z, hs, vs, rel, dd⟩ := locked_ok I h
    refine ⟨?_, hs⟩
    rcases hk with ⟨t, ha⟩ | ⟨t, ha⟩
    · have e := isK_kind i ha
      subst e
      have e := isK_nil i
      subst e
      cases rel
      obtain ⟨b, n, e1, e2, h1, h2, h3⟩ := tk t
      exact .nn (dictOf_nil dd rfl) .nil .nil e1 h1 h2 h3
    · obtain ⟨key, e, _⟩ := isSK_inv t ix
      subst e
      exact .kk dd rel i ru ix
  · obtain ⟨⟨z, hs, ys, o, ents, ep, rel, h1, h2, h3, h4, h5⟩, _⟩ := (show NDict X.prog X.w p es s.heap ∧ _ from locked_ok I h)
    have dd : s.heap.DictOfH (nestedKind X.prog X.w) p ys := ⟨o, ents, ep, h1, h2, h3, h4, isN_keys I S rel i, h5⟩
    refine ⟨?_, hs⟩
    rcases hk with ⟨t, ha⟩ | ⟨t, ha⟩
    · obtain ⟨b, n, e1, e2, h1, h2, h3⟩ := tk t
      exact .nn dd rel i e1 h1 h2 h3
    · have e := isN_kind i ha
      subst e
      have e := isN_nil i
      subst e
      cases rel
      obtain ⟨key, e, _⟩ := isSK_inv t ix
      subst e
      exact .kk (dictOfH_nil dd rfl) .nil .nil ru ix
theorem room_n {A : Around} (hu : A.units + 70 < cLine) : (nestedKind X.prog X.w).room A.in1 := by show A.units + 1 + 8 < cLine; omega
theorem RO.some_of {F : Hp} {o : Option Value} {d : D} (h : RO X.prog X.w X.K F o (some d)) : ∃ u v, o = some u ∧ RelV v u ∧ IsX X F v d := by
  cases o with
  | none => exact h.elim
  | some u => obtain ⟨v, h1, h2⟩ := h; exact ⟨u, v, rfl, h1, h2⟩
theorem RO.isSome {F : Hp} {o : Option Value} {d : Option D} (h : RO X.prog X.w X.K F o d) : o.isSome = d.isSome := by
  cases o <;> cases d <;> first | rfl | exact h.elim
theorem RO.getD {F : Hp} {o : Option Value} {d : Option D} (h : RO X.prog X.w X.K F o d) {u : Value} {v : V} {e : D} (ru : RelV v u) (hi : IsX X F v e) : ∃ v', RelV v' (o.getD u) ∧ IsX X F v' (d.getD e) := by
  cases o with
  | none => cases d with
    | none => exact ⟨v, ru, hi⟩
    | some _ => exact h.elim
  | some x => cases d with
    | none => exact h.elim
    | some y => exact h
theorem dat_get {A : Around} {d : D} (hu : A.units + 70 < cLine) (g : DAt X F s.heap p ps dk u) (e : lookD ps dk = some d) : ∃ r v, RelV v r ∧ IsX X F v d ∧
    ∀ (E : Value → Shared → Prop) (Q : Value → Shared → Prop), (∀ t, Q r { s with toks := t }) → wpAny (model X.prog X.w) A (getItem (.ref p) u) Q E s := by
  cases g with
  | kk dd rel i ru ix =>
    have q := look_k ix rel i
    rw [e] at q
    obtain ⟨r, v, h1, h2, h3⟩ := q.some_of
    exact ⟨r, v, h2, h3, fun E Q h => wpAny_getItem_of (kV_is ru) dd.mapOf h1 (h _)⟩
  | nn dd rel i eb hk hn ix =>
    subst eb
    have q := look_n hn rel i
    rw [e] at q
    obtain ⟨r, v, h1, h2, h3⟩ := q.some_of
    exact ⟨r, v, h2, h3, fun E Q h => getItem_keyed (room_n hu) hk ⟨_, dd, rfl⟩ h1 (h _)⟩
theorem DAt.typeIs (g : DAt X F s.heap p ps dk u) : s.TypeIs (.ref p) "dict" := by
  cases g with
  | kk dd _ _ _ _ => exact dd.typeIs
  | nn dd _ _ _ _ _ _ => exact dd.typeIs
theorem dat_in {A : Around} {E : Value → Shared → Prop} {Q : Value → Shared → Prop} (hu : A.units + 70 < cLine) (hp : (p == sysModules) = false) (g : DAt X F s.heap p ps dk u) (h : ∀ t, Q (.bool (lookD ps dk).isSome) { s with toks := t }) :
    wpAny (model X.prog X.w) A (compareOp .In u (.ref p)) Q E s := by
  cases g with
  | kk dd rel i ru ix =>
    have q := (look_k ix rel i).isSome
    refine wpAny_in_of (kV_is ru) hp dd.mapOf ?_
    rw [q]; exact h _
  | nn dd rel i eb hk hn ix =>
    subst eb
    have q := (look_n hn rel i).isSome
    refine in_keyed (room_n hu) hk hp ⟨_, dd, rfl⟩ ?_
    rw [q]; exact h _
theorem dat_notIn {A : Around} {E : Value → Shared → Prop} {Q : Value → Shared → Prop} (hu : A.units + 70 < cLine) (hp : (p == sysModules) = false) (g : DAt X F s.heap p ps dk u) (h : ∀ t, Q (.bool (!(lookD ps dk).isSome)) { s with toks := t }) :
    wpAny (model X.prog X.w) A (compareOp .NotIn u (.ref p)) Q E s := by
  cases g with
  | kk dd rel i ru ix =>
    have q := (look_k ix rel i).isSome
    refine wpAny_notIn_of (kV_is ru) hp dd.mapOf ?_
    rw [q]; exact h _
  | nn dd rel i eb hk hn ix =>
    subst eb
    have q := (look_n hn rel i).isSome
    refine notIn_keyed (room_n hu) hk hp ⟨_, dd, rfl⟩ ?_
    rw [q]; exact h _
end
end DL
/-! The data layer, part 6: == and in, subscripts. -/
namespace DL
open PySem PySem.Spec PyProof.Rows L2
section
variable {X : Cx} {Fo : Hp} {Lk : Lks} {F H : Hp} {k : Nat}

theorem okData_lst {ds : List D} (h : okData (.lst ds) = true) : D.plains ds = true := (okData_and h).1
theorem any_py (x : PyData) : ∀ ds : List D, ((D.pys ds).any fun z => PyData.eqv z x) = ds.any fun z => PyData.eqv z.py x
  | [] => rfl
  | d :: ds => by rw [D.pys, List.any_cons, List.any_cons, any_py x ds]
theorem Bor.key {v : V} {d : D} (h : Bor X Fo Lk F H v d) (hk : isTK d = true ∨ isSK d = true) : IsX X F v d := by
  cases h with
  | fr h => exact h
  | ol h hp i => rcases hk with z | z <;> cases z
  | od h hp => rcases hk with z | z <;> cases z
theorem kOk_or {ps : List (D × D)} {d : D} (h : kOk ps d = true) : isTK d = true ∨ isSK d = true := by
  unfold kOk at h
  rw [Bool.or_eq_true, Bool.and_eq_true, Bool.and_eq_true] at h
  exact h.imp (·.1) (·.1)
theorem d_in (hu : X.A.units + 70 < cLine) : DOp X (compareOp .In) (fun x y Q => cmpS .isin x y fun c => Q (.bl c)) := by
  intro pins s σ Fo Lk k F H x y u v dx dy Q R I S ru rv bx bys q c
  cases dy with
  | lst ys =>
    obtain ⟨⟨ox, oy⟩, q⟩ := q
    obtain ⟨as, rx⟩ := Dp.reads I dx.py x u (bx.dp S (okData_and ox).1) ru
    obtain ⟨bs, ry⟩ := Dp.reads I (D.lst ys).py y v (bys.dp S (okData_and oy).1) rv
    refine SeqAt.in_list_reads (xs := D.pys ys) ry rx (SeqAt.canLay_of_shaped (okData_and oy).2) (SeqAt.canLay_of_shaped (okData_and ox).2) (room_in_shaped (okData_and ox).2 (by omega)) ?_
    rw [any_py]
    exact ⟨.bl _, H, I, rfl, c _ F H _ S (Stp.refl F H) (.bl _) q⟩
  | tup ys =>
    obtain ⟨⟨ox, oy⟩, q⟩ := q
    obtain ⟨as, rx⟩ := Dp.reads I dx.py x u (bx.dp S (okData_and ox).1) ru
    obtain ⟨bs, ry⟩ := Dp.reads I (D.tup ys).py y v (bys.dp S (okData_and oy).1) rv
    refine SeqAt.in_tuple_reads (xs := D.pys ys) ry rx (SeqAt.canLay_of_shaped (okData_and oy).2) (SeqAt.canLay_of_shaped (okData_and ox).2) (room_in_shaped (okData_and ox).2 (by omega)) ?_
    rw [any_py]
    exact ⟨.bl _, H, I, rfl, c _ F H _ S (Stp.refl F H) (.bl _) q⟩
  | dct ps =>
    obtain ⟨hk, q⟩ := q
    obtain ⟨p, e, hd⟩ := bys.dct S
    subst e
    cases rv
    obtain ⟨g, hp⟩ := DAt.of I S hd hk (bx.key (kOk_or hk)) ru
    exact dat_in hu hp g fun t => ⟨.bl _, H, I.tok _, rfl, c _ F H _ S (Stp.refl F H) (.bl _) q⟩
  | str b =>
    cases dx with
    | str a => exact op_in_str pins s σ H x y u v R I ru rv ⟨a, b, bx.str, bys.str, c _ F H _ S (Stp.refl F H) (.bl _) q⟩
    | _ => exact q.elim
  | _ => exact q.elim
theorem d_notin (hu : X.A.units + 70 < cLine) : DOp X (compareOp .NotIn) (fun x y Q => cmpS .notin x y fun c => Q (.bl c)) := by
  intro pins s σ Fo Lk k F H x y u v dx dy Q R I S ru rv bx bys q c
  cases dy with
  | lst ys =>
    obtain ⟨⟨ox, oy⟩, q⟩ := q
    obtain ⟨as, rx⟩ := Dp.reads I dx.py x u (bx.dp S (okData_and ox).1) ru
    obtain ⟨bs, ry⟩ := Dp.reads I (D.lst ys).py y v (bys.dp S (okData_and oy).1) rv
    refine SeqAt.notIn_list_reads (xs := D.pys ys) ry rx (SeqAt.canLay_of_shaped (okData_and oy).2) (SeqAt.canLay_of_shaped (okData_and ox).2) (room_in_shaped (okData_and ox).2 (by omega)) ?_
    rw [any_py]
    exact ⟨.bl _, H, I, rfl, c _ F H _ S (Stp.refl F H) (.bl _) q⟩
  | tup ys =>
    obtain ⟨⟨ox, oy⟩, q⟩ := q
    obtain ⟨as, rx⟩ := Dp.reads I dx.py x u (bx.dp S (okData_and ox).1) ru
    obtain ⟨bs, ry⟩ := Dp.reads I (D.tup ys).py y v (bys.dp S (okData_and oy).1) rv
    refine SeqAt.notIn_tuple_reads (xs := D.pys ys) ry rx (SeqAt.canLay_of_shaped (okData_and oy).2) (SeqAt.canLay_of_shaped (okData_and ox).2) (room_in_shaped (okData_and ox).2 (by omega)) ?_
    rw [any_py]
    exact ⟨.bl _, H, I, rfl, c _ F H _ S (Stp.refl F H) (.bl _) q⟩
  | dct ps =>
    obtain ⟨hk, q⟩ := q
    obtain ⟨p, e, hd⟩ := bys.dct S
    subst e
    cases rv
    obtain ⟨g, hp⟩ := DAt.of I S hd hk (bx.key (kOk_or hk)) ru
    exact dat_notIn hu hp g fun t => ⟨.bl _, H, I.tok _, rfl, c _ F H _ S (Stp.refl F H) (.bl _) q⟩
  | str b =>
    cases dx with
    | str a => exact L2.op_notIn_str pins s σ H x y u v R I ru rv ⟨a, b, bx.str, bys.str, c _ F H _ S (Stp.refl F H) (.bl _) q⟩
    | _ => exact q.elim
  | _ => exact q.elim

/-- a dict against the empty one -/
theorem pairs_nil {prog : Program} {w : World} {A : Around} {E : Value → Shared → Prop} {s : Shared} {nm : String} {a b : Addr} {oa ob : Obj} {es es' : Array DictEntry} {ep ep' : Nat} {Q : Bool → Shared → Prop} (ha : (a == sysModules) = false) (hb : (b == sysModules) = false)
    (hoa : s.heap.get? a = some oa) (hda : oa.data = .dict es ep) (hob : s.heap.get? b = some ob) (hdb : ob.data = .dict es' ep') (hz : es'.size = 0) (h : Q (decide (es.size = 0)) s) :
    wpAny (model prog w) A (Builtin.Dict.samePairs nm a b) Q E s := by
  unfold Builtin.Dict.samePairs Builtin.Dict.showsAll
  rw [if_neg (show ¬ (a == sysModules) = true by rw [ha]; decide), if_neg (show ¬ (b == sysModules) = true by rw [hb]; decide)]
  refine wpAny_bind (wpAny_pure (wpAny_bind (wpAny_pure ?_)))
  refine wpAny_bind (wpAny_dictEntries hoa hda ?_)
  dsimp only
  refine wpAny_bind (wpAny_dictEntries hob hdb ?_)
  by_cases hs : es.size = 0
  · rw [if_neg (by rw [hs, hz]; simp)]
    rw [decide_eq_true hs] at h
    refine wpAny_bind (wpAny_dictEpoch hoa hda ?_)
    refine wpAny_bind ?_
    rw [Std.Legacy.Range.forIn_eq_forIn_range']
    simp only [Std.Legacy.Range.size, hs, Nat.sub_zero, Nat.add_sub_cancel, Nat.div_one, List.range'_zero, List.forIn_nil]
    exact wpAny_pure (wpAny_pure h)
  · rw [if_pos (by rw [hz]; simpa using hs)]
    rw [decide_eq_false hs] at h
    exact wpAny_bind (wpAny_rule (wpAny_pure h))
theorem isK_len {F : Hp} : ∀ {kv : List (Key × V)} {ps : List (D × D)}, IsK X.prog X.w X.K F kv ps → kv.length = ps.length
  | _, _, .nil => rfl
  | _, _, .cons _ _ t => by rw [List.length_cons, List.length_cons, isK_len t]
theorem isN_len {F : Hp} : ∀ {kv : List (NestedKey × Addr × V)} {ps : List (D × D)}, IsN X.prog X.w X.K F kv ps → kv.length = ps.length
  | _, _, .nil => rfl
  | _, _, .cons _ _ _ _ t => by rw [List.length_cons, List.length_cons, isN_len t]
/-- a dict's object -/
theorem raw_of {pins : List (Addr × Obj)} {σ : L2.St} {s : Shared} {p : Addr} {ps : List (D × D)} (I : Inv X pins σ H s) (hd : (∃ kvs, H p = some (locked Lk p (.dK kvs)) ∧ IsK X.prog X.w X.K F kvs ps) ∨ ∃ es, H p = some (locked Lk p (dN X.prog X.w p es)) ∧ IsN X.prog X.w X.K F es ps) :
    (p == sysModules) = false ∧ ps.length ≤ sizeLine ∧ ∃ o es ep, s.heap.get? p = some o ∧ o.ExactDict ∧ o.data = .dict es ep ∧ es.size = ps.length := by
  rcases hd with ⟨kvs, h, i⟩ | ⟨es, h, i⟩
  · obtain ⟨z, hs, vs, rel, o, es, ep, h1, h2, h3, h4, h5, h6⟩ := locked_ok I h
    refine ⟨hs, by rw [← isK_len i]; exact z, o, es, ep, h1, h2, h3, ?_⟩
    rw [← isK_len i, rel.length, ← h5.length, Array.length_toList]
  · obtain ⟨⟨z, hs, ys, o, ents, ep, rel, h1, h2, h3, h4, h5⟩, _⟩ := (show NDict X.prog X.w p es s.heap ∧ _ from locked_ok I h)
    refine ⟨hs, by rw [← isN_len i]; exact z, o, ents, ep, h1, h2, h3, ?_⟩
    rw [← isN_len i, Paired.length rel, ← Array.length_toList, h4, List.length_map]
theorem d_eq (hu : X.A.units + 70 < cLine) : DOp X (compareOp .Eq) (fun x y Q => cmpS .eq x y fun c => Q (.bl c)) := by
  intro pins s σ Fo Lk k F H x y u v dx dy Q R I S ru rv bx bys q c
  have gen : (okData dx = true ∧ okData dy = true) ∧ Q (.bl (eqD dx dy)) → wpAny (model X.prog X.w) X.A (compareOp .Eq u v) (EP X pins σ R) X.xe s := by
    rintro ⟨⟨ox, oy⟩, q⟩
    exact op_eqD (by omega) pins s σ H x y u v R I ru rv ⟨_, _, bx.dp S (okData_and ox).1, bys.dp S (okData_and oy).1, (okData_and ox).2, (okData_and oy).2, c _ F H _ S (Stp.refl F H) (.bl _) q⟩
  cases dx with
  | int i =>
    cases dy with
    | int j => exact op_eq pins s σ H x y u v R I ru rv ⟨by rw [bx.int, bys.int]; rfl, by rw [bx.int, bys.int, show decide (V.int i = V.int j) = decide (i = j) from decide_eq_decide.mpr ⟨fun e => V.int.inj e, fun e => by rw [e]⟩]; exact c _ F H _ S (Stp.refl F H) (.bl _) q⟩
    | _ => exact gen q
  | str i =>
    cases dy with
    | str j => exact op_eq pins s σ H x y u v R I ru rv ⟨by rw [bx.str, bys.str]; rfl, by rw [bx.str, bys.str, show decide (V.str i = V.str j) = decide (i = j) from decide_eq_decide.mpr ⟨fun e => V.str.inj e, fun e => by rw [e]⟩]; exact c _ F H _ S (Stp.refl F H) (.bl _) q⟩
    | _ => exact gen q
  | dct a =>
    cases dy with
    | dct b =>
      cases b with
      | cons _ _ => exact nomatch q.1.1
      | nil =>
        obtain ⟨p, e, hd⟩ := bx.dct S
        obtain ⟨p', e', hd'⟩ := bys.dct S
        subst e e'
        cases ru
        cases rv
        obtain ⟨ha, _, oa, es, ep, h1, h2, h3, h4⟩ := raw_of I hd
        obtain ⟨hb, _, ob, es', ep', g1, g2, g3, g4⟩ := raw_of I hd'
        have ta : s.TypeIs (.ref p) "dict" := ⟨oa, h1, h2.1⟩
        have tb : s.TypeIs (.ref p') "dict" := ⟨ob, g1, g2.1⟩
        refine wpAny_richCompare_same_room (op := .Eq) ta tb PySem.F.slot_dict_eq (wpAny_call_entry PySem.F.slot_dict_eq ta PySem.F.entry_dict_eq ?_ (PySem.F.args_dict_eq_2 _ _)) (by omega)
        show wpAny _ _ (Builtin.Dict.dictSlotArgs "__eq__" ⟨[.ref p, .ref p'], []⟩ >>= _) _ _ s
        refine wpAny_bind ?_
        unfold Builtin.Dict.dictSlotArgs
        refine wpAny_bind (wpAny_notOrdered_dict ta ?_)
        show wpAny _ _ (pure (Value.ref p, Value.ref p')) _ _ s
        refine wpAny_pure ?_
        refine wpAny_bind (wpAny_isInstance (T := "dict") tb PySem.F.sub_dict_dict ?_)
        simp only [Bool.not_true, Bool.false_eq_true, if_false]
        refine wpAny_bind (wpAny_pure (wpAny_bind (wpAny_pure ?_)))
        refine wpAny_bind (pairs_nil ha hb h1 h3 g1 g3 (by rw [g4]; rfl) ?_)
        refine wpAny_pure ⟨_, rfl, ⟨(fun z => nomatch z), ?_⟩⟩
        refine ⟨.bl a.isEmpty, H, I, ?_, c _ F H _ S (Stp.refl F H) (.bl _) q⟩
        show Value.bool _ = Value.bool _
        rw [h4]
        cases a <;> rfl
    | _ => exact gen q
  | _ => exact gen q
theorem d_ne (hu : X.A.units + 70 < cLine) : DOp X (compareOp .NotEq) (fun x y Q => cmpS .ne x y fun c => Q (.bl c)) := by
  intro pins s σ Fo Lk k F H x y u v dx dy Q R I S ru rv bx bys q c
  have gen : (okData dx = true ∧ okData dy = true) ∧ Q (.bl (!eqD dx dy)) → wpAny (model X.prog X.w) X.A (compareOp .NotEq u v) (EP X pins σ R) X.xe s := by
    rintro ⟨⟨ox, oy⟩, q⟩
    exact op_neD (by omega) pins s σ H x y u v R I ru rv ⟨_, _, bx.dp S (okData_and ox).1, bys.dp S (okData_and oy).1, (okData_and ox).2, (okData_and oy).2, c _ F H _ S (Stp.refl F H) (.bl _) q⟩
  cases dx with
  | int i =>
    cases dy with
    | int j => exact op_ne pins s σ H x y u v R I ru rv ⟨by rw [bx.int, bys.int]; rfl, by rw [bx.int, bys.int, show decide (V.int i = V.int j) = decide (i = j) from decide_eq_decide.mpr ⟨fun e => V.int.inj e, fun e => by rw [e]⟩]; exact c _ F H _ S (Stp.refl F H) (.bl _) q⟩
    | _ => exact gen q
  | str i =>
    cases dy with
    | str j => exact op_ne pins s σ H x y u v R I ru rv ⟨by rw [bx.str, bys.str]; rfl, by rw [bx.str, bys.str, show decide (V.str i = V.str j) = decide (i = j) from decide_eq_decide.mpr ⟨fun e => V.str.inj e, fun e => by rw [e]⟩]; exact c _ F H _ S (Stp.refl F H) (.bl _) q⟩
    | _ => exact gen q
  | dct a =>
    cases dy with
    | dct b =>
      cases b with
      | cons _ _ => exact nomatch q.1.1
      | nil =>
        obtain ⟨p, e, hd⟩ := bx.dct S
        obtain ⟨p', e', hd'⟩ := bys.dct S
        subst e e'
        cases ru
        cases rv
        obtain ⟨ha, _, oa, es, ep, h1, h2, h3, h4⟩ := raw_of I hd
        obtain ⟨hb, _, ob, es', ep', g1, g2, g3, g4⟩ := raw_of I hd'
        have ta : s.TypeIs (.ref p) "dict" := ⟨oa, h1, h2.1⟩
        have tb : s.TypeIs (.ref p') "dict" := ⟨ob, g1, g2.1⟩
        refine wpAny_richCompare_same_room (op := .NotEq) ta tb PySem.F.slot_dict_ne (wpAny_call_entry PySem.F.slot_dict_ne ta PySem.F.entry_dict_ne ?_ (PySem.F.args_dict_ne_2 _ _)) (by omega)
        show wpAny _ _ (Builtin.Dict.dictSlotArgs "__ne__" ⟨[.ref p, .ref p'], []⟩ >>= _) _ _ s
        refine wpAny_bind ?_
        unfold Builtin.Dict.dictSlotArgs
        refine wpAny_bind (wpAny_notOrdered_dict ta ?_)
        show wpAny _ _ (pure (Value.ref p, Value.ref p')) _ _ s
        refine wpAny_pure ?_
        refine wpAny_bind (wpAny_isInstance (T := "dict") tb PySem.F.sub_dict_dict ?_)
        simp only [Bool.not_true, Bool.false_eq_true, if_false]
        refine wpAny_bind (wpAny_pure (wpAny_bind (wpAny_pure ?_)))
        refine wpAny_bind (pairs_nil ha hb h1 h3 g1 g3 (by rw [g4]; rfl) ?_)
        refine wpAny_pure ⟨_, rfl, ⟨(fun z => nomatch z), ?_⟩⟩
        refine ⟨.bl (!a.isEmpty), H, I, ?_, c _ F H _ S (Stp.refl F H) (.bl _) q⟩
        show Value.bool _ = Value.bool _
        rw [h4]
        cases a <;> rfl
    | _ => exact gen q
  | _ => exact gen q
theorem atI_is {xs : List V} {ds : List D} {i : Int} {d : D} (h : IsAX X F xs ds) (e : atD ds i = some d) : ∃ v, atI xs i = some v ∧ IsX X F v d := by
  unfold atD at e
  obtain ⟨j, h1, h2⟩ := Option.bind_eq_some_iff.mp e
  obtain ⟨v, h3, h4⟩ := h.get h2
  refine ⟨v, ?_, h4⟩
  unfold atI
  rw [h.length]
  show (ixD ds.length i).bind _ = _
  rw [h1]
  exact h3
theorem d_idx {a b : Expr} (hs : PlainIx b) (hu : X.A.units + 70 < cLine) : DOp X (subscriptTail a b) idxS := by
  intro pins s σ Fo Lk k F H x y u v dx dy Q R I S ru rv bx bys q c
  cases dx with
  | lst xs =>
    cases dy with
    | int i =>
      simp only [idxS] at q
      cases e : atD xs i with
      | none => rw [e] at q; exact q.elim
      | some d =>
        rw [e] at q
        obtain ⟨p, vs, e1, h1, i1⟩ := bx.lst S
        obtain ⟨z, h2, h3⟩ := atI_is i1 e
        exact ix_list a b pins s σ H x y u v R I ru rv ⟨p, vs, i, z, e1, bys.int, SqL.of h1, h2, c z F H d S (Stp.refl F H) h3 q⟩ (hs _ _)
    | _ => exact q.elim
  | tup xs =>
    cases dy with
    | int i =>
      simp only [idxS] at q
      cases e : atD xs i with
      | none => rw [e] at q; exact q.elim
      | some d =>
        rw [e] at q
        obtain ⟨p, vs, e1, h1, i1⟩ := bx.tup S
        obtain ⟨z, h2, h3⟩ := atI_is i1 e
        exact ix_tup a b pins s σ H x y u v R I ru rv ⟨p, vs, i, z, e1, bys.int, h1, h2, c z F H d S (Stp.refl F H) h3 q⟩ (hs _ _)
    | _ => exact q.elim
  | scr ns =>
    cases dy with
    | int i =>
      simp only [idxS] at q
      cases e : (ixD ns.length i).bind fun j => ns[j]? with
      | none => rw [e] at q; exact q.elim
      | some n =>
        rw [e] at q
        cases bx with
        | fr h =>
          cases h with
          | @scr p _ h hl =>
            refine ix_list a b pins s σ H _ y u v R I ru rv ⟨p, ns.map V.int, i, .int n, rfl, bys.int, S.sqL h, ?_, c _ F H _ S (Stp.refl F H) (.int _) q⟩ (hs _ _)
            unfold atI
            rw [List.length_map]
            show (ixD ns.length i).bind _ = _
            obtain ⟨j, h1, h2⟩ := Option.bind_eq_some_iff.mp e
            rw [h1]
            show (ns.map V.int)[j]? = _
            rw [List.getElem?_map, h2]; rfl
    | _ => exact q.elim
  | str z =>
    cases dy with
    | int i =>
      simp only [idxS] at q
      cases e : ixD z.cps.size i with
      | none => rw [e] at q; exact q.elim
      | some j =>
        rw [e] at q
        have hl : z.cps.toList.length = z.cps.size := by simp
        have hj : j < z.cps.size := (ixN_seq (show ixN z.cps.size i = some j from e)).2.1
        refine ix_str a b pins s σ H x y u v R I ru rv ⟨z, i, z.cps.getD j 0, bx.str, bys.int, q.1, ?_, c _ F H _ S (Stp.refl F H) (.str _) q.2⟩ (hs _ _)
        unfold atI
        rw [hl]
        show (ixD z.cps.size i).bind _ = _
        rw [e]
        show z.cps.toList[j]? = _
        rw [Array.getElem?_toList, Array.getElem?_eq_getElem hj]
        simp [Array.getD, hj]
    | _ => exact q.elim
  | dct ps =>
    obtain ⟨hk, q⟩ := q
    cases e : lookD ps dy with
    | none => rw [e] at q; exact q.elim
    | some d =>
      rw [e] at q
      obtain ⟨p, e1, hd⟩ := bx.dct S
      subst e1
      cases ru
      obtain ⟨g, hp⟩ := DAt.of I S hd hk (bys.key (kOk_or hk)) rv
      obtain ⟨r, z, h1, h2, h3⟩ := dat_get (A := X.A) hu g e
      exact PyProof.Rows.subscriptTail_builtinR (x := r) g.typeIs PySem.F.slot_dict_getitem.lookup (h3 _ _ fun t => ⟨rfl, z, H, I.tok _, h1, c z F H d S (Stp.refl F H) h2 q⟩) (hs _ _)
  | _ => exact q.elim
end
end DL
/-! The data layer, part 7: expressions. -/
namespace DL
open PySem PySem.Spec PyProof.Rows L2
variable {Γ : Nat → FSpec} {X : Cx}

/-! ### operators, comparisons -/
theorem s_bin {op : Operator} {bo : BO} {a b : Expr} {pa pb : PX} {pos : Pos} (ha : S2 Γ X a pa) (hb : S2 Γ X b pb) (hf : DOp X (binaryOp op) (binS bo)) : S2 Γ X (.BinOp a op b pos) (.bin bo pa pb) :=
  SE.two (s_two ha.bor hb.bor hf (fun ρ Q => rfl) fun pins s σ R h => wpAny_BinOp h) rfl
theorem s_cmp {op : CmpOp} {co : CO} {a b : Expr} {pa pb : PX} {pos : Pos} (ha : S2 Γ X a pa) (hb : S2 Γ X b pb) (hf : DOp X (compareOp op) (fun x y Q => cmpS co x y fun c => Q (.bl c))) (hm : behindInMarks op b = false) : S2 Γ X (.Compare a [op] [b] pos) (.cmp co pa pb) :=
  SE.two (s_two ha.bor hb.bor hf (fun ρ Q => rfl) fun pins s σ R h => wpAny_Compare1 h hm) rfl
theorem s_idx {a b : Expr} {pa pb : PX} {pos : Pos} (ha : S2 Γ X a pa) (hb : S2 Γ X b pb) (hs : PlainIx b) (hu : X.A.units + 70 < cLine) : S2 Γ X (.Subscript a b pos) (.idx pa pb) :=
  SE.two (s_two ha.bor hb.bor (d_idx hs hu) (fun ρ Q => rfl) fun pins s σ R h => Subscript_ h) rfl
/-- one value that is read -/
theorem s_neg {a : Expr} {pa : PX} {pos : Pos} (ha : S2 Γ X a pa) : S2 Γ X (.UnaryOp .USub a pos) (.neg pa) :=
  SE.two ⟨fun {Fo Lk F H σ ρ Q R} S q c => by
    refine TEw.of (pe_un un_neg (pe_w X a)) ?_
    refine ha.bor.run (R := fun x H1 => rU (fun i => .int (-i)) x H1 R) S q fun v F' H' ρ' d S' t b q' => ?_
    cases d with
    | int i => exact ⟨i, b.int, c _ F' H' ρ' _ S' t (.int _) q'⟩
    | _ => exact q'.elim⟩ rfl
theorem s_not {a : Expr} {pa : PX} {pos : Pos} (ha : S2 Γ X a pa) : S2 Γ X (.UnaryOp .Not a pos) (.not pa) :=
  SE.two ⟨fun {Fo Lk F H σ ρ Q R} S q c => by
    refine TEw.of (pe_not (pe_w X a)) ?_
    refine ha.val.run S q fun v F' H' ρ' d S' t b q' => ?_
    cases d with
    | bl i => exact ⟨i, b.inv_bl, c _ F' H' ρ' _ S' t (.bl _) q'⟩
    | _ => exact q'.elim⟩ rfl
theorem isBl_inv {d : D} (h : isBl d = true) : ∃ b, d = .bl b := by cases d <;> first | exact ⟨_, rfl⟩ | cases h
theorem s_and1 {a : Expr} {pa : PX} {pos : Pos} {op : BoolOp} (ha : S2 Γ X a pa) (hv : pa.isVar = false) : S2 Γ X (.BoolOp op [a] pos) pa :=
  SE.two ⟨fun S q c => TEw.of (pe_one (pe_w X a)) (ha.val.run S q c)⟩ hv
/-- a block of and, or: the rest as one -/
theorem s_and {a b : Expr} {rest : List Expr} {pa pb : PX} {pos : Pos} (ha : S2 Γ X a pa) (hb : SE Γ X (.BoolOp .And (b :: rest) pos) pb) : S2 Γ X (.BoolOp .And (a :: b :: rest) pos) (.band pa pb) :=
  SE.two ⟨fun {Fo Lk F H σ ρ Q R} S q c => by
    refine TEw.of (pe_and (pe_w X a) (pe_w X _)) ?_
    refine ha.val.run S q fun v F' H' ρ' d S' t i q' => ?_
    cases d with
    | bl k =>
      refine ⟨k, i.inv_bl, ?_⟩
      have q'' : if k = true then wpE Γ pb ρ' (fun y ρ2 => isBl y = true ∧ Q y ρ2) else Q (.bl false) ρ' := q'
      cases k with
      | true =>
        rw [if_pos rfl] at q'' ⊢
        exact hb.run S' q'' fun v2 F2 H2 ρ2 d2 S2 t2 i2 q2 => c v2 F2 H2 ρ2 d2 S2 (t.trans t2) i2 q2.2
      | false =>
        rw [if_neg (by decide)] at q'' ⊢
        exact c _ F' H' ρ' _ S' t (.bl _) q''
    | _ => exact q'.elim⟩ rfl
theorem s_or {a b : Expr} {rest : List Expr} {pa pb : PX} {pos : Pos} (ha : S2 Γ X a pa) (hb : SE Γ X (.BoolOp .Or (b :: rest) pos) pb) : S2 Γ X (.BoolOp .Or (a :: b :: rest) pos) (.bor pa pb) :=
  SE.two ⟨fun {Fo Lk F H σ ρ Q R} S q c => by
    refine TEw.of (pe_or (pe_w X a) (pe_w X _)) ?_
    refine ha.val.run S q fun v F' H' ρ' d S' t i q' => ?_
    cases d with
    | bl k =>
      refine ⟨k, i.inv_bl, ?_⟩
      have q'' : if k = true then Q (.bl true) ρ' else wpE Γ pb ρ' (fun y ρ2 => isBl y = true ∧ Q y ρ2) := q'
      cases k with
      | false =>
        rw [if_neg (by decide)] at q'' ⊢
        exact hb.run S' q'' fun v2 F2 H2 ρ2 d2 S2 t2 i2 q2 => c v2 F2 H2 ρ2 d2 S2 (t.trans t2) i2 q2.2
      | true =>
        rw [if_pos rfl] at q'' ⊢
        exact c _ F' H' ρ' _ S' t (.bl _) q''
    | _ => exact q'.elim⟩ rfl

/-! ### tests -/
def TTw (X : Cx) (e : Expr) : TT := fun σ H R => ∀ (pins : List (Addr × Obj)) (s : Shared), Inv X pins σ H s → wpAny (model X.prog X.w) X.A (isTrue e X.env (eval e X.env)) (TP X pins σ R) X.xe s
theorem pt_w (X : Cx) (e : Expr) : PT X e (TTw X e) := ⟨fun pins s _ _ _ I h => h pins s I⟩
def TWw (X : Cx) (e : Expr) : TT := fun σ H R => ∀ (whole : Sem Value) (pins : List (Addr × Obj)) (s : Shared), Inv X pins σ H s → wpAny (model X.prog X.w) X.A (isTrue e X.env whole) (TP X pins σ R) X.xe s
theorem pw_w (X : Cx) (e : Expr) : PW X e (TWw X e) := ⟨fun wh pins s _ _ _ I h => h wh pins s I⟩
def CtT (X : Cx) (Fo : Hp) (Lk : Lks) (F H : Hp) (σ : L2.St) (Q : QD) (R : Bool → Hp → Prop) : Prop :=
  ∀ b F' H' ρ', SxX X Fo Lk F' H' σ ρ' → Stq F H F' H' → Q (.bl b) ρ' → R b H'
structure ST (X : Cx) (e : Expr) (p : PX) : Prop where
  run : ∀ {Fo : Hp} {Lk : Lks} {F H : Hp} {σ : L2.St} {ρ : Ev} {Q : QD} {R : Bool → Hp → Prop}, SxX X Fo Lk F H σ ρ → wpE Γ p ρ Q → (∀ d ρ', Q d ρ' → isBl d = true) → CtT X Fo Lk F H σ Q R → TTw X e σ H R
structure SW (X : Cx) (e : Expr) (p : PX) : Prop where
  run : ∀ {Fo : Hp} {Lk : Lks} {F H : Hp} {σ : L2.St} {ρ : Ev} {Q : QD} {R : Bool → Hp → Prop}, SxX X Fo Lk F H σ ρ → wpE Γ p ρ Q → (∀ d ρ', Q d ρ' → isBl d = true) → CtT X Fo Lk F H σ Q R → TWw X e σ H R
theorem SW.t {e : Expr} {p : PX} (h : SW (Γ := Γ) X e p) : ST (Γ := Γ) X e p := ⟨fun S q hb c pins s I => h.run S q hb c _ pins s I⟩
/-- a test that is its value's truth -/
theorem st_val {e : Expr} {p : PX} (h : SE Γ X e p) (he : ∀ whole, isTrue e X.env whole = (do let v ← whole; standAt e.pos; holding [v] (truthy v))) : ST (Γ := Γ) X e p :=
  ⟨fun {Fo Lk F H σ ρ Q R} S q hb c => by
    have h1 : tB (TEw X e) σ H R := by
      refine h.run S q fun v F' H' ρ' d S' t i q' => ?_
      obtain ⟨b, rfl⟩ := isBl_inv (hb d ρ' q')
      exact ⟨b, i.inv_bl, c b F' H' ρ' S' t q'⟩
    exact fun pins s I => (pt_val (pe_w X e) he).run pins s σ H R I h1⟩
/-- an operation, by its own run -/
def Rw (X : Cx) (f : Value → Value → Sem Value) : R2 := fun x y H Q => ∀ (pins : List (Addr × Obj)) (s : Shared) (σ : L2.St) (u v : Value), Inv X pins σ H s → RelV x u → RelV y v → wpAny (model X.prog X.w) X.A (f u v) (EP X pins σ Q) X.xe s
theorem op_w (X : Cx) (f : Value → Value → Sem Value) : OpR X f (Rw X f) := fun pins s σ _ _ _ u v _ I ru rv h => h pins s σ u v I ru rv
theorem DOp.rw {f : Value → Value → Sem Value} {S : D → D → (D → Prop) → Prop} (h : DOp X f S) {Fo : Hp} {Lk : Lks} {k : Nat} {F H : Hp} {x y : V} {dx dy : D} {Q : D → Prop} {R : VK} (S' : Hs Fo Lk k F H) (bx : Bor X Fo Lk F H x dx) (bys : Bor X Fo Lk F H y dy) (q : S dx dy Q)
    (c : ∀ z F' H' d, Hs Fo Lk k F' H' → Stp F H F' H' → IsX X F' z d → Q d → R z H') : Rw X f x y H R := fun pins s σ u v I ru rv => h pins s σ Fo Lk k F H x y u v dx dy Q R I S' ru rv bx bys q c
theorem st_cmp {op : CmpOp} {co : CO} {a b : Expr} {pa pb : PX} {pos : Pos} (ha : S2 Γ X a pa) (hb : S2 Γ X b pb) (hf : DOp X (compareOp op) (fun x y Q => cmpS co x y fun c => Q (.bl c))) (hm : behindInMarks op b = false) : ST (Γ := Γ) X (.Compare a [op] [b] pos) (.cmp co pa pb) :=
  ⟨fun {Fo Lk F H σ ρ Q R} S q hbl c => by
    have h1 : tTest (tOp (Rw X (compareOp op)) (TEw X a) (TEw X b)) σ H R := by
      refine ha.bor.run S q fun x F1 H1 ρ1 dx S1 t1 b1 q1 => hb.bor.run S1 q1 fun y F2 H2 ρ2 dy S2 t2 b2 q2 => ?_
      refine hf.rw (Q := fun z => Q z ρ2) S2.hs (b1.mono t2) b2 q2 fun z F3 H3 d h3 t3 i3 q3 => ?_
      obtain ⟨k, rfl⟩ := isBl_inv (hbl d ρ2 q3)
      exact ⟨k, i3.inv_bl, c k F3 H3 ρ2 (S2.step h3 t3) (t1.trans (t2.trans t3.q)) q3⟩
    exact fun pins s I => (pt_cmpR (op_w X _) (pe_w X a) (pe_w X b) hm).run pins s σ H R I h1⟩
theorem chain_run {o1 o2 : CmpOp} {c1 c2 : CO} {a b c : Expr} {pa pb pc : PX} (ha : S2 Γ X a pa) (hb : S2 Γ X b pb) (hc : S2 Γ X c pc) (h1 : DOp X (compareOp o1) (fun x y Q => cmpS c1 x y fun c => Q (.bl c))) (h2 : DOp X (compareOp o2) (fun x y Q => cmpS c2 x y fun c => Q (.bl c)))
    {Fo : Hp} {Lk : Lks} {F H : Hp} {σ : L2.St} {ρ : Ev} {Q : QD} {R : VK} (S : SxX X Fo Lk F H σ ρ) (q : wpE Γ (.chain c1 c2 pa pb pc) ρ Q) (ct : Ct X Fo Lk F H σ (fun d ρ' => isBl d = true ∧ Q d ρ') R) :
    tChain (Rw X (compareOp o1)) (Rw X (compareOp o2)) (TEw X a) (TEw X b) (TEw X c) σ H R := by
  refine ha.bor.run S q fun x F1 H1 ρ1 dx S1 t1 b1 q1 => hb.bor.run S1 q1 fun y F2 H2 ρ2 dy S2' t2 b2 q2 => ?_
  refine h1.rw (Q := fun z => ∃ k, z = .bl k ∧ if k = true then brw pc (wpE Γ pc) ρ2 (fun z ρ3 => cmpS c2 dy z fun k' => Q (.bl k') ρ3) else Q (.bl false) ρ2) S2'.hs (b1.mono t2) b2 ?_ fun z F3 H3 d h3 t3 i3 q3 => ?_
  · have mono : ∀ (co : CO) (x y : D) (A B : Bool → Prop), (∀ k, A k → B k) → cmpS co x y A → cmpS co x y B := fun co x y A B hAB h => by
      cases co <;> simp only [cmpS] at h ⊢ <;> (repeat' split at h) <;> first | exact hAB _ h | exact ⟨h.1, hAB _ h.2⟩ | exact h.elim
    exact mono _ _ _ _ _ (fun k h => ⟨k, rfl, h⟩) q2
  · obtain ⟨k, rfl, q4⟩ := q3
    refine ⟨k, i3.inv_bl, ?_⟩
    have S3 := S2'.step h3 t3
    cases k with
    | false =>
      rw [if_neg (by decide)] at q4 ⊢
      exact ct _ F3 H3 ρ2 _ S3 (t1.trans (t2.trans t3.q)) (.bl _) ⟨rfl, q4⟩
    | true =>
      rw [if_pos rfl] at q4 ⊢
      refine hc.bor.run S3 q4 fun w' F4 H4 ρ4 dz S4 t4 b4 q5 => ?_
      refine h2.rw (Q := fun z => isBl z = true ∧ Q z ρ4) S4.hs ((b2.mono t3.q).mono t4) b4 ?_ fun z' F5 H5 d' h5 t5 i5 q6 => ct z' F5 H5 ρ4 d' (S4.step h5 t5) (t1.trans (t2.trans (t3.q.trans (t4.trans t5.q)))) i5 q6
      have mono : ∀ (co : CO) (x y : D) (A B : Bool → Prop), (∀ k, A k → B k) → cmpS co x y A → cmpS co x y B := fun co x y A B hAB h => by
        cases co <;> simp only [cmpS] at h ⊢ <;> (repeat' split at h) <;> first | exact hAB _ h | exact ⟨h.1, hAB _ h.2⟩ | exact h.elim
      exact mono _ _ _ _ _ (fun k h => ⟨rfl, h⟩) q5
theorem s_chain {o1 o2 : CmpOp} {c1 c2 : CO} {a b c : Expr} {pa pb pc : PX} {pos : Pos} (ha : S2 Γ X a pa) (hb : S2 Γ X b pb) (hc : S2 Γ X c pc) (h1 : DOp X (compareOp o1) (fun x y Q => cmpS c1 x y fun c => Q (.bl c))) (h2 : DOp X (compareOp o2) (fun x y Q => cmpS c2 x y fun c => Q (.bl c)))
    (hm : lastMarks [o1, o2] [b, c] = false) : S2 Γ X (.Compare a [o1, o2] [b, c] pos) (.chain c1 c2 pa pb pc) :=
  SE.two ⟨fun {Fo Lk F H σ ρ Q R} S q ct => TEw.of (pe_chain (op_w X _) (op_w X _) (pe_w X a) (pe_w X b) (pe_w X c) hm) (chain_run ha hb hc h1 h2 S q fun v F' H' ρ' d S' t i q' => ct v F' H' ρ' d S' t i q'.2)⟩ rfl
theorem st_chain {o1 o2 : CmpOp} {c1 c2 : CO} {a b c : Expr} {pa pb pc : PX} {pos : Pos} (ha : S2 Γ X a pa) (hb : S2 Γ X b pb) (hc : S2 Γ X c pc) (h1 : DOp X (compareOp o1) (fun x y Q => cmpS c1 x y fun c => Q (.bl c))) (h2 : DOp X (compareOp o2) (fun x y Q => cmpS c2 x y fun c => Q (.bl c)))
    (hm : lastMarks [o1, o2] [b, c] = false) : ST (Γ := Γ) X (.Compare a [o1, o2] [b, c] pos) (.chain c1 c2 pa pb pc) :=
  ⟨fun {Fo Lk F H σ ρ Q R} S q hbl ct => by
    have h3 : tTest (tChain (Rw X (compareOp o1)) (Rw X (compareOp o2)) (TEw X a) (TEw X b) (TEw X c)) σ H R := by
      refine chain_run ha hb hc h1 h2 S q fun v F' H' ρ' d S' t i q' => ?_
      obtain ⟨k, rfl⟩ := isBl_inv q'.1
      exact ⟨k, i.inv_bl, ct k F' H' ρ' S' t q'.2⟩
    exact fun pins s I => (pt_chain (op_w X _) (op_w X _) (pe_w X a) (pe_w X b) (pe_w X c) hm).run pins s σ H R I h3⟩
theorem st_not {a : Expr} {pa : PX} {pos : Pos} (ha : ST (Γ := Γ) X a pa) : ST (Γ := Γ) X (.UnaryOp .Not a pos) (.not pa) :=
  ⟨fun {Fo Lk F H σ ρ Q R} S q hbl ct => by
    have h1 : tNot (TTw X a) σ H R := by
      refine ha.run S q (fun d ρ' h => ?_) fun b F' H' ρ' S' t q' => ct (!b) F' H' ρ' S' t q'
      cases d <;> first | rfl | exact h.elim
    exact fun pins s I => (pt_not (pt_w X a)).run pins s σ H R I h1⟩
theorem sw_and1 {a : Expr} {pa : PX} {pos : Pos} (ha : ST (Γ := Γ) X a pa) : SW (Γ := Γ) X (.BoolOp .And [a] pos) pa :=
  ⟨fun {Fo Lk F H σ ρ Q R} S q hbl ct wh pins s I => (pw_and1 (pt_w X a)).run wh pins s σ H R I (ha.run S q hbl ct)⟩
theorem sw_or1 {a : Expr} {pa : PX} {pos : Pos} (ha : ST (Γ := Γ) X a pa) : SW (Γ := Γ) X (.BoolOp .Or [a] pos) pa :=
  ⟨fun {Fo Lk F H σ ρ Q R} S q hbl ct wh pins s I => (pw_or1 (pt_w X a)).run wh pins s σ H R I (ha.run S q hbl ct)⟩
theorem sw_and {a b : Expr} {rest : List Expr} {pa pb : PX} {pos : Pos} (ha : ST (Γ := Γ) X a pa) (hb : SW (Γ := Γ) X (.BoolOp .And (b :: rest) pos) pb) : SW (Γ := Γ) X (.BoolOp .And (a :: b :: rest) pos) (.band pa pb) :=
  ⟨fun {Fo Lk F H σ ρ Q R} S q hbl ct wh pins s I => by
    have h1 : tAnd (TTw X a) (TWw X (.BoolOp .And (b :: rest) pos)) σ H R := by
      refine ha.run S q (fun d ρ' h => ?_) fun k F' H' ρ' S' t q' => ?_
      · cases d <;> first | rfl | exact h.elim
      have q'' : if k = true then wpE Γ pb ρ' (fun y ρ2 => isBl y = true ∧ Q y ρ2) else Q (.bl false) ρ' := q'
      cases k with
      | true =>
        rw [if_pos rfl] at q'' ⊢
        exact hb.run S' q'' (fun d ρ' h => h.1) fun k2 F2 H2 ρ2 S2 t2 q2 => ct k2 F2 H2 ρ2 S2 (t.trans t2) q2.2
      | false =>
        rw [if_neg (by decide)] at q'' ⊢
        exact ct _ F' H' ρ' S' t q''
    exact (pw_and (pt_w X a) (pw_w X _)).run wh pins s σ H R I h1⟩
theorem sw_or {a b : Expr} {rest : List Expr} {pa pb : PX} {pos : Pos} (ha : ST (Γ := Γ) X a pa) (hb : SW (Γ := Γ) X (.BoolOp .Or (b :: rest) pos) pb) : SW (Γ := Γ) X (.BoolOp .Or (a :: b :: rest) pos) (.bor pa pb) :=
  ⟨fun {Fo Lk F H σ ρ Q R} S q hbl ct wh pins s I => by
    have h1 : tOr (TTw X a) (TWw X (.BoolOp .Or (b :: rest) pos)) σ H R := by
      refine ha.run S q (fun d ρ' h => ?_) fun k F' H' ρ' S' t q' => ?_
      · cases d <;> first | rfl | exact h.elim
      have q'' : if k = true then Q (.bl true) ρ' else wpE Γ pb ρ' (fun y ρ2 => isBl y = true ∧ Q y ρ2) := q'
      cases k with
      | false =>
        rw [if_neg (by decide)] at q'' ⊢
        exact hb.run S' q'' (fun d ρ' h => h.1) fun k2 F2 H2 ρ2 S2 t2 q2 => ct k2 F2 H2 ρ2 S2 (t.trans t2) q2.2
      | true =>
        rw [if_pos rfl] at q'' ⊢
        exact ct _ F' H' ρ' S' t q''
    exact (pw_or (pt_w X a) (pw_w X _)).run wh pins s σ H R I h1⟩
theorem s_ife {c a b : Expr} {pc pa pb : PX} {pos : Pos} (hc : ST (Γ := Γ) X c pc) (ha : S2 Γ X a pa) (hb : S2 Γ X b pb) : S2 Γ X (.IfExp c a b pos) (.ife pc pa pb) :=
  SE.two ⟨fun {Fo Lk F H σ ρ Q R} S q ct => by
    refine TEw.of (pe_ifExp (pt_w X c) (pe_w X a) (pe_w X b)) ?_
    refine hc.run S q (fun d ρ' h => ?_) fun k F' H' ρ' S' t q' => ?_
    · cases d <;> first | rfl | exact h.elim
    have q'' : if k = true then wpE Γ pa ρ' Q else wpE Γ pb ρ' Q := q'
    cases k with
    | true =>
      rw [if_pos rfl] at q'' ⊢
      exact ha.val.run S' q'' fun v F2 H2 ρ2 d S2 t2 i q2 => ct v F2 H2 ρ2 d S2 (t.trans t2) i q2
    | false =>
      rw [if_neg (by decide)] at q'' ⊢
      exact hb.val.run S' q'' fun v F2 H2 ρ2 d S2 t2 i q2 => ct v F2 H2 ρ2 d S2 (t.trans t2) i q2⟩ rfl

/-! ### argument lists -/
def TAw (X : Cx) (es : List Expr) : TA := fun σ H R => ∀ (pos : Pos) (pins : List (Addr × Obj)) (s : Shared), Inv X pins σ H s → wpAny (model X.prog X.w) X.A (spliced (backTo pos (starEach es X.env))) (AP X pins σ R) X.xe s
theorem pa_w (X : Cx) (es : List Expr) : PA X es (TAw X es) := ⟨fun pos pins s _ _ _ I h => h pos pins s I⟩
theorem TAw.of {es : List Expr} {t : TA} {σ : L2.St} {H : Hp} {R : List V → Hp → Prop} (h : PA X es t) (q : t σ H R) : TAw X es σ H R := fun pos pins s I => h.run pos pins s σ H R I q
inductive BorA (X : Cx) (Fo : Hp) (Lk : Lks) (F H : Hp) : List V → List D → Prop
  | nil : BorA X Fo Lk F H [] []
  | cons {v : V} {vs : List V} {d : D} {ds : List D} : Bor X Fo Lk F H v d → BorA X Fo Lk F H vs ds → BorA X Fo Lk F H (v :: vs) (d :: ds)
theorem BorA.mono {Fo : Hp} {Lk : Lks} {F H F' H' : Hp} (t : Stq F H F' H') : ∀ {vs : List V} {ds : List D}, BorA X Fo Lk F H vs ds → BorA X Fo Lk F' H' vs ds
  | _, _, .nil => .nil
  | _, _, .cons h r => .cons (h.mono t) (BorA.mono t r)
structure SA (X : Cx) (es : List Expr) (ps : PXs) : Prop where
  run : ∀ {Fo : Hp} {Lk : Lks} {F H : Hp} {σ : L2.St} {ρ : Ev} {Q : List D → Ev → Prop} {R : List V → Hp → Prop}, SxX X Fo Lk F H σ ρ → wpEs Γ ps ρ Q → (∀ vs F' H' ρ' ds, vs.length = es.length → SxX X Fo Lk F' H' σ ρ' → Stq F H F' H' → IsAX X F' vs ds → Q ds ρ' → R vs H') → TAw X es σ H R
structure SAb (X : Cx) (es : List Expr) (ps : PXs) : Prop where
  run : ∀ {Fo : Hp} {Lk : Lks} {F H : Hp} {σ : L2.St} {ρ : Ev} {Q : List D → Ev → Prop} {R : List V → Hp → Prop}, SxX X Fo Lk F H σ ρ → wpBs Γ ps ρ Q → (∀ vs F' H' ρ' ds, SxX X Fo Lk F' H' σ ρ' → Stq F H F' H' → BorA X Fo Lk F' H' vs ds → Q ds ρ' → R vs H') → TAw X es σ H R
def isStar : Expr → Bool
  | .Starred .. => true
  | _ => false
theorem starEach_cons {e : Expr} {es : List Expr} {env : Env} (h : isStar e = false) : starEach (e :: es) env = (false, eval e env) :: starEach es env := by
  cases e <;> first | rfl | cases h
theorem sa_nil : SA (Γ := Γ) X [] .nil := ⟨fun {Fo Lk F H σ ρ Q R} S q c => TAw.of pa_nil (c [] F H ρ [] rfl S (Stq.refl F H) .nil q)⟩
theorem sa_cons {e : Expr} {es : List Expr} {p : PX} {ps : PXs} (h : S2 Γ X e p) (ht : SA (Γ := Γ) X es ps) (hs : isStar e = false) : SA (Γ := Γ) X (e :: es) (.cons p ps) :=
  ⟨fun {Fo Lk F H σ ρ Q R} S q c => by
    refine TAw.of (pa_cons (pe_w X e) (pa_w X es) (starEach_cons hs)) ?_
    exact h.val.run S q fun v F1 H1 ρ1 d S1 t1 i1 q1 => ht.run S1 q1 fun vs F2 H2 ρ2 ds l2 S2 t2 i2 q2 => c _ F2 H2 ρ2 _ (by rw [List.length_cons, List.length_cons, l2]) S2 (t1.trans t2) (.cons (i1.mono t2.sub) i2) q2⟩
theorem sab_nil : SAb (Γ := Γ) X [] .nil := ⟨fun {Fo Lk F H σ ρ Q R} S q c => TAw.of pa_nil (c [] F H ρ [] S (Stq.refl F H) .nil q)⟩
theorem sab_cons {e : Expr} {es : List Expr} {p : PX} {ps : PXs} (h : S2 Γ X e p) (ht : SAb (Γ := Γ) X es ps) (hs : isStar e = false) : SAb (Γ := Γ) X (e :: es) (.cons p ps) :=
  ⟨fun {Fo Lk F H σ ρ Q R} S q c => by
    refine TAw.of (pa_cons (pe_w X e) (pa_w X es) (starEach_cons hs)) ?_
    exact h.bor.run S q fun v F1 H1 ρ1 d S1 t1 i1 q1 => ht.run S1 q1 fun vs F2 H2 ρ2 ds S2 t2 i2 q2 => c _ F2 H2 ρ2 _ S2 (t1.trans t2) (.cons (i1.mono t2) i2) q2⟩
theorem IsA.lenEs {F : Hp} {vs : List V} {ds : List D} (h : IsAX X F vs ds) (l : ds.length ≤ sizeLine) : vs.length ≤ sizeLine := by rw [h.length]; exact l
/-- behind an expression that makes nothing but new things -/
theorem SxX.step {Fo : Hp} {Lk : Lks} {F H F' H' : Hp} {σ : L2.St} {ρ : Ev} (S : SxX X Fo Lk F H σ ρ) (h : Hs Fo Lk ρ.k F' H') (t : Stp F H F' H') : SxX X Fo Lk F' H' σ ρ := Sx.step S h t
theorem s_tup {es : List Expr} {ps : PXs} {x1 : Nat} {pos : Pos} (h : SA (Γ := Γ) X es ps) (hl : es.length ≤ 1000) : S2 Γ X (.Tuple es x1 pos) (.tup ps) :=
  SE.two ⟨fun {Fo Lk F H σ ρ Q R} S q c => by
    refine TEw.of (pe_tup (pa_w X es)) ?_
    refine h.run S q fun vs F1 H1 ρ1 ds l1 S1 t1 i1 q1 => ⟨by rw [l1, sizeLine_eq]; omega, fun p hp => ?_⟩
    obtain ⟨n1, n2, n3⟩ := new_tup S1.hs i1 hp
    exact c _ _ _ ρ1 _ (SxX.step S1 n1 n2) (t1.trans n2.q) n3 q1⟩ rfl
theorem s_lst {es : List Expr} {ps : PXs} {pos : Pos} (h : SA (Γ := Γ) X es ps) (hl : es.length ≤ 1000) : S2 Γ X (.List es pos) (.lst ps) :=
  SE.two ⟨fun {Fo Lk F H σ ρ Q R} S q c => by
    refine TEw.of (pe_lst (pa_w X es)) ?_
    refine h.run S q fun vs F1 H1 ρ1 ds l1 S1 t1 i1 q1 => ⟨by rw [l1, sizeLine_eq]; omega, fun p hp => ?_⟩
    obtain ⟨n1, n2, n3⟩ := new_lst S1.hs i1 hp
    exact c _ _ _ ρ1 _ (SxX.step S1 n1 n2) (t1.trans n2.q) n3 q1⟩ rfl
theorem new_dk {Fo : Hp} {Lk : Lks} {k : Nat} {F H : Hp} (S : Hs Fo Lk k F H) {kvs : List (Key × V)} {ps : List (D × D)} (i : IsK X.prog X.w X.K F kvs ps) {p : Addr} (hp : H p = none) : Hs Fo Lk k (upd F p (.dK kvs)) (upd H p (.dK kvs)) ∧ Stp F H (upd F p (.dK kvs)) (upd H p (.dK kvs)) ∧ IsX X (upd F p (.dK kvs)) (.ref p) (.dct ps) :=
  ⟨S.newF hp (fun z => nomatch z), Stp.lay (S.nF hp) hp, .dctK upd_same (i.mono (Sub.upd (S.nF hp)))⟩
theorem s_dct0 {pos : Pos} : S2 Γ X (.Dict [] [] pos) .dct0 :=
  SE.two ⟨fun {Fo Lk F H σ ρ Q R} S q c => by
    refine TEw.of pe_dnewK fun p hp => ?_
    obtain ⟨n1, n2, n3⟩ := new_dk S.hs .nil hp
    exact c _ _ _ ρ _ (SxX.step S n1 n2) n2.q n3 q⟩ rfl

/-! ### calls -/
/-- a def keeps its promise over data -/
structure FnG (P : Program) (w : World) (K : PySem.W.Frag) (mg : Str → Option Value) (base : Heap) (lv : Nat) (f : Addr) (fd : FuncData) (ps : List Str) (S : FSpec) : Prop where
  len : ∀ ds k Q, S ds k Q → ds.length = ps.length
  run : ∀ (A : Around) (outer : List Env) (s : Shared) (H : Hp) (args : Args) (us : List Value) (vs : List V), A.guards = some [] → Room lv A → Env0 P w K mg base A outer s H → BindsTo s fd args (ps.zip us) → Vals vs us →
    ∀ (Lk : Lks) (k : Nat) (F : Hp) (ds : List D) (Q : D → Nat → Prop), Hs (fun _ => none) Lk k F H → IsA P w K F vs ds → S ds k Q →
      codeAny (model P w) A (.call (.ref f) args) (fun r s' => match r with
        | .ok (.ret u) => CE outer P w H s (fun v H' => ∃ F' d k', Hs (fun _ => none) Lk k' F' H' ∧ Stp F H F' H' ∧ Is P w K F' v d ∧ Q d k') u s'
        | _ => False) s
theorem FnG.mono {P : Program} {w : World} {K : PySem.W.Frag} {mg : Str → Option Value} {base : Heap} {j k : Nat} {f : Addr} {fd : FuncData} {ps : List Str} {S : FSpec} (G : FnG P w K mg base j f fd ps S) (h : j ≤ k) : FnG P w K mg base k f fd ps S :=
  ⟨G.len, fun A outer s H args us vs hg hr => G.run A outer s H args us vs hg (hr.mono h)⟩
/-- what stands at a name that is called -/
structure FnAt (P : Program) (w : World) (K : PySem.W.Frag) (mg : Str → Option Value) (base : Heap) (lv : Nat) (x : Str) (n : Nat) (S : FSpec) : Prop where
  ex : ∃ f fd ps, mg x = some (.ref f) ∧ PySem.W.keepIn K (.ref f) = true ∧ Binds K fd ps [] ∧ ps.length = n ∧ FnG P w K mg base lv f fd ps S
theorem Hs.nofo {Fo : Hp} {Lk : Lks} {k : Nat} {F H : Hp} (S : Hs Fo Lk k F H) : Hs (fun _ => none) Lk k F H := ⟨S.sub, (fun _ _ e => nomatch e), S.lk⟩
/-- behind a call -/
theorem Hs.back {Fo : Hp} {Lk : Lks} {k k' : Nat} {F H F' H' : Hp} (S : Hs Fo Lk k F H) (h : Hs (fun _ => none) Lk k' F' H') (t : Stp F H F' H') : Hs Fo Lk k' F' H' :=
  ⟨h.sub, fun a o e => by
    obtain ⟨h1, h2⟩ := S.fo a o e
    exact ⟨t.gr a o h1 (by rw [h2]; exact fun z => nomatch z), t.new a o h2 h1⟩, h.lk⟩
theorem s_call {lv n f : Nat} {x : Str} {e : Expr} {es : List Expr} {ps : PXs} {p pos : Pos} (G : FnAt X.prog X.w X.K X.mg X.base lv x n (Γ f)) (hr : Room lv X.A) (hgd : X.A.guards = some []) (hg : Gl X x) (ha : SA (Γ := Γ) X (e :: es) ps)
    (hdb : (x == ("__debug__" : Str)) = false) (he : isStar e = false) (hpl : (backTo pos (starEach es X.env)).any (·.1) = false) : S2 Γ X (.Call (.Name x p) (e :: es) [] pos) (.call f ps) :=
  SE.two ⟨fun {Fo Lk F H σ ρ Q R} S q c pins s I => by
    obtain ⟨fa, fd, nm, hm, hk, hb, hn, G⟩ := G.ex
    refine wpAny_Call_Name_kw (ld_glob I hg hm ?_ hdb)
    have h1 : TAw X (e :: es) σ H (fun vs H1 => ∀ (pins : List (Addr × Obj)) (s : Shared) (us : List Value), Inv X pins σ H1 s → Vals vs us → wpAny (model X.prog X.w) X.A (call (.ref fa) us) (EP X pins σ R) X.xe s) := by
      refine ha.run S q fun vs F1 H1 ρ1 ds l1 S1 t1 i1 q1 pins s us I r => ?_
      have hl : us.length = nm.length := by rw [← r.length, i1.length]; exact G.len _ _ _ q1
      have hb' := hb s us I.kIn (by rw [List.append_nil]; exact hl)
      rw [List.append_nil] at hb'
      refine wpAny_call (codeAny_mono (G.run X.A X.stack s H1 ⟨us, []⟩ us vs hgd hr I.env0 hb' r Lk ρ1.k F1 ds _ S1.hs.nofo i1 q1) fun r s' hq => ?_)
      cases r with
      | error e => exact False.elim hq
      | ok fl =>
        cases fl with
        | ret u =>
          obtain ⟨v, H', e1, e2, e3, e4, e5, F', d, k', h1, h2, h3, h4⟩ := hq
          exact I.after ⟨v, H', e1, e2, e3, e4, e5, c v F' H' ⟨ρ1.sl, k'⟩ d (Sx.step S1 (S1.hs.back h1 h2) h2) (t1.trans h2.q) h3 h4⟩
        | next => exact False.elim hq
        | brk => exact False.elim hq
        | cont => exact False.elim hq
    exact PySem.W.callWith_K (h₀ := X.base) I.ok.mod.kin hk (thn (h1 pos pins s I) fun us s1 ⟨vs, H1, I1, r, q⟩ => ⟨I1.kIn, q pins s1 us I1 r⟩) (starEach_cons he) hpl⟩ rfl
end DL
/-! The data layer, part 8: slices, built-in functions of values, get. -/
namespace DL
open PySem PySem.Spec PyProof.Rows L2
variable {Γ : Nat → FSpec} {X : Cx}

/-! ### slices -/
theorem cut_is {F : Hp} {xs : List V} {ds : List D} (i : IsAX X F xs ds) (lo hi : Option Int) : IsAX X F (cutV xs lo hi) (cutD ds lo hi) := by
  unfold cutV cutD
  rw [i.length]
  exact (i.drop _).take _
theorem cut_whole (ds : List D) (lo hi : Option Int) (h : HT.sIx ds.length 0 lo = 0 ∧ HT.sIx ds.length ds.length hi = ds.length) : cutD ds lo hi = ds := by
  unfold cutD
  rw [h.1, h.2]
  simp
def Sw (X : Cx) : V → Option Int → Option Int → Hp → VK → Prop := fun x lo hi H Q =>
  ∀ (pins : List (Addr × Obj)) (s : Shared) (σ : L2.St) (v vl vu : Value) (sl : Addr), Inv X pins σ H s → RelV x v → s.heap.IsSliceOf sl vl vu .none → IsPart vl lo → IsPart vu hi →
    ∃ T id, typeLookup (.type T) "__getitem__" = pure (some (.builtin id)) ∧ s.TypeIs v T ∧ wpAny (model X.prog X.w) X.A (getItem v (.ref sl)) (EP X pins σ Q) X.xe s
theorem sl_w : SlR X (Sw X) := fun pins s σ H x v vl vu lo hi sl Q I rx hs pl pu h => h pins s σ v vl vu sl I rx hs pl pu
theorem Sw.of {r : V → Option Int → Option Int → Hp → VK → Prop} (h : SlR X r) {x : V} {lo hi : Option Int} {H : Hp} {Q : VK} (q : r x lo hi H Q) : Sw X x lo hi H Q :=
  fun pins s σ v vl vu sl I rx hs pl pu => h pins s σ H x v vl vu lo hi sl Q I rx hs pl pu q
def TOw (X : Cx) (e : Option Expr) : TO := fun σ H Q => ∀ (pins : List (Addr × Obj)) (s : Shared), Inv X pins σ H s → wpAny (model X.prog X.w) X.A (evalPart e X.env) (fun u s' => ∃ o H', Inv X pins σ H' s' ∧ IsPart u o ∧ Q o H') X.xe s
theorem po_w (e : Option Expr) : PO X e (TOw X e) := ⟨fun pins s _ _ _ I h => h pins s I⟩
structure SO (X : Cx) (e : Option Expr) (p : OX) : Prop where
  run : ∀ {Fo : Hp} {Lk : Lks} {F H : Hp} {σ : L2.St} {ρ : Ev} {Q : Option Int → Ev → Prop} {R : Option Int → Hp → Prop}, SxX X Fo Lk F H σ ρ → wpO Γ p ρ Q → (∀ o F' H' ρ', SxX X Fo Lk F' H' σ ρ' → Stq F H F' H' → Q o ρ' → R o H') → TOw X e σ H R
theorem so_no : SO (Γ := Γ) X none .no := ⟨fun {Fo Lk F H σ ρ Q R} S q c pins s I => po_none.run pins s σ H R I (c none F H ρ S (Stq.refl F H) q)⟩
theorem so_yes {e : Expr} {p : PX} (h : S2 Γ X e p) : SO (Γ := Γ) X (some e) (.yes p) :=
  ⟨fun {Fo Lk F H σ ρ Q R} S q c pins s I => by
    have q2 : brw p (wpE Γ p) ρ (fun x ρ1 => match x with
      | .int i => Q (some i) ρ1
      | _ => False) := q
    refine (po_some (pe_w X e)).run pins s σ H R I (h.bor.run (R := fun x H1 => ∃ i, x = .int i ∧ R (some i) H1) S q2 fun v F' H' ρ' d S' t b q' => ?_)
    cases d with
    | int i => exact ⟨i, b.int, c (some i) F' H' ρ' S' t q'⟩
    | _ => exact q'.elim⟩
theorem s_slc {e : Expr} {lo hi : Option Expr} {p : PX} {l h : OX} {p2 pos : Pos} (he : S2 Γ X e p) (hl : SO (Γ := Γ) X lo l) (hh : SO (Γ := Γ) X hi h) : S2 Γ X (.Subscript e (.Slice lo hi none p2) pos) (.slc p l h) :=
  SE.two ⟨fun {Fo Lk F H σ ρ Q R} S q c => by
    refine TEw.of (pe_slice sl_w (pe_w X e) (po_w lo) (po_w hi)) ?_
    refine he.bor.run S q fun v F1 H1 ρ1 d S1 t1 b1 q1 => hl.run S1 q1 fun o1 F2 H2 ρ2 S2 t2 q2 => hh.run S2 q2 fun o2 F3 H3 ρ3 S3 t3 q3 => ?_
    have b3 := (b1.mono t2).mono t3
    have t13 := t1.trans (t2.trans t3)
    cases d with
    | lst xs =>
      obtain ⟨a, vs, rfl, h1, i1⟩ := b3.lst S3.hs
      refine Sw.of sl_list ⟨a, vs, rfl, SqL.of h1, fun p hp => ?_⟩
      obtain ⟨n1, n2, n3⟩ := new_lst S3.hs (cut_is i1 o1 o2) hp
      exact c _ _ _ ρ3 _ (SxX.step S3 n1 n2) (t13.trans n2.q) n3 q3
    | tup xs =>
      have iv := b3.tupI
      obtain ⟨a, vs, rfl, h1, i1⟩ := b3.tup S3.hs
      have hl := i1.length
      refine Sw.of sl_tupA ⟨a, vs, rfl, h1, fun hw => ?_, fun hw p hp => ?_⟩
      · rw [hl] at hw
        have q3' : Q (.tup (cutD xs o1 o2)) ρ3 := q3
        rw [cut_whole xs o1 o2 hw] at q3'
        exact c _ F3 H3 ρ3 _ S3 t13 iv q3'
      · obtain ⟨n1, n2, n3⟩ := new_tup S3.hs (cut_is i1 o1 o2) hp
        exact c _ _ _ ρ3 _ (SxX.step S3 n1 n2) (t13.trans n2.q) n3 q3
    | scr ns =>
      cases b3 with
      | fr h =>
        cases h with
        | @scr a _ h hl =>
          refine Sw.of sl_list ⟨a, ns.map V.int, rfl, S3.hs.sqL h, fun p hp => ?_⟩
          obtain ⟨n1, n2, n3⟩ := new_lst S3.hs (cut_is (IsA.of_ints ns) o1 o2) hp
          exact c _ _ _ ρ3 _ (SxX.step S3 n1 n2) (t13.trans n2.q) n3 q3
    | str z => exact Sw.of sl_str ⟨z, b3.str, q3.1, c _ F3 H3 ρ3 _ S3 t13 (.str _) q3.2⟩
    | _ => exact q3.elim⟩ rfl

/-! ### calls of built-in functions -/
/-- a built-in on values that are read -/
def DCall (X : Cx) (f : Value) (S : List D → (D → Prop) → Prop) : Prop :=
  ∀ (pins : List (Addr × Obj)) (s : Shared) (σ : L2.St) (Fo : Hp) (Lk : Lks) (k : Nat) (F H : Hp) (xs : List V) (us : List Value) (ds : List D) (Q : D → Prop) (R : VK), Inv X pins σ H s → Hs Fo Lk k F H → Vals xs us → BorA X Fo Lk F H xs ds → S ds Q →
    (∀ z F' H' d, Hs Fo Lk k F' H' → Stp F H F' H' → IsX X F' z d → Q d → R z H') → wpAny (model X.prog X.w) X.A (call f us) (EP X pins σ R) X.xe s
def Cw (X : Cx) (f : Value) : List V → Hp → VK → Prop := fun xs H Q => ∀ (pins : List (Addr × Obj)) (s : Shared) (σ : L2.St) (us : List Value), Inv X pins σ H s → Vals xs us → wpAny (model X.prog X.w) X.A (call f us) (EP X pins σ Q) X.xe s
theorem cr_w (f : Value) : CallR X f (Cw X f) := fun pins s σ _ _ us _ I r h => h pins s σ us I r
theorem DCall.w {f : Value} {S : List D → (D → Prop) → Prop} (h : DCall X f S) {Fo : Hp} {Lk : Lks} {k : Nat} {F H : Hp} {xs : List V} {ds : List D} {Q : D → Prop} {R : VK} (S' : Hs Fo Lk k F H) (bx : BorA X Fo Lk F H xs ds) (q : S ds Q)
    (c : ∀ z F' H' d, Hs Fo Lk k F' H' → Stp F H F' H' → IsX X F' z d → Q d → R z H') : Cw X f xs H R := fun pins s σ us I r => h pins s σ Fo Lk k F H xs us ds Q R I S' r bx q c
theorem s_bltB {b : Bt} {id : String} {x : Str} {e : Expr} {es : List Expr} {ps : PXs} {p pos : Pos} (hc : DCall X (.builtin id) (bltS b)) (hg : Gl X x) (hm : X.mg x = none) (hv : bootBuiltins x = some (.builtin id)) (ha : SAb (Γ := Γ) X (e :: es) ps)
    (hn : x ≠ "__name__") (hdb : (x == ("__debug__" : Str)) = false) (he : isStar e = false) (hpl : (backTo pos (starEach es X.env)).any (·.1) = false) : S2 Γ X (.Call (.Name x p) (e :: es) [] pos) (.blt b ps) :=
  SE.two ⟨fun {Fo Lk F H σ ρ Q R} S q c => by
    refine TEw.of (pe_callB (cr_w _) hg hm hv (pa_w X _) hn hdb (starEach_cons he) hpl) ?_
    refine ha.run S q fun vs F1 H1 ρ1 ds S1 t1 b1 q1 => hc.w S1.hs b1 q1 fun z F2 H2 d h2 t2 i2 q2 => c z F2 H2 ρ1 d (SxX.step S1 h2 t2) (t1.trans t2.q) i2 q2⟩ rfl
theorem s_bltT {b : Bt} {T : String} {x : Str} {e : Expr} {es : List Expr} {ps : PXs} {p pos : Pos} (hc : DCall X (.type T) (bltS b)) (hg : Gl X x) (hm : X.mg x = none) (hv : bootBuiltins x = some (.type T)) (ha : SAb (Γ := Γ) X (e :: es) ps)
    (hn : x ≠ "__name__") (hdb : (x == ("__debug__" : Str)) = false) (he : isStar e = false) (hpl : (backTo pos (starEach es X.env)).any (·.1) = false) : S2 Γ X (.Call (.Name x p) (e :: es) [] pos) (.blt b ps) :=
  SE.two ⟨fun {Fo Lk F H σ ρ Q R} S q c => by
    refine TEw.of (pe_callTy (cr_w _) hg hm hv (pa_w X _) hn hdb (starEach_cons he) hpl) ?_
    refine ha.run S q fun vs F1 H1 ρ1 ds S1 t1 b1 q1 => hc.w S1.hs b1 q1 fun z F2 H2 d h2 t2 i2 q2 => c z F2 H2 ρ1 d (SxX.step S1 h2 t2) (t1.trans t2.q) i2 q2⟩ rfl
section
variable {Lk : Lks} {F H : Hp}
theorem BorA.one {xs : List V} {d : D} (h : BorA X Fo Lk F H xs [d]) : ∃ x, xs = [x] ∧ Bor X Fo Lk F H x d := by
  cases h with
  | cons h t => cases t; exact ⟨_, rfl, h⟩
theorem BorA.two {xs : List V} {d e : D} (h : BorA X Fo Lk F H xs [d, e]) : ∃ x y, xs = [x, y] ∧ Bor X Fo Lk F H x d ∧ Bor X Fo Lk F H y e := by
  cases h with
  | cons h t =>
    obtain ⟨y, rfl, h2⟩ := t.one
    exact ⟨_, _, rfl, h, h2⟩
end
theorem d_len : DCall X (.builtin "len") (bltS .len) := by
  intro pins s σ Fo Lk k F H xs us ds Q R I S r b q c
  cases ds with
  | nil => exact q.elim
  | cons d ds =>
    cases ds with
    | cons _ _ => exact (show False by cases d <;> exact q).elim
    | nil =>
      obtain ⟨x, rfl, b1⟩ := b.one
      cases d with
      | lst ys =>
        obtain ⟨p, vs, rfl, h1, i1⟩ := b1.lst S
        exact call_len_seq pins s σ H _ us R I r ⟨p, vs, rfl, .inl (SqL.of h1), c _ F H _ S (Stp.refl F H) (.int _) (by rw [i1.length]; exact q)⟩
      | scr ns =>
        cases b1 with
        | fr h =>
          cases h with
          | @scr p _ h hl => exact call_len_seq pins s σ H _ us R I r ⟨p, ns.map V.int, rfl, .inl (S.sqL h), c _ F H _ S (Stp.refl F H) (.int _) (by rw [List.length_map]; exact q)⟩
      | tup ys =>
        obtain ⟨p, vs, rfl, h1, i1⟩ := b1.tup S
        exact call_len_seq pins s σ H _ us R I r ⟨p, vs, rfl, .inr h1, c _ F H _ S (Stp.refl F H) (.int _) (by rw [i1.length]; exact q)⟩
      | str z => exact call_len_str pins s σ H _ us R I r ⟨z, by rw [b1.str], q.1, c _ F H _ S (Stp.refl F H) (.int _) q.2⟩
      | dct ps =>
        obtain ⟨p, rfl, hd⟩ := b1.dct S
        obtain ⟨u, rfl, ru⟩ := vals1 r
        cases ru
        obtain ⟨hp, hz, o, es, ep, h1, h2, h3, h4⟩ := raw_of I hd
        have raw : s.heap.DictRaw p es ep := ⟨o, h1, h2, h3⟩
        rw [sizeLine_eq] at hz
        refine call_len_slot raw.typeIs PySem.F.slot_dict_len (n := (es.size : Nat)) (fun Q' h => call_len_raw hp raw h) (by omega) (by omega) ?_
        exact ⟨.int (es.size : Nat), H, (I.tok _).tok _, ⟨_, rfl⟩, c (.int (es.size : Nat)) F H _ S (Stp.refl F H) (.int _) (by rw [h4]; exact q)⟩
      | _ => exact q.elim
theorem d_abs : DCall X (.builtin "abs") (bltS .abs) := by
  intro pins s σ Fo Lk k F H xs us ds Q R I S r b q c
  cases ds with
  | nil => exact q.elim
  | cons d ds =>
    cases ds with
    | cons _ _ => exact (show False by cases d <;> exact q).elim
    | nil =>
      obtain ⟨x, rfl, b1⟩ := b.one
      cases d with
      | int i => exact call_abs pins s σ H _ us R I r ⟨i, by rw [b1.int], c _ F H _ S (Stp.refl F H) (.int _) q⟩
      | _ => exact q.elim
theorem d_int : DCall X (.type "int") (bltS .int) := by
  intro pins s σ Fo Lk k F H xs us ds Q R I S r b q c
  cases ds with
  | nil => exact q.elim
  | cons d ds =>
    cases ds with
    | cons _ _ => exact (show False by cases d <;> exact q).elim
    | nil =>
      obtain ⟨x, rfl, b1⟩ := b.one
      cases d with
      | int i => exact call_int1 pins s σ H _ us R I r (.inl ⟨i, by rw [b1.int], c _ F H _ S (Stp.refl F H) (.int _) q⟩)
      | bl i => exact call_int1 pins s σ H _ us R I r (.inr ⟨i, by rw [b1.bl], c _ F H _ S (Stp.refl F H) (.int _) q⟩)
      | _ => exact q.elim
theorem d_str : DCall X (.type "str") (bltS .str) := by
  intro pins s σ Fo Lk k F H xs us ds Q R I S r b q c
  cases ds with
  | nil => exact q.elim
  | cons d ds =>
    cases ds with
    | cons _ _ => exact (show False by cases d <;> exact q).elim
    | nil =>
      obtain ⟨x, rfl, b1⟩ := b.one
      cases d with
      | int i => exact call_str_int pins s σ H _ us R I r ⟨i, by rw [b1.int], q.1, c _ F H _ S (Stp.refl F H) (.str _) q.2⟩
      | _ => exact q.elim
theorem d_max2 (hc : X.calm = true) : DCall X (.builtin "max") (bltS .max2) := by
  intro pins s σ Fo Lk k F H xs us ds Q R I S r b q c
  match ds, b, q with
  | [.int i, .int j], b, q =>
    obtain ⟨x, y, rfl, b1, b2⟩ := b.two
    exact call_max2 hc pins s σ H _ us R I r ⟨i, j, by rw [b1.int, b2.int], c _ F H _ S (Stp.refl F H) (.int _) q⟩

theorem d_min2 (hc : X.calm = true) : DCall X (.builtin "min") (bltS .min2) := by
  intro pins s σ Fo Lk k F H xs us ds Q R I S r b q c
  match ds, b, q with
  | [.int i, .int j], b, q =>
    obtain ⟨x, y, rfl, b1, b2⟩ := b.two
    exact call_min2 hc pins s σ H _ us R I r ⟨i, j, by rw [b1.int, b2.int], c _ F H _ S (Stp.refl F H) (.int _) q⟩
/-! ### isinstance -/
def tyD : D → String
  | .non => "NoneType"
  | .bl _ => "bool"
  | .int _ => "int"
  | .str _ => "str"
  | .tup _ => "tuple"
  | .lst _ => "list"
  | .dct _ => "dict"
  | .pot => "list"
  | .scr _ => "list"
def tyNames : List String := ["NoneType", "bool", "int", "str", "tuple", "list", "dict"]
theorem tyD_mem (d : D) : tyD d ∈ tyNames := by cases d <;> simp [tyD, tyNames]
theorem kit_d {pins : List (Addr × Obj)} {σ : L2.St} {s : Shared} {Fo : Hp} {Lk : Lks} {k : Nat} {F H : Hp} (I : Inv X pins σ H s) (S : Hs Fo Lk k F H) {x : V} {u : Value} {d : D} (b : Bor X Fo Lk F H x d) (r : RelV x u) (hn : d.box = false) :
    ∃ P : Heap → Prop, PySem.W.KitX X.K u (.type (tyD d)) P ∧ P s.heap ∧ u ≠ .builtin "__main__.__loader__#opaque" := by
  cases d with
  | non => have e := b.non; subst e; exact kit_of I r (.base .non)
  | bl y => have e := b.bl; subst e; exact kit_of I r (.base (.bl y))
  | int i => have e := b.int; subst e; exact kit_of I r (.base (.int i))
  | str y => have e := b.str; subst e; exact kit_of I r (.base (.str y))
  | tup ds =>
    obtain ⟨p, vs, rfl, h1, i1⟩ := b.tup S
    cases r
    obtain ⟨its, r', ⟨o, h1, h2, _⟩, hz⟩ := I.tuple h1
    exact ⟨_, PySem.W.kitx_tuple, ⟨o, h1, h2⟩, fun z => nomatch z⟩
  | lst ds =>
    obtain ⟨p, vs, rfl, h1, i1⟩ := b.lst S
    exact kit_of I r (.base (.lst h1))
  | dct ps =>
    obtain ⟨p, rfl, hd⟩ := b.dct S
    cases r
    obtain ⟨hp, hz, o, es, ep, h1, h2, h3, h4⟩ := raw_of I hd
    exact ⟨_, PySem.W.kitx_dict, ⟨o, h1, h2.1⟩, fun z => nomatch z⟩
  | pot => cases hn
  | scr _ => cases hn
/-- what isinstance answers by the two types' names -/
def IsiOk (T : String) : Prop := ∀ a ∈ tyNames, kitB a T = some (a == T || (a == "bool" && T == "int"))
theorem isi_int : IsiOk "int" := by unfold IsiOk; decide +kernel
theorem isi_bool : IsiOk "bool" := by unfold IsiOk; decide +kernel
theorem isi_str : IsiOk "str" := by unfold IsiOk; decide +kernel
theorem isi_tuple : IsiOk "tuple" := by unfold IsiOk; decide +kernel
theorem isi_list : IsiOk "list" := by unfold IsiOk; decide +kernel
theorem isi_dict : IsiOk "dict" := by unfold IsiOk; decide +kernel
theorem s_isi {T : String} {x y : Str} {e : Expr} {pe : PX} {p p2 pos : Pos} (hT : IsiOk T) (hg : Gl X x) (hm : X.mg x = none) (hv : bootBuiltins x = some (.builtin "isinstance")) (hg2 : Gl X y) (hm2 : X.mg y = none) (hv2 : bootBuiltins y = some (.type T)) (ha : S2 Γ X e pe)
    (hn : x ≠ "__name__") (hdb : (x == ("__debug__" : Str)) = false) (hn2 : y ≠ "__name__") (hdb2 : (y == ("__debug__" : Str)) = false) (he : isStar e = false) : S2 Γ X (.Call (.Name x p) [e, .Name y p2] [] pos) (.blt (.isi T) (.cons pe .nil)) :=
  SE.two ⟨fun {Fo Lk F H σ ρ Q R} S q c => by
    refine TEw.of (pe_callB (cr_w _) hg hm hv (pa_cons (pe_w X e) (pa_cons (pe_bltn (v := .ty T) hg2 hm2 hv2 rfl hn2 hdb2) pa_nil rfl) (starEach_cons he)) hn hdb (starEach_cons he) rfl) ?_
    have q2 : brw pe (wpE Γ pe) ρ (fun d ρ1 => bltS (.isi T) [d] fun z => Q z ρ1) := q
    refine ha.bor.run S q2 fun v F1 H1 ρ1 d S1 t1 b1 q1 => ?_
    intro pins s σ' us I r
    obtain ⟨u1, u2, rfl, r1, r2⟩ := vals2 r
    cases (show u2 = Value.type T from r2)
    obtain ⟨hn1, q1⟩ : d.box = false ∧ Q (.bl (isiD T d)) ρ1 := q1
    obtain ⟨P, Z, p, hx⟩ := kit_d I S1.hs b1 r1 hn1
    refine PySem.W.kia_one Z I.kIn p (kit_ty (hT _ (tyD_mem d))) hx fun tk => ⟨.bl _, H1, I.tok tk, rfl, ?_⟩
    refine c _ F1 H1 ρ1 _ S1 t1 (.bl _) ?_
    have e : (tyD d == T || (tyD d == "bool" && T == "int")) = isiD T d := by
      have sw : ∀ a b : String, (a == b) = (b == a) := fun a b => by
        by_cases h : a = b
        · subst h; rfl
        · rw [beq_eq_false_iff_ne.mpr h, beq_eq_false_iff_ne.mpr (Ne.symm h)]
      cases d <;> simp only [tyD, isiD, sw T] <;> simp
    rw [e]
    exact q1⟩ rfl
end DL
/-! The data layer, part 9: repr, get. -/
namespace DL
open PySem PySem.Spec PyProof.Rows L2
variable {Γ : Nat → FSpec} {X : Cx}

mutual
theorem nodict : ∀ d : D, d.plain = true → d.py.hasDict = false
  | .non, _ => rfl
  | .bl _, _ => rfl
  | .int _, _ => rfl
  | .str _, _ => rfl
  | .tup xs, h => by
    simp only [D.plain] at h
    simp only [D.py, PyData.hasDict]
    exact nodicts xs h
  | .lst xs, h => by
    simp only [D.plain] at h
    simp only [D.py, PyData.hasDict]
    exact nodicts xs h
theorem nodicts : ∀ ds : List D, D.plains ds = true → PyData.hasDictAll (D.pys ds) = false
  | [], _ => rfl
  | x :: xs, h => by
    simp only [D.plains, Bool.and_eq_true] at h
    simp only [D.pys, PyData.hasDictAll, nodict x h.1, nodicts xs h.2, Bool.or_false]
end
theorem d_repr (hg : X.A.guards = some []) (hu : X.A.units + 70 < cLine) : DCall X (.builtin "repr") (bltS .repr) := by
  intro pins s σ Fo Lk k F H xs us ds Q R I S r b q c
  cases ds with
  | nil => exact q.elim
  | cons d ds =>
    cases ds with
    | cons _ _ => exact (show False by cases d <;> exact q).elim
    | nil =>
      obtain ⟨x, rfl, b1⟩ := b.one
      obtain ⟨u, rfl, ru⟩ := vals1 r
      obtain ⟨⟨hp, hs, hd, hz⟩, q⟩ : (d.plain = true ∧ d.py.showable = true ∧ d.py.depth ≤ 60 ∧ d.py.shown.length ≤ sizeLine) ∧ Q (.str d.py.shown) := by
        cases d <;> exact q
      obtain ⟨as, rd⟩ := Dp.reads I d.py x u (b1.dp S hp) ru
      have fin : ∀ (h' : Heap) (u : Tok) (tk : Tok), (∀ b o, s.heap.get? b = some o → h'.get? b = some o) → EP X pins σ R (.str d.py.shown u) { s with heap := h', toks := tk } := fun h' u tk hk =>
        ⟨.str d.py.shown, H, I.kept hk, ⟨_, rfl⟩, c _ F H _ S (Stp.refl F H) (.str _) q⟩
      have nod : ∀ d : D, d.plain = true → d.py.hasDict = false := fun d h => nodict d h
      cases d with
      | non => have e := b1.non; subst e; cases ru; exact PySem.P.repr_of_none (fin s.heap _ _ fun _ _ e => e)
      | bl y =>
        have e := b1.bl; subst e; cases ru
        refine PySem.P.repr_of_bool ?_
        have h := fin s.heap s.toks (s.toks + 1) fun _ _ e => e
        rw [show (D.bl y).py.shown = (if y then "True" else "False" : Str) by simp only [D.py, PyData.shown]] at h
        exact h
      | int i =>
        have e := b1.int; subst e; obtain ⟨t, rfl⟩ := ru
        refine PySem.P.repr_of_int ?_ ?_
        · simp only [D.py, PyData.showable, decide_eq_true_eq] at hs; exact hs
        · have h := fin s.heap s.toks (s.toks + 1) fun _ _ e => e
          simp only [D.py, PyData.shown] at h
          exact h
      | str z =>
        have e := b1.str; subst e; obtain ⟨t, rfl⟩ := ru
        simp only [D.py, PyData.shown] at hz
        refine PySem.P.repr_of_str ?_ hz
        have h := fin s.heap s.toks (s.toks + 1) fun _ _ e => e
        simp only [D.py, PyData.shown] at h
        exact h
      | tup ds =>
        obtain ⟨p, vs, rfl, h1, i1⟩ := b1.tup S
        cases ru
        exact PySem.repr_of_reads' rd hs (fun z => by rw [nod _ hp] at z; cases z) hg (by omega) (fun _ _ e => e) fin hz
      | lst ds =>
        obtain ⟨p, vs, rfl, h1, i1⟩ := b1.lst S
        cases ru
        exact PySem.repr_of_reads' rd hs (fun z => by rw [nod _ hp] at z; cases z) hg (by omega) (fun _ _ e => e) fin hz
      | _ => cases hp

/-! ### get -/
section
variable {pins : List (Addr × Obj)} {σ : L2.St} {H F : Hp} {s : Shared} {p : Addr} {ps : List (D × D)} {dk : D} {u : Value}
theorem dat_lookup {A : Around} {x : Value} (hu : A.units + 70 < cLine) (hp : (p == sysModules) = false) (g : DAt X F s.heap p ps dk u) : ∃ o, RO X.prog X.w X.K F o (lookD ps dk) ∧
    (∀ (E : Value → Shared → Prop) (Q : Value → Shared → Prop), (∀ t, Q (o.getD .none) { s with toks := t }) → wpAny (model X.prog X.w) A (call (.builtin "dict.get") [.ref p, u]) Q E s) ∧
    ∀ (E : Value → Shared → Prop) (Q : Value → Shared → Prop), (∀ t, Q (o.getD x) { s with toks := t }) → wpAny (model X.prog X.w) A (call (.builtin "dict.get") [.ref p, u, x]) Q E s := by
  cases g with
  | kk dd rel i ru ix =>
    exact ⟨_, look_k ix rel i, fun E Q h => call_meetsIn PySem.F.slot_dict_get dd.typeIs PySem.F.entry_dict_get (PySem.F.args_dict_get_2 _ _) (meets_dict_get (mixKind X.prog X.w) p (kV_is ru) hp) ⟨_, dd.mapOf, h _⟩,
      fun E Q h => call_meetsIn PySem.F.slot_dict_get dd.typeIs PySem.F.entry_dict_get (PySem.F.args_dict_get_3 _ _ _) (meets_dict_get_default (mixKind X.prog X.w) p (kV_is ru) hp x) ⟨_, dd.mapOf, h _⟩⟩
  | nn dd rel i eb hk hn ix =>
    subst eb
    exact ⟨_, look_n hn rel i, fun E Q h => get_keyed (room_n hu) hk hp ⟨_, dd, rfl⟩ (h _), fun E Q h => getOr_keyed (room_n hu) hk hp ⟨_, dd, rfl⟩ (h _)⟩
theorem dat_noDict (g : DAt X F s.heap p ps dk u) : ∀ a, Value.ref p = .ref a → ∃ ob, s.heap.get? a = some ob ∧ ob.dict = none := fun a e => by
  cases e
  cases g with
  | kk dd _ _ _ _ => obtain ⟨ob, _, _, h1, h2, _⟩ := dd; exact ⟨ob, h1, h2.2.1⟩
  | nn dd _ _ _ _ _ _ => obtain ⟨ob, _, _, h1, h2, _⟩ := dd; exact ⟨ob, h1, h2.2.1⟩
end
theorem dct_at {pins : List (Addr × Obj)} {σ : L2.St} {Fo : Hp} {Lk : Lks} {k : Nat} {F H : Hp} {s : Shared} (I : Inv X pins σ H s) (S : Hs Fo Lk k F H) {v : V} {u : Value} {ps : List (D × D)} (b : Bor X Fo Lk F H v (.dct ps)) (r : RelV v u) :
    s.TypeIs u "dict" ∧ ∀ a, u = .ref a → ∃ ob, s.heap.get? a = some ob ∧ ob.dict = none := by
  obtain ⟨p, rfl, hd⟩ := b.dct S
  cases r
  obtain ⟨_, _, o, es, ep, h1, h2, h3, _⟩ := raw_of I hd
  exact ⟨⟨o, h1, h2.1⟩, fun a e => by cases e; exact ⟨o, h1, h2.2.1⟩⟩
theorem methO_dct {m : Mt} {x : D} (h : methO m x = true) (hm : m = .get ∨ m = .getD) : ∃ ps, x = .dct ps := by
  rcases hm with rfl | rfl <;> cases x <;> first | exact ⟨_, rfl⟩ | cases h
theorem s_get {o e : Expr} {po pe : PX} {apos cpos : Pos} (hu : X.A.units + 70 < cLine) (ho : S2 Γ X o po) (he : S2 Γ X e pe) (m : M1 X o "get" apos e cpos) : S2 Γ X (.Call (.Attribute o "get" apos) [e] [] cpos) (.meth .get po (.cons pe .nil)) :=
  SE.two ⟨fun {Fo Lk F H σ ρ Q R} S q c pins s I => by
    have q0 : brw po (wpE Γ po) ρ (fun x ρ1 => methO .get x = true ∧ wpE Γ pe ρ1 fun y ρ2 => methS .get x [y] fun d => Q d ρ2) := q
    refine wpAny_Call_method m.base m.few m.line PySem.F.plainAttrs_dict PySem.F.slot_dict_get PySem.F.type_dict_get ?_
    have st := ho.bor.run (R := fun x H1 => ∃ ps ρ1 F1, SxX X Fo Lk F1 H1 σ ρ1 ∧ Stq F H F1 H1 ∧ Bor X Fo Lk F1 H1 x (.dct ps) ∧ wpE Γ pe ρ1 fun y ρ2 => kOk ps y = true ∧ Q ((lookD ps y).getD .non) ρ2) S q0 fun x F1 H1 ρ1 dx S1 t1 b1 q1 => by
      obtain ⟨ps, rfl⟩ := methO_dct q1.1 (.inl rfl)
      exact ⟨ps, ρ1, F1, S1, t1, b1, q1.2⟩
    refine thn (st pins s I) fun u s1 ⟨x, H1, I1, rx, ps, ρ1, F1, S1, t1, b1, q1⟩ => ?_
    obtain ⟨g1, g2⟩ := dct_at I1 S1.hs b1 rx
    refine ⟨g1, g2, ?_⟩
    rw [m.trees]
    have st2 := he.val.run (R := fun y H2 => ∃ ρ2 F2 d, SxX X Fo Lk F2 H2 σ ρ2 ∧ Stq F1 H1 F2 H2 ∧ IsX X F2 y d ∧ kOk ps d = true ∧ Q ((lookD ps d).getD .non) ρ2) S1 q1 fun y F2 H2 ρ2 d S2 t2 i2 q2 => ⟨ρ2, F2, d, S2, t2, i2, q2⟩
    refine Calls.callWith_builtin rfl (Calls.evalArgs_plain (Calls.spliced_cons (thn (st2 pins s1 I1) fun iv s2 ⟨y, H2, I2, ry, ρ2, F2, d, S2', t2, i2, hk, q2⟩ => Calls.spliced_nil ?_)))
    obtain ⟨p, e, hd⟩ := (b1.mono t2).dct S2'.hs
    subst e
    cases rx
    obtain ⟨g, hp⟩ := DAt.of I2 S2'.hs hd hk i2 ry
    obtain ⟨o, ro, h1, _⟩ := dat_lookup (A := X.A) (x := .none) hu hp g
    refine h1 _ _ fun t => ?_
    obtain ⟨v', r', i'⟩ := ro.getD (u := .none) (v := .non) rfl .non
    exact ⟨v', H2, I2.tok _, r', c v' F2 H2 ρ2 _ S2' (t1.trans t2) i' q2⟩⟩ rfl
theorem s_getD {o e f : Expr} {po pe pf : PX} {apos cpos : Pos} (hu : X.A.units + 70 < cLine) (ho : S2 Γ X o po) (he : S2 Γ X e pe) (hf : S2 Γ X f pf) (m : M2 X o "get" apos e f cpos) : S2 Γ X (.Call (.Attribute o "get" apos) [e, f] [] cpos) (.meth .getD po (.cons pe (.cons pf .nil))) :=
  SE.two ⟨fun {Fo Lk F H σ ρ Q R} S q c pins s I => by
    have q0 : brw po (wpE Γ po) ρ (fun x ρ1 => methO .getD x = true ∧ wpE Γ pe ρ1 fun y ρ2 => wpE Γ pf ρ2 fun z ρ3 => methS .getD x [y, z] fun d => Q d ρ3) := q
    refine wpAny_Call_method m.base m.few m.line PySem.F.plainAttrs_dict PySem.F.slot_dict_get PySem.F.type_dict_get ?_
    have st := ho.bor.run (R := fun x H1 => ∃ ps ρ1 F1, SxX X Fo Lk F1 H1 σ ρ1 ∧ Stq F H F1 H1 ∧ Bor X Fo Lk F1 H1 x (.dct ps) ∧ wpE Γ pe ρ1 fun y ρ2 => wpE Γ pf ρ2 fun z ρ3 => kOk ps y = true ∧ Q ((lookD ps y).getD z) ρ3) S q0 fun x F1 H1 ρ1 dx S1 t1 b1 q1 => by
      obtain ⟨ps, rfl⟩ := methO_dct q1.1 (.inr rfl)
      exact ⟨ps, ρ1, F1, S1, t1, b1, q1.2⟩
    refine thn (st pins s I) fun u s1 ⟨x, H1, I1, rx, ps, ρ1, F1, S1, t1, b1, q1⟩ => ?_
    obtain ⟨g1, g2⟩ := dct_at I1 S1.hs b1 rx
    refine ⟨g1, g2, ?_⟩
    rw [m.trees]
    have st2 := he.val.run (R := fun y H2 => ∃ ρ2 F2 d, SxX X Fo Lk F2 H2 σ ρ2 ∧ Stq F1 H1 F2 H2 ∧ IsX X F2 y d ∧ wpE Γ pf ρ2 fun z ρ3 => kOk ps d = true ∧ Q ((lookD ps d).getD z) ρ3) S1 q1 fun y F2 H2 ρ2 d S2 t2 i2 q2 => ⟨ρ2, F2, d, S2, t2, i2, q2⟩
    refine Calls.callWith_builtin rfl (Calls.evalArgs_plain (Calls.spliced_cons (thn (st2 pins s1 I1) fun iv s2 ⟨y, H2, I2, ry, ρ2, F2, d, S2', t2, i2, q2⟩ => Calls.spliced_cons ?_)))
    have st3 := hf.val.run (R := fun z H3 => ∃ ρ3 F3 d3, SxX X Fo Lk F3 H3 σ ρ3 ∧ Stq F2 H2 F3 H3 ∧ IsX X F3 z d3 ∧ kOk ps d = true ∧ Q ((lookD ps d).getD d3) ρ3) S2' q2 fun z F3 H3 ρ3 d3 S3 t3 i3 q3 => ⟨ρ3, F3, d3, S3, t3, i3, q3⟩
    refine thn (st3 pins s2 I2) fun zv s3 ⟨z, H3, I3, rz, ρ3, F3, d3, S3, t3, i3, hk, q3⟩ => Calls.spliced_nil ?_
    obtain ⟨p, e, hd⟩ := ((b1.mono t2).mono t3).dct S3.hs
    subst e
    cases rx
    obtain ⟨g, hp⟩ := DAt.of I3 S3.hs hd hk (i2.mono t3.sub) ry
    obtain ⟨o, ro, _, h1⟩ := dat_lookup (A := X.A) (x := zv) hu hp g
    refine h1 _ _ fun t => ?_
    obtain ⟨v', r', i'⟩ := ro.getD rz i3
    exact ⟨v', H3, I3.tok _, r', c v' F3 H3 ρ3 _ S3 (t1.trans (t2.trans t3)) i' q3⟩⟩ rfl
end DL
/-! The data layer, part 10: targets, cells of others, blocks. -/
namespace DL
open PySem PySem.Spec PyProof.Rows L2
variable {Γ : Nat → FSpec} {X : Cx}

/-! ### targets -/
def tgS : TgX → List Nat
  | .nm i => [i]
  | .one a => tgS a
  | .cons a b => tgS a ++ tgS b
section
variable {P : Program} {w : World} {K : PySem.W.Frag} {Fo : Hp} {Lk : Lks} {F H : Hp} {σ : L2.St} {ρ : Ev}
theorem set_at (σ : L2.St) (i j : Nat) (x : Option V) : (σ.set i x)[j]? = if i = j ∧ i < σ.length then some x else σ[j]? := by
  rw [List.getElem?_set]
  by_cases h : i = j
  · subst h
    by_cases h2 : i < σ.length
    · simp [h2]
    · simp [h2]
  · simp [h]
/-- a name is bound to a frozen value -/
theorem Sx.bind (S : Sx P w K Fo Lk F H σ ρ) {i : Nat} {v : V} {d : D} (h : Is P w K F v d) : Sx P w K Fo Lk F H (σ.set i (some v)) (ρ.set i (.dat d)) where
  hs := S.hs
  len := by rw [List.length_set]; show _ = (setS ρ.sl i _).length; rw [setS_length]; exact S.len
  sl := fun j => by
    rw [Ev.get_set, set_at, S.len]
    by_cases hij : i = j ∧ i < ρ.sl.length
    · rw [if_pos hij, if_pos hij]
      exact ⟨v, rfl, h⟩
    · rw [if_neg hij, if_neg hij]
      exact S.sl j
  sep := fun a b q hab ha hb e1 e2 => by
    rw [Ev.get_set] at ha hb
    rw [set_at, S.len] at e1 e2
    by_cases h1 : i = a ∧ i < ρ.sl.length
    · rw [if_pos h1] at ha; exact nomatch ha
    · rw [if_neg h1] at ha e1
      by_cases h2 : i = b ∧ i < ρ.sl.length
      · rw [if_pos h2] at hb; exact nomatch hb
      · rw [if_neg h2] at hb e2
        exact S.sep a b q hab ha hb e1 e2
end
/-- σ' is σ but at the slots vs -/
def Off (vs : List Nat) (σ σ' : L2.St) : Prop := σ'.length = σ.length ∧ ∀ i, i ∉ vs → σ'[i]? = σ[i]?
theorem Off.refl (vs : List Nat) (σ : L2.St) : Off vs σ σ := ⟨rfl, fun _ _ => rfl⟩
theorem Off.trans {vs : List Nat} {a b c : L2.St} (h : Off vs a b) (h' : Off vs b c) : Off vs a c := ⟨h'.1.trans h.1, fun i hi => (h'.2 i hi).trans (h.2 i hi)⟩
theorem Off.mono {vs us : List Nat} {a b : L2.St} (h : Off vs a b) (s : ∀ i, i ∈ vs → i ∈ us) : Off us a b := ⟨h.1, fun i hi => h.2 i fun m => hi (s i m)⟩
theorem Off.set (σ : L2.St) (i : Nat) (x : Option V) : Off [i] σ (σ.set i x) := ⟨List.length_set, fun j hj => by rw [List.getElem?_set_ne fun e => hj (by simp [e])]⟩
/-- what is new in the names is frozen, or of the written part -/
def Fz (K : PySem.W.Frag) (F : Hp) (v : V) : Prop := ∀ p, v = .ref p → F p ≠ none ∨ K.lookup p ≠ none
theorem is_fz {P : Program} {w : World} {K : PySem.W.Frag} {F : Hp} {v : V} {d : D} (h : Is P w K F v d) : Fz K F v := fun p e => by
  subst e
  have sq : ∀ {xs : List V}, SqT K F p xs → F p ≠ none ∨ K.lookup p ≠ none := fun h => by
    rcases h with (h | ⟨o, h⟩) | ⟨o, arr, m, h, _⟩
    · exact .inl (by rw [h]; exact fun z => nomatch z)
    · exact .inl (by rw [h]; exact fun z => nomatch z)
    · exact .inr (by rw [h]; exact fun z => nomatch z)
  have sl : ∀ {xs : List V}, SqL K F p xs → F p ≠ none ∨ K.lookup p ≠ none := fun h => by
    rcases h with (h | ⟨o, h⟩) | ⟨o, arr, m, h, _⟩
    · exact .inl (by rw [h]; exact fun z => nomatch z)
    · exact .inl (by rw [h]; exact fun z => nomatch z)
    · exact .inr (by rw [h]; exact fun z => nomatch z)
  cases h with
  | tup h _ => exact sq h
  | lst h _ => exact .inl (by rw [h]; exact fun z => nomatch z)
  | dctK h _ => exact .inl (by rw [h]; exact fun z => nomatch z)
  | dctN h _ => exact .inl (by rw [h]; exact fun z => nomatch z)
  | pot h => exact .inl (by rw [h]; exact fun z => nomatch z)
  | scr h _ => exact sl h
structure OffF (K : PySem.W.Frag) (F : Hp) (vs : List Nat) (σ σ' : L2.St) : Prop where
  off : Off vs σ σ'
  fz : ∀ (i : Nat) (v : V), σ'[i]? = some (some v) → σ[i]? = some (some v) ∨ Fz K F v
theorem OffF.trans {K : PySem.W.Frag} {F : Hp} {vs : List Nat} {a b c : L2.St} (h : OffF K F vs a b) (h' : OffF K F vs b c) : OffF K F vs a c := ⟨h.off.trans h'.off, fun i v e => (h'.fz i v e).elim (h.fz i v) .inr⟩
theorem OffF.mono {K : PySem.W.Frag} {F : Hp} {vs us : List Nat} {a b : L2.St} (h : OffF K F vs a b) (s : ∀ i, i ∈ vs → i ∈ us) : OffF K F us a b := ⟨h.off.mono s, h.fz⟩
theorem OffF.set {K : PySem.W.Frag} {F : Hp} (σ : L2.St) (i : Nat) {v : V} (h : Fz K F v) : OffF K F [i] σ (σ.set i (some v)) := ⟨Off.set _ _ _, fun j u e => by
  rw [List.getElem?_set] at e
  split at e
  · split at e
    · cases e; exact .inr h
    · cases e
  · exact .inl e⟩
def TGw (X : Cx) (tg : Expr) : TG := fun v σ H Q => ∀ (pins : List (Addr × Obj)) (s : Shared) (u : Value), Inv X pins σ H s → RelV v u → wpAny (model X.prog X.w) X.A (assign tg X.env u) (fun _ s' => ∃ σ' H', Inv X pins σ' H' s' ∧ Q σ' H') X.xe s
theorem pg_w (X : Cx) (tg : Expr) : PG X tg (TGw X tg) := ⟨fun pins s _ _ _ u _ I r h => h pins s u I r⟩
theorem TGw.of {tg : Expr} {t : TG} {v : V} {σ : L2.St} {H : Hp} {R : L2.St → Hp → Prop} (h : PG X tg t) (q : t v σ H R) : TGw X tg v σ H R := fun pins s u I r => h.run pins s σ H v u R I r q
def TGsw (X : Cx) (ts : List Expr) : TGs := fun vs σ H Q => ∀ (pins : List (Addr × Obj)) (s : Shared) (us : List Value), Inv X pins σ H s → Vals vs us → wpAny (model X.prog X.w) X.A (assignInOrder ((assignEach ts X.env).map (·.2)) us) (fun _ s' => ∃ σ' H', Inv X pins σ' H' s' ∧ Q σ' H') X.xe s
theorem pgs_w (X : Cx) (ts : List Expr) : PGs X ts (TGsw X ts) := ⟨fun pins s _ _ _ us _ I r h => h pins s us I r⟩
theorem TGsw.of {ts : List Expr} {t : TGs} {v : List V} {σ : L2.St} {H : Hp} {R : L2.St → Hp → Prop} (h : PGs X ts t) (q : t v σ H R) : TGsw X ts v σ H R := fun pins s u I r => h.run pins s σ H v u R I r q
structure SG (X : Cx) (tg : Expr) (p : TgX) : Prop where
  run : ∀ {Fo : Hp} {Lk : Lks} {F H : Hp} {σ : L2.St} {ρ : Ev} {v : V} {d : D} {Q : Ev → Prop} {R : L2.St → Hp → Prop}, SxX X Fo Lk F H σ ρ → IsX X F v d → bindT p d ρ Q → (∀ σ' ρ', SxX X Fo Lk F H σ' ρ' → OffF X.K F (tgS p) σ σ' → Q ρ' → R σ' H) → TGw X tg v σ H R
theorem bindT_ex : ∀ {p : TgX} {d : D} {ρ : Ev} {Q : Ev → Prop}, bindT p d ρ Q → ∃ ρ', Q ρ'
  | .nm i, d, ρ, Q, h => ⟨_, h⟩
  | .one a, d, ρ, Q, h => by
    unfold bindT at h
    split at h
    · exact bindT_ex h
    · exact h.elim
  | .cons a b, d, ρ, Q, h => by
    unfold bindT at h
    split at h
    · obtain ⟨ρ', h'⟩ := bindT_ex h
      exact bindT_ex h'
    · exact h.elim
def tgN : TgX → Option Nat
  | .nm _ => none
  | .one _ => some 1
  | .cons _ b => (tgN b).map (· + 1)
theorem bindT_len : ∀ {p : TgX} {ds : List D} {ρ : Ev} {Q : Ev → Prop} {n : Nat}, tgN p = some n → bindT p (.tup ds) ρ Q → ds.length = n
  | .nm i, ds, ρ, Q, n, e, h => by cases e
  | .one a, ds, ρ, Q, n, e, h => by
    cases e
    unfold bindT at h
    split at h
    · rename_i x e'; cases e'; rfl
    · exact h.elim
  | .cons a b, ds, ρ, Q, n, e, h => by
    unfold bindT at h
    split at h
    · rename_i x r e'
      cases e'
      obtain ⟨ρ', h'⟩ := bindT_ex h
      obtain ⟨m, e1, rfl⟩ := Option.map_eq_some_iff.mp e
      rw [List.length_cons, bindT_len e1 h']
    · exact h.elim
structure SGs (X : Cx) (ts : List Expr) (p : TgX) : Prop where
  len : tgN p = some ts.length
  run : ∀ {Fo : Hp} {Lk : Lks} {F H : Hp} {σ : L2.St} {ρ : Ev} {vs : List V} {ds : List D} {Q : Ev → Prop} {R : L2.St → Hp → Prop}, SxX X Fo Lk F H σ ρ → IsAX X F vs ds → bindT p (.tup ds) ρ Q → (∀ σ' ρ', SxX X Fo Lk F H σ' ρ' → OffF X.K F (tgS p) σ σ' → Q ρ' → R σ' H) → TGsw X ts vs σ H R
theorem sg_nm {i : Nat} {x : Str} {pos : Pos} (hN : X.N.Nodup) (hi : X.N[i]? = some x) (hx : Loc X.env.scope x) (hf : X.fn x = true ∨ X.env.scope.names.lookup x = some .local) : SG X (.Name x pos) (.nm i) :=
  ⟨fun {Fo Lk F H σ ρ v d Q R} S i q c => TGw.of (pg_name hN hi hx hf) (c _ _ (S.bind i) (OffF.set _ _ (is_fz i)) q)⟩
theorem sgs_one {e : Expr} {p : TgX} (h : SG X e p) (he : (assignEach [e] X.env).map (·.2) = assign e X.env :: (assignEach [] X.env).map (·.2)) : SGs X [e] (.one p) :=
  ⟨rfl, fun {Fo Lk F H σ ρ vs ds Q R} S i q c => by
    cases i with
    | nil => exact q.elim
    | cons i1 i2 =>
      cases i2 with
      | cons _ _ => exact q.elim
      | nil => exact TGsw.of (pgs_cons (pg_w X e) pgs_nil he) ⟨_, _, rfl, h.run S i1 q fun σ' ρ' S' o q' => ⟨rfl, c σ' ρ' S' o q'⟩⟩⟩
theorem sgs_cons {e e2 : Expr} {es : List Expr} {p p2 : TgX} (h : SG X e p) (h2 : SGs X (e2 :: es) p2) (he : (assignEach (e :: e2 :: es) X.env).map (·.2) = assign e X.env :: (assignEach (e2 :: es) X.env).map (·.2)) : SGs X (e :: e2 :: es) (.cons p p2) :=
  ⟨by show (tgN p2).map (· + 1) = _; rw [h2.len]; rfl, fun {Fo Lk F H σ ρ vs ds Q R} S i q c => by
    cases i with
    | nil => exact q.elim
    | cons i1 i2 =>
      refine TGsw.of (pgs_cons (pg_w X e) (pgs_w X (e2 :: es)) he) ⟨_, _, rfl, h.run S i1 q fun σ' ρ' S' o q' => ?_⟩
      exact h2.run S' i2 q' fun σ2 ρ2 S2 o2 q2 => c σ2 ρ2 S2 ((o.mono fun i hi => List.mem_append_left _ hi).trans (o2.mono fun i hi => List.mem_append_right _ hi)) q2⟩
theorem sg_tup {es : List Expr} {k : Nat} {p : TgX} {pos : Pos} (hc : X.calm = true) (h : SGs X es p) (hn : (assignEach es X.env).length = es.length) (hst : (assignEach es X.env).findIdx? (·.1) = none) : SG X (.Tuple es k pos) p :=
  ⟨fun {Fo Lk F H σ ρ v d Q R} S i q c => by
    have isT : ∃ ds, d = .tup ds := by
      have hl := h.len
      cases p with
      | nm _ => cases hl
      | one a =>
        unfold bindT at q
        split at q
        · exact ⟨_, rfl⟩
        · exact q.elim
      | cons a b =>
        unfold bindT at q
        split at q
        · exact ⟨_, rfl⟩
        · exact q.elim
    obtain ⟨ds, rfl⟩ := isT
    obtain ⟨a, xs, rfl, h1, i1⟩ := i.inv_tup
    refine TGw.of (pg_tup hc (pgs_w X es) hn hst) ⟨a, xs, rfl, S.hs.sqT h1, by rw [i1.length]; exact bindT_len h.len q, h.run S i1 q c⟩⟩
end DL
/-! The data layer, part 11: cells of others, locks, blocks, list comprehensions. -/
namespace DL
open PySem PySem.Spec PyProof.Rows L2
variable {Γ : Nat → FSpec} {X : Cx}

theorem noOdl_get {ρ : Ev} (h : noOdl ρ = true) (i : Nat) (ps : List (D × List D)) : ρ.get i ≠ .odl ps := by
  obtain ⟨sl, k⟩ := ρ
  have h' : (sl.all fun s => !isOdl s) = true := h
  show getS sl i ≠ _
  clear h
  induction sl generalizing i with
  | nil => exact fun z => nomatch z
  | cons s r ih =>
    rw [List.all_cons, Bool.and_eq_true] at h'
    cases i with
    | zero =>
      intro z
      have z' : s = .odl ps := z
      rw [z'] at h'
      exact nomatch h'.1
    | succ i => exact ih i h'.2
section
variable {P : Program} {w : World} {K : PySem.W.Frag} {Fo : Hp} {Lk : Lks} {k : Nat} {F H : Hp} {σ : L2.St} {ρ : Ev} {D : Addr} {o o' : HO}
/-! ### a cell of another -/
theorem Hs.foNew (S : Hs Fo Lk k F H) (hD : H D = none) : Hs (upd Fo D o) Lk k F (upd H D o) where
  sub := fun a u e => by
    have ha : a ≠ D := ne_of_none e (S.nF hD)
    rw [upd_ne ha]; exact S.sub a u e
  fo := fun a u e => by
    by_cases ha : a = D
    · subst ha; rw [upd_same] at e ⊢; exact ⟨e, S.nF hD⟩
    · rw [upd_ne ha] at e ⊢; exact S.fo a u e
  lk := fun a ob e => by
    have ha : a ≠ D := fun z => by subst z; rw [S.noLk hD] at e; cases e
    rw [upd_ne ha]; exact S.lk a ob e
theorem Hs.foSet (S : Hs (upd Fo D o) Lk k F H) (ho : ∀ ob u, o ≠ .frz ob u) : Hs (upd Fo D o') Lk k F (upd H D o') where
  sub := fun a u e => by
    have ha : a ≠ D := ne_of_none e (S.fo D o upd_same).2
    rw [upd_ne ha]; exact S.sub a u e
  fo := fun a u e => by
    by_cases ha : a = D
    · subst ha; rw [upd_same] at e ⊢; exact ⟨e, (S.fo a o upd_same).2⟩
    · rw [upd_ne ha] at e ⊢; exact S.fo a u (by rw [upd_ne ha]; exact e)
  lk := fun a ob e => by
    have ha : a ≠ D := fun z => by
      subst z
      have h := S.fo a o upd_same
      rcases S.lk a ob e with ⟨u, q, _⟩ | ⟨_, u, q, _⟩
      · rw [h.2] at q; cases q
      · rw [h.1] at q; exact ho _ _ (Option.some.inj q)
    rw [upd_ne ha]; exact S.lk a ob e
theorem Hs.foDrop (S : Hs (upd Fo D o) Lk k F H) (hD : Fo D = none) : Hs Fo Lk k F H :=
  ⟨S.sub, fun a u e => by
    have ha : a ≠ D := ne_of_none e hD
    exact S.fo a u (by rw [upd_ne ha]; exact e), S.lk⟩
theorem Sx.foNew (S : Sx P w K Fo Lk F H σ ρ) (hD : H D = none) : Sx P w K (upd Fo D o) Lk F (upd H D o) σ ρ where
  hs := S.hs.foNew hD
  len := S.len
  sl := fun i => by
    have q := S.sl i
    cases e : ρ.get i with
    | any => trivial
    | dat d => rw [e] at q; exact q
    | ol ds =>
      rw [e] at q
      obtain ⟨p, xs, h1, h2, h3, h4, h5⟩ := q
      have hp : p ≠ D := ne_of_none h4 hD
      exact ⟨p, xs, h1, h2, by rw [upd_ne hp]; exact h3, by rw [upd_ne hp]; exact h4, h5⟩
    | odl ps =>
      rw [e] at q
      obtain ⟨p, h1, h2⟩ := q
      exact ⟨p, h1, h2.fo fun a o z => by rw [upd_ne (ne_of_none z (S.hs.noFo hD))]; exact z⟩
    | od ps =>
      rw [e] at q
      obtain ⟨p, h1, h2, h3, h4⟩ := q
      obtain ⟨u, h5, h6⟩ := h4.some
      have hp : p ≠ D := ne_of_none h5 hD
      exact ⟨p, h1, h2, by rw [upd_ne hp]; exact h3, h6 F _ (Sub.refl F) (by rw [upd_ne hp]; exact h5)⟩
  sep := S.sep
theorem Sx.foSet (S : Sx P w K (upd Fo D o) Lk F H σ ρ) (ho : ∀ ob u, o ≠ .frz ob u) (hno : noOdl ρ = true) : Sx P w K (upd Fo D o') Lk F (upd H D o') σ ρ where
  hs := S.hs.foSet ho
  len := S.len
  sl := fun i => by
    have q := S.sl i
    cases e : ρ.get i with
    | any => trivial
    | dat d => rw [e] at q; exact q
    | ol ds =>
      rw [e] at q
      obtain ⟨p, xs, h1, h2, h3, h4, h5⟩ := q
      have hp : p ≠ D := fun z => by subst z; rw [upd_same] at h3; cases h3
      rw [upd_ne hp] at h3
      exact ⟨p, xs, h1, h2, by rw [upd_ne hp]; exact h3, by rw [upd_ne hp]; exact h4, h5⟩
    | odl ps => exact (noOdl_get hno i ps e).elim
    | od ps =>
      rw [e] at q
      obtain ⟨p, h1, h2, h3, h4⟩ := q
      obtain ⟨u, h5, h6⟩ := h4.some
      have hp : p ≠ D := fun z => by subst z; rw [upd_same] at h3; cases h3
      rw [upd_ne hp] at h3
      exact ⟨p, h1, h2, by rw [upd_ne hp]; exact h3, h6 F _ (Sub.refl F) (by rw [upd_ne hp]; exact h5)⟩
  sep := S.sep
/-! ### slots forgotten, slots back -/
theorem Sx.forget (S : Sx P w K Fo Lk F H σ ρ) (i : Nat) : Sx P w K Fo Lk F H (σ.set i none) (ρ.set i .any) where
  hs := S.hs
  len := by rw [List.length_set]; show _ = (setS ρ.sl i _).length; rw [setS_length]; exact S.len
  sl := fun j => by
    rw [Ev.get_set, set_at, S.len]
    by_cases hij : i = j ∧ i < ρ.sl.length
    · rw [if_pos hij, if_pos hij]; trivial
    · rw [if_neg hij, if_neg hij]; exact S.sl j
  sep := fun a b q hab ha hb e1 e2 => by
    rw [Ev.get_set] at ha hb
    rw [set_at, S.len] at e1 e2
    by_cases h1 : i = a ∧ i < ρ.sl.length
    · rw [if_pos h1] at ha; exact nomatch ha
    · rw [if_neg h1] at ha e1
      by_cases h2 : i = b ∧ i < ρ.sl.length
      · rw [if_pos h2] at hb; exact nomatch hb
      · rw [if_neg h2] at hb e2
        exact S.sep a b q hab ha hb e1 e2
theorem Sx.wipe (S : Sx P w K Fo Lk F H σ ρ) : ∀ own : List Nat, Sx P w K Fo Lk F H (L2.wipe σ own) (wipeE own ρ)
  | [] => S
  | v :: vs => (S.wipe vs).forget v
theorem back_get (ρ ρ' : Ev) (j : Nat) : ∀ own : List Nat, (backE own ρ ρ').get j = if j ∈ own ∧ j < ρ'.sl.length then ρ.get j else ρ'.get j
  | [] => by simp [backE]
  | v :: vs => by
    have ih := back_get ρ ρ' j vs
    have hl : ∀ own : List Nat, (own.foldr (fun i sl => setS sl i (getS ρ.sl i)) ρ'.sl).length = ρ'.sl.length := fun own => by
      induction own with
      | nil => rfl
      | cons a r ih => rw [List.foldr_cons, setS_length, ih]
    show getS (setS (vs.foldr (fun i sl => setS sl i (getS ρ.sl i)) ρ'.sl) v (getS ρ.sl v)) j = _
    rw [getS_set, hl]
    by_cases h : v = j
    · subst h
      by_cases h2 : v < ρ'.sl.length
      · rw [if_pos ⟨rfl, h2⟩, if_pos ⟨List.mem_cons_self, h2⟩]; rfl
      · rw [if_neg (fun z => h2 z.2), if_neg (fun z => h2 z.2)]
        have ih2 : getS (vs.foldr (fun i sl => setS sl i (getS ρ.sl i)) ρ'.sl) v = _ := ih
        rw [ih2, if_neg (fun z => h2 z.2)]
    · rw [if_neg (fun z => h z.1)]
      have ih2 : getS (vs.foldr (fun i sl => setS sl i (getS ρ.sl i)) ρ'.sl) j = _ := ih
      rw [ih2]
      simp [Ne.symm h]
theorem back_len (ρ ρ' : Ev) : ∀ own : List Nat, (backE own ρ ρ').sl.length = ρ'.sl.length
  | [] => rfl
  | v :: vs => by
    show (setS _ v _).length = _
    rw [setS_length]
    exact back_len ρ ρ' vs
theorem wipeE_get (ρ : Ev) (j : Nat) : ∀ own : List Nat, j ∉ own → (wipeE own ρ).get j = ρ.get j
  | [], _ => rfl
  | v :: vs, h => by
    show getS (setS _ v _) j = _
    rw [getS_set, if_neg (fun z => h (by rw [z.1]; exact List.mem_cons_self))]
    exact wipeE_get ρ j vs fun m => h (List.mem_cons_of_mem _ m)
theorem wipe_in {σ : L2.St} {i : Nat} : ∀ {vs : List Nat}, i ∈ vs → i < σ.length → (L2.wipe σ vs)[i]? = some none
  | v :: vs, h, hl => by
    unfold L2.wipe
    rw [List.getElem?_set]
    by_cases hv : v = i
    · subst hv; rw [if_pos rfl, wipe_length, if_pos hl]
    · rw [if_neg hv]
      rcases List.mem_cons.mp h with e | m
      · exact (hv e.symm).elim
      · exact wipe_in m hl
/-- only the block's own slots were bound -/
theorem wipe_off {σ σ2 : L2.St} {own vs : List Nat} (h : Off vs (L2.wipe σ own) σ2) (s : ∀ i, i ∈ vs → i ∈ own) : L2.wipe σ2 own = L2.wipe σ own := by
  refine List.ext_getElem? fun i => ?_
  by_cases hi : i ∈ own
  · by_cases hl : i < σ.length
    · rw [wipe_in hi hl, wipe_in hi (by rw [h.1, wipe_length]; exact hl)]
    · rw [List.getElem?_eq_none (by rw [wipe_length, h.1, wipe_length]; omega), List.getElem?_eq_none (by rw [wipe_length]; omega)]
  · rw [wipe_out hi, wipe_out hi, h.2 i (fun m => hi (s i m)), wipe_out hi]
theorem Sx.back {F' H' : Hp} {σ2 : L2.St} {ρ2 : Ev} {own vs : List Nat} (S : Sx P w K Fo Lk F H σ ρ) (S2 : Sx P w K Fo Lk F' H' σ2 ρ2) (t : Sub F F') (h : Off vs (L2.wipe σ own) σ2) (s : ∀ i, i ∈ vs → i ∈ own) (ok : ownOk own ρ = true) : Sx P w K Fo Lk F' H' σ (backE own ρ ρ2) := by
  have hl : σ2.length = σ.length := by rw [h.1, wipe_length]
  have hno : ∀ i, i ∈ own → (ρ.get i).own = false := fun i hi => by
    have q := List.all_eq_true.mp ok i hi
    simpa using q
  have hsame : ∀ i, i ∉ own → σ2[i]? = σ[i]? := fun i hi => by rw [h.2 i (fun m => hi (s i m)), wipe_out hi]
  have hlen : ρ2.sl.length = σ.length := by rw [← S2.len, hl]
  refine ⟨S2.hs, ?_, fun i => ?_, fun a b q hab ha hb e1 e2 => ?_⟩
  · rw [back_len, ← S2.len, hl]
  · rw [back_get]
    by_cases hi : i ∈ own ∧ i < ρ2.sl.length
    · rw [if_pos hi]
      have q := S.sl i
      have hn := hno i hi.1
      cases e : ρ.get i with
      | any => trivial
      | dat d => rw [e] at q; obtain ⟨v, h1, h2⟩ := q; exact ⟨v, h1, h2.mono t⟩
      | ol ds => rw [e] at hn; cases hn
      | odl ps => rw [e] at q; obtain ⟨p, h1, h2⟩ := q; exact ⟨p, h1, h2.mono t⟩
      | od ps => rw [e] at hn; cases hn
    · rw [if_neg hi]
      by_cases ho : i ∈ own
      · have hge : ¬ i < ρ2.sl.length := fun z => hi ⟨ho, z⟩
        have q := S2.sl i
        rw [List.getElem?_eq_none (by rw [S2.len]; omega)] at q
        rw [List.getElem?_eq_none (by omega)]
        exact q
      · rw [← hsame i ho]; exact S2.sl i
  · have out : ∀ i, ((backE own ρ ρ2).get i).own = true → i < σ.length → i ∉ own ∧ (ρ2.get i).own = true := fun i hh hlt => by
      rw [back_get] at hh
      by_cases hi : i ∈ own ∧ i < ρ2.sl.length
      · rw [if_pos hi, hno i hi.1] at hh; cases hh
      · rw [if_neg hi] at hh
        exact ⟨fun m => hi ⟨m, by omega⟩, hh⟩
    obtain ⟨a1, a2⟩ := out a ha (List.getElem?_eq_some_iff.mp e1).1
    obtain ⟨b1, b2⟩ := out b hb (List.getElem?_eq_some_iff.mp e2).1
    rw [← hsame a a1] at e1
    rw [← hsame b b1] at e2
    exact S2.sep a b q hab a2 b2 e1 e2
end
end DL
/-! The data layer, part 12: locks, what is walked, list comprehensions. -/
namespace DL
open PySem PySem.Spec PyProof.Rows L2
variable {Γ : Nat → FSpec} {X : Cx}

def updL (Lk : Lks) (a : Addr) (ob : Obj) : Lks := fun b => if b = a then some ob else Lk b
theorem updL_same {Lk : Lks} {a : Addr} {ob : Obj} : updL Lk a ob a = some ob := by unfold updL; rw [if_pos rfl]
theorem updL_ne {Lk : Lks} {a b : Addr} {ob : Obj} (h : b ≠ a) : updL Lk a ob b = Lk b := by unfold updL; rw [if_neg h]
theorem locked_ne {Lk : Lks} {a b : Addr} {ob : Obj} {o : HO} (h : b ≠ a) : locked (updL Lk a ob) b o = locked Lk b o := by unfold locked; rw [updL_ne h]
theorem locked_no {Lk : Lks} {a : Addr} {o : HO} (h : Lk a = none) : locked Lk a o = o := by unfold locked; rw [h]
theorem locked_same {Lk : Lks} {a : Addr} {ob : Obj} {o : HO} : locked (updL Lk a ob) a o = .frz ob o := by unfold locked; rw [updL_same]
section
variable {P : Program} {w : World} {K : PySem.W.Frag} {Fo : Hp} {Lk : Lks} {k : Nat} {F H : Hp} {σ : L2.St} {ρ : Ev} {a : Addr} {ob : Obj} {u : HO}
theorem isDct_frz {ob : Obj} {u : HO} : ¬ isDct (.frz ob u) := fun z => z
theorem Hs.lockA (S : Hs Fo Lk k F H) (hl : Lk a = none) (h : H a = some u) (hd : isDct u) (hf : F a = some u ∨ F a = none) (hfo : Fo a = none) (hp : ¬ F a = some potMark) : Hs Fo (updL Lk a ob) k F (upd H a (.frz ob u)) where
  sub := fun b o e => by
    by_cases hb : b = a
    · subst hb
      rcases hf with hf | hf
      · rw [hf] at e; cases e
        exact .inr ⟨fun z => hp (by rw [hf, z]), by rw [upd_same, locked_same]⟩
      · rw [hf] at e; cases e
    · rw [upd_ne hb, locked_ne hb]; exact S.sub b o e
  fo := fun b o e => by
    have hb : b ≠ a := ne_of_none e hfo
    rw [upd_ne hb]; exact S.fo b o e
  lk := fun b o e => by
    by_cases hb : b = a
    · subst hb
      rw [updL_same] at e; cases e
      rcases hf with hf | hf
      · exact .inl ⟨u, hf, hd⟩
      · exact .inr ⟨hf, u, upd_same, hd⟩
    · rw [updL_ne hb] at e; rw [upd_ne hb]; exact S.lk b o e
theorem Hs.unlockA (S : Hs Fo (updL Lk a ob) k F H) (hl : Lk a = none) (h : H a = some (.frz ob u)) (hfo : Fo a = none) (hp : ¬ F a = some potMark) : Hs Fo Lk k F (upd H a u) where
  sub := fun b o e => by
    by_cases hb : b = a
    · subst hb
      rcases S.sub b o e with ⟨q, _⟩ | ⟨q1, q2⟩
      · exact (hp (by rw [e, q])).elim
      · rw [locked_same, h] at q2
        have e2 : u = o := by injection q2 with q2; injection q2
        exact .inr ⟨q1, by rw [upd_same, locked_no hl, e2]⟩
    · rw [upd_ne hb]
      have q := S.sub b o e
      rw [locked_ne hb] at q
      exact q
  fo := fun b o e => by
    have hb : b ≠ a := ne_of_none e hfo
    rw [upd_ne hb]; exact S.fo b o e
  lk := fun b o e => by
    have hb : b ≠ a := fun z => by subst z; rw [hl] at e; cases e
    rw [upd_ne hb]; exact S.lk b o (by rw [updL_ne hb]; exact e)
theorem Sx.lockA (S : Sx P w K Fo Lk F H σ ρ) (hl : Lk a = none) (h : H a = some u) (hd : isDct u) (hf : F a = some u ∨ F a = none) (hfo : Fo a = none) (hp : ¬ F a = some potMark) : Sx P w K Fo (updL Lk a ob) F (upd H a (.frz ob u)) σ ρ where
  hs := S.hs.lockA hl h hd hf hfo hp
  len := S.len
  sl := fun i => by
    have q := S.sl i
    cases e : ρ.get i with
    | any => trivial
    | dat d => rw [e] at q; exact q
    | ol ds =>
      rw [e] at q
      obtain ⟨p, xs, h1, h2, h3, h4, h5⟩ := q
      have hb : p ≠ a := fun z => by subst z; rw [h] at h4; cases h4; exact hd
      exact ⟨p, xs, h1, h2, h3, by rw [upd_ne hb]; exact h4, h5⟩
    | odl ps => rw [e] at q; exact q
    | od ps =>
      rw [e] at q
      obtain ⟨p, h1, h2, h3, h4⟩ := q
      refine ⟨p, h1, h2, h3, ?_⟩
      by_cases hb : p = a
      · subst hb
        rcases h4 with ⟨kvs, h4, h5⟩ | ⟨es, h4, h5⟩
        · rw [locked_no hl, h] at h4
          refine .inl ⟨kvs, ?_, h5⟩
          rw [upd_same, locked_same, Option.some.inj h4]
        · rw [locked_no hl, h] at h4
          refine .inr ⟨es, ?_, h5⟩
          rw [upd_same, locked_same, Option.some.inj h4]
      · rcases h4 with ⟨kvs, h4, h5⟩ | ⟨es, h4, h5⟩
        · exact .inl ⟨kvs, by rw [upd_ne hb, locked_ne hb]; exact h4, h5⟩
        · exact .inr ⟨es, by rw [upd_ne hb, locked_ne hb]; exact h4, h5⟩
  sep := S.sep
theorem Sx.unlockA (S : Sx P w K Fo (updL Lk a ob) F H σ ρ) (hl : Lk a = none) (h : H a = some (.frz ob u)) (hfo : Fo a = none) (hp : ¬ F a = some potMark) : Sx P w K Fo Lk F (upd H a u) σ ρ where
  hs := S.hs.unlockA hl h hfo hp
  len := S.len
  sl := fun i => by
    have q := S.sl i
    cases e : ρ.get i with
    | any => trivial
    | dat d => rw [e] at q; exact q
    | ol ds =>
      rw [e] at q
      obtain ⟨p, xs, h1, h2, h3, h4, h5⟩ := q
      have hb : p ≠ a := fun z => by subst z; rw [h] at h4; cases h4
      exact ⟨p, xs, h1, h2, h3, by rw [upd_ne hb]; exact h4, h5⟩
    | odl ps => rw [e] at q; exact q
    | od ps =>
      rw [e] at q
      obtain ⟨p, h1, h2, h3, h4⟩ := q
      refine ⟨p, h1, h2, h3, ?_⟩
      by_cases hb : p = a
      · subst hb
        rcases h4 with ⟨kvs, h4, h5⟩ | ⟨es, h4, h5⟩
        · rw [locked_same, h] at h4
          refine .inl ⟨kvs, ?_, h5⟩
          rw [upd_same, locked_no hl]
          injection h4 with h4; injection h4 with _ h4; rw [h4]
        · rw [locked_same, h] at h4
          refine .inr ⟨es, ?_, h5⟩
          rw [upd_same, locked_no hl]
          injection h4 with h4; injection h4 with _ h4; rw [h4]
      · rcases h4 with ⟨kvs, h4, h5⟩ | ⟨es, h4, h5⟩
        · exact .inl ⟨kvs, by rw [upd_ne hb]; rw [locked_ne hb] at h4; exact h4, h5⟩
        · exact .inr ⟨es, by rw [upd_ne hb]; rw [locked_ne hb] at h4; exact h4, h5⟩
  sep := S.sep
end
/-- a dict may have been locked -/
inductive Lkd (X : Cx) (b : Bool) (Fo : Hp) (Lk : Lks) (F H : Hp) : Lks → Hp → Prop
  | no : Lkd X b Fo Lk F H Lk H
  | one {a : Addr} {ob : Obj} {u : HO} : Lk a = none → Fo a = none → H a = some u → isDct u → (F a = some u ∨ F a = none) → ¬ F a = some potMark → (∀ o' u', X.H_0 a ≠ some (.frz o' u')) → (b = false → F a = some u) → Lkd X b Fo Lk F H (updL Lk a ob) (upd H a (.frz ob u))
theorem Lkd.back {b : Bool} {Fo : Hp} {Lk Lk' : Lks} {F1 H1 H1' F H : Hp} {σ : L2.St} {ρ : Ev} (L : Lkd X b Fo Lk F1 H1 Lk' H1') (g : H1' = H1 ∨ ∀ a o, Lk' a ≠ Lk a → H1' a = some o → H a = some o) (s : Sub F1 F) (np : NewP F1 H1 F) (S : SxX X Fo Lk' F H σ ρ) :
    ∃ H2, SxX X Fo Lk F H2 σ ρ ∧ (∀ a o, H1 a = some o → H1' a ≠ some o → H2 a = some o) ∧ (∀ a, H2 a = H a ∨ ∃ o, H1 a = some o ∧ H2 a = some o) ∧ (∀ pins σ s, Inv X pins σ H s → Inv X pins σ H2 s) := by
  cases L with
  | no => exact ⟨H, S, fun a o h h' => (h' h).elim, fun a => .inl rfl, fun _ _ _ I => I⟩
  | @one a ob u h1 h2 h3 h4 h5 h6 h7 h8 =>
    have hH : H a = some (.frz ob u) := by
      rcases g with g | g
      · have := congrFun g a
        rw [upd_same, h3] at this
        have e : u = .frz ob u := (Option.some.inj this).symm
        rw [e] at h4; exact h4.elim
      · exact g a _ (by rw [updL_same, h1]; exact fun z => nomatch z) upd_same
    have hp : ¬ F a = some potMark := fun z => by
      rcases h5 with h5 | h5
      · have q := s a u h5; rw [z] at q; exact h6 (by rw [h5]; exact q.symm)
      · have q := np a h5 z; rw [h3] at q; cases q
    refine ⟨upd H a u, Sx.unlockA S h1 hH h2 hp, fun b o e e' => ?_, fun b => ?_, fun pins σ s I => I.unlock hH h7⟩
    · by_cases hb : b = a
      · subst hb; rw [h3] at e; rw [upd_same]; exact e
      · rw [upd_ne hb] at e'; exact (e' e).elim
    · by_cases hb : b = a
      · subst hb; exact .inr ⟨u, h3, upd_same⟩
      · exact .inl (upd_ne hb)
/-- behind a walk in an expression -/
theorem Lkd.backE {bb : Bool} {Fo : Hp} {Lk Lk' : Lks} {F1 H1 H1' F H : Hp} {σ : L2.St} {ρ : Ev} (L : Lkd X bb Fo Lk F1 H1 Lk' H1') (t : Stq F1 H1' F H) (S : SxX X Fo Lk' F H σ ρ) : ∃ H2, SxX X Fo Lk F H2 σ ρ ∧ Stq F1 H1 F H2 ∧ (∀ pins σ s, Inv X pins σ H s → Inv X pins σ H2 s) ∧ (∀ b, H1 b = none → H2 b = H b) := by
  have np : NewP F1 H1 F := fun a h h' => by
    have q := t.np a h h'
    cases L with
    | no => exact q
    | @one b ob u h1 h2 h3 h4 h5 h6 h7 h8 =>
      by_cases hb : a = b
      · subst hb; rw [upd_same] at q; cases q
      · rw [upd_ne hb] at q; exact q
  obtain ⟨H2, a1, a2, a3, a4⟩ := L.back (H := H) (.inr fun a o hne e => t.gr a o e fun z => by
    cases L with
    | no => exact hne rfl
    | @one b ob u h1 h2 h3 h4 h5 h6 h7 h8 =>
      by_cases hb : a = b
      · subst hb; exact h6 z
      · rw [updL_ne hb] at hne; exact hne rfl) t.sub np S
  refine ⟨H2, a1, ⟨t.sub, fun a o h hp => ?_, np⟩, a4, fun b hb => by
    rcases a3 b with e | ⟨o, e, _⟩
    · exact e
    · rw [hb] at e; cases e⟩
  rcases a3 a with e | ⟨o', e1, e2⟩
  · by_cases h' : H1' a = some o
    · rw [e]; exact t.gr a o h' hp
    · exact a2 a o h h'
  · rw [h] at e1; cases e1; exact e2
theorem TEw.conv {e : Expr} {σ : L2.St} {H : Hp} {R : VK} (h : TEw X e σ H (fun v H' => ∃ H2, (∀ (pins : List (Addr × Obj)) (σ : L2.St) (s : Shared), Inv X pins σ H' s → Inv X pins σ H2 s) ∧ R v H2)) : TEw X e σ H R := fun pins s I =>
  thn (h pins s I) fun u s' ⟨v, H', I', r, H2, c, q⟩ => ⟨v, H2, c pins σ s' I', r, q⟩

/-! ### what is walked -/
/-- an iterator goes through ds while the guard stands -/
structure Wk (X : Cx) (Lk : Lks) (J : It) (ds : List D) (G : Hp → Hp → Prop) : Prop where
  go : ∀ {Fo : Hp} {k : Nat} {F H : Hp} (i : Nat), i < ds.length → Hs Fo Lk k F H → G F H → J.go i H
  stop : ∀ {Fo : Hp} {k : Nat} {F H : Hp}, Hs Fo Lk k F H → G F H → J.stop ds.length H
  yld : ∀ {Fo : Hp} {k : Nat} {F H : Hp} (i : Nat) (x : V) (H' : Hp), i < ds.length → Hs Fo Lk k F H → G F H → J.yld i H x H' → ∃ F' d, ds[i]? = some d ∧ Hs Fo Lk k F' H' ∧ Stp F H F' H' ∧ IsX X F' x d
/-- the guard: in an expression nothing that was there changes; in a statement what was frozen stays -/
def GdE (b : Bool) (F1 H1 : Hp) : Hp → Hp → Prop := fun F H => if b = true then Stq F1 H1 F H else Sub F1 F
def TIw (X : Cx) (tg iter : Expr) : TI := fun σ H R => ∀ (pins : List (Addr × Obj)) (s : Shared), Inv X pins σ H s → wpAny (model X.prog X.w) X.A (eval iter X.env) (fun v s1 => wpAny (model X.prog X.w) X.A (pyIter v) (PIE X pins σ tg R) X.xe s1) X.xe s
theorem pi_w (X : Cx) (tg iter : Expr) : L2.PI X tg iter (TIw X tg iter) := ⟨fun pins s _ _ _ I h => h pins s I⟩
theorem TIw.of {tg e : Expr} {t : TI} {σ : L2.St} {H : Hp} {R : It → Hp → Prop} (h : L2.PI X tg e t) (q : t σ H R) : TIw X tg e σ H R := fun pins s I => h.run pins s σ H R I q
structure SI (X : Cx) (tg iter : Expr) (p : PI) : Prop where
  run : ∀ (b : Bool) {Fo : Hp} {Lk : Lks} {F H : Hp} {σ : L2.St} {ρ : Ev} {Q : List D → Ev → Prop} {R : It → Hp → Prop}, SxX X Fo Lk F H σ ρ → wpI Γ b p ρ Q →
    (∀ J Lk' F1 H1 H1' ρ' ds, SxX X Fo Lk F1 H1 σ ρ' → SxX X Fo Lk' F1 H1' σ ρ' → Stq F H F1 H1 → Lkd X b Fo Lk F1 H1 Lk' H1' → Wk X Lk' J ds (GdE b F1 H1') → ds.length ≤ sizeLine → Q ds ρ' → R J H1') → TIw X tg iter σ H R
/-- the tests of a comprehension -/
structure STs (X : Cx) (ifs : List Expr) (p : OX) : Prop where
  run : ∀ {Fo : Hp} {Lk : Lks} {F H : Hp} {σ : L2.St} {ρ : Ev} {Q : QD} {R : Bool → Hp → Prop}, SxX X Fo Lk F H σ ρ → wpT Γ p ρ Q → (∀ d ρ', Q d ρ' → isBl d = true) → CtT X Fo Lk F H σ Q R →
    ∀ (pins : List (Addr × Obj)) (s : Shared), Inv X pins σ H s → wpAny (model X.prog X.w) X.A (forIn ifs true fun c r => if r = true then do let ok ← isTrue c X.env (eval c X.env); pure (ForInStep.yield ok) else pure (ForInStep.yield r)) (TP X pins σ R) X.xe s
theorem sts_no : STs (Γ := Γ) X [] .no := ⟨fun {Fo Lk F H σ ρ Q R} S q hb c pins s I => pts_nil.run pins s σ H R I (c true F H ρ S (Stq.refl F H) q)⟩
theorem sts_one {c : Expr} {p : PX} (h : ST (Γ := Γ) X c p) : STs (Γ := Γ) X [c] (.yes p) := ⟨fun {Fo Lk F H σ ρ Q R} S q hb ct pins s I => (pts_one (pt_w X c)).run pins s σ H R I (h.run S q hb ct)⟩
theorem drop_at {α : Type} {l : List α} {i : Nat} {d : α} (h : l[i]? = some d) : l.drop i = d :: l.drop (i + 1) := by
  obtain ⟨hl, e⟩ := List.getElem?_eq_some_iff.mp h
  rw [List.drop_eq_getElem_cons hl, e]
/-! ### a new list or dict that nobody else knows -/
def FrD (X : Cx) (Lk : Lks) (F H : Hp) (a : Addr) : D → Prop
  | .lst ds => ∃ xs, H a = some (.lst xs) ∧ IsAX X F xs ds
  | .dct ps => Lk a = none ∧ OwnD X.prog X.w X.K Lk F H a ps
  | _ => False
/-- no own slot holds a -/
def Apart (σ : L2.St) (ρ : Ev) (a : Addr) : Prop := ∀ i q, (ρ.get i).own = true → σ[i]? = some (some (.ref q)) → q ≠ a
structure SF (X : Cx) (e : Expr) (p : PX) : Prop where
  run : ∀ {Fo : Hp} {Lk : Lks} {F H : Hp} {σ : L2.St} {ρ : Ev} {Q : QD} {R : VK}, SxX X Fo Lk F H σ ρ → wpE Γ p ρ Q →
    (∀ a F' H' ρ' d, SxX X Fo Lk F' H' σ ρ' → Stq F H F' H' → F' a = none → Fo a = none → FrD X Lk F' H' a d → Apart σ ρ' a → Q d ρ' → R (.ref a) H') → TEw X e σ H R
theorem Sx.frzCell {P : Program} {w : World} {K : PySem.W.Frag} {Fo : Hp} {Lk : Lks} {F H : Hp} {σ : L2.St} {ρ : Ev} (S : Sx P w K Fo Lk F H σ ρ) {a : Addr} {o : HO} (hf : F a = none) (hfo : Fo a = none) (hh : H a = some (locked Lk a o)) (hn : ¬ o = potMark) (hd : isDct o ∨ Lk a = none) (ap : Apart σ ρ a) : Sx P w K Fo Lk (upd F a o) H σ ρ := by
  refine ⟨S.hs.freeze hf hfo hh hn hd, S.len, fun i => ?_, S.sep⟩
  have s : Sub F (upd F a o) := Sub.upd hf
  have q := S.sl i
  cases e : ρ.get i with
  | any => trivial
  | dat d => rw [e] at q; obtain ⟨v, h1, h2⟩ := q; exact ⟨v, h1, h2.mono s⟩
  | ol ds =>
    rw [e] at q
    obtain ⟨p, ys, h1, h2, h3, h4, h5⟩ := q
    have hp : p ≠ a := ap i p (by rw [e]; rfl) h1
    exact ⟨p, ys, h1, by rw [upd_ne hp]; exact h2, h3, h4, h5.mono s⟩
  | odl ps => rw [e] at q; obtain ⟨p, h1, h2⟩ := q; exact ⟨p, h1, h2.mono s⟩
  | od ps =>
    rw [e] at q
    obtain ⟨p, h1, h2, h3, h4⟩ := q
    obtain ⟨u, h5, h6⟩ := h4.some
    have hp : p ≠ a := ap i p (by rw [e]; rfl) h1
    exact ⟨p, h1, by rw [upd_ne hp]; exact h2, h3, h6 _ H s h5⟩
theorem Sx.foDrop {P : Program} {w : World} {K : PySem.W.Frag} {Fo : Hp} {Lk : Lks} {F H : Hp} {σ : L2.St} {ρ : Ev} {a : Addr} {o : HO} (S : Sx P w K (upd Fo a o) Lk F H σ ρ) (hD : Fo a = none) (hno : noOdl ρ = true) : Sx P w K Fo Lk F H σ ρ := by
  refine ⟨S.hs.foDrop hD, S.len, fun i => ?_, S.sep⟩
  have q := S.sl i
  cases e : ρ.get i with
  | any => trivial
  | dat d => rw [e] at q; exact q
  | ol ds =>
    rw [e] at q
    obtain ⟨p, ys, h1, h2, h3, h4, h5⟩ := q
    have hp : p ≠ a := fun z => by subst z; rw [upd_same] at h3; cases h3
    rw [upd_ne hp] at h3
    exact ⟨p, ys, h1, h2, h3, h4, h5⟩
  | odl ps => exact (noOdl_get hno i ps e).elim
  | od ps =>
    rw [e] at q
    obtain ⟨p, h1, h2, h3, h4⟩ := q
    have hp : p ≠ a := fun z => by subst z; rw [upd_same] at h3; cases h3
    rw [upd_ne hp] at h3
    exact ⟨p, h1, h2, h3, h4⟩
theorem Sx.foApart {P : Program} {w : World} {K : PySem.W.Frag} {Fo : Hp} {Lk : Lks} {F H : Hp} {σ : L2.St} {ρ : Ev} {a : Addr} {o : HO} (S : Sx P w K Fo Lk F H σ ρ) (h : Fo a = some o) : Apart σ ρ a := fun i q ho hi z => by
  subst z
  have s := S.sl i
  cases e : ρ.get i with
  | any => rw [e] at ho; cases ho
  | dat d => rw [e] at ho; cases ho
  | ol ds =>
    rw [e] at s
    obtain ⟨p, ys, h1, h2, h3, h4, h5⟩ := s
    rw [hi] at h1; cases h1
    rw [h] at h3; cases h3
  | odl ps => rw [e] at ho; cases ho
  | od ps =>
    rw [e] at s
    obtain ⟨p, h1, h2, h3, h4⟩ := s
    rw [hi] at h1; cases h1
    rw [h] at h3; cases h3
theorem Sx.newApart {P : Program} {w : World} {K : PySem.W.Frag} {Fo : Hp} {Lk : Lks} {F H : Hp} {σ : L2.St} {ρ : Ev} {a : Addr} (S : Sx P w K Fo Lk F H σ ρ) (h : H a = none) : Apart σ ρ a := fun i q ho hi z => by
  subst z
  have s := S.sl i
  cases e : ρ.get i with
  | any => rw [e] at ho; cases ho
  | dat d => rw [e] at ho; cases ho
  | ol ds =>
    rw [e] at s
    obtain ⟨p, ys, h1, h2, h3, h4, h5⟩ := s
    rw [hi] at h1; cases h1
    rw [h] at h4; cases h4
  | odl ps => rw [e] at ho; cases ho
  | od ps =>
    rw [e] at s
    obtain ⟨p, h1, h2, h3, h4⟩ := s
    rw [hi] at h1; cases h1
    obtain ⟨o, h5, _⟩ := h4.some
    rw [h] at h5; cases h5
/-- as a value it is frozen -/
theorem SF.se {e : Expr} {p : PX} (h : SF (Γ := Γ) X e p) : SE Γ X e p := ⟨fun {Fo Lk F H σ ρ Q R} S q c => h.run S q fun a F' H' ρ' d S' t hf hfo fr ap q' => by
  have fin : ∀ (o : HO), H' a = some (locked Lk a o) → ¬ o = potMark → (isDct o ∨ Lk a = none) → IsX X (upd F' a o) (.ref a) d → R (.ref a) H' := fun o hh hn hd i => by
    refine c _ (upd F' a o) H' ρ' d (Sx.frzCell S' hf hfo hh hn hd ap) (t.trans ⟨Sub.upd hf, Gr.refl _ _, fun b h1 h2 => ?_⟩) i q'
    by_cases hb : b = a
    · subst hb; rw [upd_same] at h2; exact (hn (Option.some.inj h2)).elim
    · rw [upd_ne hb, h1] at h2; cases h2
  cases d with
  | lst ds =>
    obtain ⟨xs, h1, i1⟩ := fr
    have hl := S'.hs.noLkL hf h1
    exact fin (.lst xs) (by rw [locked_no hl]; exact h1) (fun z => nomatch z) (.inr hl) (.lst upd_same (i1.mono (Sub.upd hf)))
  | dct ps =>
    rcases fr.2 with ⟨kvs, h1, i1⟩ | ⟨es, h1, i1⟩
    · exact fin (.dK kvs) h1 (fun z => nomatch z) (.inl trivial) (.dctK upd_same (i1.mono (Sub.upd hf)))
    · exact fin (dN X.prog X.w a es) h1 dN_ne (.inl trivial) (.dctN upd_same (i1.mono (Sub.upd hf)))
  | _ => exact fr.elim⟩
/-- a cell that is laid and not frozen -/
theorem Sx.junk {P : Program} {w : World} {K : PySem.W.Frag} {Fo : Hp} {Lk : Lks} {F H : Hp} {σ : L2.St} {ρ : Ev} {a : Addr} {o : HO} (S : Sx P w K Fo Lk F H σ ρ) (h : H a = none) : Sx P w K Fo Lk F (upd H a o) σ ρ := by
  refine ⟨S.hs.write (S.hs.nF h) (S.hs.noFo h) (S.hs.noLk h), S.len, fun i => ?_, S.sep⟩
  have q := S.sl i
  cases e : ρ.get i with
  | any => trivial
  | dat d => rw [e] at q; exact q
  | ol ds =>
    rw [e] at q
    obtain ⟨p, ys, h1, h2, h3, h4, h5⟩ := q
    exact ⟨p, ys, h1, h2, h3, by rw [upd_ne (ne_of_none h4 h)]; exact h4, h5⟩
  | odl ps => rw [e] at q; exact q
  | od ps =>
    rw [e] at q
    obtain ⟨p, h1, h2, h3, h4⟩ := q
    obtain ⟨u, h5, h6⟩ := h4.some
    exact ⟨p, h1, h2, h3, h6 F _ (Sub.refl F) (by rw [upd_ne (ne_of_none h5 h)]; exact h5)⟩
theorem Stq.junk {F H : Hp} {a : Addr} {o : HO} (h : H a = none) : Stq F H F (upd H a o) := ⟨Sub.refl F, fun b u e _ => by rw [upd_ne (ne_of_none e h)]; exact e, fun b h1 h2 => by rw [h1] at h2; cases h2⟩
theorem sf_lst {es : List Expr} {ps : PXs} {pos : Pos} (h : SA (Γ := Γ) X es ps) (hl : es.length ≤ 1000) : SF (Γ := Γ) X (.List es pos) (.lst ps) :=
  ⟨fun {Fo Lk F H σ ρ Q R} S q c => by
    refine TEw.of (pe_lst (pa_w X es)) ?_
    refine h.run S q fun vs F1 H1 ρ1 ds l1 S1 t1 i1 q1 => ⟨by rw [l1, sizeLine_eq]; omega, fun p hp => ?_⟩
    have S2 : SxX X Fo Lk F1 (upd H1 p (.lst vs)) σ ρ1 := Sx.junk S1 hp
    exact c p F1 _ ρ1 (.lst ds) S2 (t1.trans (Stq.junk hp)) (S1.hs.nF hp) (S1.hs.noFo hp) ⟨vs, upd_same, i1⟩ (S1.newApart hp) q1⟩
theorem sf_dct0 {pos : Pos} : SF (Γ := Γ) X (.Dict [] [] pos) .dct0 :=
  ⟨fun {Fo Lk F H σ ρ Q R} S q c => by
    refine TEw.of pe_dnewK fun p hp => ?_
    have S2 : SxX X Fo Lk F (upd H p (.dK [])) σ ρ := Sx.junk S hp
    exact c p F _ ρ (.dct []) S2 (Stq.junk hp) (S.hs.nF hp) (S.hs.noFo hp) ⟨S.hs.noLk hp, .inl ⟨[], by rw [locked_no (S.hs.noLk hp)]; exact upd_same, .nil⟩⟩ (S.newApart hp) q⟩
theorem wpLc_no {own : List Nat} {tg : TgX} {we wc : Ev → QD → Prop} {ds acc : List D} {ρ : Ev} {Q : QD} (h : wpLc own tg we wc ds acc ρ Q) : noOdl ρ = true := by
  cases ds with
  | nil => exact h.1
  | cons d ds => exact (Bool.and_eq_true_iff.mp h.1).2
/-- the block's readings, in every frame of it -/
def gB (X : Cx) (tg : Expr) (scope : Scope) : TG := fun v σ H R => ∀ (s : Shared) (H0 : Hp) (C : Addr) (cl : List (Str × Addr)) (fp : List Addr), TGw (X.blk s H0 scope (compEnvC scope cl C X.env) fp) tg v σ H R
def tB2 (X : Cx) (ifs : List Expr) (scope : Scope) : TT := fun σ H R => ∀ (s : Shared) (H0 : Hp) (C : Addr) (cl : List (Str × Addr)) (fp : List Addr) (pins : List (Addr × Obj)) (s' : Shared), Inv (X.blk s H0 scope (compEnvC scope cl C X.env) fp) pins σ H s' → wpAny (model X.prog X.w) X.A (forIn ifs true fun c r => if r = true then do let ok ← isTrue c (compEnvC scope cl C X.env) (eval c (compEnvC scope cl C X.env)); pure (ForInStep.yield ok) else pure (ForInStep.yield r)) (TP (X.blk s H0 scope (compEnvC scope cl C X.env) fp) pins σ R) (X.blk s H0 scope (compEnvC scope cl C X.env) fp).xe s'
def eB (X : Cx) (elt : Expr) (scope : Scope) : TE := fun σ H R => ∀ (s : Shared) (H0 : Hp) (C : Addr) (cl : List (Str × Addr)) (fp : List Addr), TEw (X.blk s H0 scope (compEnvC scope cl C X.env) fp) elt σ H R
theorem gB_pg (X : Cx) (tg : Expr) (scope : Scope) (s : Shared) (H0 : Hp) (C : Addr) (cl : List (Str × Addr)) (fp : List Addr) : PG (X.blk s H0 scope (compEnvC scope cl C X.env) fp) tg (gB X tg scope) := ⟨fun pins s' σ H v u R I r h => h s H0 C cl fp pins s' u I r⟩
theorem tB_pt (X : Cx) (ifs : List Expr) (scope : Scope) (s : Shared) (H0 : Hp) (C : Addr) (cl : List (Str × Addr)) (fp : List Addr) : PTs (X.blk s H0 scope (compEnvC scope cl C X.env) fp) ifs (tB2 X ifs scope) := ⟨fun pins s' σ H R I h => h s H0 C cl fp pins s' I⟩
theorem eB_pe (X : Cx) (elt : Expr) (scope : Scope) (s : Shared) (H0 : Hp) (C : Addr) (cl : List (Str × Addr)) (fp : List Addr) : PE (X.blk s H0 scope (compEnvC scope cl C X.env) fp) elt (eB X elt scope) := ⟨fun pins s' σ H R I h => h s H0 C cl fp pins s' I⟩
theorem lc_run {elt tg iter : Expr} {ifs : List Expr} {scope : Scope} {own : List (Str × Nat)} {pe : PX} {pg : TgX} {pt : PI} {pc : OX} (hi : SI (Γ := Γ) X tg iter pt)
    (hg : ∀ (s : Shared) (H : Hp) (C : Addr) (cl : List (Str × Addr)) (fp : List Addr), SG (X.blk s H scope (compEnvC scope cl C X.env) fp) tg pg) (ht : ∀ (s : Shared) (H : Hp) (C : Addr) (cl : List (Str × Addr)) (fp : List Addr), STs (Γ := Γ) (X.blk s H scope (compEnvC scope cl C X.env) fp) ifs pc)
    (he : ∀ (s : Shared) (H : Hp) (C : Addr) (cl : List (Str × Addr)) (fp : List Addr), S2 Γ (X.blk s H scope (compEnvC scope cl C X.env) fp) elt pe) (hsub : ∀ i, i ∈ tgS pg → i ∈ own.map (·.2))
    {Fo : Hp} {Lk : Lks} {F H : Hp} {σ : L2.St} {ρ : Ev} {Q : QD} {R : VK} (S : SxX X Fo Lk F H σ ρ) (q : wpE Γ (.lc pe pg pt pc (own.map (·.2))) ρ Q)
    (c : ∀ a F' H' ρ' d, SxX X Fo Lk F' H' σ ρ' → Stq F H F' H' → F' a = none → Fo a = none → FrD X Lk F' H' a d → Apart σ ρ' a → Q d ρ' → R (.ref a) H') :
    tLc (TIw X tg iter) (gB X tg scope) (tB2 X ifs scope) (eB X elt scope) (own.map (·.2)) σ H (fun v H' => ∃ H2, (∀ (pins : List (Addr × Obj)) (σ : L2.St) (s : Shared), Inv X pins σ H' s → Inv X pins σ H2 s) ∧ R v H2) := by
  refine hi.run true S q fun J Lk' F1 H1 H1' ρ1 ds S1 S1' t1 L W hl q1 D hD => ?_
  have hFoD : Fo D = none := S1'.hs.noFo hD
  refine ⟨fun i m Hc => m = ds.length - i ∧ i ≤ ds.length ∧ ∃ F2 ρ2 acc vs, SxX X (upd Fo D (.lst vs)) Lk' F2 Hc σ ρ2 ∧ Stq F1 H1' F2 Hc ∧ Hc D = some (.lst vs) ∧ IsAX X F2 vs acc ∧ vs.length ≤ i ∧ wpLc (own.map (·.2)) pg (wpE Γ pe) (wpT Γ pc) (ds.drop i) acc ρ2 Q,
    ⟨_, rfl, Nat.zero_le _, F1, ρ1, [], [], S1'.foNew hD, ⟨Sub.refl _, fun a o h _ => by rw [upd_ne (ne_of_none h hD)]; exact h, fun a h h' => by rw [h] at h'; cases h'⟩, upd_same, .nil, Nat.le_refl _, q1.run⟩, ?_⟩
  rintro i m Hc ⟨rfl, hil, F2, ρ2, acc, vs, S2, t2, hDv, ia, lv, q2⟩
  have gd : GdE true F1 H1' F2 Hc := t2
  by_cases hlt : i < ds.length
  · refine .inr ⟨W.go i hlt S2.hs gd, fun Hn => ∃ F3 ρ3 acc vs, SxX X (upd Fo D (.lst vs)) Lk' F3 Hn σ ρ3 ∧ Stq F1 H1' F3 Hn ∧ Hn D = some (.lst vs) ∧ IsAX X F3 vs acc ∧ vs.length ≤ i + 1 ∧ wpLc (own.map (·.2)) pg (wpE Γ pe) (wpT Γ pc) (ds.drop (i + 1)) acc ρ3 Q,
      fun H' h => ⟨_, (by omega : ds.length - (i + 1) < ds.length - i), rfl, hlt, h⟩, fun x H' y => ?_⟩
    obtain ⟨F3, d, ed, h3, t3, i3⟩ := W.yld i x H' hlt S2.hs gd y
    rw [drop_at ed] at q2
    obtain ⟨oo2, q3⟩ := q2
    rw [Bool.and_eq_true] at oo2
    obtain ⟨oo, _⟩ := oo2
    have S3 : SxX X (upd Fo D (.lst vs)) Lk' F3 H' σ ρ2 := Sx.step S2 h3 t3
    intro s H0 C cl fp
    refine (hg s H0 C cl fp).run (S3.wipe (own.map (·.2))) i3 q3 fun σ2 ρ4 S4 offF q4 => ⟨wipe_off offF.off hsub, ?_⟩
    intro s H0 C cl fp pins s' I'
    refine (ht s H0 C cl fp).run S4 q4 (fun d ρ' h => by cases d <;> first | rfl | exact h.elim) (fun b F5 H5 ρ5 S5 t5 q5 => ?_) pins s' I'
    cases b with
    | false =>
      have q6 : wpLc (own.map (·.2)) pg (wpE Γ pe) (wpT Γ pc) (ds.drop (i + 1)) acc (backE (own.map (·.2)) ρ2 ρ5) Q := by simpa using q5
      rw [if_neg (by decide)]
      exact ⟨F5, _, acc, vs, S3.back S5 t5.sub offF.off hsub oo, t2.trans (t3.q.trans t5), (S5.hs.fo D _ upd_same).1, (ia.mono t3.sub).mono t5.sub, by omega, q6⟩
    | true =>
      have q6 : wpE Γ pe ρ5 (fun x ρ3 => wpLc (own.map (·.2)) pg (wpE Γ pe) (wpT Γ pc) (ds.drop (i + 1)) (acc ++ [x]) (backE (own.map (·.2)) ρ2 ρ3) Q) := by simpa using q5
      rw [if_pos rfl]
      intro s H0 C cl fp
      refine (he s H0 C cl fp).val.run S5 q6 fun v F6 H6 ρ6 dx S6 t6 i6 q7 => ?_
      have hD6 := (S6.hs.fo D _ upd_same).1
      have S7 : SxX X (upd Fo D (.lst vs)) Lk' F6 H6 σ (backE (own.map (·.2)) ρ2 ρ6) := S3.back S6 (t5.sub.trans t6.sub) offF.off hsub oo
      have t7 : Stq F1 H1' F6 H6 := t2.trans (t3.q.trans (t5.trans t6))
      refine ⟨vs, hD6, by omega, F6, _, acc ++ [dx], vs ++ [v], Sx.foSet S7 (fun _ _ z => nomatch z) (wpLc_no q7), ⟨t7.sub, fun a o h hp => ?_, t7.np⟩, upd_same, ((((ia.mono t3.sub).mono t5.sub).mono t6.sub).snoc i6), by rw [List.length_append]; simp; omega, q7⟩
      rw [upd_ne (ne_of_none h hD)]; exact t7.gr a o h hp
  · have e : i = ds.length := by omega
    subst e
    refine .inl ⟨W.stop S2.hs gd, ?_⟩
    rw [List.drop_length] at q2
    obtain ⟨hno, q3⟩ : noOdl ρ2 = true ∧ Q (.lst acc) ρ2 := q2
    have hf := (S2.hs.fo D _ upd_same).2
    have S3 : SxX X Fo Lk' F2 Hc σ ρ2 := Sx.foDrop S2 hFoD hno
    have ap : Apart σ ρ2 D := S2.foApart upd_same
    have hD1 : H1 D = none := by
      cases L with
      | no => exact hD
      | @one b ob u h1 h2 h3 h4 h5 h6 h7 h8 =>
        have hb : D ≠ b := fun z => by subst z; rw [upd_same] at hD; cases hD
        rw [upd_ne hb] at hD; exact hD
    obtain ⟨H2, S4, t4, cv, hno⟩ := L.backE t2 S3
    exact ⟨H2, cv, c D F2 H2 ρ2 (.lst acc) S4 (t1.trans t4) hf hFoD ⟨vs, by rw [hno D hD1]; exact hDv, ia⟩ ap q3⟩
theorem sf_lc {elt tg iter : Expr} {ifs : List Expr} {scope : Scope} {own : List (Str × Nat)} {pos : Pos} {pe : PX} {pg : TgX} {pt : PI} {pc : OX} (hc : X.calm = true) (hN : X.N.Nodup) (hi : SI (Γ := Γ) X tg iter pt) (ok : BlkOk X.N X.env.scope scope own)
    (hg : ∀ (s : Shared) (H : Hp) (C : Addr) (cl : List (Str × Addr)) (fp : List Addr), SG (X.blk s H scope (compEnvC scope cl C X.env) fp) tg pg) (ht : ∀ (s : Shared) (H : Hp) (C : Addr) (cl : List (Str × Addr)) (fp : List Addr), STs (Γ := Γ) (X.blk s H scope (compEnvC scope cl C X.env) fp) ifs pc)
    (he : ∀ (s : Shared) (H : Hp) (C : Addr) (cl : List (Str × Addr)) (fp : List Addr), S2 Γ (X.blk s H scope (compEnvC scope cl C X.env) fp) elt pe) (hs : ∀ x, foldedSetIterable iter X.env x = pure x) (hsub : ∀ i, i ∈ tgS pg → i ∈ own.map (·.2)) :
    SF (Γ := Γ) X (.ListComp elt [⟨tg, iter, ifs, 0⟩] scope pos) (.lc pe pg pt pc (own.map (·.2))) :=
  ⟨fun S q c => TEw.conv (TEw.of (pe_lc hc hN (pi_w X tg iter) ok (gB_pg X tg scope) (tB_pt X ifs scope) (eB_pe X elt scope) hs) (lc_run hi hg ht he hsub S q c))⟩
theorem s_lc {elt tg iter : Expr} {ifs : List Expr} {scope : Scope} {own : List (Str × Nat)} {pos : Pos} {pe : PX} {pg : TgX} {pt : PI} {pc : OX} (hc : X.calm = true) (hN : X.N.Nodup) (hi : SI (Γ := Γ) X tg iter pt) (ok : BlkOk X.N X.env.scope scope own)
    (hg : ∀ (s : Shared) (H : Hp) (C : Addr) (cl : List (Str × Addr)) (fp : List Addr), SG (X.blk s H scope (compEnvC scope cl C X.env) fp) tg pg) (ht : ∀ (s : Shared) (H : Hp) (C : Addr) (cl : List (Str × Addr)) (fp : List Addr), STs (Γ := Γ) (X.blk s H scope (compEnvC scope cl C X.env) fp) ifs pc)
    (he : ∀ (s : Shared) (H : Hp) (C : Addr) (cl : List (Str × Addr)) (fp : List Addr), S2 Γ (X.blk s H scope (compEnvC scope cl C X.env) fp) elt pe) (hs : ∀ x, foldedSetIterable iter X.env x = pure x) (hsub : ∀ i, i ∈ tgS pg → i ∈ own.map (·.2)) :
    S2 Γ X (.ListComp elt [⟨tg, iter, ifs, 0⟩] scope pos) (.lc pe pg pt pc (own.map (·.2))) := SE.two (sf_lc hc hN hi ok hg ht he hs hsub).se rfl
end DL
/-! The data layer, part 13: what is walked: dicts. -/
namespace DL
open PySem PySem.Spec PyProof.Rows L2
variable {Γ : Nat → FSpec} {X : Cx}

/-! ### a dict's entries -/
inductive IsPr (X : Cx) (F : Hp) : List (V × V) → List (D × D) → Prop
  | nil : IsPr X F [] []
  | cons {k v : V} {dk d : D} {kv : List (V × V)} {ps : List (D × D)} : IsX X F k dk → IsX X F v d → IsPr X F kv ps → IsPr X F ((k, v) :: kv) ((dk, d) :: ps)
theorem IsPr.mono {F F' : Hp} (s : Sub F F') : ∀ {kv : List (V × V)} {ps : List (D × D)}, IsPr X F kv ps → IsPr X F' kv ps
  | _, _, .nil => .nil
  | _, _, .cons a b t => .cons (a.mono s) (b.mono s) (IsPr.mono s t)
theorem IsPr.length {F : Hp} : ∀ {kv : List (V × V)} {ps : List (D × D)}, IsPr X F kv ps → kv.length = ps.length
  | _, _, .nil => rfl
  | _, _, .cons _ _ t => by rw [List.length_cons, List.length_cons, t.length]
theorem IsPr.get {F : Hp} : ∀ {kv : List (V × V)} {ps : List (D × D)} {i : Nat} {p : V × V}, IsPr X F kv ps → kv[i]? = some p → ∃ q, ps[i]? = some q ∧ IsX X F p.1 q.1 ∧ IsX X F p.2 q.2
  | _, _, _, _, .nil, e => by simp at e
  | _, _, 0, _, .cons a b t, e => by simp at e; subst e; exact ⟨_, rfl, a, b⟩
  | _, _, i + 1, p, .cons _ _ t, e => by
    obtain ⟨q, e1, e2⟩ := IsPr.get (i := i) (p := p) t (by simpa using e)
    exact ⟨q, by simpa using e1, e2⟩
theorem isK_pr {F : Hp} : ∀ {kv : List (Key × V)} {ps : List (D × D)}, IsK X.prog X.w X.K F kv ps → IsPr X F (kv.map fun p => (kV p.1, p.2)) ps
  | _, _, .nil => .nil
  | _, _, .cons a b t => .cons a b (isK_pr t)
theorem isN_pr {F : Hp} : ∀ {kv : List (NestedKey × Addr × V)} {ps : List (D × D)}, IsN X.prog X.w X.K F kv ps → IsPr X F (kv.map fun p => (V.ref p.2.1, p.2.2)) ps
  | _, _, .nil => .nil
  | _, _, .cons a _ _ b t => .cons a b (isN_pr t)
/-- the record of a dict that is walked -/
structure Ents (od : Obj) (es : Array DictEntry) (ep : Nat) (kv : List (V × V)) : Prop where
  dat : od.data = .dict es ep
  ex : od.ExactDict
  size : es.size = kv.length
  fits : kv.length ≤ sizeLine
  at_ : ∀ (i : Nat) (hi : i < es.size), ∃ p, kv[i]? = some p ∧ RelV p.1 es[i].key ∧ RelV p.2 es[i].val
section
variable {pins : List (Addr × Obj)} {σ : L2.St} {H F : Hp} {s : Shared} {d : Addr} {od : Obj} {ps : List (D × D)}
theorem frz_get {u : HO} (I : Inv X pins σ H s) (h : H d = some (.frz od u)) : s.heap.get? d = some od ∧ ObjOk X.prog X.w H s.heap d u := I.hok d _ h
/-- what stands at d while it is locked -/
def DctAt (X : Cx) (F : Hp) (d : Addr) (u : HO) (ps : List (D × D)) : Prop := (∃ kvs, u = .dK kvs ∧ IsK X.prog X.w X.K F kvs ps) ∨ ∃ es, u = dN X.prog X.w d es ∧ IsN X.prog X.w X.K F es ps
theorem paired_at {α β : Type} {R : α → β → Prop} : ∀ {xs : List α} {ys : List β} {i : Nat} {y : β}, Paired R xs ys → ys[i]? = some y → ∃ x, xs[i]? = some x ∧ R x y
  | _, _, _, _, .nil, e => by simp at e
  | _, _, 0, _, .cons r t, e => by simp at e; subst e; exact ⟨_, rfl, r⟩
  | _, _, i + 1, y, .cons r t, e => by
    obtain ⟨q, e1, e2⟩ := paired_at (i := i) (y := y) t (by simpa using e)
    exact ⟨q, by simpa using e1, e2⟩
theorem ents_of {u : HO} (I : Inv X pins σ H s) (h : H d = some (.frz od u)) (hd : DctAt X F d u ps) : (d == sysModules) = false ∧ ∃ es ep kv, Ents od es ep kv ∧ IsPr X F kv ps := by
  obtain ⟨hg, ok⟩ := frz_get I h
  rcases hd with ⟨kvs, rfl, i⟩ | ⟨es, rfl, i⟩
  · obtain ⟨z, hs, vs, kv, dd⟩ := ok
    obtain ⟨es, ep, ⟨o, ho, hx, hdt⟩, hsz, hat⟩ := Heap.DictOf.raw dd
    rw [hg] at ho; cases ho
    have hl : kvs.length = vs.length := Paired.length kv
    refine ⟨hs, es, ep, _, ⟨hdt, hx, by rw [hsz, List.length_map, hl], by rw [List.length_map]; exact z, fun j hj => ?_⟩, isK_pr i⟩
    have hj2 : j < vs.length := by omega
    obtain ⟨p, hp, r1, r2⟩ := paired_at kv (show vs[j]? = some vs[j] from List.getElem?_eq_getElem hj2)
    obtain ⟨h1, h2⟩ := hat j hj vs[j].1 vs[j].2 (List.getElem?_eq_getElem hj2)
    refine ⟨(kV p.1, p.2), by rw [List.getElem?_map, hp]; rfl, ?_, by rw [h2]; exact r2⟩
    rw [r1]
    exact relV_key h1
  · obtain ⟨⟨z, hs, ys, o, ents, ep, rel, ho, hx, hdt, he, _⟩, _⟩ := (show NDict X.prog X.w d es s.heap ∧ _ from ok)
    rw [hg] at ho; cases ho
    have hl : es.length = ys.length := Paired.length rel
    have hsz : ents.size = ys.length := size_of_entries he
    refine ⟨hs, ents, ep, _, ⟨hdt, hx, by rw [hsz, List.length_map, hl], by rw [List.length_map]; exact z, fun j hj => ?_⟩, isN_pr i⟩
    have hj2 : j < ys.length := by omega
    obtain ⟨p, hp, r1, r2, r3⟩ := paired_at rel (show ys[j]? = some ys[j] from List.getElem?_eq_getElem hj2)
    have q := entry_at he j
    rw [List.getElem?_eq_getElem hj2, Array.getElem?_eq_getElem hj] at q
    have q2 : ents[j] = entryOfKey (nestedKind X.prog X.w) ys[j] := Option.some.inj q
    refine ⟨(.ref p.2.1, p.2.2), by rw [List.getElem?_map, hp]; rfl, ?_, ?_⟩
    · rw [q2]; show Value.ref _ = Value.ref _; rw [r2]
    · rw [q2]; exact r3
end
def Iqk (d : Addr) (od : Obj) (kv : List (V × V)) : It := ⟨fun i H => (∃ u, H d = some (.frz od u)) ∧ i < kv.length, fun i H x H' => H' = H ∧ ∃ v, kv[i]? = some (x, v), fun i H => (∃ u, H d = some (.frz od u)) ∧ kv.length ≤ i⟩
def Iqv (d : Addr) (od : Obj) (kv : List (V × V)) : It := ⟨fun i H => (∃ u, H d = some (.frz od u)) ∧ i < kv.length, fun i H x H' => H' = H ∧ ∃ k, kv[i]? = some (k, x), fun i H => (∃ u, H d = some (.frz od u)) ∧ kv.length ≤ i⟩
def Iqi (d : Addr) (od : Obj) (kv : List (V × V)) : It := ⟨fun i H => (∃ u, H d = some (.frz od u)) ∧ i < kv.length, fun i H x H' => ∃ T k v, kv[i]? = some (k, v) ∧ x = .ref T ∧ H T = none ∧ H' = upd H T (.tup [k, v]), fun i H => (∃ u, H d = some (.frz od u)) ∧ kv.length ≤ i⟩
section
variable {P : Program} {w : World} {K : PySem.W.Frag} {tg : Expr} {d : Addr} {od : Obj} {es : Array DictEntry} {ep : Nat} {kv : List (V × V)}
theorem turn_qk (it : Addr) (en : Ents od es ep kv) : Turn P w K tg (Iqk d od kv) [it] it (fun i h => h.IsKeyIter it d i kv.length ep) where
  mem := by simp
  obj := fun i h st b hb => by
    have e : b = it := by simpa using hb
    subst e
    obtain ⟨oi, e, c, dd⟩ := st
    exact ⟨oi, e, fun v z => by rw [dd] at z; cases z⟩
  keep := fun i h h' st k => st.at fun oi e => k it (by simp) oi e
  item := by
    intro X hP hw hK hc i pins s σ H E I hf st hg
    subst hP hw hK
    obtain ⟨⟨u, hd⟩, hi⟩ := hg
    obtain ⟨f0, f1, f2, f3, f4, f5⟩ := hf it (by simp)
    obtain ⟨hgd, _⟩ := frz_get I hd
    have hi2 : i < es.size := by rw [en.size]; exact hi
    obtain ⟨p, hp, r1, r2⟩ := en.at_ i hi2
    refine next_key_item st hgd en.dat en.size (Array.getElem?_eq_getElem hi2) fun h' st' sb => ?_
    have I1 : Inv X pins σ H { s with heap := h' } := I.turned (t' := s.toks) (fun b ob hb e => (sb.2 b hb).trans e) f0 f1 f3 f4 f5
    obtain ⟨oi, e, c, dd⟩ := id st'
    exact ⟨_, rfl, go_of (s := { s with heap := h' }) e c dd (by decide) ⟨p.1, H, I1, r1, ⟨rfl, p.2, hp⟩, st', fun b hb => (hf b hb).1⟩⟩
  done := by
    intro X hP hw hK hc i pins s σ H E I hf st hg
    subst hP hw hK
    obtain ⟨⟨u, hd⟩, hi⟩ := hg
    obtain ⟨f0, f1, f2, f3, f4, f5⟩ := hf it (by simp)
    obtain ⟨hgd, _⟩ := frz_get I hd
    exact next_key_end (I.ok.hd hc) st hgd en.dat en.size hi fun h' eb => ⟨rfl, I.turned (t' := s.toks) (fun b ob hb e => eb b ob hb e) f0 f1 f3 f4 f5⟩
  self := fun A i s Q E st h => wpAny_pyIter_keyiter st h
theorem turn_qv (it : Addr) (en : Ents od es ep kv) : Turn P w K tg (Iqv d od kv) [it] it (fun i h => h.IsValIter it d i kv.length ep) where
  mem := by simp
  obj := fun i h st b hb => by
    have e : b = it := by simpa using hb
    subst e
    obtain ⟨oi, e, c, dd⟩ := st
    exact ⟨oi, e, fun v z => by rw [dd] at z; cases z⟩
  keep := fun i h h' st k => st.at fun oi e => k it (by simp) oi e
  item := by
    intro X hP hw hK hc i pins s σ H E I hf st hg
    subst hP hw hK
    obtain ⟨⟨u, hd⟩, hi⟩ := hg
    obtain ⟨f0, f1, f2, f3, f4, f5⟩ := hf it (by simp)
    obtain ⟨hgd, _⟩ := frz_get I hd
    have hi2 : i < es.size := by rw [en.size]; exact hi
    obtain ⟨p, hp, r1, r2⟩ := en.at_ i hi2
    rw [← en.size] at st
    refine wpAny_pyNext_values_item_raw st ⟨od, hgd, en.ex, en.dat⟩ hi2 fun h' st' sb => ?_
    have I1 : Inv X pins σ H { s with heap := h' } := I.turned (t' := s.toks) (fun b ob hb e => (sb.2 b hb).trans e) f0 f1 f3 f4 f5
    obtain ⟨oi, e, c, dd⟩ := id st'
    exact ⟨_, rfl, go_of (s := { s with heap := h' }) e c dd (by decide) ⟨p.2, H, I1, r2, ⟨rfl, p.1, hp⟩, by rw [← en.size]; exact st', fun b hb => (hf b hb).1⟩⟩
  done := by
    intro X hP hw hK hc i pins s σ H E I hf st hg
    subst hP hw hK
    obtain ⟨⟨u, hd⟩, hi⟩ := hg
    obtain ⟨f0, f1, f2, f3, f4, f5⟩ := hf it (by simp)
    obtain ⟨hgd, _⟩ := frz_get I hd
    rw [← en.size] at st
    exact wpAny_pyNext_values_end_raw (I.ok.hd hc) st ⟨od, hgd, en.ex, en.dat⟩ (by rw [en.size]; exact hi) fun h' eb => ⟨rfl, I.turned (t' := s.toks) (fun b ob hb e => eb b ob hb e) f0 f1 f3 f4 f5⟩
  self := fun A i s Q E st h => wpAny_pyIter_valiter st h
theorem turn_qi {elts : List Expr} {kk : Nat} {tpos : Pos} (it : Addr) (en : Ents od es ep kv) : Turn P w K (.Tuple elts kk tpos) (Iqi d od kv) [it] it (fun i h => ∃ ok ov, IsItemIter h it d i kv.length ep ok ov) where
  mem := by simp
  obj := fun i h st b hb => by
    have e : b = it := by simpa using hb
    subst e
    obtain ⟨ok, ov, e⟩ := st
    exact ⟨_, e, fun v z => nomatch z⟩
  keep := fun i h h' st k => let ⟨ok, ov, e⟩ := st; ⟨ok, ov, k it (by simp) _ e⟩
  item := by
    intro X hP hw hK hc i pins s σ H E I hf st hg
    subst hP hw hK
    obtain ⟨⟨u, hd⟩, hi⟩ := hg
    obtain ⟨hgd, _⟩ := frz_get I hd
    have hi2 : i < es.size := by rw [en.size]; exact hi
    obtain ⟨p, hp, r1, r2⟩ := en.at_ i hi2
    obtain ⟨ok, ov, he⟩ := st
    rw [← en.size] at he
    have hlt : it < s.heap.objs.size := Heap.lt_size he
    refine wpAny_pyNext_items_item_raw he ⟨od, hgd, en.ex, en.dat⟩ hi2 fun h' ho hT hz hk => ?_
    refine ⟨_, rfl, wpAny_letOwnedTupleGo_items (s := { s with heap := h' }) ho fun h'' he' sb => ?_⟩
    have hT2 : h''.get? s.heap.objs.size = some { cls := .type "tuple", data := .seq #[es[i].key, es[i].val] } := (sb.2 _ (Nat.ne_of_gt hlt)).trans hT
    have new : ObjOk X.prog X.w (upd H s.heap.objs.size (.tup [p.1, p.2])) h'' s.heap.objs.size (.tup [p.1, p.2]) :=
      ⟨by show 2 ≤ sizeLine; decide, [es[i].key, es[i].val], .cons r1 (.cons r2 .nil), ⟨_, hT2, rfl, _, rfl⟩⟩
    have I1 : Inv X pins σ (upd H s.heap.objs.size (.tup [p.1, p.2])) { s with heap := h'' } :=
      I.turnedNew (t' := s.toks) (ch := [it]) (fun b ob hb e => (sb.2 b (by simpa using hb)).trans (hk b ob (by simpa using hb) e)) hf (Nat.le_refl _) new
    refine ⟨.ref s.heap.objs.size, _, I1, rfl, ⟨_, p.1, p.2, hp, rfl, I.hok.fresh (Nat.le_refl _), rfl⟩, ⟨es[i].key, es[i].val, ?_⟩, fun b hb => ?_⟩
    · rw [← en.size]; exact he'
    · have e : b = it := by simpa using hb
      rw [e, upd_ne (Nat.ne_of_lt hlt)]
      exact (hf it (by simp)).1
  done := by
    intro X hP hw hK hc i pins s σ H E I hf st hg
    subst hP hw hK
    obtain ⟨⟨u, hd⟩, hi⟩ := hg
    obtain ⟨f0, f1, f2, f3, f4, f5⟩ := hf it (by simp)
    obtain ⟨hgd, _⟩ := frz_get I hd
    obtain ⟨ok, ov, he⟩ := st
    rw [← en.size] at he
    exact wpAny_pyNext_items_end_raw (I.ok.hd hc) he ⟨od, hgd, en.ex, en.dat⟩ (by rw [en.size]; exact hi) fun h' eb => ⟨rfl, I.turned (t' := s.toks) (fun b ob hb e => eb b ob hb e) f0 f1 f3 f4 f5⟩
  self := fun A i s Q E st h => let ⟨_, _, e⟩ := st; PySem.W.kcp_self e h
end
end DL
/-! The data layer, part 14: what is walked: the rules. -/
namespace DL
open PySem PySem.Spec PyProof.Rows L2
variable {Γ : Nat → FSpec} {X : Cx}

theorem is_u {F : Hp} {x : V} {ps : List (D × D)} (h : IsX X F x (.dct ps)) : ∃ a u, x = .ref a ∧ F a = some u ∧ DctAt X F a u ps ∧ isDct u ∧ Mut (some u) ∧ ¬ u = potMark := by
  cases h with
  | dctK h1 h2 => exact ⟨_, _, rfl, h1, .inl ⟨_, rfl, h2⟩, trivial, trivial, fun z => nomatch z⟩
  | dctN h1 h2 => exact ⟨_, _, rfl, h1, .inr ⟨_, rfl, h2⟩, trivial, trivial, dN_ne⟩
theorem locked_inj {Lk : Lks} {a : Addr} {o o' : HO} (h : locked Lk a o = locked Lk a o') : o = o' := by
  unfold locked at h
  split at h
  · exact h
  · injection h
theorem noFoF {Fo : Hp} {Lk : Lks} {k : Nat} {F H : Hp} (S : Hs Fo Lk k F H) {a : Addr} {u : HO} (h : F a = some u) : Fo a = none := by
  cases e : Fo a with
  | none => rfl
  | some o => have q := (S.fo a o e).2; rw [h] at q; cases q
theorem bor_u {Fo : Hp} {Lk : Lks} {k : Nat} {F H : Hp} (S : Hs Fo Lk k F H) {x : V} {ps : List (D × D)} (h : Bor X Fo Lk F H x (.dct ps)) : ∃ a u, x = .ref a ∧ H a = some (locked Lk a u) ∧ DctAt X F a u ps ∧ isDct u ∧ Mut (some u) ∧ (F a = some u ∨ F a = none) ∧ ¬ F a = some potMark ∧ Fo a = none := by
  cases h with
  | fr h =>
    obtain ⟨a, u, rfl, h1, h2, h3, h4, h5⟩ := is_u h
    refine ⟨a, u, rfl, ?_, h2, h3, h4, .inl h1, (fun z => h5 (by rw [h1] at z; exact Option.some.inj z)), noFoF S h1⟩
    rcases S.sub a u h1 with ⟨q, _⟩ | ⟨_, q⟩
    · exact (h5 q).elim
    · exact q
  | @od p ps h hp hf =>
    have fin : ∀ u, H p = some (locked Lk p u) → F p = some u ∨ F p = none := fun u hu => by
      cases e : F p with
      | none => exact .inr rfl
      | some o =>
        rcases S.sub p o e with ⟨q, _⟩ | ⟨_, q⟩
        · exact (hp (by rw [e, q])).elim
        · rw [hu] at q
          exact .inl (by rw [locked_inj (Option.some.inj q)])
    rcases h with ⟨kvs, h1, h2⟩ | ⟨es, h1, h2⟩
    · exact ⟨p, _, rfl, h1, .inl ⟨_, rfl, h2⟩, trivial, trivial, fin _ h1, hp, hf⟩
    · exact ⟨p, _, rfl, h1, .inr ⟨_, rfl, h2⟩, trivial, trivial, fin _ h1, hp, hf⟩
/-- a dict that is about to be walked is locked -/
theorem dct_open {b : Bool} {pins : List (Addr × Obj)} {σ : L2.St} {s : Shared} {Fo : Hp} {Lk : Lks} {F1 H1 : Hp} {ρ : Ev} {x : V} {ps : List (D × D)} (I : Inv X pins σ H1 s) (S : SxX X Fo Lk F1 H1 σ ρ) (b1 : Bor X Fo Lk F1 H1 x (.dct ps)) (hb : b = false → IsX X F1 x (.dct ps)) :
    ∃ a Lk' H1' od u, x = .ref a ∧ Inv X pins σ H1' s ∧ Lkd X b Fo Lk F1 H1 Lk' H1' ∧ SxX X Fo Lk' F1 H1' σ ρ ∧ H1' a = some (.frz od u) ∧ DctAt X F1 a u ps ∧ (∀ {Fo : Hp} {k : Nat} {F2 H2 : Hp}, Hs Fo Lk' k F2 H2 → GdE b F1 H1' F2 H2 → H2 a = some (.frz od u)) := by
  have all : ∃ a u, x = .ref a ∧ H1 a = some (locked Lk a u) ∧ DctAt X F1 a u ps ∧ isDct u ∧ Mut (some u) ∧ (F1 a = some u ∨ F1 a = none) ∧ ¬ F1 a = some potMark ∧ (b = false → F1 a = some u) ∧ Fo a = none := by
    cases b with
    | true =>
      obtain ⟨a, u, h1, h2, h3, h4, h5, h6, h7, h8⟩ := bor_u S.hs b1
      exact ⟨a, u, h1, h2, h3, h4, h5, h6, h7, (fun z => nomatch z), h8⟩
    | false =>
      obtain ⟨a, u, h1, h2, h3, h4, h5, h6⟩ := is_u (hb rfl)
      refine ⟨a, u, h1, ?_, h3, h4, h5, .inl h2, (fun z => h6 (by rw [h2] at z; exact Option.some.inj z)), (fun _ => h2), noFoF S.hs h2⟩
      rcases S.hs.sub a u h2 with ⟨q, _⟩ | ⟨_, q⟩
      · exact (h6 q).elim
      · exact q
  obtain ⟨a, u, rfl, h1, h2, h3, h4, h5, h6, h7, hfo⟩ := all
  have stay : ∀ {Lk' : Lks} {H1' : Hp} {od : Obj}, Lk' a = some od → H1' a = some (.frz od u) → ∀ {Fo : Hp} {k : Nat} {F2 H2 : Hp}, Hs Fo Lk' k F2 H2 → GdE b F1 H1' F2 H2 → H2 a = some (.frz od u) := fun {Lk' H1' od} e e1 {Fo k F2 H2} S2 g => by
    cases b with
    | true => exact (show Stq F1 H1' F2 H2 from g).gr a _ e1 h6
    | false =>
      have q := (show Sub F1 F2 from g) a u (h7 rfl)
      rcases S2.sub a u q with ⟨z, _⟩ | ⟨_, z⟩
      · exact (h6 (by rw [h7 rfl, z])).elim
      · unfold locked at z; rw [e] at z; exact z
  cases e : Lk a with
  | none =>
    rw [locked_no e] at h1
    obtain ⟨od, I1⟩ := I.lock h1 h4
    exact ⟨a, updL Lk a od, upd H1 a (.frz od u), od, u, rfl, I1, .one e hfo h1 h3 h5 h6 (I.nofrz h1 h4) h7, S.lockA e h1 h3 h5 hfo h6, upd_same, h2, stay updL_same upd_same⟩
  | some ob =>
    have h1' : H1 a = some (.frz ob u) := by unfold locked at h1; rw [e] at h1; exact h1
    exact ⟨a, Lk, H1, ob, u, rfl, I, .no, S, h1', h2, stay e h1'⟩
/-- either reading -/
theorem S2.runI {e : Expr} {p : PX} (h : S2 Γ X e p) (b : Bool) {Fo : Hp} {Lk : Lks} {F H : Hp} {σ : L2.St} {ρ : Ev} {Q : QD} {R : VK} (S : SxX X Fo Lk F H σ ρ) (q : (if b = true then brw p (wpE Γ p) else wpE Γ p) ρ Q)
    (c : ∀ v F' H' ρ' d, SxX X Fo Lk F' H' σ ρ' → Stq F H F' H' → Bor X Fo Lk F' H' v d → (b = false → IsX X F' v d) → Q d ρ' → R v H') : TEw X e σ H R := by
  cases b with
  | true => exact h.bor.run S q fun v F' H' ρ' d S' t i q' => c v F' H' ρ' d S' t i (fun z => nomatch z) q'
  | false => exact h.val.run S q fun v F' H' ρ' d S' t i q' => c v F' H' ρ' d S' t (.fr i) (fun _ => i) q'
theorem GdE.sub {b : Bool} {F1 H1 F H : Hp} (g : GdE b F1 H1 F H) : Sub F1 F := by
  cases b with
  | true => exact (show Stq F1 H1 F H from g).sub
  | false => exact g
/-- a list stays as it is walked -/
theorem lst_stay {b : Bool} {Fo : Hp} {Lk : Lks} {k : Nat} {F1 H1 : Hp} {v : V} {ds : List D} (S : Hs Fo Lk k F1 H1) (b1 : Bor X Fo Lk F1 H1 v (.lst ds)) (hb : b = false → IsX X F1 v (.lst ds)) :
    ∃ a xs, v = .ref a ∧ H1 a = some (.lst xs) ∧ IsAX X F1 xs ds ∧ ∀ {Fo : Hp} {Lk : Lks} {k : Nat} {F2 H2 : Hp}, Hs Fo Lk k F2 H2 → GdE b F1 H1 F2 H2 → H2 a = some (.lst xs) := by
  have fr : IsX X F1 v (.lst ds) → ∃ a xs, v = .ref a ∧ H1 a = some (.lst xs) ∧ IsAX X F1 xs ds ∧ ∀ {Fo : Hp} {Lk : Lks} {k : Nat} {F2 H2 : Hp}, Hs Fo Lk k F2 H2 → GdE b F1 H1 F2 H2 → H2 a = some (.lst xs) := fun h => by
    cases h with
    | lst h1 h2 => exact ⟨_, _, rfl, S.lst h1, h2, fun S2 g => S2.lst (g.sub _ _ h1)⟩
  cases b with
  | false => exact fr (hb rfl)
  | true =>
    cases b1 with
    | fr h => exact fr h
    | ol h hp i => exact ⟨_, _, rfl, h, i, fun S2 g => (show Stq F1 H1 _ _ from g).gr _ _ h hp⟩
def ItW (X : Cx) (tg : Expr) (x : V) (σ : L2.St) (H : Hp) (R : It → Hp → Prop) : Prop := ∀ (pins : List (Addr × Obj)) (s : Shared) (u : Value), Inv X pins σ H s → RelV x u → wpAny (model X.prog X.w) X.A (pyIter u) (PIE X pins σ tg R) X.xe s
theorem TIw.by_ {tg e : Expr} {σ : L2.St} {H : Hp} {R : It → Hp → Prop} (h : TEw X e σ H (fun x H1 => ItW X tg x σ H1 R)) : TIw X tg e σ H R := fun pins s I => thn (h pins s I) fun u s1 ⟨x, H1, I1, r, q⟩ => q pins s1 u I1 r
section
variable {tg : Expr} {σ : L2.St} {H : Hp} {R : It → Hp → Prop}
theorem itw_list {a : Addr} {xs : List V} (hq : SqL X.K H a xs) (q : R (Itl X.K a) H) : ItW X tg (.ref a) σ H R := fun pins s u I r => by
  cases r
  obtain ⟨its, rv, p, hz⟩ := I.list hq
  exact wpAny_pyIter_list p.isList (pi_one (tk := s.toks) I _ (turn_list a _) ⟨_, Heap.get?_push_size _ rfl, rfl, rfl⟩ q)
theorem itw_tup {a : Addr} {xs : List V} (hq : SqT X.K H a xs) (q : R (Itt X.K a) H) : ItW X tg (.ref a) σ H R := fun pins s u I r => by
  cases r
  obtain ⟨its, rv, p, hz⟩ := I.tuple hq
  exact wpAny_pyIter_tuple (show s.heap.IsTuple a its.toArray from p) (pi_one (tk := s.toks) I _ (turn_tuple a _) ⟨_, Heap.get?_push_size _ rfl, rfl, rfl⟩ q)
theorem itw_str {z : Str} (q : R (Its z) H) : ItW X tg (.str z) σ H R := fun pins s u I r => by
  obtain ⟨t, rfl⟩ := r
  cases ha : z.cps.all (· < 128)
  · exact wpAny_pyIter_wide ha (pi_one (tk := s.toks) I _ (turn_str _ z t "str_iterator" (.inr rfl)) ⟨_, Heap.get?_push_size _ rfl, rfl, rfl⟩ q)
  · exact wpAny_pyIter_ascii ha (pi_one (tk := s.toks) I _ (turn_str _ z t "str_ascii_iterator" (.inl rfl)) ⟨_, Heap.get?_push_size _ rfl, rfl, rfl⟩ q)
end
/-- by the hand layer's walk -/
theorem Wk.of {Lk : Lks} {J : It} {ds : List D} {G : Hp → Hp → Prop} {n : Nat} {G2 : Hp → Prop} {Y : Nat → Hp → V → Hp → Prop} (W : Walk J n G2 Y) (hn : n = ds.length) (hg : ∀ {Fo : Hp} {k : Nat} {F H : Hp}, Hs Fo Lk k F H → G F H → G2 H)
    (hy : ∀ {Fo : Hp} {k : Nat} {F H : Hp} (i : Nat) (x : V) (H' : Hp), i < ds.length → Hs Fo Lk k F H → G F H → Y i H x H' → ∃ F' d, ds[i]? = some d ∧ Hs Fo Lk k F' H' ∧ Stp F H F' H' ∧ IsX X F' x d) : Wk X Lk J ds G where
  go := fun i hi S g => W.goes i _ (by omega) (hg S g)
  stop := fun S g => by rw [← hn]; exact W.stops _ (hg S g)
  yld := fun i x H' hi S g y => hy i x H' hi S g (W.yields i _ x H' (by omega) (hg S g) y)
theorem wk_list {Lk : Lks} {b : Bool} {F1 H1 : Hp} {a : Addr} {xs : List V} {ds : List D} (i : IsAX X F1 xs ds) (h : ∀ {Fo : Hp} {k : Nat} {F2 H2 : Hp}, Hs Fo Lk k F2 H2 → GdE b F1 H1 F2 H2 → H2 a = some (.lst xs)) : Wk X Lk (Itl X.K a) ds (GdE b F1 H1) :=
  Wk.of walk_list i.length (fun S g => SqL.of (h S g)) fun {Fo k F H} j x H' hj S g y => by
    obtain ⟨rfl, e⟩ := y
    obtain ⟨d, e2, i2⟩ := i.getV e
    exact ⟨F, d, e2, S, Stp.refl F _, i2.mono g.sub⟩
theorem wk_tup {Lk : Lks} {b : Bool} {F1 H1 : Hp} {a : Addr} {xs : List V} {ds : List D} (i : IsAX X F1 xs ds) (h : SqT X.K F1 a xs) : Wk X Lk (Itt X.K a) ds (GdE b F1 H1) :=
  Wk.of walk_tup i.length (fun S g => S.sqT (g.sub.sqT h)) fun {Fo k F H} j x H' hj S g y => by
    obtain ⟨rfl, e⟩ := y
    obtain ⟨d, e2, i2⟩ := i.getV e
    exact ⟨F, d, e2, S, Stp.refl F _, i2.mono g.sub⟩
theorem chars_at (z : Str) (i : Nat) : (charsD z)[i]? = (z.cps[i]?).map fun c => D.str ⟨#[c]⟩ := by
  unfold charsD
  rw [List.getElem?_map, Array.getElem?_toList]
theorem wk_str {Lk : Lks} {b : Bool} {F1 H1 : Hp} {z : Str} : Wk X Lk (Its z) (charsD z) (GdE b F1 H1) :=
  Wk.of walk_str (by unfold charsD; rw [List.length_map, Array.length_toList]) (fun _ _ => trivial) fun {Fo k F H} j x H' hj S g y => by
    obtain ⟨rfl, c, e, rfl⟩ := y
    exact ⟨F, _, by rw [chars_at, e]; rfl, S, Stp.refl F _, .str _⟩
theorem wk_range {Lk : Lks} {b : Bool} {F1 H1 : Hp} {lo : Int} {n : Nat} : Wk X Lk (Itr lo n) (rangeD lo n) (GdE b F1 H1) :=
  Wk.of walk_range (by unfold rangeD; rw [List.length_map, List.length_range]) (fun _ _ => trivial) fun {Fo k F H} j x H' hj S g y => by
    obtain ⟨rfl, rfl⟩ := y
    have hj' : j < n := by unfold rangeD at hj; rw [List.length_map, List.length_range] at hj; exact hj
    exact ⟨F, .int (lo + (j : Nat)), by unfold rangeD; rw [List.getElem?_map, List.getElem?_range hj']; rfl, S, Stp.refl F _, .int _⟩
theorem wk_down {Lk : Lks} {b : Bool} {F1 H1 : Hp} {lo : Int} {n : Nat} : Wk X Lk (Itc lo (-1) n) (downD lo n) (GdE b F1 H1) :=
  Wk.of walk_rangeC (by unfold downD; rw [List.length_map, List.length_range]) (fun _ _ => trivial) fun {Fo k F H} j x H' hj S g y => by
    obtain ⟨rfl, rfl⟩ := y
    have hj' : j < n := by unfold downD at hj; rw [List.length_map, List.length_range] at hj; exact hj
    exact ⟨F, .int (lo + (j : Nat) * (-1)), by unfold downD; rw [List.getElem?_map, List.getElem?_range hj']; rfl, S, Stp.refl F _, .int _⟩
theorem itw_dct {tg : Expr} {b : Bool} {σ : L2.St} {Fo : Hp} {Lk : Lks} {F1 H1 : Hp} {ρ : Ev} {x : V} {ps : List (D × D)} {R : It → Hp → Prop} (S : SxX X Fo Lk F1 H1 σ ρ) (b1 : Bor X Fo Lk F1 H1 x (.dct ps)) (hb : b = false → IsX X F1 x (.dct ps))
    (c : ∀ J Lk' H1', SxX X Fo Lk' F1 H1' σ ρ → Lkd X b Fo Lk F1 H1 Lk' H1' → Wk X Lk' J (ps.map (·.1)) (GdE b F1 H1') → (ps.map (·.1)).length ≤ sizeLine → R J H1') : ItW X tg x σ H1 R := fun pins s u I r => by
  obtain ⟨a, Lk', H1', od, uo, rfl, I1, L, S1, h1, h2, st⟩ := dct_open (b := b) I S b1 hb
  cases r
  obtain ⟨hsys, es, ep, kv, en, ip⟩ := ents_of I1 h1 h2
  obtain ⟨hg, _⟩ := frz_get I1 h1
  refine iter_keys hsys hg en.ex en.dat (pi_one (tk := s.toks) I1 _ (turn_qk (d := a) _ en) ⟨_, Heap.get?_push_size _ rfl, rfl, ?_⟩ (c (Iqk a od kv) Lk' H1' S1 L ?_ (by rw [List.length_map, ← ip.length]; exact en.fits)))
  · rw [en.size] <;> rfl
  · refine ⟨fun i hi S g => ⟨⟨uo, st S g⟩, by rw [List.length_map] at hi; rw [ip.length]; exact hi⟩, fun S g => ⟨⟨uo, st S g⟩, by rw [List.length_map, ip.length]; exact Nat.le_refl _⟩, fun {Fo k F H} i x H' hi S g y => ?_⟩
    obtain ⟨rfl, v, e⟩ := y
    obtain ⟨q, e2, i2, i3⟩ := ip.get e
    exact ⟨F, q.1, by rw [List.getElem?_map, e2]; rfl, S, Stp.refl F _, i2.mono g.sub⟩
/-- a list, a tuple, a text, a dict's keys -/
theorem si_sq {tg e : Expr} {p : PX} (h : S2 Γ X e p) : SI (Γ := Γ) X tg e (.sq p) :=
  ⟨fun b {Fo Lk F H σ ρ Q R} S q c => by
    refine TIw.by_ ?_
    have q0 : (if b = true then brw p (wpE Γ p) else wpE Γ p) ρ (fun x ρ1 => seqS x fun ds => Q ds ρ1) := q
    refine h.runI b S q0 fun v F1 H1 ρ1 d S1 t1 b1 hb q1 => ?_
    cases d with
    | lst ds =>
      obtain ⟨a, xs, rfl, h1, i1, st⟩ := lst_stay (b := b) S1.hs b1 hb
      intro pins s u I r
      have hz : ds.length ≤ sizeLine := by
        obtain ⟨its, r', pl, hz⟩ := I.list (SqL.of h1)
        rw [← i1.length]; exact hz
      exact itw_list (SqL.of h1) (c _ Lk F1 H1 H1 ρ1 ds S1 S1 t1 .no (wk_list i1 st) hz q1) pins s u I r
    | tup ds =>
      have iv := b1.tupI
      obtain ⟨a, xs, rfl, h1, i1⟩ := iv.inv_tup
      intro pins s u I r
      have hz : ds.length ≤ sizeLine := by
        obtain ⟨its, r', pl, hz⟩ := I.tuple (S1.hs.sqT h1)
        rw [← i1.length]; exact hz
      exact itw_tup (S1.hs.sqT h1) (c _ Lk F1 H1 H1 ρ1 ds S1 S1 t1 .no (wk_tup i1 h1) hz q1) pins s u I r
    | str z =>
      have e := b1.str
      subst e
      exact itw_str (c _ Lk F1 H1 H1 ρ1 _ S1 S1 t1 .no wk_str (by unfold charsD; rw [List.length_map, Array.length_toList]; exact q1.1) q1.2)
    | dct ps => exact itw_dct S1 b1 hb fun J Lk' H1' S' L W hz => c J Lk' F1 H1 H1' ρ1 _ S1 S' t1 L W hz q1
    | _ => exact q1.elim⟩
theorem si_rng1 {tg a : Expr} {pa : PX} {p pos : Pos} (hg : Gl X "range") (hm : X.mg "range" = none) (ha : S2 Γ X a pa) (he : isStar a = false) : SI (Γ := Γ) X tg (.Call (.Name "range" p) [a] [] pos) (.rng1 pa) :=
  ⟨fun b {Fo Lk F H σ ρ Q R} S q c => by
    have q0 : brw pa (wpE Γ pa) ρ (fun x ρ1 => match x with
      | .int n => rngS 0 n fun ds => Q ds ρ1
      | _ => False) := by cases b <;> exact q
    refine TIw.of (pi_range1 hg hm (pa_cons (pe_w X a) pa_nil (starEach_cons he)) (starEach_cons he)) ?_
    refine ha.bor.run (R := fun x H1 => tNil σ H1 fun r H2 => ∃ j : Int, (x :: r) = [.int j] ∧ -(2 ^ 62) ≤ j ∧ j < 2 ^ 62 ∧ R (Itr 0 j.toNat) H2) S q0 fun v F1 H1 ρ1 d S1 t1 b1 q1 => ?_
    cases d with
    | int n =>
      obtain ⟨⟨⟨_, _, q2, q3⟩, q4⟩, q5⟩ := q1
      rw [b1.int]
      refine ⟨n, rfl, q2, q3, ?_⟩
      rw [Int.sub_zero] at q4 q5
      exact c _ Lk F1 H1 H1 ρ1 _ S1 S1 t1 .no wk_range (by unfold rangeD; rw [List.length_map, List.length_range]; exact q4) q5
    | _ => exact q1.elim⟩
theorem si_rng2 {tg a a2 : Expr} {pa pa2 : PX} {p pos : Pos} (hg : Gl X "range") (hm : X.mg "range" = none) (ha : S2 Γ X a pa) (ha2 : S2 Γ X a2 pa2) (he : isStar a = false) (he2 : isStar a2 = false) : SI (Γ := Γ) X tg (.Call (.Name "range" p) [a, a2] [] pos) (.rng2 pa pa2) :=
  ⟨fun b {Fo Lk F H σ ρ Q R} S q c => by
    have q0 : brw pa (wpE Γ pa) ρ (fun x ρ1 => brw pa2 (wpE Γ pa2) ρ1 fun y ρ2 => match x, y with
      | .int m, .int n => rngS m n fun ds => Q ds ρ2
      | _, _ => False) := by cases b <;> exact q
    have e1 : starEach [a2] X.env = [(false, eval a2 X.env)] := starEach_cons he2
    refine TIw.of (pi_range2 hg hm (pa_cons (pe_w X a) (pa_cons (pe_w X a2) pa_nil e1) (starEach_cons he)) (by rw [starEach_cons he, e1]) e1) ?_
    refine ha.bor.run S q0 fun v F1 H1 ρ1 d S1 t1 b1 q1 => ?_
    refine ha2.bor.run S1 q1 fun v2 F2 H2 ρ2 d2 S2 t2 b2 q2 => ?_
    cases d with
    | int m =>
      cases d2 with
      | int n =>
        obtain ⟨⟨q3, q4⟩, q5⟩ := q2
        rw [(b1.mono t2).int, b2.int]
        exact ⟨m, n, rfl, q3, c _ Lk F2 H2 H2 ρ2 _ S2 S2 (t1.trans t2) .no wk_range (by unfold rangeD; rw [List.length_map, List.length_range]; exact q4) q5⟩
      | _ => exact q2.elim
    | _ => exact q2.elim⟩
end DL
/-! The data layer, part 15: values, items, enumerate, zip, range down. -/
namespace DL
open PySem PySem.Spec PyProof.Rows L2
variable {Γ : Nat → FSpec} {X : Cx}

theorem si_rng3 {tg a a2 a3 : Expr} {pa pa2 pa3 : PX} {p pos : Pos} (hg : Gl X "range") (hm : X.mg "range" = none) (ha : S2 Γ X a pa) (ha2 : S2 Γ X a2 pa2) (ha3 : S2 Γ X a3 pa3) (he : isStar a = false) (he2 : isStar a2 = false) (he3 : isStar a3 = false) : SI (Γ := Γ) X tg (.Call (.Name "range" p) [a, a2, a3] [] pos) (.rng3 pa pa2 pa3) :=
  ⟨fun b {Fo Lk F H σ ρ Q R} S q c => by
    have q0 : brw pa (wpE Γ pa) ρ (fun x ρ1 => brw pa2 (wpE Γ pa2) ρ1 fun y ρ2 => brw pa3 (wpE Γ pa3) ρ2 fun z ρ3 => match x, y, z with
      | .int m, .int n, .int k => (k = -1 ∧ (-(2 ^ 62) ≤ m ∧ m < 2 ^ 62 ∧ -(2 ^ 62) ≤ n ∧ n < 2 ^ 62) ∧ (m - n).toNat ≤ sizeLine) ∧ Q (downD m (m - n).toNat) ρ3
      | _, _, _ => False) := by cases b <;> exact q
    have e1 : starEach [a3] X.env = (false, eval a3 X.env) :: starEach [] X.env := starEach_cons he3
    have e2 : starEach [a2, a3] X.env = (false, eval a2 X.env) :: starEach [a3] X.env := starEach_cons he2
    refine TIw.of (pi_range3 hg hm (pa_cons (pe_w X a) (pa_cons (pe_w X a2) (pa_cons (pe_w X a3) pa_nil e1) e2) (starEach_cons he)) (starEach_cons he) (by rw [e2, e1]; rfl)) ?_
    refine ha.bor.run S q0 fun v F1 H1 ρ1 d S1 t1 b1 q1 => ?_
    refine ha2.bor.run S1 q1 fun v2 F2 H2 ρ2 d2 S2 t2 b2 q2 => ?_
    refine ha3.bor.run S2 q2 fun v3 F3 H3 ρ3 d3 S3 t3 b3 q3 => ?_
    cases d with
    | int m =>
      cases d2 with
      | int n =>
        cases d3 with
        | int k =>
          obtain ⟨⟨rfl, ⟨a1, a2, a3, a4⟩, q4⟩, q5⟩ := q3
          rw [((b1.mono t2).mono t3).int, (b2.mono t3).int, b3.int]
          exact ⟨m, n, -1, (m - n).toNat, rfl, RgC.neg a1 a2 a3 a4, c _ Lk F3 H3 H3 ρ3 _ S3 S3 (t1.trans (t2.trans t3)) .no wk_down (by unfold downD; rw [List.length_map, List.length_range]; exact q4) q5⟩
        | _ => exact q3.elim
      | _ => exact q3.elim
    | _ => exact q3.elim⟩
/-! ### values, items -/
theorem s_view {m id : String} (hid : id = "dict.values" ∧ m = "values" ∨ id = "dict.items" ∧ m = "items") {tg e : Expr} {apos cpos : Pos} {σ : L2.St} {H : Hp} {R : It → Hp → Prop} {name : Str} (hbase : attributeBase e name X.env (eval e X.env) = eval e X.env) (hline : (apos.endLine == cpos.line) = true)
    (slot : Slot "dict" name id) (hty : typeOf (.builtin id) = pure (.type "method_descriptor")) {B : Builtin} (entry : entryFor table id = some B) (hargs : ∀ v, argsOk id ⟨[v], []⟩) {cl : String}
    (hB : ∀ (prog : Program) (w : World) (d : Addr), (d == sysModules) = false → MeetsIn prog w (B ⟨[.ref d], []⟩) (fun _ R s => (∃ es ep, s.heap.DictRaw d es ep) ∧ R (.ok (.ret (.ref s.heap.objs.size))) { s with heap := s.heap.push { cls := .type cl, data := .fields #[.ref d] } }))
    (h : TEw X e σ H (fun x H1 => ∀ (pins : List (Addr × Obj)) (s : Shared) (u : Value), Inv X pins σ H1 s → RelV x u → ∃ d es ep, u = .ref d ∧ (d == sysModules) = false ∧ s.heap.DictRaw d es ep ∧
      wpAny (model X.prog X.w) X.A (pyIter (.ref s.heap.objs.size)) (PIE X pins σ tg R) X.xe { s with heap := s.heap.push { cls := .type cl, data := .fields #[.ref d] } })) : TIw X tg (.Call (.Attribute e name apos) [] [] cpos) σ H R := fun pins s I => by
  refine wpAny_Call_method (T := "dict") (id := id) hbase rfl hline PySem.F.plainAttrs_dict slot hty (thn (h pins s I) fun u s1 ⟨x, H1, I1, rx, q⟩ => ?_)
  obtain ⟨d, es, ep, rfl, hs, raw, fin⟩ := q pins s1 u I1 rx
  refine ⟨raw.typeIs, fun a e => by cases e; obtain ⟨o, h1, h2, _⟩ := raw; exact ⟨o, h1, h2.2.1⟩, ?_⟩
  show wpAny _ _ (callWith cpos (.builtin id) [.ref d] [] []) _ X.xe s1
  exact method_meetsIn slot entry rfl (PySem.evalArgs_none ⟨rfl, raw.typeIs, hargs _, _, hB _ _ d hs, ⟨es, ep, raw⟩, fin⟩)
theorem si_vals {tg e : Expr} {p : PX} {apos cpos : Pos} (h : S2 Γ X e p) (hbase : attributeBase e "values" X.env (eval e X.env) = eval e X.env) (hline : (apos.endLine == cpos.line) = true) : SI (Γ := Γ) X tg (.Call (.Attribute e "values" apos) [] [] cpos) (.vals p) :=
  ⟨fun b {Fo Lk F H σ ρ Q R} S q c => by
    have q0 : (if b = true then brw p (wpE Γ p) else wpE Γ p) ρ (fun x ρ1 => match x with
      | .dct ps => Q (ps.map (·.2)) ρ1
      | _ => False) := q
    refine s_view (.inl ⟨rfl, rfl⟩) hbase hline PySem.F.slot_dict_values PySem.F.type_dict_values PySem.F.entry_dict_values PySem.F.args_dict_values_1 (fun prog w d hs => meets_dict_values_raw d hs) ?_
    refine h.runI b S q0 fun v F1 H1 ρ1 d S1 t1 b1 hb q1 => ?_
    cases d with
    | dct ps =>
      intro pins s u I r
      obtain ⟨a, Lk', H1', od, uo, rfl, I1, L, S1', h1, h2, st⟩ := dct_open (b := b) I S1 b1 hb
      cases r
      obtain ⟨hsys, es, ep, kv, en, ip⟩ := ents_of I1 h1 h2
      obtain ⟨hg, _⟩ := frz_get I1 h1
      have raw : s.heap.DictRaw a es ep := ⟨od, hg, en.ex, en.dat⟩
      refine ⟨a, es, ep, rfl, hsys, raw, ?_⟩
      have I2 : Inv X pins σ H1' { s with heap := s.heap.push { cls := .type "dict_values", data := .fields #[.ref a] } } := I1.kept (t' := s.toks) fun b ob q => Heap.get?_push_of_some _ q
      refine wpAny_pyIter_values_raw (d := a) ⟨_, Heap.get?_push_size _ rfl, rfl, rfl⟩ (raw.push _) (pi_one (tk := s.toks) I2 _ (turn_qv (d := a) _ en) ⟨_, Heap.get?_push_size _ rfl, rfl, ?_⟩ (c (Iqv a od kv) Lk' F1 H1 H1' ρ1 _ S1 S1' t1 L ?_ (by rw [List.length_map, ← ip.length]; exact en.fits) q1))
      · rw [en.size] <;> rfl
      · refine ⟨fun i hi S g => ⟨⟨uo, st S g⟩, by rw [List.length_map] at hi; rw [ip.length]; exact hi⟩, fun S g => ⟨⟨uo, st S g⟩, by rw [List.length_map, ip.length]; exact Nat.le_refl _⟩, fun {Fo k F H} i x H' hi S g y => ?_⟩
        obtain ⟨rfl, v, e⟩ := y
        obtain ⟨q, e2, i2, i3⟩ := ip.get e
        exact ⟨F, q.2, by rw [List.getElem?_map, e2]; rfl, S, Stp.refl F _, i3.mono g.sub⟩
    | _ => exact q1.elim⟩
theorem pair_is {Fo : Hp} {Lk : Lks} {k : Nat} {F H : Hp} (S : Hs Fo Lk k F H) {x y : V} {dx dy : D} (hx : IsX X F x dx) (hy : IsX X F y dy) {T : Addr} (hT : H T = none) : ∃ F', Hs Fo Lk k F' (upd H T (.tup [x, y])) ∧ Stp F H F' (upd H T (.tup [x, y])) ∧ IsX X F' (.ref T) (.tup [dx, dy]) := by
  obtain ⟨n1, n2, n3⟩ := new_tup S (.cons hx (.cons hy .nil)) hT
  exact ⟨_, n1, n2, n3⟩
theorem si_items {e : Expr} {p : PX} {apos cpos tpos : Pos} {elts : List Expr} {kk : Nat} (h : S2 Γ X e p) (hbase : attributeBase e "items" X.env (eval e X.env) = eval e X.env) (hline : (apos.endLine == cpos.line) = true) : SI (Γ := Γ) X (.Tuple elts kk tpos) (.Call (.Attribute e "items" apos) [] [] cpos) (.items p) :=
  ⟨fun b {Fo Lk F H σ ρ Q R} S q c => by
    have q0 : (if b = true then brw p (wpE Γ p) else wpE Γ p) ρ (fun x ρ1 => match x with
      | .dct ps => Q (ps.map fun p => .tup [p.1, p.2]) ρ1
      | _ => False) := q
    refine s_view (.inr ⟨rfl, rfl⟩) hbase hline PySem.F.slot_dict_items PySem.F.type_dict_items PySem.F.entry_dict_items PySem.F.args_dict_items_1 (fun prog w d hs => meets_dict_items_raw d hs) ?_
    refine h.runI b S q0 fun v F1 H1 ρ1 d S1 t1 b1 hb q1 => ?_
    cases d with
    | dct ps =>
      intro pins s u I r
      obtain ⟨a, Lk', H1', od, uo, rfl, I1, L, S1', h1, h2, st⟩ := dct_open (b := b) I S1 b1 hb
      cases r
      obtain ⟨hsys, es, ep, kv, en, ip⟩ := ents_of I1 h1 h2
      obtain ⟨hg, _⟩ := frz_get I1 h1
      have raw : s.heap.DictRaw a es ep := ⟨od, hg, en.ex, en.dat⟩
      refine ⟨a, es, ep, rfl, hsys, raw, ?_⟩
      have I2 : Inv X pins σ H1' { s with heap := s.heap.push { cls := .type "dict_items", data := .fields #[.ref a] } } := I1.kept (t' := s.toks) fun b ob q => Heap.get?_push_of_some _ q
      refine wpAny_pyIter_items_raw (d := a) ⟨_, Heap.get?_push_size _ rfl, rfl, rfl⟩ (raw.push _) (pi_one (tk := s.toks) I2 _ (turn_qi (d := a) _ en) ⟨.none, .none, ?_⟩ (c (Iqi a od kv) Lk' F1 H1 H1' ρ1 _ S1 S1' t1 L ?_ (by rw [List.length_map, ← ip.length]; exact en.fits) q1))
      · rw [← en.size]; exact Heap.get?_push_size _ rfl
      · refine ⟨fun i hi S g => ⟨⟨uo, st S g⟩, by rw [List.length_map] at hi; rw [ip.length]; exact hi⟩, fun S g => ⟨⟨uo, st S g⟩, by rw [List.length_map, ip.length]; exact Nat.le_refl _⟩, fun {Fo k F H} i x H' hi S g y => ?_⟩
        obtain ⟨T, k', v, e, rfl, hT, rfl⟩ := y
        obtain ⟨q, e2, i2, i3⟩ := ip.get e
        obtain ⟨F', n1, n2, n3⟩ := pair_is S (i2.mono g.sub) (i3.mono g.sub) hT
        exact ⟨F', _, by rw [List.getElem?_map, e2]; rfl, n1, n2, n3⟩
    | _ => exact q1.elim⟩
/-! ### zip -/
theorem zipD_at : ∀ {xs ys : List D} {i : Nat} {x y : D}, xs[i]? = some x → ys[i]? = some y → (zipD xs ys)[i]? = some (.tup [x, y])
  | [], _, i, _, _, h, _ => by simp at h
  | _ :: _, [], i, _, _, _, h => by simp at h
  | a :: as, b :: bs, 0, x, y, h, h' => by simp at h h'; subst h h'; rfl
  | a :: as, b :: bs, i + 1, x, y, h, h' => by
    have := zipD_at (xs := as) (ys := bs) (i := i) (x := x) (y := y) (by simpa using h) (by simpa using h')
    exact this
theorem zipD_len (xs ys : List D) : (zipD xs ys).length = min xs.length ys.length := by unfold zipD; rw [List.length_zipWith]
theorem si_zip {e e2 : Expr} {p p2 : PX} {np pos tpos : Pos} {elts : List Expr} {kk : Nat} (hg : Gl X "zip") (hm : X.mg "zip" = none) (h : S2 Γ X e p) (h2 : S2 Γ X e2 p2) (he : isStar e = false) (he2 : isStar e2 = false) : SI (Γ := Γ) X (.Tuple elts kk tpos) (.Call (.Name "zip" np) [e, e2] [] pos) (.zip p p2) :=
  ⟨fun b {Fo Lk F H σ ρ Q R} S q c => by
    have q0 : (if b = true then brw p (wpE Γ p) else wpE Γ p) ρ (fun x ρ1 => (if b = true then brw p2 (wpE Γ p2) else wpE Γ p2) ρ1 fun y ρ2 => zipS x y fun xs ys => Q (zipD xs ys) ρ2) := q
    have e1 : starEach [e2] X.env = (false, eval e2 X.env) :: starEach [] X.env := starEach_cons he2
    refine TIw.of (RZ.pi_zipA hg hm (pa_cons (pe_w X e) (pa_cons (pe_w X e2) pa_nil e1) (starEach_cons he)) (starEach_cons he) (by rw [e1]; rfl)) ?_
    refine h.runI b S q0 fun v F1 H1 ρ1 d S1 t1 b1 hb q1 => ?_
    refine h2.runI b S1 q1 fun v2 F2 H2 ρ2 d2 S2 t2 b2 hb2 q2 => ?_
    have b1' := b1.mono t2
    have hb' : b = false → IsX X F2 v d := fun z => (hb z).mono t2.sub
    cases d with
    | lst xs =>
      cases d2 with
      | lst ys =>
        obtain ⟨a, vs, rfl, h1, i1, st⟩ := lst_stay (b := b) S2.hs b1' hb'
        obtain ⟨a2, vs2, rfl, h12, i2, st2⟩ := lst_stay (b := b) S2.hs b2 hb2
        refine ⟨a, a2, vs, vs2, rfl, .inl ⟨SqL.of h1, SqL.of h12, ?_⟩⟩
        refine c (Itz X.K a a2) Lk F2 H2 H2 ρ2 _ S2 S2 (t1.trans t2) .no ?_ (by rw [zipD_len]; exact Nat.le_trans (Nat.min_le_left _ _) q2.1) q2.2
        refine Wk.of (walk_zip rfl) (by rw [zipD_len, i1.length, i2.length]) (fun S g => ⟨SqL.of (st S g), SqL.of (st2 S g)⟩) fun {Fo k F H} j x H' hj S g y => ?_
        obtain ⟨T, x1, x2, rfl, hT, rfl, g1, g2⟩ := y
        obtain ⟨d1, e1, j1⟩ := i1.getV g1
        obtain ⟨d2, e2, j2⟩ := i2.getV g2
        obtain ⟨F', n1, n2, n3⟩ := pair_is S (j1.mono g.sub) (j2.mono g.sub) hT
        exact ⟨F', _, zipD_at e1 e2, n1, n2, n3⟩
      | _ => exact q2.elim
    | tup xs =>
      cases d2 with
      | tup ys =>
        obtain ⟨a, vs, rfl, h1, i1⟩ := b1'.tupI.inv_tup
        obtain ⟨a2, vs2, rfl, h12, i2⟩ := b2.tupI.inv_tup
        refine ⟨a, a2, vs, vs2, rfl, .inr ⟨S2.hs.sqT h1, S2.hs.sqT h12, ?_⟩⟩
        refine c (RZ.ItzT X.K a a2) Lk F2 H2 H2 ρ2 _ S2 S2 (t1.trans t2) .no ?_ (by rw [zipD_len]; exact Nat.le_trans (Nat.min_le_left _ _) q2.1) q2.2
        refine ⟨fun i hi S g => ?_, fun S g => ?_, fun {Fo k F H} j x H' hj S g y => ?_⟩
        · rw [zipD_len, ← i1.length, ← i2.length] at hi
          have h1' : i < vs.length := by omega
          have h2' : i < vs2.length := by omega
          exact ⟨vs, vs2, vs[i], vs2[i], S.sqT (g.sub.sqT h1), S.sqT (g.sub.sqT h12), by simp [h1'], by simp [h2']⟩
        · rw [zipD_len, ← i1.length, ← i2.length]
          exact ⟨vs, vs2, S.sqT (g.sub.sqT h1), S.sqT (g.sub.sqT h12), by omega⟩
        · obtain ⟨T, x1, x2, rfl, hT, rfl, g1, g2⟩ := y
          obtain ⟨d1, e1, j1⟩ := i1.getV (g1 vs (S.sqT (g.sub.sqT h1)))
          obtain ⟨d2, e2, j2⟩ := i2.getV (g2 vs2 (S.sqT (g.sub.sqT h12)))
          obtain ⟨F', n1, n2, n3⟩ := pair_is S (j1.mono g.sub) (j2.mono g.sub) hT
          exact ⟨F', _, zipD_at e1 e2, n1, n2, n3⟩
      | _ => exact q2.elim
    | _ => exact q2.elim⟩
end DL
/-! The data layer, part 16: enumerate. -/
namespace DL
open PySem PySem.Spec PyProof.Rows L2
open Sem (wp)
set_option maxHeartbeats 1000000 in
theorem meets_enum1 {v : Value} {o : Obj} {H : Heap → Prop} (B : Begins v o H) :
    Meets (Builtin.«enumerate.__new__» ⟨[.type "enumerate", v], []⟩) (fun _ R s => H s.heap ∧
      R (.ok (.ret (.ref (s.heap.push o).objs.size))) { s with heap := (s.heap.push o).push { cls := .type "enumerate", data := .fields #[.none, .bool false, .ref s.heap.objs.size, rawInt 0, .none, .none] } }) :=
  .of_wp fun prog w A R s h => by
    obtain ⟨hp, g, d, tk, os⟩ := s; obtain ⟨h1, h⟩ := h
    have hsub := sub_enumerate
    have q1 : ∀ {A' : Around} {E : Value → Shared → Prop} {Q : Value → Shared → Prop}, Q (.ref hp.objs.size) ⟨hp.push o, g, d, tk, os⟩ → wpAny (model prog w) A' (pyIter v) Q E ⟨hp, g, d, tk, os⟩ :=
      fun q => B.iter prog w _ _ ⟨hp, g, d, tk, os⟩ _ h1 q
    wp_walk using q1
    refine wpAny_stack_any fun st => wpAny_pure ?_
    split
    · rename_i c _ _ _ _ _
      cases (c == Value.type "enumerate")
      · wp_walk using q1
        exact ⟨_, rfl, h⟩
      · wp_walk using q1
        exact ⟨_, rfl, h⟩
    · wp_walk using q1
      exact ⟨_, rfl, h⟩
section
variable {prog : Program} {w : World} {A : Around} {E : Value → Shared → Prop} {s : Shared}
theorem enum_one {v : Value} {o : Obj} {H : Heap → Prop} {Q : Value → Shared → Prop} (B : Begins v o H) (h1 : H s.heap)
    (h : ∀ h', IsEnum h' (s.heap.objs.size + 1) s.heap.objs.size 0 .none → h'.get? s.heap.objs.size = some o → h'.objs.size = s.heap.objs.size + 2 →
      (∀ b o, s.heap.get? b = some o → h'.get? b = some o) → Q (.ref (s.heap.objs.size + 1)) { s with heap := h' }) :
    wpAny (model prog w) A (call (.type "enumerate") [v]) Q E s := by
  refine callType_new F.called_enumerate (by decide) (F.typeCall_enumerate_1 _) (F.newCall_enumerate_1 _) (fun obj => F.args_object_init_2 obj _) F.entry_enumerate_new
    (meets_enum1 B) ⟨h1, ?_⟩
  have hz : (s.heap.push o).objs.size = s.heap.objs.size + 1 := Heap.size_push ..
  show _ ∧ _
  rw [hz]
  have he : IsEnum ((s.heap.push o).push { cls := .type "enumerate", data := .fields #[.none, .bool false, .ref s.heap.objs.size, rawInt 0, .none, .none] }) (s.heap.objs.size + 1) s.heap.objs.size 0 .none := by
    have := Heap.get?_push_size (s.heap.push o) (o := { cls := .type "enumerate", data := .fields #[.none, .bool false, .ref s.heap.objs.size, rawInt 0, .none, .none] }) rfl
    rw [hz] at this; exact this
  refine ⟨⟨_, he, rfl⟩, h _ he (Heap.get?_push_of_some _ (Heap.get?_push_size _ B.free)) (by rw [Heap.size_push, hz]) fun b o x => Heap.get?_push_of_some _ (Heap.get?_push_of_some _ x)⟩
end
/-- the tuple at a, each item in a new pair -/
def IteT (K : PySem.W.Frag) (a : Addr) : It :=
  ⟨fun i H => ∃ (xs : List V) (x : V), SqT K H a xs ∧ xs[i]? = some x, fun i H v H' => ∃ T x, v = .ref T ∧ H T = none ∧ H' = upd H T (.tup [.int (i : Nat), x]) ∧ ∀ xs, SqT K H a xs → xs[i]? = some x, fun i H => ∃ xs : List V, SqT K H a xs ∧ xs.length = i⟩
theorem enum_ne {h : Heap} {e it a : Addr} {c : Int} {old : Value} {items : Array Value} (he : IsEnum h e it c old) (ht : h.IsTuple a items) : a ≠ e := fun z => by
  subst z
  obtain ⟨o, h1, h2, _⟩ := ht
  have h3 := h1.symm.trans he
  rw [Option.some.inj h3] at h2
  have h2' : Value.type "enumerate" = Value.type "tuple" := h2
  injection h2' with q
  exact absurd q (by decide)
theorem tit_ne {h : Heap} {it a : Addr} {i : Nat} {items : Array Value} (he : h.IsTupleIter it a i) (ht : h.IsTuple a items) : a ≠ it := fun z => by
  subst z
  obtain ⟨o, h1, h2, _⟩ := ht
  obtain ⟨o', g1, g2, _⟩ := he
  rw [h1] at g1
  cases g1
  rw [h2] at g2
  injection g2 with q
  exact absurd q (by decide)
theorem turn_enumT {P : Program} {w : World} {K : PySem.W.Frag} {elts : List Expr} {kk : Nat} {tpos : Pos} (a e it : Addr) :
    Turn P w K (.Tuple elts kk tpos) (IteT K a) [e, it] e (fun i h => (∃ old, IsEnum h e it ((i : Nat) : Int) old) ∧ h.IsTupleIter it a i ∧ e ≠ it) where
  mem := by simp
  obj := fun i h st b hb => by
    obtain ⟨⟨old, he⟩, ⟨o, ho, hc, hd⟩, _⟩ := st
    have e' : b = e ∨ b = it := by simpa using hb
    rcases e' with z | z
    · rw [z]; exact ⟨_, he, fun v q => nomatch q⟩
    · rw [z]; exact ⟨o, ho, fun v q => by rw [hd] at q; cases q⟩
  keep := fun i h h' st k => let ⟨⟨old, he⟩, hi, hne⟩ := st; ⟨⟨old, k e (by simp) _ he⟩, hi.at fun o q => k it (by simp) o q, hne⟩
  item := by
    intro X hP hw hK hc i pins s σ H E I hf st hg
    subst hP hw hK
    obtain ⟨⟨old, he⟩, hit, hne⟩ := st
    obtain ⟨xs, x, hq, hx⟩ := hg
    obtain ⟨its, rv, p, hz⟩ := I.tuple hq
    have p' : s.heap.IsTuple a its.toArray := p
    obtain ⟨u, hu, ru⟩ := rv.get hx
    have hel : e < s.heap.objs.size := Heap.lt_size he
    have hil : it < s.heap.objs.size := by obtain ⟨_, q, _⟩ := hit; exact Heap.lt_size q
    have hae := enum_ne he p'
    have hai := tit_ne hit p'
    have hlt : i < its.toArray.size := by
      have := (List.getElem?_eq_some_iff.mp hu).1
      simpa using this
    refine wpAny_pyNext_enum_itemD (Draws.tuple (A := X.A.in1) (show X.A.in1.handled = none from I.ok.hd hc) it a hai its.toArray) he ⟨hit, p'⟩ hlt hne (by simp [hne, Ne.symm hae]) fun y h' tk hy ho hst hT hsz hk => ?_
    have ey : y = u := by
      have h1 : its.toArray[i]? = some u := by simpa using hu
      have h2 : its.toArray[i]? = some y := hy
      rw [h1] at h2; exact (Option.some.inj h2).symm
    subst ey
    refine ⟨_, rfl, wpAny_letOwnedTupleGo_enum (s := { s with heap := h', toks := tk + 1 }) ho fun h'' he' sb => ?_⟩
    have hT2 : h''.get? s.heap.objs.size = some { cls := .type "tuple", data := .seq #[.int i tk, y] } := (sb.2 _ (Nat.ne_of_gt hel)).trans hT
    have new : ObjOk X.prog X.w (upd H s.heap.objs.size (.tup [.int (i : Nat), x])) h'' s.heap.objs.size (.tup [.int (i : Nat), x]) :=
      ⟨by show 2 ≤ sizeLine; decide, [.int i tk, y], .cons ⟨_, rfl⟩ (.cons ru .nil), ⟨_, hT2, rfl, _, rfl⟩⟩
    have I1 : Inv X pins σ (upd H s.heap.objs.size (.tup [.int (i : Nat), x])) { s with heap := h'', toks := tk + 1 } :=
      I.turnedNew (ch := [e, it]) (fun b ob hb q => (sb.2 b (fun z => hb (by simp [z]))).trans (hk b ob (fun z => hb (by simp [z])) (fun z => hb (by simp [z])) q)) hf (Nat.le_refl _) new
    refine ⟨.ref s.heap.objs.size, _, I1, rfl, ⟨_, x, rfl, I.hok.fresh (Nat.le_refl _), rfl, fun ys hy => ?_⟩, ⟨⟨y, ?_⟩, hst.1.at fun o q => (sb.2 it (Ne.symm hne)).trans q, hne⟩, fun b hb => ?_⟩
    · rw [I.tuple_inj hy hq]; exact hx
    · have e1 : ((i + 1 : Nat) : Int) = (i : Int) + 1 := by omega
      rw [e1]; exact he'
    · have hb' : b < s.heap.objs.size := by
        have e' : b = e ∨ b = it := by simpa using hb
        rcases e' with z | z
        · rw [z]; exact hel
        · rw [z]; exact hil
      rw [upd_ne (Nat.ne_of_lt hb')]
      exact (hf b hb).1
  done := by
    intro X hP hw hK hc i pins s σ H E I hf st hg
    subst hP hw hK
    obtain ⟨⟨old, he⟩, hit, hne⟩ := st
    obtain ⟨xs, hq, hx⟩ := hg
    obtain ⟨its, rv, p, hz⟩ := I.tuple hq
    have p' : s.heap.IsTuple a its.toArray := p
    obtain ⟨f0, f1, f2, f3, f4, f5⟩ := hf it (by simp)
    have hl := rv.length
    have hi : i = its.toArray.size := by simp; omega
    rw [hi] at hit
    exact wpAny_pyNext_enum_endD (Draws.tuple (A := X.A.in1) (show X.A.in1.handled = none from I.ok.hd hc) it a (tit_ne hit p') its.toArray) he ⟨hit, p'⟩ fun h' eb => ⟨rfl, I.turned (t' := s.toks) (fun b o hb q => eb b o hb q) f0 f1 f3 f4 f5⟩
  self := fun A i s Q E st h => let ⟨⟨_, he⟩, _⟩ := st; wpAny_pyIter_enum he h
variable {Γ : Nat → FSpec} {X : Cx}
theorem enumD_at : ∀ {xs : List D} {k i : Nat} {x : D}, xs[i]? = some x → (enumD k xs)[i]? = some (.tup [.int ((k + i : Nat) : Int), x])
  | [], _, i, _, h => by simp at h
  | a :: as, k, 0, x, h => by simp at h; subst h; rfl
  | a :: as, k, i + 1, x, h => by
    have := enumD_at (xs := as) (k := k + 1) (i := i) (x := x) (by simpa using h)
    rw [show k + (i + 1) = k + 1 + i by omega]
    exact this
theorem enumD_len : ∀ (xs : List D) (k : Nat), (enumD k xs).length = xs.length
  | [], _ => rfl
  | a :: as, k => by show (enumD (k + 1) as).length + 1 = _; rw [enumD_len as (k + 1)]; rfl
theorem si_enum {e : Expr} {p : PX} {np pos tpos : Pos} {elts : List Expr} {kk : Nat} (hg : Gl X "enumerate") (hm : X.mg "enumerate" = none) (h : S2 Γ X e p) (he : isStar e = false) : SI (Γ := Γ) X (.Tuple elts kk tpos) (.Call (.Name "enumerate" np) [e] [] pos) (.enum p) :=
  ⟨fun b {Fo Lk F H σ ρ Q R} S q c => by
    have q0 : (if b = true then brw p (wpE Γ p) else wpE Γ p) ρ (fun x ρ1 => seqS2 x fun ds => Q (enumD 0 ds) ρ1) := q
    have ev := h.runI (R := fun x H1 => ∃ d ρ1 F1, SxX X Fo Lk F1 H1 σ ρ1 ∧ Stq F H F1 H1 ∧ Bor X Fo Lk F1 H1 x d ∧ (b = false → IsX X F1 x d) ∧ seqS2 d fun ds => Q (enumD 0 ds) ρ1) b S q0 fun v F1 H1 ρ1 d S1 t1 b1 hb q1 => ⟨d, ρ1, F1, S1, t1, b1, hb, q1⟩
    intro pins s I
    refine Call_ (ld_blt I hg hm boot_enumerate (PyProof.Rows.callWith_type1 (thn ((pa_cons (pe_w X e) pa_nil (starEach_cons he)).run pos pins s σ H (fun vs H1 => ∃ x, vs = [x] ∧ ∃ d ρ1 F1, SxX X Fo Lk F1 H1 σ ρ1 ∧ Stq F H F1 H1 ∧ Bor X Fo Lk F1 H1 x d ∧ (b = false → IsX X F1 x d) ∧ seqS2 d fun ds => Q (enumD 0 ds) ρ1) I ?_) fun us s1 ⟨vs, H1, I1, r1, x, ex, d, ρ1, F1, S1, t1, b1, hb, q1⟩ => ?_) (starEach_cons he) rfl))
    · exact fun pins s I => thn (ev pins s I) fun u s1 ⟨x, H1, I1, r, q⟩ => ⟨x, H1, I1, r, x, rfl, q⟩
    · subst ex
      cases r1 with
      | cons r rr =>
        cases rr
        have wk : ∀ {J : It} {xs : List V} {ds : List D} {g : Hp → List V → Prop} (i1 : IsAX X F1 xs ds) (st : ∀ {Fo : Hp} {k : Nat} {F2 H2 : Hp}, Hs Fo Lk k F2 H2 → GdE b F1 H1 F2 H2 → g H2 xs)
            (h1 : ∀ i H x, g H xs → xs[i]? = some x → J.go i H) (h2 : ∀ H, g H xs → J.stop xs.length H) (h3 : ∀ i H v H', g H xs → J.yld i H v H' → ∃ T x, v = .ref T ∧ H T = none ∧ H' = upd H T (.tup [.int (i : Nat), x]) ∧ xs[i]? = some x), Wk X Lk J (enumD 0 ds) (GdE b F1 H1) := fun {J xs ds g} i1 st h1 h2 h3 => by
          refine ⟨fun i hi S g => ?_, fun S g => ?_, fun {Fo k F H} i x H' hi S g y => ?_⟩
          · rw [enumD_len, ← i1.length] at hi
            exact h1 i _ xs[i] (st S g) (List.getElem?_eq_getElem hi)
          · rw [enumD_len, ← i1.length]; exact h2 _ (st S g)
          · obtain ⟨T, z, rfl, hT, rfl, e⟩ := h3 i _ _ _ (st S g) y
            obtain ⟨dz, e2, i2⟩ := i1.getV e
            obtain ⟨F', n1, n2, n3⟩ := pair_is S (.int (i : Nat)) (i2.mono g.sub) hT
            have e3 := enumD_at (k := 0) e2
            rw [Nat.zero_add] at e3
            exact ⟨F', _, e3, n1, n2, n3⟩
        have fresh : ∀ c, c ∈ [s1.heap.objs.size + 1, s1.heap.objs.size] → FpOk X pins H1 c := fun c hcm => by
          have hle : s1.heap.objs.size ≤ c := by
            have e' : c = s1.heap.objs.size + 1 ∨ c = s1.heap.objs.size := by simpa using hcm
            rcases e' with z | z
            · rw [z]; exact Nat.le_succ _
            · rw [z]; exact Nat.le_refl _
          exact I1.fpOk hle (I1.hok.fresh hle)
        cases d with
        | lst ds =>
          obtain ⟨a, xs, rfl, h1, i1, st⟩ := lst_stay (b := b) S1.hs b1 hb
          cases r
          obtain ⟨its, rv, p', hz⟩ := I1.list (SqL.of h1)
          refine call_enumerate_list p'.isList fun h' he hit hsz hk => wpAny_pyIter_enum he ?_
          refine ⟨s1.heap.objs.size + 1, [s1.heap.objs.size + 1, s1.heap.objs.size], _, _, H1, rfl, I1.kept (t' := s1.toks) hk, turn_enum a (s1.heap.objs.size + 1) s1.heap.objs.size, ⟨⟨.none, he⟩, hit, Nat.succ_ne_self _⟩, fresh, ?_⟩
          refine c (Ite X.K a) Lk F1 H1 H1 ρ1 _ S1 S1 t1 .no ?_ (by rw [enumD_len, ← i1.length]; exact hz) q1
          exact wk (g := fun H xs => SqL X.K H a xs) i1 (fun S g => SqL.of (st S g)) (fun i H x g e => ⟨xs, x, g, e⟩) (fun H g => ⟨xs, g, Nat.le_refl _⟩) fun i H v H' g y => by
            obtain ⟨T, x, e1, e2, e3, e4⟩ := y
            exact ⟨T, x, e1, e2, e3, e4 xs g⟩
        | tup ds =>
          obtain ⟨a, xs, rfl, h1, i1⟩ := b1.tupI.inv_tup
          cases r
          obtain ⟨its, rv, p', hz⟩ := I1.tuple (S1.hs.sqT h1)
          have ht : s1.heap.IsTuple a its.toArray := p'
          refine enum_one (begins_tuple a its.toArray) ht fun h' he hit hsz hk => wpAny_pyIter_enum he ?_
          refine ⟨s1.heap.objs.size + 1, [s1.heap.objs.size + 1, s1.heap.objs.size], _, _, H1, rfl, I1.kept (t' := s1.toks) hk, turn_enumT a (s1.heap.objs.size + 1) s1.heap.objs.size, ⟨⟨.none, he⟩, ⟨_, hit, rfl, rfl⟩, Nat.succ_ne_self _⟩, fresh, ?_⟩
          refine c (IteT X.K a) Lk F1 H1 H1 ρ1 _ S1 S1 t1 .no ?_ (by rw [enumD_len, ← i1.length]; exact hz) q1
          exact wk (g := fun H xs => SqT X.K H a xs) i1 (fun S g => S.sqT (g.sub.sqT h1)) (fun i H x g e => ⟨xs, x, g, e⟩) (fun H g => ⟨xs, g, rfl⟩) fun i H v H' g y => by
            obtain ⟨T, x, e1, e2, e3, e4⟩ := y
            exact ⟨T, x, e1, e2, e3, e4 xs g⟩
        | str z => exact q1.elim
        | _ => exact q1.elim⟩
end DL
/-! The data layer, part 17: built-in functions of what is walked. -/
namespace DL
open PySem PySem.Spec PyProof.Rows L2
variable {Γ : Nat → FSpec} {X : Cx}

def bitvS (b : Bi) (ds : List D) (Q : D → Prop) : Prop := match ds with
  | [x] => srcOk b x = true ∧ seqS x fun ds => bitS b ds Q
  | _ => False
theorem bitvS_one {b : Bi} {ds : List D} {Q : D → Prop} (h : bitvS b ds Q) : ∃ d, ds = [d] ∧ srcOk b d = true ∧ seqS d fun ds => bitS b ds Q := by
  match ds, h with
  | [d], h => exact ⟨d, rfl, h.1, h.2⟩
theorem s_bitvB {b : Bi} {id : String} {x : Str} {e : Expr} {p : PX} {np pos : Pos} (hc : DCall X (.builtin id) (bitvS b)) (hg : Gl X x) (hm : X.mg x = none) (hv : bootBuiltins x = some (.builtin id)) (ha : S2 Γ X e p)
    (hn : x ≠ "__name__") (hdb : (x == ("__debug__" : Str)) = false) (he : isStar e = false) : S2 Γ X (.Call (.Name x np) [e] [] pos) (.bitv b p) :=
  SE.two ⟨fun {Fo Lk F H σ ρ Q R} S q c => by
    have q0 : brw p (wpE Γ p) ρ (fun x ρ1 => bitvS b [x] fun d => Q d ρ1) := q
    refine TEw.of (pe_callB (cr_w _) hg hm hv (pa_cons (pe_w X e) pa_nil (starEach_cons he)) hn hdb (starEach_cons he) rfl) ?_
    refine ha.bor.run S q0 fun v F1 H1 ρ1 d S1 t1 b1 q1 => hc.w S1.hs (.cons b1 .nil) q1 fun z F2 H2 d h2 t2 i2 q2 => c z F2 H2 ρ1 d (SxX.step S1 h2 t2) (t1.trans t2.q) i2 q2⟩ rfl
theorem s_bitvT {b : Bi} {T : String} {x : Str} {e : Expr} {p : PX} {np pos : Pos} (hc : DCall X (.type T) (bitvS b)) (hg : Gl X x) (hm : X.mg x = none) (hv : bootBuiltins x = some (.type T)) (ha : S2 Γ X e p)
    (hn : x ≠ "__name__") (hdb : (x == ("__debug__" : Str)) = false) (he : isStar e = false) : S2 Γ X (.Call (.Name x np) [e] [] pos) (.bitv b p) :=
  SE.two ⟨fun {Fo Lk F H σ ρ Q R} S q c => by
    have q0 : brw p (wpE Γ p) ρ (fun x ρ1 => bitvS b [x] fun d => Q d ρ1) := q
    refine TEw.of (pe_callTy (cr_w _) hg hm hv (pa_cons (pe_w X e) pa_nil (starEach_cons he)) hn hdb (starEach_cons he) rfl) ?_
    refine ha.bor.run S q0 fun v F1 H1 ρ1 d S1 t1 b1 q1 => hc.w S1.hs (.cons b1 .nil) q1 fun z F2 H2 d h2 t2 i2 q2 => c z F2 H2 ρ1 d (SxX.step S1 h2 t2) (t1.trans t2.q) i2 q2⟩ rfl
theorem all_bl : ∀ {ds : List D}, ds.all isBl = true → ∃ bs : List Bool, ds = bs.map .bl ∧ ds.all isT = bs.all id ∧ ds.any isT = bs.any id
  | [], _ => ⟨[], rfl, rfl, rfl⟩
  | d :: ds, h => by
    rw [List.all_cons, Bool.and_eq_true] at h
    obtain ⟨b, rfl⟩ := isBl_inv h.1
    obtain ⟨bs, h1, h2, h3⟩ := all_bl h.2
    exact ⟨b :: bs, by rw [List.map_cons, h1], by rw [List.all_cons, List.all_cons, h2]; rfl, by rw [List.any_cons, List.any_cons, h3]; rfl⟩
theorem all_int : ∀ {ds : List D}, ds.all isInt = true → ∃ ns : List Int, ds = ns.map .int ∧ (ds.map toI) = ns
  | [], _ => ⟨[], rfl, rfl⟩
  | d :: ds, h => by
    rw [List.all_cons, Bool.and_eq_true] at h
    obtain ⟨ns, h1, h2⟩ := all_int h.2
    cases d with
    | int i => exact ⟨i :: ns, by rw [List.map_cons, h1], by rw [List.map_cons, h2]; rfl⟩
    | _ => exact nomatch h.1
theorem d_all (hc : X.calm = true) : DCall X (.builtin "all") (bitvS .all) := by
  intro pins s σ Fo Lk k F H xs us ds Q R I S r b q c
  obtain ⟨d, rfl, hk, q⟩ := bitvS_one q
  obtain ⟨x, rfl, b1⟩ := b.one
  cases d with
  | lst ys =>
    obtain ⟨hb, q⟩ : ys.all isBl = true ∧ Q (.bl (ys.all isT)) := q
    obtain ⟨bs, rfl, e1, _⟩ := all_bl hb
    obtain ⟨p, vs, rfl, h1, i1⟩ := b1.lst S
    rw [IsA.bls i1] at h1
    exact cr_all hc pins s σ H _ us R I r ⟨p, bs, rfl, SqL.of h1, by rw [e1] at q; exact c _ F H _ S (Stp.refl F H) (.bl _) q⟩
  | _ => cases hk
theorem d_any (hc : X.calm = true) : DCall X (.builtin "any") (bitvS .any) := by
  intro pins s σ Fo Lk k F H xs us ds Q R I S r b q c
  obtain ⟨d, rfl, hk, q⟩ := bitvS_one q
  obtain ⟨x, rfl, b1⟩ := b.one
  cases d with
  | lst ys =>
    obtain ⟨hb, q⟩ : ys.all isBl = true ∧ Q (.bl (ys.any isT)) := q
    obtain ⟨bs, rfl, _, e1⟩ := all_bl hb
    obtain ⟨p, vs, rfl, h1, i1⟩ := b1.lst S
    rw [IsA.bls i1] at h1
    exact cr_any hc pins s σ H _ us R I r ⟨p, bs, rfl, SqL.of h1, by rw [e1] at q; exact c _ F H _ S (Stp.refl F H) (.bl _) q⟩
  | _ => cases hk
theorem d_sum (hc : X.calm = true) : DCall X (.builtin "sum") (bitvS .sum) := by
  intro pins s σ Fo Lk k F H xs us ds Q R I S r b q c
  obtain ⟨d, rfl, hk, q⟩ := bitvS_one q
  obtain ⟨x, rfl, b1⟩ := b.one
  cases d with
  | lst ys =>
    obtain ⟨hb, q⟩ : ys.all isInt = true ∧ Q (.int (ys.map toI).sum) := q
    obtain ⟨bs, rfl, e1⟩ := all_int hb
    obtain ⟨p, vs, rfl, h1, i1⟩ := b1.lst S
    rw [IsA.ints i1] at h1
    exact cr_sum hc pins s σ H _ us R I r ⟨p, bs, rfl, SqL.of h1, by rw [e1] at q; exact c _ F H _ S (Stp.refl F H) (.int _) q⟩
  | _ => cases hk
theorem d_list : DCall X (.type "list") (bitvS .list) := by
  intro pins s σ Fo Lk k F H xs us ds Q R I S r b q c
  obtain ⟨d, rfl, hk, q⟩ := bitvS_one q
  obtain ⟨x, rfl, b1⟩ := b.one
  cases d with
  | lst ys =>
    obtain ⟨p, vs, rfl, h1, i1⟩ := b1.lst S
    refine call_list_of pins s σ H _ us R I r ⟨p, vs, rfl, .inl (SqL.of h1), fun l hl => ?_⟩
    obtain ⟨n1, n2, n3⟩ := new_lst S i1 hl
    exact c _ _ _ _ n1 n2 n3 q
  | tup ys =>
    obtain ⟨p, vs, rfl, h1, i1⟩ := b1.tup S
    refine call_list_of pins s σ H _ us R I r ⟨p, vs, rfl, .inr h1, fun l hl => ?_⟩
    obtain ⟨n1, n2, n3⟩ := new_lst S i1 hl
    exact c _ _ _ _ n1 n2 n3 q
  | _ => cases hk
theorem d_tuple : DCall X (.type "tuple") (bitvS .tuple) := by
  intro pins s σ Fo Lk k F H xs us ds Q R I S r b q c
  obtain ⟨d, rfl, hk, q⟩ := bitvS_one q
  obtain ⟨x, rfl, b1⟩ := b.one
  cases d with
  | lst ys =>
    obtain ⟨p, vs, rfl, h1, i1⟩ := b1.lst S
    refine call_tuple_of pins s σ H _ us R I r ⟨p, vs, rfl, .inl ⟨SqL.of h1, fun l hl => ?_⟩⟩
    obtain ⟨n1, n2, n3⟩ := new_tup S i1 hl
    exact c _ _ _ _ n1 n2 n3 q
  | tup ys =>
    have iv := b1.tupI
    obtain ⟨p, vs, rfl, h1, i1⟩ := b1.tup S
    exact call_tuple_of pins s σ H _ us R I r ⟨p, vs, rfl, .inr ⟨h1, c _ F H _ S (Stp.refl F H) iv q⟩⟩
  | _ => cases hk
/-! ### least, greatest -/
mutual
theorem py_inj : ∀ {a b : D}, a.plain = true → b.plain = true → a.py = b.py → a = b
  | .non, b, _, hb, e => by cases b <;> simp [D.py, D.plain] at e hb ⊢
  | .bl x, b, _, hb, e => by cases b <;> simp [D.py, D.plain] at e hb ⊢; exact e
  | .int x, b, _, hb, e => by cases b <;> simp [D.py, D.plain] at e hb ⊢; exact e
  | .str x, b, _, hb, e => by cases b <;> simp [D.py, D.plain] at e hb ⊢; exact e
  | .tup xs, b, ha, hb, e => by
    cases b <;> simp [D.py, D.plain] at e hb ⊢
    exact pys_inj (by simpa [D.plain] using ha) hb e
  | .lst xs, b, ha, hb, e => by
    cases b <;> simp [D.py, D.plain] at e hb ⊢
    exact pys_inj (by simpa [D.plain] using ha) hb e
  | .dct _, b, ha, hb, e => by cases ha
  | .pot, b, ha, hb, e => by cases ha
  | .scr _, b, ha, hb, e => by cases ha
theorem pys_inj : ∀ {as bs : List D}, D.plains as = true → D.plains bs = true → D.pys as = D.pys bs → as = bs
  | [], [], _, _, _ => rfl
  | [], b :: bs, _, _, e => by simp [D.pys] at e
  | a :: as, [], _, _, e => by simp [D.pys] at e
  | a :: as, b :: bs, ha, hb, e => by
    simp only [D.plains, Bool.and_eq_true] at ha hb
    simp only [D.pys, List.cons.injEq] at e
    rw [py_inj ha.1 hb.1 e.1, pys_inj ha.2 hb.2 e.2]
end
theorem plains_mem {ds : List D} (h : D.plains ds = true) : ∀ d ∈ ds, d.plain = true := by
  rw [D.plains_all] at h
  exact List.all_eq_true.mp h
theorem minD_mem : ∀ (xs : List D) (x : D), minD x xs ∈ x :: xs
  | [], x => List.mem_cons_self
  | y :: ys, x => by
    show minD (if ltD y x = true then y else x) ys ∈ _
    have h := minD_mem ys (if ltD y x = true then y else x)
    rcases List.mem_cons.mp h with e | h
    · rw [e]; split
      · simp
      · simp
    · exact List.mem_cons_of_mem _ (List.mem_cons_of_mem _ h)
theorem maxD_mem : ∀ (xs : List D) (x : D), maxD x xs ∈ x :: xs
  | [], x => List.mem_cons_self
  | y :: ys, x => by
    show maxD (if ltD x y = true then y else x) ys ∈ _
    have h := maxD_mem ys (if ltD x y = true then y else x)
    rcases List.mem_cons.mp h with e | h
    · rw [e]; split
      · simp
      · simp
    · exact List.mem_cons_of_mem _ (List.mem_cons_of_mem _ h)
theorem minD_py : ∀ (xs : List D) (x : D), (minD x xs).py = PySem.W.minD x.py (xs.map D.py)
  | [], x => rfl
  | y :: ys, x => by
    show (minD (if ltD y x = true then y else x) ys).py = PySem.W.minD (if PySem.W.dataLt y.py x.py = true then y.py else x.py) (ys.map D.py)
    rw [minD_py ys]
    congr 1
    show (if PySem.W.dataLt y.py x.py = true then y else x).py = _
    split <;> rfl
theorem maxD_py : ∀ (xs : List D) (x : D), (maxD x xs).py = PySem.W.maxD x.py (xs.map D.py)
  | [], x => rfl
  | y :: ys, x => by
    show (maxD (if ltD x y = true then y else x) ys).py = PySem.W.maxD (if PySem.W.dataLt x.py y.py = true then y.py else x.py) (ys.map D.py)
    rw [maxD_py ys]
    congr 1
    show (if PySem.W.dataLt x.py y.py = true then y else x).py = _
    split <;> rfl
/-- the item that was found -/
theorem best_is {F : Hp} {vs : List V} {us : List Value} {ds : List D} {h' : Heap} {h : Heap} {m : D} {i : Nat} {v : Value} {bs as : List Addr} (iv : IsAX X F vs ds) (rv : Vals vs us) (hv : us[i]? = some v) (rd : Reads h' v m.py bs) (all : ReadsAll h us (D.pys ds) as) (k : ∀ b o, h.get? b = some o → h'.get? b = some o)
    (ha : PySem.W.AlikeAll (ds.map D.py)) (hp : D.plains ds = true) (hm : m ∈ ds) : ∃ w, RelV w v ∧ IsX X F w m := by
  have hl := rv.length
  obtain ⟨hi, _⟩ := List.getElem?_eq_some_iff.mp hv
  have hi2 : i < vs.length := by omega
  obtain ⟨u, hu, ru⟩ := rv.get (List.getElem?_eq_getElem hi2)
  rw [hv] at hu; cases hu
  obtain ⟨d, hd, i1⟩ := iv.getV (List.getElem?_eq_getElem hi2)
  obtain ⟨cs, rd2, _, _, _⟩ := PySem.W.readsAll_atA (vs := us.toArray) (by simpa using all) i v (by simpa using hv)
  have e1 : (D.pys ds).getD i .none = d.py := by rw [D.pys_map, List.getD_eq_getElem?_getD, List.getElem?_map, hd]; rfl
  rw [e1] at rd2
  have hdm : d ∈ ds := List.mem_of_getElem? hd
  have e : d.py = m.py := PySem.W.alike_unique d.py m.py v cs bs (ha.1 _ (List.mem_map.mpr ⟨d, hdm, rfl⟩) _ (List.mem_map.mpr ⟨m, hm, rfl⟩)) (PyProof.Rows.Reads.keeps k rd2) rd
  have e2 : d = m := py_inj (plains_mem hp d hdm) (plains_mem hp m hm) e
  subst e2
  exact ⟨_, ru, i1⟩
end DL
/-! The data layer, part 18: min, max, sorted. -/
namespace DL
open PySem PySem.Spec PyProof.Rows L2
variable {Γ : Nat → FSpec} {X : Cx}

theorem d_min (hc : X.calm = true) (hu : X.A.units + 70 < cLine) : DCall X (.builtin "min") (bitvS .min) := by
  intro pins s σ Fo Lk k F H xs us ds Q R I S r b q c
  obtain ⟨d, rfl, hk, q⟩ := bitvS_one q
  obtain ⟨x, rfl, b1⟩ := b.one
  cases d with
  | lst ys =>
    cases ys with
    | nil => exact (show False from q.2).elim
    | cons y ys =>
      obtain ⟨⟨ha, hd, hp⟩, q⟩ : MinS (y :: ys) Q := q
      obtain ⟨p, vs, rfl, h1, i1⟩ := b1.lst S
      obtain rfl := Vals.ref1 r
      obtain ⟨its, rv, hl, hz⟩ := I.list (SqL.of h1)
      obtain ⟨as, all⟩ := Dp.readsAll I _ _ _ (i1.dp S hp) rv
      have all' : ReadsAll s.heap its.toArray.toList (y.py :: ys.map D.py) as := by
        have e : D.pys (y :: ys) = y.py :: ys.map D.py := D.pys_map _
        rw [← e]; simpa using all
      refine PySem.W.min_list_data (I.ok.hd hc) hl.isList all' ha (by have e : PyData.depthAll (y.py :: ys.map D.py) ≤ 60 := hd; omega) fun i v h' tk bs hv rd k' => ?_
      rw [← minD_py] at rd
      obtain ⟨w, rw_, iw⟩ := best_is i1 rv (by simpa using hv) rd all k' ha hp (minD_mem _ _)
      exact ⟨w, H, I.kept k', rw_, c _ F H _ S (Stp.refl F H) iw q⟩
  | _ => cases hk
theorem d_max (hc : X.calm = true) (hu : X.A.units + 70 < cLine) : DCall X (.builtin "max") (bitvS .max) := by
  intro pins s σ Fo Lk k F H xs us ds Q R I S r b q c
  obtain ⟨d, rfl, hk, q⟩ := bitvS_one q
  obtain ⟨x, rfl, b1⟩ := b.one
  cases d with
  | lst ys =>
    cases ys with
    | nil => exact (show False from q.2).elim
    | cons y ys =>
      obtain ⟨⟨ha, hd, hp⟩, q⟩ : MaxS (y :: ys) Q := q
      obtain ⟨p, vs, rfl, h1, i1⟩ := b1.lst S
      obtain rfl := Vals.ref1 r
      obtain ⟨its, rv, hl, hz⟩ := I.list (SqL.of h1)
      obtain ⟨as, all⟩ := Dp.readsAll I _ _ _ (i1.dp S hp) rv
      have all' : ReadsAll s.heap its.toArray.toList (y.py :: ys.map D.py) as := by
        have e : D.pys (y :: ys) = y.py :: ys.map D.py := D.pys_map _
        rw [← e]; simpa using all
      refine PySem.W.max_list_data (I.ok.hd hc) hl.isList all' ha (by have e : PyData.depthAll (y.py :: ys.map D.py) ≤ 60 := hd; omega) fun i v h' tk bs hv rd k' => ?_
      rw [← maxD_py] at rd
      obtain ⟨w, rw_, iw⟩ := best_is i1 rv (by simpa using hv) rd all k' ha hp (maxD_mem _ _)
      exact ⟨w, H, I.kept k', rw_, c _ F H _ S (Stp.refl F H) iw q⟩
  | _ => cases hk

theorem vals_of : ∀ {vs : List V} {us : List Value}, us.length = vs.length → (∀ (j : Nat) (u : Value), us[j]? = some u → ∃ v, vs[j]? = some v ∧ RelV v u) → Vals vs us
  | [], [], _, _ => .nil
  | [], _ :: _, h, _ => by simp at h
  | _ :: _, [], h, _ => by simp at h
  | v :: vs, u :: us, h, f => by
    obtain ⟨v', e, r⟩ := f 0 u rfl
    have e' : v = v' := by simpa using e
    subst e'
    exact .cons r (vals_of (by simpa using h) fun j w hw => f (j + 1) w (by simpa using hw))
theorem IsPr.keys {F : Hp} : ∀ {kv : List (V × V)} {ps : List (D × D)}, IsPr X F kv ps → IsAX X F (kv.map (·.1)) (ps.map fun p : D × D => p.1)
  | _, _, .nil => .nil
  | _, _, .cons a b t => .cons a t.keys
theorem IsPr.vals {F : Hp} : ∀ {kv : List (V × V)} {ps : List (D × D)}, IsPr X F kv ps → IsAX X F (kv.map (·.2)) (ps.map fun p : D × D => p.2)
  | _, _, .nil => .nil
  | _, _, .cons a b t => .cons b t.vals
theorem raw_kv {pins : List (Addr × Obj)} {σ : L2.St} {s : Shared} {Lk : Lks} {F H : Hp} {p : Addr} {ps : List (D × D)} (I : Inv X pins σ H s) (hd : (∃ kvs, H p = some (locked Lk p (.dK kvs)) ∧ IsK X.prog X.w X.K F kvs ps) ∨ ∃ es, H p = some (locked Lk p (dN X.prog X.w p es)) ∧ IsN X.prog X.w X.K F es ps) :
    (p == sysModules) = false ∧ ps.length ≤ sizeLine ∧ ∃ es ep, s.heap.DictRaw p es ep ∧ ∃ kv : List (V × V), es.size = kv.length ∧ (∀ (i : Nat) (hi : i < es.size), ∃ q, kv[i]? = some q ∧ RelV q.1 es[i].key ∧ RelV q.2 es[i].val) ∧ IsPr X F kv ps := by
  rcases hd with ⟨kvs, h, i⟩ | ⟨es, h, i⟩
  · obtain ⟨z, hs, vs, kv, dd⟩ := locked_ok I h
    obtain ⟨es, ep, raw, hsz, hat⟩ := Heap.DictOf.raw dd
    have hl : kvs.length = vs.length := Paired.length kv
    refine ⟨hs, by rw [← isK_len i]; exact z, es, ep, raw, _, by rw [hsz, List.length_map, hl], fun j hj => ?_, isK_pr i⟩
    have hj2 : j < vs.length := by omega
    obtain ⟨p, hp, r1, r2⟩ := paired_at kv (show vs[j]? = some vs[j] from List.getElem?_eq_getElem hj2)
    obtain ⟨h1, h2⟩ := hat j hj vs[j].1 vs[j].2 (List.getElem?_eq_getElem hj2)
    refine ⟨(kV p.1, p.2), by rw [List.getElem?_map, hp]; rfl, ?_, by rw [h2]; exact r2⟩
    rw [r1]
    exact relV_key h1
  · obtain ⟨⟨z, hs, ys, o, ents, ep, rel, ho, hx, hdt, he, _⟩, _⟩ := (show NDict X.prog X.w p es s.heap ∧ _ from locked_ok I h)
    have hl : es.length = ys.length := Paired.length rel
    have hsz : ents.size = ys.length := size_of_entries he
    refine ⟨hs, by rw [← isN_len i]; exact z, ents, ep, ⟨o, ho, hx, hdt⟩, _, by rw [hsz, List.length_map, hl], fun j hj => ?_, isN_pr i⟩
    have hj2 : j < ys.length := by omega
    obtain ⟨p, hp, r1, r2, r3⟩ := paired_at rel (show ys[j]? = some ys[j] from List.getElem?_eq_getElem hj2)
    have q := entry_at he j
    rw [List.getElem?_eq_getElem hj2, Array.getElem?_eq_getElem hj] at q
    have q2 : ents[j] = entryOfKey (nestedKind X.prog X.w) ys[j] := Option.some.inj q
    refine ⟨(.ref p.2.1, p.2.2), by rw [List.getElem?_map, hp]; rfl, ?_, ?_⟩
    · rw [q2]; show Value.ref _ = Value.ref _; rw [r2]
    · rw [q2]; exact r3
/-! ### sorted -/
/-- u stands for d -/
def StF (X : Cx) (F : Hp) (u : Value) (d : D) : Prop := ∃ v, RelV v u ∧ IsX X F v d
theorem stf_each {F : Hp} : ∀ {vs : List V} {us : List Value} {ds : List D}, IsAX X F vs ds → Vals vs us → PySem.W.EachIs (StF X F) us ds
  | _, _, _, .nil, .nil => .nil
  | _, _, _, .cons i t, .cons r rr => .cons ⟨_, r, i⟩ (stf_each t rr)
theorem each_stf {F : Hp} : ∀ {us : List Value} {ds : List D}, PySem.W.EachIs (StF X F) us ds → ∃ vs, Vals vs us ∧ IsAX X F vs ds
  | _, _, .nil => ⟨[], .nil, .nil⟩
  | _, _, .cons ⟨v, r, i⟩ t => by
    obtain ⟨vs, h1, h2⟩ := each_stf t
    exact ⟨v :: vs, .cons r h1, .cons i h2⟩
theorem leD_eq (ds : List D) : ds.mergeSort leD = ds.mergeSort (PySem.W.dataLe false D.py) := rfl
theorem each_reads {pins : List (Addr × Obj)} {σ : L2.St} {s : Shared} {Fo : Hp} {Lk : Lks} {k : Nat} {F H : Hp} (I : Inv X pins σ H s) (S : Hs Fo Lk k F H) : ∀ {vs : List V} {us : List Value} {ds : List D}, IsAX X F vs ds → Vals vs us → (∀ d ∈ ds, d.plain = true) → PySem.W.EachIs (fun v d => ∃ as, Reads s.heap v d.py as) us ds
  | _, _, _, .nil, .nil, _ => .nil
  | _, _, _, .cons i t, .cons r rr, hp => .cons (Dp.reads I _ _ _ (i.dp S (hp _ List.mem_cons_self)) r) (each_reads I S t rr fun d hd => hp d (List.mem_cons_of_mem _ hd))
/-- a new list behind a sort -/
theorem srt_fin {pins : List (Addr × Obj)} {σ : L2.St} {s : Shared} {Fo : Hp} {Lk : Lks} {k : Nat} {F H : Hp} {h' : Heap} {tk : Nat} {a : Addr} {out : List Value} {ds : List D} {n : Nat} {R : VK} {Q : D → Prop} (I : Inv X pins σ H s) (S : Hs Fo Lk k F H) (hk : ∀ b o, s.heap.get? b = some o → h'.get? b = some o) (ha : s.heap.objs.size ≤ a)
    (ho : h'.get? a = some (PyProof.Rows.seqObj "list" out.toArray n)) (e : PySem.W.EachIs (StF X F) out ds) (hz : ds.length ≤ sizeLine) (q : Q (.lst ds)) (c : ∀ z F' H' d, Hs Fo Lk k F' H' → Stp F H F' H' → IsX X F' z d → Q d → R z H') : EP X pins σ R (.ref a) { s with heap := h', toks := tk } := by
  obtain ⟨vs, rv, iv⟩ := each_stf e
  have hn := I.hok.fresh ha
  obtain ⟨n1, n2, n3⟩ := new_lst S iv hn
  exact ⟨.ref a, _, I.laid (t' := tk) (o := .lst vs) hk ha ⟨by rw [iv.length]; exact hz, out, n, rv, ho⟩, rfl, c _ _ _ _ n1 n2 n3 q⟩
theorem sort_len (ds : List D) : (ds.mergeSort leD).length = ds.length := List.length_mergeSort ds
mutual
theorem reads_lt {h : Heap} : ∀ {v : Value} {d : PyData} {as : List Addr}, Reads h v d as → ∀ a ∈ as, a < h.objs.size
  | _, _, _, .none, a, ha => nomatch ha
  | _, _, _, .bool _, a, ha => nomatch ha
  | _, _, _, .int _ _, a, ha => nomatch ha
  | _, _, _, .str _ _, a, ha => nomatch ha
  | _, _, _, .list h1 _ _ h4, a, ha => by
    rcases List.mem_cons.mp ha with e | ha
    · rw [e]; exact Heap.lt_size h1
    · exact readsAll_lt h4 a ha
  | _, _, _, .tuple _ _ _ h4, a, ha => readsAll_lt h4 a ha
  | _, _, _, .dict h1 _ _ h4 h5, a, ha => by
    rcases List.mem_append.mp ha with ha | ha
    · rcases List.mem_cons.mp ha with e | ha
      · rw [e]; exact Heap.lt_size h1
      · exact readsAll_lt h4 a ha
    · exact readsAll_lt h5 a ha
theorem readsAll_lt {h : Heap} : ∀ {vs : List Value} {ds : List PyData} {as : List Addr}, ReadsAll h vs ds as → ∀ a ∈ as, a < h.objs.size
  | _, _, _, .nil, a, ha => nomatch ha
  | _, _, _, .cons h1 h2, a, ha => by
    rcases List.mem_append.mp ha with ha | ha
    · exact reads_lt h1 a ha
    · exact readsAll_lt h2 a ha
end
/-- sorted(x), the items of x collected -/
theorem sorted_gen {pins : List (Addr × Obj)} {σ : L2.St} {s : Shared} {v : Value} {R : VK} {Fo : Hp} {Lk : Lks} {k : Nat} {F H : Hp} {ds : List D} {Q : D → Prop} (hu : X.A.units + 70 < cLine)
    (hcol : ∀ (Q' : List Value → Shared → Prop), (∀ us s1 vs F1 H1, (∀ b o, s.heap.get? b = some o → s1.heap.get? b = some o) → Inv X pins σ H1 s1 → Hs Fo Lk k F1 H1 → Stp F H F1 H1 → Vals vs us → IsAX X F1 vs ds → Q' us s1) → wpAny (model X.prog X.w) X.A.in1 (collect v) Q' X.xe s)
    (hs : sortable ds) (hz : ds.length ≤ sizeLine) (q : Q (.lst (ds.mergeSort leD))) (c : ∀ z F' H' d, Hs Fo Lk k F' H' → Stp F H F' H' → IsX X F' z d → Q d → R z H') : wpAny (model X.prog X.w) X.A (call (.builtin "sorted") [v]) (EP X pins σ R) X.xe s := by
  obtain ⟨ha, hk, hp⟩ := hs
  refine PySem.Calls.call_function_entry kind_sorted plain_sorted entry_sorted (args_sorted1 _) ?_
  unfold Builtin.«sorted»
  refine wpAny_bind (m := checkCount "sorted" 1 1 _) (wpAny_pure ?_)
  refine wpAny_bind (hcol _ fun us s1 vs F1 H1 hk1 I1 S1 t1 rv iv => ?_)
  have hl : us.length = ds.length := by rw [← rv.length, iv.length]
  refine wpAny_bind (wpAny_newList ?_ (by rw [hl]; exact hz))
  have hob : (s1.heap.push { cls := .type "list", data := .seq us.toArray }).get? s1.heap.objs.size = some (PyProof.Rows.seqObj "list" us.toArray 0) := Heap.get?_push_size _ rfl
  have er : PySem.W.EachIs (fun v d => ∃ as, Reads (s1.heap.push { cls := .type "list", data := .seq us.toArray }) v d.py as ∧ s1.heap.objs.size ∉ as) us ds := (each_reads I1 S1 iv rv fun d hd => (hp d hd).1).mono fun u d ⟨as, rd⟩ =>
    ⟨as, PyProof.Rows.Reads.keeps (fun b o e => Heap.get?_push_of_some _ e) rd, fun m => Nat.lt_irrefl _ (reads_lt rd _ m)⟩
  have srt := PySem.W.list_sort_data (prog := X.prog) (w := X.w) (A := X.A.in1) (E := X.xe) (s := { s1 with heap := s1.heap.push { cls := .type "list", data := .seq us.toArray } }) (a := s1.heap.objs.size) (vs := us) (n := 0) (bs := ds) (enc := D.py) (R := StF X F1)
    (Q := fun _ s' => EP X pins σ R (.ref s1.heap.objs.size) s') hob (stf_each iv rv) er ha hk hz (fun d hd => by have h60 := (hp d hd).2; show X.A.units + 1 + 1 + d.py.depth < cLine; omega) fun out ho eo => ?_
  · refine wpAny_bind (wpAny_holding (wpAny_mono srt (fun _ s' x => ?_) fun _ _ e => e))
    exact wpAny_pure ⟨_, rfl, x⟩
  · obtain ⟨n, hat⟩ := PyProof.Rows.sortedHeap_at (out := out.toArray) hob
    refine srt_fin (s := s1) (tk := s1.toks) (F := F1) (H := H1) I1 S1 (fun b o e => ?_) (Nat.le_refl _) hat eo (by rw [← leD_eq, sort_len]; exact hz) q fun z F' H' d h1 h2 h3 h4 => c z F' H' d h1 (t1.trans h2) h3 h4
    have hb : b < s1.heap.objs.size := Heap.lt_size e
    rw [PyProof.Rows.sortedHeap_old (Nat.ne_of_lt hb) (by rw [Heap.size_push]; exact Nat.lt_succ_of_lt hb)]
    exact Heap.get?_push_of_some _ e
theorem d_sorted (hc : X.calm = true) (hu : X.A.units + 70 < cLine) : DCall X (.builtin "sorted") (bitvS .sorted) := by
  intro pins s σ Fo Lk k F H xs us ds Q R I S r b q c
  obtain ⟨d, rfl, hk, q⟩ := bitvS_one q
  obtain ⟨x, rfl, b1⟩ := b.one
  cases d with
  | lst ys =>
    obtain ⟨⟨ha, hs, hp⟩, q⟩ : SortS ys Q := q
    obtain ⟨p, vs, rfl, h1, i1⟩ := b1.lst S
    obtain rfl := Vals.ref1 r
    obtain ⟨its, rv, hl, hz⟩ := I.list (SqL.of h1)
    have hz' : ys.length ≤ sizeLine := by rw [← i1.length]; exact hz
    refine PySem.W.sorted_data (bs := ys) (enc := D.py) (R := StF X F) hl.isList (stf_each i1 rv) (each_reads I S i1 rv fun d hd => (hp d hd).1) ha hs hz' (fun d hd => by have := (hp d hd).2; omega) fun out ho eo => ?_
    obtain ⟨n, hat⟩ := PyProof.Rows.sortedAll_at s.heap its out.toArray
    exact srt_fin (tk := s.toks) I S (fun b o e => PyProof.Rows.sortedAll_old e) (Nat.le_succ _) hat eo (by rw [← leD_eq, sort_len]; exact hz') q c
  | dct ps =>
    obtain ⟨hs, q⟩ : SortS (ps.map fun p : D × D => p.1) Q := q
    obtain ⟨p, rfl, hd⟩ := b1.dct S
    obtain rfl := Vals.ref1 r
    obtain ⟨hsys, hz, es, ep, raw, kv, hsz, hat, ip⟩ := raw_kv I hd
    refine sorted_gen hu (fun Q' h => ?_) hs (by rw [List.length_map]; exact hz) q c
    refine PySem.W.kdu_collect (PySem.KdlSrc.rawDict hsys) (show X.A.in1.handled = none from I.ok.hd hc) raw (by rw [hsz, ip.length]; exact hz) fun h' tk acc hk hacc => ?_
    refine h acc.toList { s with heap := h', toks := tk } (kv.map (·.1)) F H hk (I.kept hk) S (Stp.refl F H) ?_ ip.keys
    refine vals_of (by rw [Array.length_toList, List.length_map, hacc.1, hsz]) fun j u hu => ?_
    obtain ⟨hi, e⟩ := hacc.2 j u (by rw [← Array.getElem?_toList]; exact hu)
    obtain ⟨pr, hp, r1, r2⟩ := hat j hi
    exact ⟨pr.1, by rw [List.getElem?_map, hp]; rfl, by rw [e]; exact r1⟩
  | _ => cases hk
end DL
/-! The data layer, part 19: list(range), sorted(items), storing into dicts, dict(list). -/
namespace DL
open PySem PySem.Spec PyProof.Rows L2
variable {Γ : Nat → FSpec} {X : Cx}

theorem rgV_is {F : Hp} (a b : Int) : IsAX X F (rgV a b) (rangeD a (b - a).toNat) := by
  unfold rgV rangeD
  generalize List.range (b - a).toNat = l
  induction l with
  | nil => exact .nil
  | cons x l ih => exact .cons (.int _) ih
theorem s_listRng2 {a a2 : Expr} {pa pa2 : PX} {p p2 pos pos2 : Pos} (hc : X.calm = true) (hgl : Gl X "list") (hml : X.mg "list" = none) (hg : Gl X "range") (hm : X.mg "range" = none) (ha : S2 Γ X a pa) (ha2 : S2 Γ X a2 pa2) (he : isStar a = false) (he2 : isStar a2 = false) :
    S2 Γ X (.Call (.Name "list" p2) [.Call (.Name "range" p) [a, a2] [] pos] [] pos2) (.bit .list (.rng2 pa pa2)) :=
  SE.two ⟨fun {Fo Lk F H σ ρ Q R} S q c => by
    have q0 : brw pa (wpE Γ pa) ρ (fun x ρ1 => brw pa2 (wpE Γ pa2) ρ1 fun y ρ2 => match x, y with
      | .int m, .int n => rngS m n fun ds => Q (.lst ds) ρ2
      | _, _ => False) := q
    have e1 : starEach [a2] X.env = (false, eval a2 X.env) :: starEach [] X.env := starEach_cons he2
    refine TEw.of (pe_listRg hc hgl hml (prg_2 hg hm (pe_w X a) (pe_w X a2) (starEach_cons he) e1 (by rw [e1]; rfl)) rfl) ?_
    refine ha.bor.run S q0 fun v F1 H1 ρ1 d S1 t1 b1 q1 => ha2.bor.run S1 q1 fun v2 F2 H2 ρ2 d2 S2 t2 b2 q2 => ?_
    cases d with
    | int m =>
      cases d2 with
      | int n =>
        obtain ⟨⟨⟨h1, h2, h3, h4⟩, h5⟩, q5⟩ := q2
        refine ⟨m, n, (b1.mono t2).int, b2.int, ⟨h1, h2, h3, h4, by rw [sizeLine_eq] at h5; exact h5⟩, fun p hp => ?_⟩
        obtain ⟨n1, n2, n3⟩ := new_lst S2.hs (rgV_is (X := X) m n) hp
        exact c _ _ _ ρ2 _ (SxX.step S2 n1 n2) ((t1.trans t2).trans n2.q) n3 q5
      | _ => exact q2.elim
    | _ => exact q2.elim⟩ rfl

/-! ### storing into a dict -/
theorem lookD_any (ps : List (D × D)) (k : D) : (ps.any fun p => eqK p.1 k) = (lookD ps k).isSome := by
  induction ps with
  | nil => rfl
  | cons p ps ih =>
    rw [lookD_cons, List.any_cons]
    by_cases h : eqK p.1 k = true
    · rw [if_pos h, h]; rfl
    · rw [if_neg h, ih]
      simp [h]
def mapAtD (k v : D) (ps : List (D × D)) : List (D × D) := ps.map fun p => if eqK p.1 k = true then (p.1, v) else p
theorem putD_eq (ps : List (D × D)) (k v : D) : putD ps k v = if (lookD ps k).isSome = true then mapAtD k v ps else ps ++ [(k, v)] := by
  unfold putD
  rw [lookD_any]
  rfl
section
variable {P : Program} {w : World} {K : PySem.W.Frag} {F : Hp}
theorem put_k_map {key : Key} {dk d : D} {v : V} {u : Value} (hk : Is P w K F (kV key) dk) (hv : Is P w K F v d) (r : RelV v u) : ∀ {kv : List (Key × V)} {vs : List (Key × Value)} {ps : List (D × D)}, KV kv vs → IsK P w K F kv ps → ∃ kv', KV kv' (vs.map fun x => if x.1 = key then (x.1, u) else x) ∧ IsK P w K F kv' (mapAtD dk d ps)
  | [], [], [], .nil, .nil => ⟨[], .nil, .nil⟩
  | (k, va) :: kv0, b :: vs0, (dk', d') :: ps0, .cons h t, .cons i1 i2 it => by
    obtain ⟨kv', h1, h2⟩ := put_k_map hk hv r t it
    have e := eqK_k i1 hk
    have h0 : k = b.1 := h.1
    by_cases hb : b.1 = key
    · refine ⟨(k, v) :: kv', ?_, ?_⟩
      · rw [List.map_cons, if_pos hb]
        exact .cons ⟨h0, r⟩ h1
      · unfold mapAtD
        rw [List.map_cons, if_pos (by rw [e, h0]; exact decide_eq_true hb)]
        exact .cons i1 hv h2
    · refine ⟨(k, va) :: kv', ?_, ?_⟩
      · rw [List.map_cons, if_neg hb]
        exact .cons h h1
      · unfold mapAtD
        rw [List.map_cons, if_neg (by rw [e, h0]; simpa using hb)]
        exact .cons i1 i2 h2
theorem isK_app : ∀ {kv kv2 : List (Key × V)} {ps ps2 : List (D × D)}, IsK P w K F kv ps → IsK P w K F kv2 ps2 → IsK P w K F (kv ++ kv2) (ps ++ ps2)
  | _, _, _, _, .nil, h => h
  | _, _, _, _, .cons a b t, h => .cons a b (isK_app t h)
theorem kv_app : ∀ {kv kv2 : List (Key × V)} {vs vs2 : List (Key × Value)}, KV kv vs → KV kv2 vs2 → KV (kv ++ kv2) (vs ++ vs2)
  | _, _, _, _, .nil, h => h
  | _, _, _, _, .cons a t, h => .cons a (kv_app t h)
theorem ro_some {o : Option Value} {d : Option D} (h : RO P w K F o d) : o.isSome = d.isSome := by
  cases o <;> cases d <;> first | rfl | exact h.elim
theorem put_k {key : Key} {dk d : D} {v : V} {u : Value} (hk : Is P w K F (kV key) dk) (hv : Is P w K F v d) (r : RelV v u) {kv : List (Key × V)} {vs : List (Key × Value)} {ps : List (D × D)} (rel : KV kv vs) (i : IsK P w K F kv ps) : ∃ kv', KV kv' (stored vs key u) ∧ IsK P w K F kv' (putD ps dk d) := by
  have q := look_k hk rel i
  have e : (vs.any fun x => decide (x.1 = key)) = (lookD ps dk).isSome := by
    rw [← ro_some q]
    unfold valueAt
    rw [Option.isSome_map, Bool.eq_iff_iff, List.find?_isSome, List.any_eq_true]
  rw [putD_eq]
  unfold stored
  rw [e]
  by_cases h : (lookD ps dk).isSome = true
  · rw [if_pos h, if_pos h]
    exact put_k_map hk hv r rel i
  · rw [if_neg h, if_neg h]
    exact ⟨kv ++ [(key, v)], kv_app rel (.cons ⟨rfl, r⟩ .nil), isK_app i (.cons hk hv .nil)⟩
abbrev Nn : List (NestedKey × Addr × V) → List (NestedKey × Addr × Value) → Prop := Paired fun (p : NestedKey × Addr × V) (q : NestedKey × Addr × Value) => p.1 = q.1 ∧ p.2.1 = q.2.1 ∧ RelV p.2.2 q.2.2
theorem isN_app : ∀ {kv kv2 : List (NestedKey × Addr × V)} {ps ps2 : List (D × D)}, IsN P w K F kv ps → IsN P w K F kv2 ps2 → IsN P w K F (kv ++ kv2) (ps ++ ps2)
  | _, _, _, _, .nil, h => h
  | _, _, _, _, .cons a b c d t, h => .cons a b c d (isN_app t h)
theorem nn_app : ∀ {kv kv2 : List (NestedKey × Addr × V)} {vs vs2 : List (NestedKey × Addr × Value)}, Nn kv vs → Nn kv2 vs2 → Nn (kv ++ kv2) (vs ++ vs2)
  | _, _, _, _, .nil, h => h
  | _, _, _, _, .cons a t, h => .cons a (nn_app t h)
theorem put_n_map {n : NestedKey} {dk d : D} {v : V} {u : Value} (hk : dk.nk = some n) (hv : Is P w K F v d) (r : RelV v u) : ∀ {es : List (NestedKey × Addr × V)} {ys : List (NestedKey × Addr × Value)} {ps : List (D × D)}, Nn es ys → IsN P w K F es ps → ∃ es', Nn es' (ys.map (putAt n u)) ∧ IsN P w K F es' (mapAtD dk d ps)
  | [], [], [], .nil, .nil => ⟨[], .nil, .nil⟩
  | (k, b, va) :: es0, y :: ys0, (dk', d') :: ps0, .cons h t, .cons i1 i2 i3 i4 it => by
    obtain ⟨es', h1, h2⟩ := put_n_map hk hv r t it
    have e := eqK_n i3 hk
    have h0 : k = y.1 := h.1
    by_cases hb : y.1 = n
    · refine ⟨(k, b, v) :: es', ?_, ?_⟩
      · rw [List.map_cons]
        refine .cons ?_ h1
        unfold putAt
        rw [if_pos hb]
        exact ⟨h0, h.2.1, r⟩
      · unfold mapAtD
        rw [List.map_cons, if_pos (by rw [e, h0]; exact decide_eq_true hb)]
        exact .cons i1 i2 i3 hv h2
    · refine ⟨(k, b, va) :: es', ?_, ?_⟩
      · rw [List.map_cons]
        refine .cons ?_ h1
        unfold putAt
        rw [if_neg hb]
        exact h
      · unfold mapAtD
        rw [List.map_cons, if_neg (by rw [e, h0]; simpa using hb)]
        exact .cons i1 i2 i3 i4 h2
theorem put_n {n : NestedKey} {b : Addr} {dk d : D} {v : V} {u : Value} (hb : Is P w K F (.ref b) dk) (ht : isTK dk = true) (hk : dk.nk = some n) (hv : Is P w K F v d) (r : RelV v u) {es : List (NestedKey × Addr × V)} {ys : List (NestedKey × Addr × Value)} {ps : List (D × D)} (rel : Nn es ys) (i : IsN P w K F es ps) :
    ∃ es', Nn es' (storedH ys n b u) ∧ IsN P w K F es' (putD ps dk d) := by
  have e : (atKey ys n).isSome = (lookD ps dk).isSome := by
    have q := look_n hk rel i
    rw [← ro_some q]
    rw [valueAt_pairsH, Option.isSome_map]
  rw [putD_eq]
  unfold storedH
  by_cases h : (lookD ps dk).isSome = true
  · rw [if_pos (by rw [e]; exact h), if_pos h]
    exact put_n_map hk hv r rel i
  · rw [if_neg (by rw [e]; exact h), if_neg h]
    exact ⟨es ++ [(n, b, v)], nn_app rel (.cons ⟨rfl, rfl, r⟩ .nil), isN_app i (.cons hb ht hk hv .nil)⟩
end
end DL
/-! The data layer, part 20: dict(list), sorted(items). -/
namespace DL
open PySem PySem.Spec PyProof.Rows L2
variable {Γ : Nat → FSpec} {X : Cx}

/-- a dict with tuple keys, as it stands -/
theorem dn_ok {P : Program} {w : World} {H : Hp} {h : Heap} {p : Addr} {es : List (NestedKey × Addr × V)} {ys : List (NestedKey × Addr × Value)} (hz : es.length ≤ sizeLine) (hs : (p == sysModules) = false) (rel : Nn es ys) (dd : h.DictOfH (nestedKind P w) p ys) : ObjOk P w H h p (dN P w p es) := by
  obtain ⟨o, ents, ep, ho, hx, hd, he, _, hn⟩ := dd
  refine ⟨⟨hz, hs, ys, o, ents, ep, rel, ho, hx, hd, he, hn⟩, ⟨o, ho⟩, fun h1 h2 g k => ?_⟩
  obtain ⟨a1, a2, ys, o, ents, ep, r, b1, b2, b3, b4, b5⟩ := g
  exact ⟨a1, a2, ys, o, ents, ep, r, k _ b1, b2, b3, b4, b5⟩
theorem new_dn {Fo : Hp} {Lk : Lks} {k : Nat} {F H : Hp} (S : Hs Fo Lk k F H) {es : List (NestedKey × Addr × V)} {ps : List (D × D)} (i : IsN X.prog X.w X.K F es ps) {p : Addr} (hp : H p = none) : Hs Fo Lk k (upd F p (dN X.prog X.w p es)) (upd H p (dN X.prog X.w p es)) ∧ Stp F H (upd F p (dN X.prog X.w p es)) (upd H p (dN X.prog X.w p es)) ∧ IsX X (upd F p (dN X.prog X.w p es)) (.ref p) (.dct ps) := by
  refine ⟨S.newF hp dN_ne, ⟨Sub.upd (S.nF hp), fun a o h _ => by rw [upd_ne (ne_of_none h hp)]; exact h, fun a o h1 h2 => ?_⟩, .dctN upd_same (i.mono (Sub.upd (S.nF hp)))⟩
  rw [upd_ne (ne_of_none h2 hp)]; exact h1
theorem Nn.length : ∀ {es : List (NestedKey × Addr × V)} {ys : List (NestedKey × Addr × Value)}, Nn es ys → es.length = ys.length := fun h => Paired.length h
/-- fresh cells are no sys.modules -/
theorem fresh_sys {pins : List (Addr × Obj)} {σ : L2.St} {H : Hp} {s : Shared} (I : Inv X pins σ H s) {a : Addr} (h : s.heap.objs.size ≤ a) : (a == sysModules) = false := by
  have hb := I.big
  exact beq_eq_false_iff_ne.mpr fun e => by
    have : sysModules < s.heap.objs.size := hb
    rw [← e] at this
    exact Nat.lt_irrefl _ (Nat.lt_of_le_of_lt h this)
/-- the pairs of a list -/
theorem pairs_of {pins : List (Addr × Obj)} {σ : L2.St} {s : Shared} {Fo : Hp} {Lk : Lks} {k : Nat} {F H : Hp} (I : Inv X pins σ H s) (S : Hs Fo Lk k F H) : ∀ {ys : List D} {ps : List (D × D)} {vs : List V} {us : List Value}, pairsD ys = some ps → IsAX X F vs ys → Vals vs us →
    ∃ (Ts : List Addr) (pv : List (Value × Value)) (kv : List (V × V)), us = Ts.map .ref ∧ Ts.length = pv.length ∧ (∀ (j : Nat) (p : Value × Value), pv[j]? = some p → ∃ T, Ts[j]? = some T ∧ s.heap.IsTuple T #[p.1, p.2]) ∧ Paired (fun (a : V × V) (b : Value × Value) => RelV a.1 b.1 ∧ RelV a.2 b.2) kv pv ∧ IsPr X F kv ps
  | [], ps, vs, us, e, i, r => by
    cases e; cases i; cases r
    exact ⟨[], [], [], rfl, rfl, fun j p h => by simp at h, .nil, .nil⟩
  | y :: ys, ps, vs, us, e, i, r => by
    cases i with
    | cons i1 i2 =>
      cases r with
      | cons r1 r2 =>
        unfold pairsD at e
        split at e
        · rename_i e0; cases e0
        · rename_i k v r e0
          cases e0
          obtain ⟨ps', e1, rfl⟩ := Option.map_eq_some_iff.mp e
          obtain ⟨Ts, pv, kv, h1, h2, h3, h4, h5⟩ := pairs_of I S e1 i2 r2
          obtain ⟨a, xs, rfl, ha, ia⟩ := i1.inv_tup
          cases r1
          obtain ⟨its, rv, ht, _⟩ := I.tuple (S.sqT ha)
          cases ia with
          | cons j1 j2 =>
            cases j2 with
            | cons j3 j4 =>
              cases j4
              obtain ⟨u1, u2, rfl, q1, q2⟩ := vals2 rv
              refine ⟨a :: Ts, (u1, u2) :: pv, _, by rw [h1]; rfl, by rw [List.length_cons, List.length_cons, h2], fun j p hj => ?_, .cons ⟨q1, q2⟩ h4, .cons j1 j3 h5⟩
              cases j with
              | zero =>
                have e : (u1, u2) = p := by simpa using hj
                subst e
                exact ⟨a, rfl, ht⟩
              | succ j => exact h3 j p (by simpa using hj)
        · cases e
theorem keys_n {F : Hp} : ∀ {kv : List (V × V)} {pv : List (Value × Value)} {ps : List (D × D)}, Paired (fun (a : V × V) (b : Value × Value) => RelV a.1 b.1 ∧ RelV a.2 b.2) kv pv → IsPr X F kv ps → (ps.all fun p => isTK p.1) = true →
    ∃ (es : List (NestedKey × Addr × V)) (ys : List (NestedKey × Addr × Value)), Nn es ys ∧ IsN X.prog X.w X.K F es ps ∧ ys.length = pv.length ∧ ∀ (j : Nat) (p : Value × Value), pv[j]? = some p → ∃ n b, ys[j]? = some (n, b, p.2) ∧ p.1 = .ref b
  | [], [], [], .nil, .nil, _ => ⟨[], [], .nil, .nil, rfl, fun j p h => by simp at h⟩
  | (k, v) :: kv, (u1, u2) :: pv, (dk, d) :: ps, .cons r t, .cons i1 i2 it, h => by
    rw [List.all_cons, Bool.and_eq_true] at h
    obtain ⟨es, ys, h1, h2, h3, h4⟩ := keys_n t it h.2
    obtain ⟨xs, n, e, hn, _⟩ := isTK_inv h.1
    have e' : dk = .tup xs := e
    subst e'
    obtain ⟨a, vs, rfl, ha, ia⟩ := i1.inv_tup
    have ru : u1 = Value.ref a := r.1
    subst ru
    refine ⟨(n, a, v) :: es, (n, a, u2) :: ys, .cons ⟨rfl, rfl, r.2⟩ h1, .cons i1 h.1 hn i2 h2, by rw [List.length_cons, List.length_cons, h3], fun j p hj => ?_⟩
    cases j with
    | zero =>
      have e : (Value.ref a, u2) = p := by simpa using hj
      subst e
      exact ⟨n, a, rfl, rfl⟩
    | succ j => exact h4 j p (by simpa using hj)
theorem keys_k {F : Hp} : ∀ {kv : List (V × V)} {pv : List (Value × Value)} {ps : List (D × D)}, Paired (fun (a : V × V) (b : Value × Value) => RelV a.1 b.1 ∧ RelV a.2 b.2) kv pv → IsPr X F kv ps → (ps.all fun p => isSK p.1) = true →
    ∃ (es : List (Key × V)) (ys : List (Key × Value)), KV es ys ∧ IsK X.prog X.w X.K F es ps ∧ ys.length = pv.length ∧ ∀ (j : Nat) (p : Value × Value), pv[j]? = some p → ∃ n, ys[j]? = some (n, p.2) ∧ RelV (kV n) p.1
  | [], [], [], .nil, .nil, _ => ⟨[], [], .nil, .nil, rfl, fun j p h => by simp at h⟩
  | (k, v) :: kv, (u1, u2) :: pv, (dk, d) :: ps, .cons r t, .cons i1 i2 it, h => by
    rw [List.all_cons, Bool.and_eq_true] at h
    obtain ⟨es, ys, h1, h2, h3, h4⟩ := keys_k t it h.2
    obtain ⟨key, e, hn⟩ := isSK_inv h.1 i1
    subst e
    refine ⟨(key, v) :: es, (key, u2) :: ys, .cons ⟨rfl, r.2⟩ h1, .cons i1 i2 h2, by rw [List.length_cons, List.length_cons, h3], fun j p hj => ?_⟩
    cases j with
    | zero =>
      have e : (u1, u2) = p := by simpa using hj
      subst e
      exact ⟨key, rfl, r.1⟩
    | succ j => exact h4 j p (by simpa using hj)
/-- all pairs stored, one behind the other -/
theorem putAll_n {F : Hp} : ∀ {es : List (NestedKey × Addr × V)} {ys : List (NestedKey × Addr × Value)} {ps : List (D × D)} {es0 : List (NestedKey × Addr × V)} {ys0 : List (NestedKey × Addr × Value)} {ps0 : List (D × D)}, Nn es ys → IsN X.prog X.w X.K F es ps → Nn es0 ys0 → IsN X.prog X.w X.K F es0 ps0 →
    ∃ es', Nn es' (storedAllH ys0 ys) ∧ IsN X.prog X.w X.K F es' (putAll ps0 ps)
  | [], [], [], es0, ys0, ps0, .nil, .nil, h, i => ⟨es0, h, i⟩
  | (n, b, v) :: es, y :: ys, (dk, d) :: ps, es0, ys0, ps0, .cons r t, .cons i1 i2 i3 i4 it, h, i => by
    obtain ⟨e1, e2, r'⟩ := r
    have e1' : n = y.1 := e1
    have e2' : b = y.2.1 := e2
    subst e1' e2'
    obtain ⟨es1, h1, h2⟩ := put_n i1 i2 i3 i4 r' h i
    obtain ⟨es2, h3, h4⟩ := putAll_n t it h1 h2
    exact ⟨es2, h3, h4⟩
theorem putAll_k {F : Hp} : ∀ {es : List (Key × V)} {ys : List (Key × Value)} {ps : List (D × D)} {es0 : List (Key × V)} {ys0 : List (Key × Value)} {ps0 : List (D × D)}, KV es ys → IsK X.prog X.w X.K F es ps → KV es0 ys0 → IsK X.prog X.w X.K F es0 ps0 →
    ∃ es', KV es' (merged ys0 ys) ∧ IsK X.prog X.w X.K F es' (putAll ps0 ps)
  | [], [], [], es0, ys0, ps0, .nil, .nil, h, i => ⟨es0, h, i⟩
  | (n, v) :: es, y :: ys, (dk, d) :: ps, es0, ys0, ps0, .cons r t, .cons i1 i2 it, h, i => by
    obtain ⟨e1, r'⟩ := r
    have e1' : n = y.1 := e1
    subst e1'
    obtain ⟨es1, h1, h2⟩ := put_k i1 i2 r' h i
    obtain ⟨es2, h3, h4⟩ := putAll_k t it h1 h2
    exact ⟨es2, h3, h4⟩
theorem d_dict (hc : X.calm = true) (hu : X.A.units + 70 < cLine) : DCall X (.type "dict") (bitvS .dict) := by
  intro pins s σ Fo Lk k F H xs us ds Q R I S r b q c
  obtain ⟨d, rfl, hk, q⟩ := bitvS_one q
  obtain ⟨x, rfl, b1⟩ := b.one
  cases d with
  | lst ys =>
    have q' : (match pairsD ys with | some ps => keysOk ps = true ∧ Q (.dct (putAll [] ps)) | none => False) := (show DictS ys Q from q).go
    cases e : pairsD ys with
    | none => rw [e] at q'; exact q'.elim
    | some ps =>
      rw [e] at q'
      obtain ⟨hko, q⟩ := q'
      obtain ⟨p, vs, rfl, h1, i1⟩ := b1.lst S
      obtain rfl := Vals.ref1 r
      obtain ⟨z, its, n, rv, hg⟩ := (show ObjOk X.prog X.w H s.heap p (.lst vs) from I.hok p _ h1)
      obtain ⟨Ts, pv, kv, e1, e2, e3, e4, e5⟩ := pairs_of I S e i1 rv
      have hlen : pv.length ≤ sizeLine := by
        rw [← e2, ← List.length_map (f := Value.ref), ← e1, ← rv.length]; exact z
      have plain : PlainSeq "list" s.heap p its.toArray := ⟨_, n, hg, rfl, rfl, rfl⟩
      have items : PairItems s.heap its.toArray (fun j => Ts.getD j 0) pv := by
        refine ⟨by rw [List.size_toArray, e1, List.length_map, e2], fun j k v hj => ?_⟩
        obtain ⟨T, hT, ht⟩ := e3 j (k, v) hj
        have e0 : Ts.getD j 0 = T := by rw [List.getD_eq_getElem?_getD, hT]; rfl
        exact ⟨by show its.toArray[j]? = some (Value.ref (Ts.getD j 0)); rw [e0, e1]; simp [hT], by show PairAt s.heap (Ts.getD j 0) k v; rw [e0]; exact .inl ht⟩
      have hh : X.A.handled = none := I.ok.hd hc
      have hn := I.hok.fresh (Nat.le_refl s.heap.objs.size)
      unfold keysOk at hko
      rw [Bool.or_eq_true] at hko
      rcases hko with ht | ht
      · obtain ⟨es, ws, f1, f2, f3, f4⟩ := keys_n e4 e5 ht
        have his : ∀ x ∈ ws, (nestedKind X.prog X.w).is s.heap x.1 x.2.1 := isN_keys I S f1 f2
        obtain ⟨es', g1, g2⟩ := putAll_n (X := X) f1 f2 .nil .nil
        refine call_dict_pairsH (knd := nestedKind X.prog X.w) (ps := ws) (PairArg.list p its.toArray (fun j => Ts.getD j 0) pv) hh (by show X.A.units + 1 + 1 + 8 < cLine; omega) ⟨plain, items⟩ ⟨f3, fun j key v hj => ?_⟩ ?_ hlen fun h' tk dd hk' => ?_
        · obtain ⟨n, b, g1, g2⟩ := f4 j (key, v) hj
          exact ⟨n, b, g1, g2⟩
        · intro h' hk' x hx
          exact ⟨NestedIs.at (fun b ob vs n hb hc => hk' b ob (Nat.ne_of_lt (Heap.lt_size hb)) (fun m => nomatch m) hb) _ _ (his x hx).1, (his x hx).2⟩
        · have hz : es'.length ≤ sizeLine := by
            rw [g1.length]
            have := storedAllH_length ws []
            have l1 : ([] : List (NestedKey × Addr × Value)).length = 0 := rfl
            omega
          obtain ⟨n1, n2, n3⟩ := new_dn S g2 hn
          exact ⟨.ref s.heap.objs.size, _, I.laid (t' := tk) (fun b o e => hk' b o (fun m => nomatch m) e) (Nat.le_refl _) (dn_ok hz (fresh_sys I (Nat.le_refl _)) g1 dd), rfl, c _ _ _ _ n1 n2 n3 q⟩
      · obtain ⟨es, ws, f1, f2, f3, f4⟩ := keys_k e4 e5 ht
        obtain ⟨es', g1, g2⟩ := putAll_k (X := X) f1 f2 .nil .nil
        refine PySem.call_dict_pairs (knd := mixKind X.prog X.w) (kvs := ws) (PairArg.list p its.toArray (fun j => Ts.getD j 0) pv) hh ⟨plain, items⟩ ⟨f3, fun j key v hj => ?_⟩ hlen fun h' tk dd hk' => ?_
        · obtain ⟨n, g1, g2⟩ := f4 j (key, v) hj
          exact ⟨n, g1, kV_is g2⟩
        · have hz : es'.length ≤ sizeLine := by
            rw [Paired.length g1]
            have := merged_length [] ws
            have l1 : ([] : List (Key × Value)).length = 0 := rfl
            omega
          obtain ⟨n1, n2, n3⟩ := new_dk S g2 hn
          exact ⟨.ref s.heap.objs.size, _, I.laid (t' := tk) (o := .dK es') (fun b o e => hk' b o (fun m => nomatch m) e) (Nat.le_refl _) ⟨hz, fresh_sys I (Nat.le_refl _), _, g1, dd⟩, rfl, c _ _ _ _ n1 n2 n3 q⟩
  | _ => cases hk
/-! ### sorted(d.items()) -/
theorem view_run {m id : String} {e : Expr} {apos cpos : Pos} {σ : L2.St} {H : Hp} {name : Str} (hbase : attributeBase e name X.env (eval e X.env) = eval e X.env) (hline : (apos.endLine == cpos.line) = true)
    (slot : Slot "dict" name id) (hty : typeOf (.builtin id) = pure (.type "method_descriptor")) {B : Builtin} (entry : entryFor table id = some B) (hargs : ∀ v, argsOk id ⟨[v], []⟩) {cl : String}
    (hB : ∀ (prog : Program) (w : World) (d : Addr), (d == sysModules) = false → MeetsIn prog w (B ⟨[.ref d], []⟩) (fun _ R s => (∃ es ep, s.heap.DictRaw d es ep) ∧ R (.ok (.ret (.ref s.heap.objs.size))) { s with heap := s.heap.push { cls := .type cl, data := .fields #[.ref d] } }))
    {pins : List (Addr × Obj)} {s : Shared} {Q : Value → Shared → Prop} (I : Inv X pins σ H s)
    (h : TEw X e σ H (fun x H1 => ∀ (s : Shared) (u : Value), Inv X pins σ H1 s → RelV x u → ∃ d es ep, u = .ref d ∧ (d == sysModules) = false ∧ s.heap.DictRaw d es ep ∧ Q (.ref s.heap.objs.size) { s with heap := s.heap.push { cls := .type cl, data := .fields #[.ref d] } })) :
    wpAny (model X.prog X.w) X.A (eval (.Call (.Attribute e name apos) [] [] cpos) X.env) Q X.xe s := by
  refine wpAny_Call_method (T := "dict") (id := id) hbase rfl hline PySem.F.plainAttrs_dict slot hty (thn (h pins s I) fun u s1 ⟨x, H1, I1, rx, q⟩ => ?_)
  obtain ⟨d, es, ep, rfl, hs, raw, fin⟩ := q s1 u I1 rx
  refine ⟨raw.typeIs, fun a e => by cases e; obtain ⟨o, h1, h2, _⟩ := raw; exact ⟨o, h1, h2.2.1⟩, ?_⟩
  show wpAny _ _ (callWith cpos (.builtin id) [.ref d] [] []) _ X.xe s1
  exact method_meetsIn slot entry rfl (PySem.evalArgs_none ⟨rfl, raw.typeIs, hargs _, _, hB _ _ d hs, ⟨es, ep, raw⟩, fin⟩)
/-- the pairs that a walk of d.items() has made are tracked -/
theorem made_is {pins : List (Addr × Obj)} {σ : L2.St} {s : Shared} {h' : Heap} {tk : Nat} {Fo : Hp} {Lk : Lks} {k : Nat} {F H : Hp} {es : Array DictEntry} {lo : Addr} {as : List Addr} {kv : List (V × V)} {ps : List (D × D)} (I : Inv X pins σ H s) (S : Hs Fo Lk k F H) (hk : ∀ b o, s.heap.get? b = some o → h'.get? b = some o) (hlo : s.heap.objs.size ≤ lo)
    (g : DT.Made es lo h' as) (hl : as.length = es.size) (hsz : es.size = kv.length) (hat : ∀ (i : Nat) (hi : i < es.size), ∃ q, kv[i]? = some q ∧ RelV q.1 es[i].key ∧ RelV q.2 es[i].val) (ip : IsPr X F kv ps) :
    ∃ F2 H2, Inv X pins σ H2 { s with heap := h', toks := tk } ∧ Hs Fo Lk k F2 H2 ∧ Stp F H F2 H2 ∧ IsAX X F2 (as.map V.ref) (ps.map fun p => D.tup [p.1, p.2]) := by
  have hn : as.Nodup := g.rise.imp fun h => Nat.ne_of_lt h
  have hfree : ∀ a ∈ as, H a = none := fun a ha => I.hok.fresh (Nat.le_of_lt (Nat.lt_of_le_of_lt hlo (g.above a ha)))
  obtain ⟨H2, I2, gr, at2⟩ := L2.DX.takeT (P := fun a vs => ∃ (j : Nat) (p : V × V), as[j]? = some a ∧ kv[j]? = some p ∧ vs = [p.1, p.2]) I as H (I.kept (h' := h') (t' := tk) hk) hn fun a ha => by
    obtain ⟨j, hj⟩ := List.mem_iff_getElem?.mp ha
    obtain ⟨e, he, hg⟩ := g.pairs j a hj
    obtain ⟨hi, e1⟩ := Array.getElem?_eq_some_iff.mp he
    obtain ⟨p, hp, r1, r2⟩ := hat j hi
    rw [e1] at r1 r2
    exact ⟨Nat.le_of_lt (Nat.lt_of_le_of_lt hlo (g.above a ha)), hfree a ha, [p.1, p.2], ⟨j, p, hj, hp, rfl⟩, fun H2 => ⟨by show 2 ≤ sizeLine; decide, [e.key, e.val], .cons r1 (.cons r2 .nil), ⟨_, hg, rfl, _, rfl⟩⟩⟩
  have hF : ∀ a ∈ as, F a = none := fun a ha => S.nF (hfree a ha)
  classical
  refine ⟨fun a => if a ∈ as then H2 a else F a, H2, I2, ⟨fun a o e => ?_, fun a o e => ?_, fun a ob e => ?_⟩, ⟨fun a o e => ?_, fun a o e _ => gr a o e, fun a o e1 e2 => ?_⟩, ?_⟩
  · have e' : (if a ∈ as then H2 a else F a) = some o := e
    by_cases ha : a ∈ as
    · rw [if_pos ha] at e'
      obtain ⟨vs, _, h2⟩ := at2 a ha
      rw [h2] at e'
      cases e'
      refine .inr ⟨(fun z => nomatch z), ?_⟩
      rw [locked_no (S.noLk (hfree a ha))]; exact h2
    · rw [if_neg ha] at e'
      rcases S.sub a o e' with ⟨q1, q2⟩ | ⟨q1, q2⟩
      · obtain ⟨x, y, z, q3, q4⟩ := q2
        exact .inl ⟨q1, x, y, z, gr _ _ q3, q4⟩
      · exact .inr ⟨q1, gr _ _ q2⟩
  · obtain ⟨h1, h2⟩ := S.fo a o e
    have ha : a ∉ as := fun m => by rw [hfree a m] at h1; cases h1
    exact ⟨gr _ _ h1, by show (if a ∈ as then H2 a else F a) = none; rw [if_neg ha]; exact h2⟩
  · have ha : a ∉ as := fun m => by rw [S.noLk (hfree a m)] at e; cases e
    rcases S.lk a ob e with ⟨o, h1, h2⟩ | ⟨h1, o, h2, h3⟩
    · exact .inl ⟨o, by show (if a ∈ as then H2 a else F a) = some o; rw [if_neg ha]; exact h1, h2⟩
    · exact .inr ⟨by show (if a ∈ as then H2 a else F a) = none; rw [if_neg ha]; exact h1, o, gr _ _ h2, h3⟩
  · have ha : a ∉ as := fun m => by rw [hF a m] at e; cases e
    show (if a ∈ as then H2 a else F a) = some o
    rw [if_neg ha]; exact e
  · have ha : a ∉ as := fun m => by rw [hfree a m] at e2; cases e2
    show (if a ∈ as then H2 a else F a) = none
    rw [if_neg ha]; exact e1
  · have sb : Sub F (fun a => if a ∈ as then H2 a else F a) := fun a o e => by
      have ha : a ∉ as := fun m => by rw [hF a m] at e; cases e
      show (if a ∈ as then H2 a else F a) = some o
      rw [if_neg ha]; exact e
    have one : ∀ (j : Nat) (a : Addr), as[j]? = some a → ∃ d, (ps.map fun p : D × D => D.tup [p.1, p.2])[j]? = some d ∧ IsX X (fun a => if a ∈ as then H2 a else F a) (.ref a) d := fun j a hj => by
      have ha : a ∈ as := List.mem_of_getElem? hj
      obtain ⟨vs, ⟨j', p, hj', hp, rfl⟩, h2⟩ := at2 a ha
      have ejj : j = j' := by
        obtain ⟨h1, e1⟩ := List.getElem?_eq_some_iff.mp hj
        obtain ⟨h3, e3⟩ := List.getElem?_eq_some_iff.mp hj'
        rcases Nat.lt_trichotomy j j' with h | h | h
        · have q := List.pairwise_iff_getElem.mp g.rise j j' h1 h3 h
          rw [e1, e3] at q
          exact absurd q (Nat.lt_irrefl _)
        · exact h
        · have q := List.pairwise_iff_getElem.mp g.rise j' j h3 h1 h
          rw [e1, e3] at q
          exact absurd q (Nat.lt_irrefl _)
      subst ejj
      obtain ⟨q, hq, i1, i2⟩ := ip.get hp
      refine ⟨_, by rw [List.getElem?_map, hq]; rfl, .tup (xs := [p.1, p.2]) (.inl (.inl ?_)) (.cons (i1.mono sb) (.cons (i2.mono sb) .nil))⟩
      show (if a ∈ as then H2 a else F a) = _
      rw [if_pos ha]; exact h2
    have hlen : as.length = (ps.map fun p : D × D => D.tup [p.1, p.2]).length := by rw [List.length_map, hl, hsz, ip.length]
    have build : ∀ (as' : List Addr) (ds : List D), as'.length = ds.length → (∀ (j : Nat) (a : Addr), as'[j]? = some a → ∃ d, ds[j]? = some d ∧ IsX X (fun a => if a ∈ as then H2 a else F a) (.ref a) d) → IsAX X (fun a => if a ∈ as then H2 a else F a) (as'.map V.ref) ds := fun as' => by
      induction as' with
      | nil =>
        intro ds h _
        cases ds with
        | nil => exact .nil
        | cons _ _ => simp at h
      | cons a as' ih =>
        intro ds h f
        cases ds with
        | nil => simp at h
        | cons d ds =>
          obtain ⟨d', e, i⟩ := f 0 a rfl
          have e' : d = d' := by simpa using e
          subst e'
          exact .cons i (ih ds (by simpa using h) fun j b hj => f (j + 1) b (by simpa using hj))
    exact build as _ hlen one
theorem refs_vals : ∀ as : List Addr, Vals (as.map V.ref) (as.map Value.ref)
  | [] => .nil
  | a :: as => .cons rfl (refs_vals as)
theorem s_sortItems {e : Expr} {p : PX} {np pos apos cpos : Pos} (hc : X.calm = true) (hu : X.A.units + 70 < cLine) (hg : Gl X "sorted") (hm : X.mg "sorted" = none) (hv : bootBuiltins "sorted" = some (.builtin "sorted")) (h : S2 Γ X e p) (hbase : attributeBase e "items" X.env (eval e X.env) = eval e X.env) (hline : (apos.endLine == cpos.line) = true) :
    S2 Γ X (.Call (.Name "sorted" np) [.Call (.Attribute e "items" apos) [] [] cpos] [] pos) (.bit .sorted (.items p)) :=
  SE.two ⟨fun {Fo Lk F H σ ρ Q R} S q c pins s I => by
    have q0 : brw p (wpE Γ p) ρ (fun x ρ1 => match x with
      | .dct ps => SortS (ps.map fun p => D.tup [p.1, p.2]) fun d => Q d ρ1
      | _ => False) := q
    refine wpAny_Call_Name_kw (ld_blt I hg hm hv ?_ (by decide) (by decide))
    refine PyProof.Rows.callWith_builtin1 (Calls.spliced_cons (view_run (m := "items") hbase hline PySem.F.slot_dict_items PySem.F.type_dict_items PySem.F.entry_dict_items PySem.F.args_dict_items_1 (fun prog w d hs => meets_dict_items_raw d hs) I ?_)) rfl rfl
    refine h.bor.run S q0 fun v F1 H1 ρ1 d S1 t1 b1 q1 s1 u I1 r => ?_
    cases d with
    | dct ps =>
      obtain ⟨hs, q1⟩ : SortS (ps.map fun p => D.tup [p.1, p.2]) (fun d => Q d ρ1) := q1
      obtain ⟨a, rfl, hd⟩ := b1.dct S1.hs
      cases r
      obtain ⟨hsys, hz, es, ep, raw, kv, hsz, hat, ip⟩ := raw_kv I1 hd
      refine ⟨a, es, ep, rfl, hsys, raw, Calls.spliced_nil ?_⟩
      have I2 : Inv X pins σ H1 { s1 with heap := s1.heap.push { cls := .type "dict_items", data := .fields #[.ref a] } } := I1.kept (t' := s1.toks) fun b ob q => Heap.get?_push_of_some _ q
      refine sorted_gen (Q := fun z => Q z ρ1) hu (fun Q' hQ' => ?_) hs (by rw [List.length_map]; exact hz) q1 fun z F' H' d h1 t2 i2 q2 => c z F' H' ρ1 d (SxX.step S1 h1 t2) (t1.trans t2.q) i2 q2
      refine DT.collectI (es := es) (ep := ep) (show X.A.in1.handled = none from I1.ok.hd hc) ⟨_, Heap.get?_push_size _ rfl, rfl, rfl⟩ (raw.push _) (by rw [hsz, ip.length]; exact hz) fun h' tk as hk hlt hl g => ?_
      obtain ⟨F2, H2, J1, J2, J3, J4⟩ := made_is (tk := tk) I2 S1.hs hk (Nat.le_refl _) g hl hsz hat ip
      exact hQ' _ _ _ F2 H2 hk J1 J2 J3 (refs_vals as) J4
    | _ => exact q1.elim⟩ rfl
end DL
/-! The data layer, part 21: statements. -/
namespace DL
open PySem PySem.Spec PyProof.Rows L2
variable {Γ : Nat → FSpec} {X : Cx}

def TSw (X : Cx) (st : Stmt) : TS := fun D σ H => ∀ (pins : List (Addr × Obj)) (s : Shared), Inv X pins σ H s → wpAny (model X.prog X.w) X.A (exec st X.env) (SP X pins D) X.xe s
theorem ps_w (X : Cx) (st : Stmt) : L2.PS X st (TSw X st) := ⟨fun pins s _ _ _ I h => h pins s I⟩
theorem TSw.of {st : Stmt} {t : TS} {D : L2.Ends} {σ : L2.St} {H : Hp} (h : L2.PS X st t) (q : t D σ H) : TSw X st D σ H := fun pins s I => h.run pins s σ H D I q
def TSsw (X : Cx) (sts : List Stmt) : TS := fun D σ H => ∀ (pins : List (Addr × Obj)) (s : Shared), Inv X pins σ H s → wpAny (model X.prog X.w) X.A (execs sts X.env) (SP X pins D) X.xe s
theorem pss_w (X : Cx) (sts : List Stmt) : L2.PSs X sts (TSsw X sts) := ⟨fun pins s _ _ _ I h => h pins s I⟩
theorem TSsw.of {sts : List Stmt} {t : TS} {D : L2.Ends} {σ : L2.St} {H : Hp} (h : L2.PSs X sts t) (q : t D σ H) : TSsw X sts D σ H := fun pins s I => h.run pins s σ H D I q
/-- between statements the cells of others may grow -/
structure Ext (X : Cx) (Fo0 Fo : Hp) (σ : L2.St) : Prop where
  le : ∀ a o, Fo0 a = some o → Fo a = some o
  nr : ∀ (i : Nat) (p : Addr) (o : HO), σ[i]? = some (some (.ref p)) → Fo p = some o → (Fo0 p = none ∧ ∀ es2, o = dN X.prog X.w p es2 → ∃ es, o = dN X.prog X.w p es ∧ ∀ e ∈ es, ∀ q, e.2.2 = .ref q → Fo0 q = none) ∨ X.K.lookup p ≠ none
def SxS (X : Cx) (Fo0 : Hp) (Lk : Lks) (F H : Hp) (σ : L2.St) (ρ : Ev) : Prop := ∃ Fo, Ext X Fo0 Fo σ ∧ SxX X Fo Lk F H σ ρ
theorem Ext.fzs {X : Cx} {Fo0 Fo : Hp} {σ σ' : L2.St} {Lk : Lks} {k : Nat} {F H : Hp} (h : Ext X Fo0 Fo σ) (S : Hs Fo Lk k F H) (z : ∀ (i : Nat) (v : V), σ'[i]? = some (some v) → σ[i]? = some (some v) ∨ Fz X.K F v ∨ ∃ a, v = .ref a ∧ Fo a = none) : Ext X Fo0 Fo σ' := ⟨h.le, fun i p es e e2 => by
  rcases z i _ e with q | q | ⟨a, q, q2⟩
  · exact h.nr i p es q e2
  · rcases q p rfl with q | q
    · exact (q (S.fo p _ e2).2).elim
    · exact .inr q
  · cases q; rw [q2] at e2; cases e2⟩
theorem Ext.bind {X : Cx} {Fo0 Fo : Hp} {σ : L2.St} {Lk : Lks} {k : Nat} {F H : Hp} {v : V} {d : D} (h : Ext X Fo0 Fo σ) (S : Hs Fo Lk k F H) (i : Nat) (z : IsX X F v d) : Ext X Fo0 Fo (σ.set i (some v)) := h.fzs S fun j u e => by
  rw [List.getElem?_set] at e
  split at e
  · split at e
    · cases e; exact .inr (.inl (is_fz z))
    · cases e
  · exact .inl e
theorem Ext.bindO {X : Cx} {Fo0 Fo : Hp} {σ : L2.St} {Lk : Lks} {k : Nat} {F H : Hp} {a : Addr} (h : Ext X Fo0 Fo σ) (S : Hs Fo Lk k F H) (i : Nat) (z : Fo a = none) : Ext X Fo0 Fo (σ.set i (some (.ref a))) := h.fzs S fun j u e => by
  rw [List.getElem?_set] at e
  split at e
  · split at e
    · cases e; exact .inr (.inr ⟨a, rfl, z⟩)
    · cases e
  · exact .inl e
theorem Ext.off {X : Cx} {Fo0 Fo : Hp} {σ σ' : L2.St} {Lk : Lks} {k : Nat} {F H : Hp} {vs : List Nat} (h : Ext X Fo0 Fo σ) (S : Hs Fo Lk k F H) (z : OffF X.K F vs σ σ') : Ext X Fo0 Fo σ' := h.fzs S fun j u e => (z.fz j u e).imp id .inl
/-- what is walked is frozen, or another's -/
def LkOk (Fo0 : Hp) (Lk : Lks) (F : Hp) : Prop := ∀ a ob, Lk a = some ob → F a ≠ none ∨ Fo0 a ≠ none
theorem LkOk.sub {Fo0 : Hp} {Lk : Lks} {F F' : Hp} (h : LkOk Fo0 Lk F) (s : Sub F F') : LkOk Fo0 Lk F' := fun a ob e => by
  rcases h a ob e with q | q
  · cases z : F a with
    | none => exact (q z).elim
    | some o => exact .inl (by rw [s a o z]; exact fun y => nomatch y)
  · exact .inr q
structure EndsD (X : Cx) (Fo0 : Hp) (Lk : Lks) (F : Hp) (P : Po) (D : L2.Ends) : Prop where
  nx : ∀ {σ F' H' ρ}, SxS X Fo0 Lk F' H' σ ρ → Sub F F' → P.nx ρ → D.nx σ H'
  rt : ∀ {v σ F' H' ρ d}, SxS X Fo0 Lk F' H' σ ρ → Sub F F' → IsX X F' v d → P.rt d ρ.k → D.rt v H'
  bk : ∀ {σ F' H' ρ}, SxS X Fo0 Lk F' H' σ ρ → Sub F F' → P.bk ρ → D.bk σ H'
  ct : ∀ {σ F' H' ρ}, SxS X Fo0 Lk F' H' σ ρ → Sub F F' → P.ct ρ → D.ct σ H'
theorem EndsD.sub {Fo0 : Hp} {Lk : Lks} {F F' : Hp} {P : Po} {D : L2.Ends} (E : EndsD X Fo0 Lk F P D) (s : Sub F F') : EndsD X Fo0 Lk F' P D :=
  ⟨fun S t q => E.nx S (s.trans t) q, fun S t i q => E.rt S (s.trans t) i q, fun S t q => E.bk S (s.trans t) q, fun S t q => E.ct S (s.trans t) q⟩
structure SS (X : Cx) (st : Stmt) (p : PS) : Prop where
  run : ∀ {Fo0 : Hp} {Lk : Lks} {F H : Hp} {σ : L2.St} {ρ : Ev} {P : Po} {D : L2.Ends}, SxS X Fo0 Lk F H σ ρ → LkOk Fo0 Lk F → wpS Γ p ρ P → EndsD X Fo0 Lk F P D → TSw X st D σ H
structure SSs (X : Cx) (sts : List Stmt) (p : PS) : Prop where
  run : ∀ {Fo0 : Hp} {Lk : Lks} {F H : Hp} {σ : L2.St} {ρ : Ev} {P : Po} {D : L2.Ends}, SxS X Fo0 Lk F H σ ρ → LkOk Fo0 Lk F → wpS Γ p ρ P → EndsD X Fo0 Lk F P D → TSsw X sts D σ H
theorem ss_nil : SSs (Γ := Γ) X [] .skip := ⟨fun S LO q E => TSsw.of pss_nil (E.nx S (Sub.refl _) q)⟩
theorem ss_cons {st : Stmt} {sts : List Stmt} {p q : PS} (h : SS (Γ := Γ) X st p) (t : SSs (Γ := Γ) X sts q) : SSs (Γ := Γ) X (st :: sts) (.seq p q) :=
  ⟨fun {Fo0 Lk F H σ ρ P D} S LO w E => by
    refine TSsw.of (pss_cons (ps_w X st) (pss_w X sts)) ?_
    refine h.run S LO w ⟨fun S' s q' => t.run S' (LO.sub s) q' (E.sub s), fun S' s i q' => E.rt S' s i q', fun S' s q' => E.bk S' s q', fun S' s q' => E.ct S' s q'⟩⟩
theorem ss_one {st : Stmt} {p : PS} (h : SS (Γ := Γ) X st p) : SSs (Γ := Γ) X [st] p := ⟨fun S LO w E => TSsw.of (pss_one (ps_w X st)) (h.run S LO w E)⟩
/-- a ghost ahead of statements: no code -/
theorem ss_pass {pos : Pos} : SS (Γ := Γ) X (.Pass pos) .skip := ⟨fun S LO q E => TSw.of ps_pass (E.nx S (Sub.refl _) q)⟩
theorem ss_break {pos : Pos} : SS (Γ := Γ) X (.Break pos) .brk := ⟨fun S LO q E => TSw.of ps_break (E.bk S (Sub.refl _) q)⟩
theorem ss_cont {pos : Pos} : SS (Γ := Γ) X (.Continue pos) .cont := ⟨fun S LO q E => TSw.of ps_continue (E.ct S (Sub.refl _) q)⟩
theorem ss_never {st : Stmt} : SS (Γ := Γ) X st .never := ⟨fun S LO q E => (show False from q).elim⟩
theorem ss_doc {x j pos pos'} : SS (Γ := Γ) X (.Expr (.Constant (.str x) j pos) pos') .skip := ⟨fun S LO q E => TSw.of ps_doc (E.nx S (Sub.refl _) q)⟩
theorem ss_ret {e : Expr} {p : PX} {pos : Pos} (h : S2 Γ X e p) : SS (Γ := Γ) X (.Return (some e) pos) (.ret p) :=
  ⟨fun {Fo0 Lk F H σ ρ P D} S LO q E => by
    obtain ⟨Fo, le, S⟩ := S
    exact TSw.of (ps_ret (pe_w X e)) (h.val.run S q fun v F' H' ρ' d S' t i q' => E.rt ⟨Fo, le, S'⟩ t.sub i q')⟩
theorem ss_retN {pos : Pos} : SS (Γ := Γ) X (.Return none pos) .retN := ⟨fun {Fo0 Lk F H σ ρ P D} S LO q E => TSw.of ps_retN (E.rt (ρ := ρ) S (Sub.refl _) .non q)⟩
theorem ss_expr {e : Expr} {p : PX} {pos : Pos} (h : S2 Γ X e p) (hs : swapsWith e none pos.line X.env = pure false) : SS (Γ := Γ) X (.Expr e pos) (.expr p) :=
  ⟨fun {Fo0 Lk F H σ ρ P D} S LO q E => by
    obtain ⟨Fo, le, S⟩ := S
    exact TSw.of (ps_expr (pe_w X e) hs) (h.val.run S q fun v F' H' ρ' d S' t i q' => E.nx ⟨Fo, le, S'⟩ t.sub q')⟩
theorem ss_set {i : Nat} {x : Str} {e : Expr} {p : PX} {pos pos' : Pos} (hN : X.N.Nodup) (hi : X.N[i]? = some x) (hx : Loc X.env.scope x) (h : S2 Γ X e p) (hs : swapsWith e (some (.Name x pos')) pos.line X.env = pure false) (hf : X.fn x = true ∨ X.env.scope.names.lookup x = some .local) :
    SS (Γ := Γ) X (.Assign [.Name x pos'] e pos) (.set i p) :=
  ⟨fun {Fo0 Lk F H σ ρ P D} S LO q E => by
    obtain ⟨Fo, le, S⟩ := S
    exact TSw.of (ps_set hN hi hx (pe_w X e) hs hf) (h.val.run S q fun v F' H' ρ' d S' t i q' => E.nx ⟨Fo, le.bind S'.hs _ i, Sx.bind S' i⟩ t.sub q')⟩
theorem ss_asg {tg e : Expr} {p : PX} {pg : TgX} {pos : Pos} (h : S2 Γ X e p) (hg : SG X tg pg) (hs : swapsWithSole [tg] e pos.line X.env = pure false) (hw : swappedStores [tg] e X.env = pure none) (h1 : (assignEach [tg] X.env).map (·.2) = [assign tg X.env]) :
    SS (Γ := Γ) X (.Assign [tg] e pos) (.asg pg p) :=
  ⟨fun {Fo0 Lk F H σ ρ P D} S LO q E => by
    obtain ⟨Fo, le, S⟩ := S
    refine TSw.of (ps_asg (pe_w X e) (pg_w X tg) hs hw h1) (h.val.run S q fun v F' H' ρ' d S' t i q' => ?_)
    exact hg.run S' i q' fun σ' ρ'' S'' o q'' => E.nx ⟨Fo, le.off S'.hs o, S''⟩ t.sub q''⟩
/-! ### own lists and dicts -/
theorem Sx.bindO {P : Program} {w : World} {K : PySem.W.Frag} {Fo : Hp} {Lk : Lks} {F H : Hp} {σ : L2.St} {ρ : Ev} (S : Sx P w K Fo Lk F H σ ρ) {i : Nat} {a : Addr} {sl : Sl} (h : SlIs P w K Fo Lk F H (some (some (.ref a))) sl) (ap : Apart σ ρ a) : Sx P w K Fo Lk F H (σ.set i (some (.ref a))) (ρ.set i sl) where
  hs := S.hs
  len := by rw [List.length_set]; show _ = (setS ρ.sl i _).length; rw [setS_length]; exact S.len
  sl := fun j => by
    rw [Ev.get_set, set_at, S.len]
    by_cases hij : i = j ∧ i < ρ.sl.length
    · rw [if_pos hij, if_pos hij]; exact h
    · rw [if_neg hij, if_neg hij]; exact S.sl j
  sep := fun x y q hxy hx hy e1 e2 => by
    rw [Ev.get_set] at hx hy
    rw [set_at, S.len] at e1 e2
    by_cases h1 : i = x ∧ i < ρ.sl.length
    · rw [if_pos h1] at e1
      have hq : q = a := by injection e1 with e1; injection e1 with e1; injection e1 with e1; exact e1.symm
      by_cases h2 : i = y ∧ i < ρ.sl.length
      · exact hxy (h1.1.symm.trans h2.1)
      · rw [if_neg h2] at hy e2
        exact ap y q hy e2 hq
    · rw [if_neg h1] at hx e1
      by_cases h2 : i = y ∧ i < ρ.sl.length
      · rw [if_pos h2] at e2
        have hq : q = a := by injection e2 with e2; injection e2 with e2; injection e2 with e2; exact e2.symm
        exact ap x q hx e1 hq
      · rw [if_neg h2] at hy e2
        exact S.sep x y q hxy hx hy e1 e2
theorem fr_own {Fo : Hp} {Lk : Lks} {F H : Hp} {a : Addr} {d : D} {Q : Sl → Prop} (hf : F a = none) (hfo : Fo a = none) (fr : FrD X Lk F H a d) (q : ownS true d Q) : ∃ sl, Q sl ∧ SlIs X.prog X.w X.K Fo Lk F H (some (some (.ref a))) sl := by
  cases d with
  | lst ds => obtain ⟨xs, h1, i1⟩ := fr; exact ⟨.ol ds, q, a, xs, rfl, hf, hfo, h1, i1⟩
  | dct ps => exact ⟨.od ps, q, a, rfl, hf, hfo, fr.2⟩
  | _ => exact fr.elim
theorem ss_setO {i : Nat} {x : Str} {e : Expr} {p : PX} {pos pos' : Pos} (hN : X.N.Nodup) (hi : X.N[i]? = some x) (hx : Loc X.env.scope x) (h : SF (Γ := Γ) X e p) (hs : swapsWith e (some (.Name x pos')) pos.line X.env = pure false) (hf : X.fn x = true ∨ X.env.scope.names.lookup x = some .local) :
    SS (Γ := Γ) X (.Assign [.Name x pos'] e pos) (.setO i p) :=
  ⟨fun {Fo0 Lk F H σ ρ P D} S LO q E => by
    obtain ⟨Fo, le, S⟩ := S
    refine TSw.of (ps_set hN hi hx (pe_w X e) hs hf) (h.run S q fun a F' H' ρ' d S' t hf hfo fr ap q' => ?_)
    obtain ⟨sl, q2, h2⟩ := fr_own hf hfo fr q'
    exact E.nx ⟨Fo, le.bindO S'.hs _ hfo, Sx.bindO S' h2 ap⟩ t.sub q2⟩
/-! ### name = [..] on one line -/
abbrev Cnv (X : Cx) (H H2 : Hp) : Prop := ∀ (pins : List (Addr × Obj)) (σ : L2.St) (s : Shared), Inv X pins σ H s → Inv X pins σ H2 s
def cnvD (X : Cx) (D : L2.Ends) : L2.Ends := { nx := fun σ H => ∃ H2, Cnv X H H2 ∧ D.nx σ H2, rt := fun v H => ∃ H2, Cnv X H H2 ∧ D.rt v H2, bk := fun σ H => ∃ H2, Cnv X H H2 ∧ D.bk σ H2, ct := fun σ H => ∃ H2, Cnv X H H2 ∧ D.ct σ H2 }
theorem TSw.conv {st : Stmt} {D : L2.Ends} {σ : L2.St} {H : Hp} (h : TSw X st (cnvD X D) σ H) : TSw X st D σ H := fun pins s I => by
  refine thn (h pins s I) fun f s' q => ?_
  cases f with
  | next => obtain ⟨σ', H', I', H2, c, q⟩ := q; exact ⟨σ', H2, c _ _ _ I', q⟩
  | brk => obtain ⟨σ', H', I', H2, c, q⟩ := q; exact ⟨σ', H2, c _ _ _ I', q⟩
  | cont => obtain ⟨σ', H', I', H2, c, q⟩ := q; exact ⟨σ', H2, c _ _ _ I', q⟩
  | ret u => obtain ⟨v, σ', H', I', r, H2, c, q⟩ := q; exact ⟨v, σ', H2, c _ _ _ I', r, q⟩
theorem ss_lc {elt tg iter : Expr} {ifs : List Expr} {scope : Scope} {own : List (Str × Nat)} {pos spos py : Pos} {pe : PX} {pg : TgX} {pt : PI} {pc : OX} {i : Nat} {y : Str} (o : Bool) (hc : X.calm = true) (hN : X.N.Nodup) (hy : X.N[i]? = some y) (hyl : X.env.scope.names.lookup y = some .local)
    (hsw : swapsWith (.ListComp elt [⟨tg, iter, ifs, 0⟩] scope pos) (some (.Name y py)) spos.line X.env = pure true) (hi : SI (Γ := Γ) X tg iter pt) (ok : BlkOk X.N X.env.scope scope own)
    (hg : ∀ (s : Shared) (H : Hp) (C : Addr) (cl : List (Str × Addr)) (fp : List Addr), SG (X.blk s H scope (compEnvC scope cl C X.env) fp) tg pg) (ht : ∀ (s : Shared) (H : Hp) (C : Addr) (cl : List (Str × Addr)) (fp : List Addr), STs (Γ := Γ) (X.blk s H scope (compEnvC scope cl C X.env) fp) ifs pc)
    (he : ∀ (s : Shared) (H : Hp) (C : Addr) (cl : List (Str × Addr)) (fp : List Addr), S2 Γ (X.blk s H scope (compEnvC scope cl C X.env) fp) elt pe) (hs : ∀ x, foldedSetIterable iter X.env x = pure x) (hsub : ∀ i, i ∈ tgS pg → i ∈ own.map (·.2)) :
    SS (Γ := Γ) X (.Assign [.Name y py] (.ListComp elt [⟨tg, iter, ifs, 0⟩] scope pos) spos) (if o = true then .setO i (.lc pe pg pt pc (own.map (·.2))) else .set i (.lc pe pg pt pc (own.map (·.2)))) :=
  ⟨fun {Fo0 Lk F H σ ρ P D} S LO q E => by
    obtain ⟨Fo, le, S⟩ := S
    refine TSw.conv (TSw.of (ps_setLc hc hN hy hyl hsw (pi_w X tg iter) ok (gB_pg X tg scope) (tB_pt X ifs scope) (eB_pe X elt scope) hs) ?_)
    have go : ∀ {Q : QD}, wpE Γ (.lc pe pg pt pc (own.map (·.2))) ρ Q → (∀ a F' H' ρ' d, SxX X Fo Lk F' H' σ ρ' → Stq F H F' H' → F' a = none → Fo a = none → FrD X Lk F' H' a d → Apart σ ρ' a → Q d ρ' → D.nx (σ.set i (some (.ref a))) H') → tAsg (tLc (TIw X tg iter) (gB X tg scope) (tB2 X ifs scope) (eB X elt scope) (own.map (·.2))) (gName i) (cnvD X D) σ H := fun {Q} q c =>
      lc_run (R := fun v H' => D.nx (σ.set i (some v)) H') hi hg ht he hsub S q c
    cases o with
    | true =>
      rw [if_pos rfl] at q
      refine go q fun a F' H' ρ' d S' t hf hfo fr ap q' => ?_
      obtain ⟨sl, q2, h2⟩ := fr_own hf hfo fr q'
      exact E.nx ⟨Fo, le.bindO S'.hs _ hfo, Sx.bindO S' h2 ap⟩ t.sub q2
    | false =>
      rw [if_neg (by decide)] at q
      refine go q fun a F' H' ρ' d S' t hf hfo fr ap q' => ?_
      have fin : ∀ (o : HO), H' a = some (locked Lk a o) → ¬ o = potMark → (isDct o ∨ Lk a = none) → IsX X (upd F' a o) (.ref a) d → D.nx (σ.set i (some (.ref a))) H' := fun o hh hn hd iv =>
        E.nx ⟨Fo, le.bindO S'.hs _ hfo, Sx.bind (Sx.frzCell S' hf hfo hh hn hd ap) iv⟩ (t.sub.trans (Sub.upd hf)) q'
      cases d with
      | lst ds =>
        obtain ⟨xs, h1, i1⟩ := fr
        have hl := S'.hs.noLkL hf h1
        exact fin (.lst xs) (by rw [locked_no hl]; exact h1) (fun z => nomatch z) (.inr hl) (.lst upd_same (i1.mono (Sub.upd hf)))
      | dct ps =>
        rcases fr.2 with ⟨kvs, h1, i1⟩ | ⟨es, h1, i1⟩
        · exact fin (.dK kvs) h1 (fun z => nomatch z) (.inl trivial) (.dctK upd_same (i1.mono (Sub.upd hf)))
        · exact fin (dN X.prog X.w a es) h1 dN_ne (.inl trivial) (.dctN upd_same (i1.mono (Sub.upd hf)))
      | _ => exact fr.elim⟩
/-! ### if, while, for -/
theorem ss_if {c : Expr} {a b : List Stmt} {pc : PX} {pa pb : PS} {pos : Pos} (hc : ST (Γ := Γ) X c pc) (ha : SSs (Γ := Γ) X a pa) (hb : SSs (Γ := Γ) X b pb) : SS (Γ := Γ) X (.If c a b pos) (.ife pc pa pb) :=
  ⟨fun {Fo0 Lk F H σ ρ P D} S LO q E => by
    obtain ⟨Fo, le, S⟩ := S
    refine TSw.of (ps_if (pt_w X c) (pss_w X a) (pss_w X b)) ?_
    refine hc.run S q (fun d ρ' h => by cases d <;> first | rfl | exact h.elim) fun k F' H' ρ' S' t q' => ?_
    have q2 : if k = true then wpS Γ pa ρ' P else wpS Γ pb ρ' P := q'
    cases k with
    | true => rw [if_pos rfl] at q2 ⊢; exact ha.run ⟨Fo, le, S'⟩ (LO.sub t.sub) q2 (E.sub t.sub)
    | false => rw [if_neg (by decide)] at q2 ⊢; exact hb.run ⟨Fo, le, S'⟩ (LO.sub t.sub) q2 (E.sub t.sub)⟩
theorem ss_while {c : Expr} {body : List Stmt} {pc : PX} {pb : PS} {pos : Pos} (hp : PassesOwn (model X.prog X.w) X.A X.env X.xe) (hc : ST (Γ := Γ) X c pc) (hb : SSs (Γ := Γ) X body pb) : SS (Γ := Γ) X (.While c body [] pos) (.whl pc pb) :=
  ⟨fun {Fo0 Lk F H σ ρ P D} S LO q E => by
    obtain ⟨n, q⟩ := q
    refine TSw.of (ps_while hp (pt_w X c) (pss_w X body)) ?_
    refine ⟨fun m σ H => ∃ F2 ρ2, SxS X Fo0 Lk F2 H σ ρ2 ∧ Sub F F2 ∧ wpW (wpE Γ pc) (wpS Γ pb) P m ρ2, ⟨n, F, ρ, S, Sub.refl _, q⟩, ?_⟩
    rintro m σ H ⟨F2, ρ2, S2, s2, q2⟩
    cases m with
    | zero => exact (show False from q2).elim
    | succ m =>
      obtain ⟨Fo, le, S2⟩ := S2
      refine hc.run S2 q2 (fun d ρ' h => by cases d <;> first | rfl | exact h.elim) fun k F' H' ρ' S' t q' => ?_
      have q3 : if k = true then wpS Γ pb ρ' { nx := wpW (wpE Γ pc) (wpS Γ pb) P m, ct := wpW (wpE Γ pc) (wpS Γ pb) P m, bk := P.nx, rt := P.rt } else P.nx ρ' := q'
      cases k with
      | false => rw [if_neg (by decide)] at q3 ⊢; exact E.nx ⟨Fo, le, S'⟩ (s2.trans t.sub) q3
      | true =>
        rw [if_pos rfl] at q3 ⊢
        refine ⟨fun σ' H' => ∃ F2 ρ2, SxS X Fo0 Lk F2 H' σ' ρ2 ∧ Sub F F2 ∧ wpW (wpE Γ pc) (wpS Γ pb) P m ρ2, fun σ' H' h => ⟨m, Nat.lt_succ_self m, h⟩, ?_⟩
        refine hb.run ⟨Fo, le, S'⟩ (LO.sub (s2.trans t.sub)) q3 ⟨fun S t' q => ?_, fun S t' i q => ?_, fun S t' q => ?_, fun S t' q => ?_⟩
        · exact ⟨_, _, S, s2.trans (t.sub.trans t'), q⟩
        · exact E.rt S (s2.trans (t.sub.trans t')) i q
        · exact E.nx S (s2.trans (t.sub.trans t')) q
        · exact ⟨_, _, S, s2.trans (t.sub.trans t'), q⟩⟩
theorem Lkd.backS {Fo Fo' : Hp} {Lk Lk' : Lks} {F1 H1 H1' F H : Hp} {σ : L2.St} {ρ : Ev} (L : Lkd X false Fo Lk F1 H1 Lk' H1') (s : Sub F1 F) (S : SxX X Fo' Lk' F H σ ρ) : ∃ H2, SxX X Fo' Lk F H2 σ ρ ∧ Cnv X H H2 := by
  cases L with
  | no => exact ⟨H, S, fun _ _ _ I => I⟩
  | @one a ob u h1 h2 h3 h4 h5 h6 h7 h8 =>
    have hF := s a u (h8 rfl)
    have hp : ¬ F a = some potMark := fun z => by rw [hF] at z; exact h6 (by rw [h8 rfl]; exact z)
    have hH : H a = some (.frz ob u) := by
      rcases S.hs.sub a u hF with ⟨q, _⟩ | ⟨_, q⟩
      · exact (hp (by rw [hF, q])).elim
      · rw [locked_same] at q; exact q
    exact ⟨upd H a u, Sx.unlockA S h1 hH (noFoF S.hs hF) hp, fun pins σ s I => I.unlock hH h7⟩
theorem ss_for {tg iter : Expr} {body : List Stmt} {pg : TgX} {pt : PI} {pb : PS} {pos : Pos} (hp : PassesOwn (model X.prog X.w) X.A X.env X.xe) (hc : X.calm = true) (hi : SI (Γ := Γ) X tg iter pt) (hg : SG X tg pg) (hb : SSs (Γ := Γ) X body pb) (hs : ∀ x, foldedSetIterable iter X.env x = pure x) :
    SS (Γ := Γ) X (.For tg iter body [] pos) (.for_ pg pt pb) :=
  ⟨fun {Fo0 Lk F H σ ρ P D} S LO q E => by
    obtain ⟨Fo, le, S⟩ := S
    refine TSw.conv (TSw.of (ps_for hp hc (pi_w X tg iter) (pg_w X tg) (pss_w X body) hs) ?_)
    refine hi.run false S q fun J Lk' F1 H1 H1' ρ1 ds S1 S1' t1 L W hl q1 => ?_
    have EL : ∀ {σ F' H' ρ}, SxS X Fo0 Lk' F' H' σ ρ → Sub F1 F' → ∃ H2, SxS X Fo0 Lk F' H2 σ ρ ∧ Cnv X H' H2 := fun {σ F' H' ρ} S s => by
      obtain ⟨Fo', le', S⟩ := S
      obtain ⟨H2, S2, c⟩ := L.backS s S
      exact ⟨H2, ⟨Fo', le', S2⟩, c⟩
    have LO1 : LkOk Fo0 Lk' F1 := by
      have LO0 := LO.sub t1.sub
      cases L with
      | no => exact LO0
      | @one a ob u h1 h2 h3 h4 h5 h6 h7 h8 =>
        intro b o e
        by_cases hb : b = a
        · subst hb; exact .inl (by rw [h8 rfl]; exact fun y => nomatch y)
        · rw [updL_ne hb] at e; exact LO0 b o e
    have E1 : EndsD X Fo0 Lk' F1 P (cnvD X D) := by
      refine ⟨fun S s q => ?_, fun S s i q => ?_, fun S s q => ?_, fun S s q => ?_⟩
      · obtain ⟨H2, S2, c⟩ := EL S s; exact ⟨H2, c, E.nx S2 (t1.sub.trans s) q⟩
      · obtain ⟨H2, S2, c⟩ := EL S s; exact ⟨H2, c, E.rt S2 (t1.sub.trans s) i q⟩
      · obtain ⟨H2, S2, c⟩ := EL S s; exact ⟨H2, c, E.bk S2 (t1.sub.trans s) q⟩
      · obtain ⟨H2, S2, c⟩ := EL S s; exact ⟨H2, c, E.ct S2 (t1.sub.trans s) q⟩
    refine ⟨fun i m σ Hc => m = ds.length - i ∧ i ≤ ds.length ∧ ∃ F2 ρ2, SxS X Fo0 Lk' F2 Hc σ ρ2 ∧ Sub F1 F2 ∧ wpL pg (wpS Γ pb) P (ds.drop i) ρ2, ⟨_, rfl, Nat.zero_le _, F1, ρ1, ⟨Fo, le, S1'⟩, Sub.refl _, q1.run⟩, ?_⟩
    rintro i m σ Hc ⟨rfl, hil, F2, ρ2, ⟨Fo2, le2, S2⟩, s2, q2⟩
    have gd : GdE false F1 H1' F2 Hc := s2
    by_cases hlt : i < ds.length
    · refine .inr ⟨W.go i hlt S2.hs gd, fun σ' H' => ∃ F3 ρ3, SxS X Fo0 Lk' F3 H' σ' ρ3 ∧ Sub F1 F3 ∧ wpL pg (wpS Γ pb) P (ds.drop (i + 1)) ρ3, fun σ' H' h => ⟨_, (by omega : ds.length - (i + 1) < ds.length - i), rfl, hlt, h⟩, fun x H' y => ?_⟩
      obtain ⟨F3, d, ed, h3, t3, i3⟩ := W.yld i x H' hlt S2.hs gd y
      rw [drop_at ed] at q2
      have S3 : SxX X Fo2 Lk' F3 H' σ ρ2 := Sx.step S2 h3 t3
      refine hg.run S3 i3 q2 fun σ2 ρ4 S4 off q4 => ?_
      refine hb.run ⟨Fo2, le2.off S3.hs off, S4⟩ (LO1.sub (s2.trans t3.sub)) q4 ⟨fun S t' q => ?_, fun S t' i q => ?_, fun S t' q => ?_, fun S t' q => ?_⟩
      · exact ⟨_, _, S, s2.trans (t3.sub.trans t'), q⟩
      · exact E1.rt S (s2.trans (t3.sub.trans t')) i q
      · exact E1.nx S (s2.trans (t3.sub.trans t')) q
      · exact ⟨_, _, S, s2.trans (t3.sub.trans t'), q⟩
    · have e : i = ds.length := by omega
      subst e
      rw [List.drop_length] at q2
      exact .inl ⟨W.stop S2.hs gd, E1.nx ⟨Fo2, le2, S2⟩ s2 q2⟩⟩
end DL
/-! The data layer, part 22: several names at once. -/
namespace DL
open PySem PySem.Spec PyProof.Rows L2
variable {Γ : Nat → FSpec} {X : Cx}

/-- values, some of them new and nobody else's (their cells: the last list) -/
inductive Mix (X : Cx) (Fo : Hp) (Lk : Lks) (F H : Hp) : List V → List Bool → List D → List Addr → Prop
  | nil : Mix X Fo Lk F H [] [] [] []
  | val {v : V} {d : D} {vs : List V} {os : List Bool} {ds : List D} {as : List Addr} : IsX X F v d → Mix X Fo Lk F H vs os ds as → Mix X Fo Lk F H (v :: vs) (false :: os) (d :: ds) as
  | own {a : Addr} {d : D} {vs : List V} {os : List Bool} {ds : List D} {as : List Addr} : F a = none → Fo a = none → FrD X Lk F H a d → a ∉ as → Mix X Fo Lk F H vs os ds as → Mix X Fo Lk F H (.ref a :: vs) (true :: os) (d :: ds) (a :: as)
structure SM (X : Cx) (es : List Expr) (os : List Bool) (ps : PXs) : Prop where
  run : ∀ {Fo : Hp} {Lk : Lks} {F H : Hp} {σ : L2.St} {ρ : Ev} {Q : List D → Ev → Prop} {R : List V → Hp → Prop}, SxX X Fo Lk F H σ ρ → wpEs Γ ps ρ Q → (∀ ds ρ', Q ds ρ' → noOdl ρ' = true) →
    (∀ vs F' H' ρ' ds as, vs.length = es.length → SxX X Fo Lk F' H' σ ρ' → Stq F H F' H' → Mix X Fo Lk F' H' vs os ds as → (∀ a ∈ as, Apart σ ρ' a) → Q ds ρ' → R vs H') → TAw X es σ H R
theorem sm_nil : SM (Γ := Γ) X [] [] .nil := ⟨fun {Fo Lk F H σ ρ Q R} S q hno c => TAw.of pa_nil (c [] F H ρ [] [] rfl S (Stq.refl F H) .nil (fun _ h => nomatch h) q)⟩
theorem sm_val {e : Expr} {es : List Expr} {p : PX} {ps : PXs} {os : List Bool} (h : S2 Γ X e p) (ht : SM (Γ := Γ) X es os ps) (hs : isStar e = false) : SM (Γ := Γ) X (e :: es) (false :: os) (.cons p ps) :=
  ⟨fun {Fo Lk F H σ ρ Q R} S q hno c => by
    refine TAw.of (pa_cons (pe_w X e) (pa_w X es) (starEach_cons hs)) ?_
    exact h.val.run S q fun v F1 H1 ρ1 d S1 t1 i1 q1 => ht.run S1 q1 (fun ds ρ' h => hno _ ρ' h) fun vs F2 H2 ρ2 ds as l2 S2 t2 m2 ap q2 => c _ F2 H2 ρ2 _ as (by rw [List.length_cons, List.length_cons, l2]) S2 (t1.trans t2) (.val (i1.mono t2.sub) m2) ap q2⟩
theorem Sx.foProt {P : Program} {w : World} {K : PySem.W.Frag} {Fo : Hp} {Lk : Lks} {F H : Hp} {σ : L2.St} {ρ : Ev} (S : Sx P w K Fo Lk F H σ ρ) {a : Addr} {o : HO} (hf : F a = none) (hfo : Fo a = none) (hh : H a = some o) (hl : Lk a = none) (ap : Apart σ ρ a) : Sx P w K (upd Fo a o) Lk F H σ ρ := by
  refine ⟨⟨S.hs.sub, fun b u e => ?_, S.hs.lk⟩, S.len, fun i => ?_, S.sep⟩
  · by_cases hb : b = a
    · subst hb; rw [upd_same] at e; cases e; exact ⟨hh, hf⟩
    · rw [upd_ne hb] at e; exact S.hs.fo b u e
  · have q := S.sl i
    cases e : ρ.get i with
    | any => trivial
    | dat d => rw [e] at q; exact q
    | odl ps => rw [e] at q; obtain ⟨p, h1, h2⟩ := q; exact ⟨p, h1, h2.fo fun b u z => by rw [upd_ne (ne_of_none z hfo)]; exact z⟩
    | ol ds =>
      rw [e] at q
      obtain ⟨p, ys, h1, h2, h3, h4, h5⟩ := q
      exact ⟨p, ys, h1, h2, by rw [upd_ne (ap i p (by rw [e]; rfl) h1)]; exact h3, h4, h5⟩
    | od ps =>
      rw [e] at q
      obtain ⟨p, h1, h2, h3, h4⟩ := q
      exact ⟨p, h1, h2, by rw [upd_ne (ap i p (by rw [e]; rfl) h1)]; exact h3, h4⟩
theorem Mix.unprot {Fo : Hp} {Lk : Lks} {F H : Hp} {a : Addr} {o : HO} : ∀ {vs : List V} {os : List Bool} {ds : List D} {as : List Addr}, Mix X (upd Fo a o) Lk F H vs os ds as → Mix X Fo Lk F H vs os ds as ∧ a ∉ as
  | _, _, _, _, .nil => ⟨.nil, fun h => nomatch h⟩
  | _, _, _, _, .val i t => ⟨.val i (Mix.unprot t).1, (Mix.unprot t).2⟩
  | _, _, _, _, .own (a := b) h1 h2 h3 h4 t => by
    have hb : b ≠ a := fun z => by subst z; rw [upd_same] at h2; cases h2
    rw [upd_ne hb] at h2
    refine ⟨.own h1 h2 h3 h4 (Mix.unprot t).1, fun m => ?_⟩
    rcases List.mem_cons.mp m with z | m
    · exact hb z.symm
    · exact (Mix.unprot t).2 m
theorem FrD.obj {Fo : Hp} {Lk : Lks} {k : Nat} {F H : Hp} {a : Addr} {d : D} (S : Hs Fo Lk k F H) (hf : F a = none) (fr : FrD X Lk F H a d) : Lk a = none ∧ ∃ o, H a = some o ∧ ∀ F' H', Sub F F' → H' a = some o → FrD X Lk F' H' a d := by
  cases d with
  | lst ds =>
    obtain ⟨xs, h1, i1⟩ := fr
    exact ⟨S.noLkL hf h1, _, h1, fun F' H' s h' => ⟨xs, h', i1.mono s⟩⟩
  | dct ps =>
    obtain ⟨hl, fr⟩ := fr
    obtain ⟨o, h1, h2⟩ := fr.some
    exact ⟨hl, o, h1, fun F' H' s h' => ⟨hl, h2 F' H' s h'⟩⟩
  | _ => exact fr.elim
theorem sm_own {e : Expr} {es : List Expr} {p : PX} {ps : PXs} {os : List Bool} (h : SF (Γ := Γ) X e p) (ht : SM (Γ := Γ) X es os ps) (hs : isStar e = false) : SM (Γ := Γ) X (e :: es) (true :: os) (.cons p ps) :=
  ⟨fun {Fo Lk F H σ ρ Q R} S q hno c => by
    refine TAw.of (pa_cons (pe_w X e) (pa_w X es) (starEach_cons hs)) ?_
    refine h.run S q fun a F1 H1 ρ1 d S1 t1 hf hfo fr ap q1 => ?_
    obtain ⟨hl, o, h1, h2⟩ := fr.obj S1.hs hf
    have S1' : SxX X (upd Fo a o) Lk F1 H1 σ ρ1 := Sx.foProt S1 hf hfo h1 hl ap
    refine ht.run S1' q1 (fun ds ρ' h => hno _ ρ' h) fun vs F2 H2 ρ2 ds as l2 S2 t2 m2 ap2 q2 => ?_
    obtain ⟨g1, g2⟩ := S2.hs.fo a o upd_same
    obtain ⟨m3, ha⟩ := m2.unprot
    refine c _ F2 H2 ρ2 _ (a :: as) (by rw [List.length_cons, List.length_cons, l2]) (Sx.foDrop S2 hfo (hno _ ρ2 q2)) (t1.trans t2) (.own g2 hfo (h2 F2 H2 t2.sub g1) ha m3) (fun b hb => ?_) q2
    rcases List.mem_cons.mp hb with z | hb
    · rw [z]; exact S2.foApart upd_same
    · exact ap2 b hb⟩
/-- the names are set, one behind the other -/
def setsN : L2.St → List Nat → List V → L2.St
  | σ, i :: is, v :: vs => setsN (σ.set i (some v)) is vs
  | σ, _, _ => σ
theorem Apart.bind {σ : L2.St} {ρ : Ev} {a : Addr} (h : Apart σ ρ a) (hl : σ.length = ρ.sl.length) {i : Nat} {v : V} {sl : Sl} (hv : sl.own = true → v ≠ .ref a) : Apart (σ.set i (some v)) (ρ.set i sl) a := fun j q ho e => by
  rw [Ev.get_set] at ho
  rw [set_at, hl] at e
  by_cases hj : i = j ∧ i < ρ.sl.length
  · rw [if_pos hj] at ho e
    injection e with e; injection e with e
    intro z
    exact hv ho (by rw [e, z])
  · rw [if_neg hj] at ho e
    exact h j q ho e
theorem par_run {Fo : Hp} {Lk : Lks} {F H : Hp} {Q : Ev → Prop} : ∀ {is : List Nat} {vs : List V} {os : List Bool} {ds : List D} {as : List Addr} {σ : L2.St} {ρ : Ev}, SxX X Fo Lk F H σ ρ → Mix X Fo Lk F H vs os ds as → (∀ a ∈ as, Apart σ ρ a) → parS is os ds ρ Q → ∃ ρ', SxX X Fo Lk F H (setsN σ is vs) ρ' ∧ Q ρ'
  | [], _, _, _, _, σ, ρ, S, .nil, _, q => ⟨ρ, S, q⟩
  | i :: is, v :: vs, false :: os, d :: ds, as, σ, ρ, S, .val iv t, ap, q => par_run (σ := σ.set i (some v)) (ρ := ρ.set i (.dat d)) (Sx.bind S iv) t (fun a ha => (ap a ha).bind S.len (fun z => by cases z)) q
  | i :: is, _ :: vs, true :: os, d :: ds, _, σ, ρ, S, .own (a := a0) h1 h2 h3 h4 t, ap, q => by
    obtain ⟨sl, q2, hs⟩ := fr_own (Q := fun s => parS is os ds (ρ.set i s) Q) h1 h2 h3 q
    refine par_run (σ := σ.set i (some (.ref a0))) (ρ := ρ.set i sl) (Sx.bindO S hs (ap _ List.mem_cons_self)) t (fun b hb => (ap b (List.mem_cons_of_mem _ hb)).bind S.len (fun _ z => ?_)) q2
    injection z with z
    exact h4 (by rw [z]; exact hb)
  | [], _ :: _, false :: _, _ :: _, _, _, _, _, .val _ _, _, q => (show False from q).elim
  | [], _ :: _, true :: _, _ :: _, _, _, _, _, .own _ _ _ _ _, _, q => (show False from q).elim
  | _ :: _, [], [], [], _, _, _, _, .nil, _, q => (show False from q).elim
theorem Mix.ext {Fo0 Fo : Hp} {Lk : Lks} {k : Nat} {F H : Hp} (S : Hs Fo Lk k F H) : ∀ {is : List Nat} {vs : List V} {os : List Bool} {ds : List D} {as : List Addr} {σ : L2.St}, Ext X Fo0 Fo σ → Mix X Fo Lk F H vs os ds as → Ext X Fo0 Fo (setsN σ is vs)
  | [], _, _, _, _, σ, h, _ => h
  | i :: is, _, _, _, _, σ, h, .nil => h
  | i :: is, _, _, _, _, σ, h, .val iv t => Mix.ext (is := is) (σ := σ.set i (some _)) S (h.bind S i iv) t
  | i :: is, _, _, _, _, σ, h, .own h1 h2 h3 h4 t => Mix.ext (is := is) (σ := σ.set i (some _)) S (h.bindO S i h2) t
theorem ss_par2 {i j : Nat} {x y : Str} {a b : Expr} {os : List Bool} {ps : PXs} {px py pt pos : Pos} {kt k2 pt2} (hc : X.calm = true) (hN : X.N.Nodup) (hi : X.N[i]? = some x) (hj : X.N[j]? = some y) (hij : i ≠ j)
    (hx : X.env.scope.names.lookup x = some .local) (hy : X.env.scope.names.lookup y = some .local) (ha : SM (Γ := Γ) X [a, b] os ps)
    (hw : swappedStores [.Tuple [.Name x px, .Name y py] kt pt] (.Tuple [a, b] k2 pt2) X.env = pure (some [x, y]))
    (hs : swapsWithSole [.Tuple [.Name x px, .Name y py] kt pt] (.Tuple [a, b] k2 pt2) pos.line X.env = pure false) :
    SS (Γ := Γ) X (.Assign [.Tuple [.Name x px, .Name y py] kt pt] (.Tuple [a, b] k2 pt2) pos) (.par [i, j] os ps) :=
  ⟨fun {Fo0 Lk F H σ ρ P D} S LO q E => by
    obtain ⟨Fo, le, S⟩ := S
    refine TSw.of (ps_par hc hN hi hj hij hx hy (pa_w X _) hw hs) ?_
    refine ha.run S q (fun ds ρ' h => h.1) fun vs F1 H1 ρ1 ds as l1 S1 t1 m1 ap q1 => ?_
    obtain ⟨ρ2, S2, q2⟩ := par_run S1 m1 ap q1.2
    have le2 := Mix.ext (is := [i, j]) S1.hs le m1
    match vs, l1, S2, le2 with
    | [v, w'], _, S2, le2 => exact ⟨v, w', rfl, E.nx ⟨Fo, le2, S2⟩ t1.sub q2⟩⟩
theorem ss_par3 {i j l : Nat} {x y z : Str} {a b c : Expr} {os : List Bool} {ps : PXs} {px py pz pt pos : Pos} {kt k2 pt2} (hc : X.calm = true) (hN : X.N.Nodup) (hi : X.N[i]? = some x) (hj : X.N[j]? = some y) (hl : X.N[l]? = some z) (hij : i ≠ j) (hil : i ≠ l) (hjl : j ≠ l)
    (hx : X.env.scope.names.lookup x = some .local) (hy : X.env.scope.names.lookup y = some .local) (hz : X.env.scope.names.lookup z = some .local) (ha : SM (Γ := Γ) X [a, b, c] os ps)
    (hw : swappedStores [.Tuple [.Name x px, .Name y py, .Name z pz] kt pt] (.Tuple [a, b, c] k2 pt2) X.env = pure (some [x, y, z]))
    (hs : swapsWithSole [.Tuple [.Name x px, .Name y py, .Name z pz] kt pt] (.Tuple [a, b, c] k2 pt2) pos.line X.env = pure false) :
    SS (Γ := Γ) X (.Assign [.Tuple [.Name x px, .Name y py, .Name z pz] kt pt] (.Tuple [a, b, c] k2 pt2) pos) (.par [i, j, l] os ps) :=
  ⟨fun {Fo0 Lk F H σ ρ P D} S LO q E => by
    obtain ⟨Fo, le, S⟩ := S
    refine TSw.of (ps_par3 hc hN hi hj hl hij hil hjl hx hy hz (pa_w X _) hw hs) ?_
    refine ha.run S q (fun ds ρ' h => h.1) fun vs F1 H1 ρ1 ds as l1 S1 t1 m1 ap q1 => ?_
    obtain ⟨ρ2, S2, q2⟩ := par_run S1 m1 ap q1.2
    have le2 := Mix.ext (is := [i, j, l]) S1.hs le m1
    match vs, l1, S2, le2 with
    | [u, v, w'], _, S2, le2 => exact ⟨u, v, w', rfl, E.nx ⟨Fo, le2, S2⟩ t1.sub q2⟩⟩
/-! ### many names: by a tuple -/
/-- targets that are names, at the slots is -/
structure GNs (X : Cx) (ts : List Expr) (is : List Nat) : Prop where
  len : ts.length = is.length
  run : ∀ {vs : List V} {σ : L2.St} {H : Hp} {R : L2.St → Hp → Prop}, vs.length = is.length → R (setsN σ is vs) H → TGsw X ts vs σ H R
theorem gns_nil : GNs X [] [] := ⟨rfl, fun {vs σ H R} h q => by
  cases vs with
  | nil => exact TGsw.of pgs_nil ⟨rfl, q⟩
  | cons _ _ => simp at h⟩
theorem gns_cons {i : Nat} {x : Str} {pos : Pos} {ts : List Expr} {is : List Nat} (hN : X.N.Nodup) (hi : X.N[i]? = some x) (hx : Loc X.env.scope x) (hf : X.fn x = true ∨ X.env.scope.names.lookup x = some .local) (h : GNs X ts is) (hs : (assignEach (.Name x pos :: ts) X.env).map (·.2) = assign (.Name x pos) X.env :: (assignEach ts X.env).map (·.2)) : GNs X (.Name x pos :: ts) (i :: is) :=
  ⟨by rw [List.length_cons, List.length_cons, h.len], fun {vs σ H R} hl q => by
    cases vs with
    | nil => simp at hl
    | cons v vs => exact TGsw.of (pgs_cons (pg_name hN hi hx hf) (pgs_w X ts) hs) ⟨v, vs, rfl, h.run (by simpa using hl) q⟩⟩
theorem ss_parN {ts es : List Expr} {is : List Nat} {os : List Bool} {ps : PXs} {pt pos pt2 : Pos} {kt k2} (hc : X.calm = true) (hg : GNs X ts is) (ha : SM (Γ := Γ) X es os ps) (hl : es.length = is.length) (hl2 : es.length ≤ 1000)
    (hn : (assignEach ts X.env).length = ts.length) (hst : (assignEach ts X.env).findIdx? (·.1) = none)
    (hs : swapsWithSole [.Tuple ts kt pt] (.Tuple es k2 pt2) pos.line X.env = pure false) (hw : swappedStores [.Tuple ts kt pt] (.Tuple es k2 pt2) X.env = pure none) (h1 : (assignEach [.Tuple ts kt pt] X.env).map (·.2) = [assign (.Tuple ts kt pt) X.env]) :
    SS (Γ := Γ) X (.Assign [.Tuple ts kt pt] (.Tuple es k2 pt2) pos) (.par is os ps) :=
  ⟨fun {Fo0 Lk F H σ ρ P D} S LO q E => by
    obtain ⟨Fo, le, S⟩ := S
    refine TSw.of (ps_asg (pe_tup (pa_w X es)) (pg_tup hc (pgs_w X ts) hn hst) hs hw h1) ?_
    refine ha.run S q (fun ds ρ' h => h.1) fun vs F1 H1 ρ1 ds as l1 S1 t1 m1 ap q1 => ⟨by rw [l1, sizeLine_eq]; omega, fun p hp => ?_⟩
    have S1' : SxX X Fo Lk F1 (upd H1 p (.tup vs)) σ ρ1 := Sx.junk S1 hp
    have m2 : Mix X Fo Lk F1 (upd H1 p (.tup vs)) vs os ds as := by
      have go : ∀ {vs' : List V} {os : List Bool} {ds : List DL.D} {as : List Addr}, Mix X Fo Lk F1 H1 vs' os ds as → Mix X Fo Lk F1 (upd H1 p (.tup vs)) vs' os ds as := fun m => by
        induction m with
        | nil => exact .nil
        | val i t ih => exact .val i ih
        | own h1 h2 h3 h4 t ih =>
          obtain ⟨_, o, g1, g2⟩ := h3.obj S1.hs h1
          exact .own h1 h2 (g2 _ _ (Sub.refl _) (by rw [upd_ne (ne_of_none g1 hp)]; exact g1)) h4 ih
      exact go m1
    obtain ⟨ρ2, S2, q2⟩ := par_run S1' m2 ap q1.2
    refine ⟨p, vs, rfl, .inl (.inl upd_same), by rw [l1, hl, hg.len], hg.run (by rw [l1, hl]) (E.nx ⟨Fo, Mix.ext S1'.hs le m2, S2⟩ t1.sub q2)⟩⟩
end DL
/-! The data layer, part 23: own lists and dicts change. -/
namespace DL
open PySem PySem.Spec PyProof.Rows L2
variable {Γ : Nat → FSpec} {X : Cx}

/-- an own cell is written -/
theorem Sx.writeO {P : Program} {w : World} {K : PySem.W.Frag} {Fo : Hp} {Lk : Lks} {F H : Hp} {σ : L2.St} {ρ : Ev} (S : Sx P w K Fo Lk F H σ ρ) {i : Nat} {p : Addr} {o : HO} {sl : Sl} (hi : σ[i]? = some (some (.ref p))) (ho : (ρ.get i).own = true) (hf : F p = none) (hfo : Fo p = none) (hl : Lk p = none) (hs : SlIs P w K Fo Lk F (upd H p o) (some (some (.ref p))) sl) (hso : sl.own = true) : Sx P w K Fo Lk F (upd H p o) σ (ρ.set i sl) where
  hs := S.hs.write hf hfo hl
  len := by show _ = (setS ρ.sl i _).length; rw [setS_length]; exact S.len
  sl := fun j => by
    rw [Ev.get_set]
    by_cases hij : i = j ∧ i < ρ.sl.length
    · rw [if_pos hij, ← hij.1, hi]; exact hs
    · rw [if_neg hij]
      have hne : i ≠ j := fun z => hij ⟨z, by have := (List.getElem?_eq_some_iff.mp hi).1; rw [S.len] at this; exact this⟩
      have q := S.sl j
      cases e : ρ.get j with
      | any => trivial
      | dat d => rw [e] at q; exact q
      | odl ps => rw [e] at q; exact q
      | ol ds =>
        rw [e] at q
        obtain ⟨r, ys, h1, h2, h3, h4, h5⟩ := q
        have hr : r ≠ p := fun z => by subst z; exact S.sep i j r hne ho (by rw [e]; rfl) hi h1
        exact ⟨r, ys, h1, h2, h3, by rw [upd_ne hr]; exact h4, h5⟩
      | od ps =>
        rw [e] at q
        obtain ⟨r, h1, h2, h3, h4⟩ := q
        have hr : r ≠ p := fun z => by subst z; exact S.sep i j r hne ho (by rw [e]; rfl) hi h1
        obtain ⟨u, h5, h6⟩ := h4.some
        exact ⟨r, h1, h2, h3, h6 F _ (Sub.refl F) (by rw [upd_ne hr]; exact h5)⟩
  sep := fun a b q hab ha hb e1 e2 => by
    have own : ∀ c, ((ρ.set i sl).get c).own = true → (ρ.get c).own = true := fun c h => by
      rw [Ev.get_set] at h
      by_cases hc : i = c ∧ i < ρ.sl.length
      · rw [← hc.1]; exact ho
      · rw [if_neg hc] at h; exact h
    exact S.sep a b q hab (own a ha) (own b hb) e1 e2
theorem own_lk {Fo0 Fo : Hp} {Lk : Lks} {F : Hp} (LO : LkOk Fo0 Lk F) (le : ∀ a o, Fo0 a = some o → Fo a = some o) {p : Addr} (hf : F p = none) (hfo : Fo p = none) : Lk p = none := by
  cases e : Lk p with
  | none => rfl
  | some ob =>
    rcases LO p ob e with q | q
    · exact (q hf).elim
    · cases z : Fo0 p with
      | none => exact (q z).elim
      | some o => have h := le p o z; rw [hfo] at h; cases h
theorem ss_app {i : Nat} {x : Str} {e : Expr} {p : PX} {np apos cpos pos : Pos} (hN : X.N[i]? = some x) (hv : Vis X.env.scope x) (hd : (x == ("__debug__" : Str)) = false) (hcd : (x == ("__classdict__" : Str)) = false) (h : S2 Γ X e p)
    (hbase : attributeBase (.Name x np) "append" X.env (eval (.Name x np) X.env) = eval (.Name x np) X.env) (hline : (apos.endLine == cpos.line) = true) (hse : isStar e = false)
    (hfew : ((backTo cpos (starEach [e] X.env)).all (fun x => !x.1) && (backToKw cpos (keywordEach [] X.env)).all (fun x => x.1.isSome) && decide (([e] : List Expr).length + ([] : List Keyword).length + (if ([] : List Keyword).isEmpty then 0 else 1) < 30)) = true)
    (hs : swapsWith (.Call (.Attribute (.Name x np) "append" apos) [e] [] cpos) none pos.line X.env = pure false) :
    SS (Γ := Γ) X (.Expr (.Call (.Attribute (.Name x np) "append" apos) [e] [] cpos) pos) (.app i p) :=
  ⟨fun {Fo0 Lk F H σ ρ P D} S LO q E => by
    obtain ⟨Fo, le, S⟩ := S
    refine TSw.of (ps_expr (pe_bm PySem.F.plainAttrs_list PySem.F.slot_list_append PySem.F.type_list_append mt_append (pe_var hN hv hd hcd) (pa_cons (pe_w X e) pa_nil (starEach_cons hse)) hbase hfew hline (starEach_cons hse) rfl) hs) ?_
    cases e0 : ρ.get i with
    | ol ds0 =>
      simp only [wpS, e0] at q
      have z := S.sl i
      rw [e0] at z
      obtain ⟨p0, xs0, h1, _, _, h4, _⟩ := z
      refine ⟨.ref p0, h1, .inl ⟨rfl, xs0, SqL.of h4⟩, ?_⟩
      refine h.val.run S q fun v F1 H1 ρ1 d S1 t1 i1 q1 => ?_
      cases e1 : ρ1.get i with
      | ol ds =>
        simp only [e1] at q1
        have z := S1.sl i
        rw [e1] at z
        obtain ⟨p1, xs, g1, g2, g3, g4, g5⟩ := z
        rw [h1] at g1; cases g1
        have hl := S1.hs.noLkL g2 g4
        refine ⟨p0, xs, v, rfl, rfl, g4, by rw [g5.length]; exact q1.1, ?_⟩
        exact E.nx ⟨Fo, le, Sx.writeO S1 h1 (by rw [e1]; rfl) g2 g3 hl (sl := .ol (ds ++ [d])) ⟨p0, xs ++ [v], rfl, g2, g3, upd_same, g5.snoc i1⟩ rfl⟩ t1.sub q1.2
      | _ => simp only [e1] at q1
    | _ => simp only [wpS, e0] at q⟩
theorem ss_ext {i : Nat} {x : Str} {e : Expr} {p : PX} {np apos cpos pos : Pos} (hN : X.N[i]? = some x) (hv : Vis X.env.scope x) (hd : (x == ("__debug__" : Str)) = false) (hcd : (x == ("__classdict__" : Str)) = false) (h : S2 Γ X e p)
    (hbase : attributeBase (.Name x np) "extend" X.env (eval (.Name x np) X.env) = eval (.Name x np) X.env) (hline : (apos.endLine == cpos.line) = true) (hse : isStar e = false)
    (hfew : ((backTo cpos (starEach [e] X.env)).all (fun x => !x.1) && (backToKw cpos (keywordEach [] X.env)).all (fun x => x.1.isSome) && decide (([e] : List Expr).length + ([] : List Keyword).length + (if ([] : List Keyword).isEmpty then 0 else 1) < 30)) = true)
    (hs : swapsWith (.Call (.Attribute (.Name x np) "extend" apos) [e] [] cpos) none pos.line X.env = pure false) :
    SS (Γ := Γ) X (.Expr (.Call (.Attribute (.Name x np) "extend" apos) [e] [] cpos) pos) (.ext i p) :=
  ⟨fun {Fo0 Lk F H σ ρ P D} S LO q E => by
    obtain ⟨Fo, le, S⟩ := S
    refine TSw.of (ps_expr (pe_bm PySem.F.plainAttrs_list PySem.F.slot_list_extend PySem.F.type_list_extend mt_extend (pe_var hN hv hd hcd) (pa_cons (pe_w X e) pa_nil (starEach_cons hse)) hbase hfew hline (starEach_cons hse) rfl) hs) ?_
    cases e0 : ρ.get i with
    | ol ds0 =>
      simp only [wpS, e0] at q
      have z := S.sl i
      rw [e0] at z
      obtain ⟨p0, xs0, h1, _, _, h4, _⟩ := z
      refine ⟨.ref p0, h1, .inl ⟨rfl, xs0, SqL.of h4⟩, ?_⟩
      refine h.val.run S q fun v F1 H1 ρ1 d S1 t1 i1 q1 => ?_
      cases e1 : ρ1.get i with
      | ol ds =>
        cases d with
        | lst es =>
          simp only [e1] at q1
          have z := S1.sl i
          rw [e1] at z
          obtain ⟨p1, xs, g1, g2, g3, g4, g5⟩ := z
          rw [h1] at g1; cases g1
          have hl := S1.hs.noLkL g2 g4
          cases i1 with
          | @lst b zs _ k1 k2 =>
            refine ⟨p0, b, xs, zs, rfl, rfl, g4, S1.hs.lst k1, by rw [g5.length, k2.length]; exact q1.1, ?_⟩
            exact E.nx ⟨Fo, le, Sx.writeO S1 h1 (by rw [e1]; rfl) g2 g3 hl (sl := .ol (ds ++ es)) ⟨p0, xs ++ zs, rfl, g2, g3, upd_same, g5.append k2⟩ rfl⟩ t1.sub q1.2
        | _ => simp only [e1] at q1
      | _ => simp only [e1] at q1
    | _ => simp only [wpS, e0] at q⟩
/-! ### o[k] = e -/
def PSw (X : Cx) : TSet := fun o i v H Q => ∀ (pins : List (Addr × Obj)) (s : Shared) (σ : L2.St) (ov iv u : Value), Inv X pins σ H s → RelV o ov → RelV i iv → RelV v u → wpAny (model X.prog X.w) X.A (setItem ov iv u) (fun _ s' => ∃ H', Inv X pins σ H' s' ∧ Q H') X.xe s
theorem pset_w : PSet X (PSw X) := fun pins s σ H o i v ov iv u Q I ro ri rv h => h pins s σ ov iv u I ro ri rv
/-- a dict is stored into -/
theorem put_dct {Fo : Hp} {Lk : Lks} {k : Nat} {F H : Hp} {p : Addr} {ps : List (D × D)} {vk v : V} {dk d : D} {Q : Hp → Prop} (hu : X.A.units + 70 < cLine) (S : Hs Fo Lk k F H) (hl : Lk p = none) (own : OwnD X.prog X.w X.K Lk F H p ps) (hf : F p = none) (ik : IsX X F vk dk) (iv : IsX X F v d) (hk : kOk ps dk = true) (hz : ps.length < sizeLine)
    (c : ∀ H', (∃ o, H' = upd H p o) → OwnD X.prog X.w X.K Lk F H' p (putD ps dk d) → Q H') : PSw X (.ref p) vk v H Q := fun pins s σ ov iv' u I ro ri rv => by
  cases ro
  obtain ⟨g, hsys⟩ := DAt.of I S own hk ik ri
  have mu : Mut (H p) := by
    rcases own with ⟨kvs, h, _⟩ | ⟨es, h, _⟩
    · rw [h, locked_no hl]; trivial
    · rw [h, locked_no hl]; trivial
  have hup : ∀ o, upd H p o p = some (locked Lk p o) := fun o => by rw [upd_same, locked_no hl]
  cases g with
  | kk dd rel i ru ix =>
    obtain ⟨kv', g1, g2⟩ := put_k ix iv rv rel i
    have hlen := isK_len (X := X) i
    refine wpAny_setItem_pairs (kV_is ru) dd (fun h' dd' sb => ?_) (by rw [← Paired.length rel, hlen]; omega)
    have hz' : kv'.length ≤ sizeLine := by
      have l1 := isK_len (X := X) g2
      have l2 : (putD ps dk d).length ≤ ps.length + 1 := by
        unfold putD; split
        · rw [List.length_map]; omega
        · rw [List.length_append]; simp
      omega
    have he : ∃ q, h'.get? p = some q := by obtain ⟨q, _, _, hq, _⟩ := dd'; exact ⟨q, hq⟩
    exact ⟨_, d_write (t' := s.toks + 1) I mu sb he (dk_new hz' hsys g1 dd'), c _ ⟨_, rfl⟩ (.inl ⟨kv', hup _, g2⟩)⟩
  | nn dd rel i eb hkk hn ix =>
    subst eb
    have htk : isTK dk = true := by
      rcases kOk_or hk with h | h
      · exact h
      · cases dk with
        | int _ => cases ix
        | str _ => cases ix
        | _ => cases h
    obtain ⟨es', g1, g2⟩ := put_n ix htk hn iv rv rel i
    have hlen := isN_len (X := X) i
    refine wpAny_setItem_heap (room_n hu) hkk dd (fun h' dd' sb => ?_) (by rw [← Paired.length rel, hlen]; omega)
    have hz' : es'.length ≤ sizeLine := by
      have l1 := isN_len (X := X) g2
      have l2 : (putD ps dk d).length ≤ ps.length + 1 := by
        unfold putD; split
        · rw [List.length_map]; omega
        · rw [List.length_append]; simp
      omega
    have he : ∃ q, h'.get? p = some q := by obtain ⟨q, _, _, hq, _⟩ := dd'; exact ⟨q, hq⟩
    exact ⟨_, d_write I mu sb he (dn_ok hz' hsys g1 dd'), c _ ⟨_, rfl⟩ (.inr ⟨es', hup _, g2⟩)⟩
theorem ss_put {i : Nat} {x : Str} {e k : Expr} {p pk : PX} {np tpos pos : Pos} (hu : X.A.units + 70 < cLine) (hN : X.N[i]? = some x) (hv : Vis X.env.scope x) (hd : (x == ("__debug__" : Str)) = false) (hcd : (x == ("__classdict__" : Str)) = false) (h : S2 Γ X e p) (hk : S2 Γ X k pk)
    (ha : ∀ v, assign (.Subscript (.Name x np) k tpos) X.env v = (do
      let ov ← holding [v] (eval (.Name x np) X.env)
      let iv ← holding [v, ov] (eval k X.env)
      standAt tpos
      holding [v, ov, iv] (setItem ov iv v)
      release [v, ov, iv] []))
    (hs : swapsWithSole [.Subscript (.Name x np) k tpos] e pos.line X.env = pure false) (hw : swappedStores [.Subscript (.Name x np) k tpos] e X.env = pure none) (h1 : (assignEach [.Subscript (.Name x np) k tpos] X.env).map (·.2) = [assign (.Subscript (.Name x np) k tpos) X.env]) :
    SS (Γ := Γ) X (.Assign [.Subscript (.Name x np) k tpos] e pos) (.put i pk p) :=
  ⟨fun {Fo0 Lk F H σ ρ P D} S LO q E => by
    obtain ⟨Fo, le, S⟩ := S
    refine TSw.of (ps_asg (pe_w X e) (pg_sub (pe_var hN hv hd hcd) (pe_w X k) pset_w ha) hs hw h1) ?_
    refine h.val.run S q fun v F1 H1 ρ1 d S1 t1 i1 q1 => ?_
    have fin : ∀ p0, σ[i]? = some (some (.ref p0)) → wpE Γ pk ρ1 (fun x ρ2 => putS (ρ2.get i) x d fun s => P.nx (ρ2.set i s)) → gSub (tVar i) (TEw X k) (PSw X) v σ H1 D.nx := fun p0 g1 q1 => by
      refine ⟨.ref p0, g1, ?_⟩
      refine hk.val.run S1 q1 fun vk F2 H2 ρ2 dk S2 t2 i2 q2 => ?_
      have LO2 := LO.sub (t1.sub.trans t2.sub)
      have iv := i1.mono t2.sub
      cases e2 : ρ2.get i with
      | ol ds =>
        rw [e2] at q2
        have z := S2.sl i
        rw [e2] at z
        obtain ⟨p1, xs, k1, k2, k3, k4, k5⟩ := z
        rw [g1] at k1; cases k1
        cases dk with
        | int j =>
          cases ej : ixD ds.length j with
          | none => simp only [putS, ej] at q2
          | some n =>
            simp only [putS, ej] at q2
            intro pins s σ' ov iv' u I ro ri rv
            refine set_list pins s σ' H2 _ _ v ov iv' u _ I ro ri rv ⟨p0, xs, j, n, rfl, i2.inv_int, k4, by rw [k5.length]; exact ej, ?_⟩
            exact E.nx ⟨Fo, le, Sx.writeO S2 g1 (by rw [e2]; rfl) k2 k3 (S2.hs.noLkL k2 k4) (sl := .ol (ds.set n d)) ⟨p0, xs.set n v, rfl, k2, k3, upd_same, IsA.set iv n k5⟩ rfl⟩ (t1.sub.trans t2.sub) q2
        | _ => simp only [putS] at q2
      | od ps =>
        rw [e2] at q2
        obtain ⟨⟨hko, hz⟩, q2⟩ : (kOk ps dk = true ∧ ps.length < sizeLine) ∧ P.nx (ρ2.set i (.od (putD ps dk d))) := q2
        have z := S2.sl i
        rw [e2] at z
        obtain ⟨p1, k1, k2, k3, k4⟩ := z
        rw [g1] at k1; cases k1
        have hl := own_lk LO2 le.le k2 k3
        refine put_dct hu S2.hs hl k4 k2 i2 iv hko hz fun H' hH' own' => ?_
        obtain ⟨o, rfl⟩ := hH'
        exact E.nx ⟨Fo, le, Sx.writeO S2 g1 (by rw [e2]; rfl) k2 k3 hl (sl := .od (putD ps dk d)) ⟨p0, rfl, k2, k3, own'⟩ rfl⟩ (t1.sub.trans t2.sub) q2
      | _ => rw [e2] at q2; simp only [putS] at q2
    cases e1 : ρ1.get i with
    | ol ds0 =>
      simp only [e1] at q1
      have z := S1.sl i
      rw [e1] at z
      obtain ⟨p0, xs0, g1, _⟩ := z
      exact fin p0 g1 q1
    | od ps0 =>
      simp only [e1] at q1
      have z := S1.sl i
      rw [e1] at z
      obtain ⟨p0, g1, _⟩ := z
      exact fin p0 g1 q1
    | _ => simp only [e1] at q1⟩
end DL
/-! The data layer, part 24: a def keeps its promise. -/
namespace DL
open PySem PySem.Spec PyProof.Rows L2
variable {Γ : Nat → FSpec}

/-- nothing is let out -/
def noCX : CXT := fun _ _ _ _ _ _ => False
/-- the frame of a def's body -/
abbrev bodyX (P : Program) (w : World) (K : PySem.W.Frag) (mg : Str → Option Value) (base : Heap) (N : List Str) (qual : Str) (scope : Scope) (f : Addr) (cd : Value) (A : Around) (outer : List Env) (s : Shared) (H : Hp) : Cx := cxOf noCX P w K mg base N qual scope f cd A outer s H fun _ _ _ => False
/-- the slots at the entry: n of them, the parameters first -/
def slots0 (n : Nat) (ds : List D) : List Sl := ds.map .dat ++ List.replicate (n - ds.length) .any
theorem getS_lt : ∀ (l : List Sl) (i : Nat), getS l i = (l[i]?).getD .any
  | [], i => by simp [getS]
  | s :: r, 0 => by simp [getS]
  | s :: r, i + 1 => by simp only [getS, getS_lt r i, List.getElem?_cons_succ]
theorem slots0_get (n : Nat) (ds : List D) (i : Nat) : getS (slots0 n ds) i = match ds[i]? with | some d => .dat d | none => .any := by
  rw [getS_lt]
  unfold slots0
  rw [List.getElem?_append]
  by_cases h : i < ds.length
  · rw [if_pos (by rw [List.length_map]; exact h), List.getElem?_map, List.getElem?_eq_getElem h]; rfl
  · rw [if_neg (by rw [List.length_map]; exact h), List.getElem?_eq_none (by omega : ds.length ≤ i)]
    rw [List.getElem?_replicate]
    split <;> rfl
/-- all cells that are there and not frozen are another's -/
def othersOf (F H : Hp) : Hp := fun a => match F a with
  | none => H a
  | some _ => none
theorem othersOf_none {F H : Hp} {a : Addr} (h : F a = none) : othersOf F H a = H a := by unfold othersOf; rw [h]
theorem othersOf_some {F H : Hp} {a : Addr} {o : HO} (h : othersOf F H a = some o) : F a = none ∧ H a = some o := by
  unfold othersOf at h
  split at h
  · rename_i e; exact ⟨e, h⟩
  · cases h
theorem sx_start {P : Program} {w : World} {K : PySem.W.Frag} {Lk : Lks} {k : Nat} {F H : Hp} {N : List Str} {vs : List V} {ds : List D} (S : Hs (fun _ => none) Lk k F H) (i : IsA P w K F vs ds) (hn : ds.length ≤ N.length) : Sx P w K (othersOf F H) Lk F H (L2.start N vs) ⟨slots0 N.length ds, k⟩ where
  hs := ⟨S.sub, fun a o e => (othersOf_some e).symm, S.lk⟩
  len := by
    unfold L2.start slots0
    rw [List.length_append, List.length_append, List.length_map, List.length_map, List.length_replicate, List.length_replicate, i.length]
  sl := fun j => by
    show SlIs P w K _ Lk F H (L2.start N vs)[j]? (getS (slots0 N.length ds) j)
    rw [slots0_get]
    cases e : ds[j]? with
    | none => trivial
    | some d =>
      obtain ⟨v, h1, h2⟩ := i.get e
      refine ⟨v, ?_, h2⟩
      unfold L2.start
      rw [List.getElem?_append, if_pos (by rw [List.length_map]; exact (List.getElem?_eq_some_iff.mp h1).1), List.getElem?_map, h1]
      rfl
  sep := fun a b q hab ha hb => by
    have e : (Ev.mk (slots0 N.length ds) k).get a = getS (slots0 N.length ds) a := rfl
    rw [e, slots0_get] at ha
    split at ha <;> cases ha
/-- at a def's end -/
theorem end_back {X : Cx} {Lk : Lks} {k : Nat} {F H F' H' : Hp} {σ : L2.St} {ρ : Ev} (S0 : Hs (fun _ => none) Lk k F H) (S : SxS X (othersOf F H) Lk F' H' σ ρ) (s : Sub F F') : Hs (fun _ => none) Lk ρ.k F' H' ∧ Stp F H F' H' := by
  obtain ⟨Fo, le, S⟩ := S
  refine ⟨S.hs.nofo, s, fun a o h hp => ?_, fun a o h1 h2 => ?_⟩
  · cases e : F a with
    | none => exact (S.hs.fo a o (le.le a o (by rw [othersOf_none e]; exact h))).1
    | some u =>
      have hu : ¬ u = potMark := fun z => hp (by rw [e, z])
      rcases S0.sub a u e with ⟨z, _⟩ | ⟨_, z⟩
      · exact (hu z).elim
      · rcases S.hs.sub a u (s a u e) with ⟨y, _⟩ | ⟨_, y⟩
        · exact (hu y).elim
        · rw [y, ← z]; exact h
  · exact (S.hs.fo a o (le.le a o (by rw [othersOf_none h1]; exact h2))).2
theorem lk_start {Lk : Lks} {k : Nat} {F H : Hp} (S : Hs (fun _ => none) Lk k F H) : LkOk (othersOf F H) Lk F := fun a ob e => by
  rcases S.lk a ob e with ⟨o, h, _⟩ | ⟨h, o, h2, _⟩
  · exact .inl (by rw [h]; exact fun z => nomatch z)
  · exact .inr (by rw [othersOf_none h, h2]; exact fun z => nomatch z)
theorem ext_start {X : Cx} {F H : Hp} {N : List Str} {vs : List V} {ds : List D} (i : IsAX X F vs ds) : Ext X (othersOf F H) (othersOf F H) (L2.start N vs) := ⟨fun _ _ h => h, fun j p es e e2 => by
  unfold L2.start at e
  rw [List.getElem?_append] at e
  split at e
  · rw [List.getElem?_map] at e
    cases e3 : vs[j]? with
    | none => rw [e3] at e; cases e
    | some v =>
      rw [e3] at e
      have ev : v = .ref p := by simpa using e
      obtain ⟨d, _, i2⟩ := i.getV e3
      rcases is_fz i2 p ev with q | q
      · exact (q (othersOf_some e2).1).elim
      · exact .inr q
  · rw [List.getElem?_replicate] at e
    split at e
    · cases e
    · cases e⟩
/-- THE RULE: a def by its body's reading over data -/
theorem fg_of {P : Program} {w : World} {K : PySem.W.Frag} {mg : Str → Option Value} {base : Heap} {k : Nat} {f : Addr} {name qual : Str} {params : Arguments} {body : List Stmt} {scope : Scope} {dV kV doc pm cdv ct oc : Value} {an od : Option Addr}
    {osl : Array (Option Value)} {N ps : List Str} {S : FSpec} {p : PS} (lk : K.lookup f = some ⟨oc, od, .func (PySem.W.fnOf name qual params body scope dV kV doc pm an cdv ct), osl⟩) (hcd : PySem.W.codeIn K cdv qual = true) (Sc : FnScope N ps scope)
    (hb : ∀ (A : Around) (outer : List Env) (s : Shared) (H : Hp), Room k (bodyX P w K mg base N qual scope f cdv A outer s H).A → (bodyX P w K mg base N qual scope f cdv A outer s H).A.guards = some [] → SSs (Γ := Γ) (bodyX P w K mg base N qual scope f cdv A outer s H) body p)
    (spec : ∀ ds k Q, S ds k Q → ds.length = ps.length ∧ wpS Γ p ⟨slots0 N.length ds, k⟩ { nx := fun ρ => Q .non ρ.k, rt := Q }) :
    FnG P w K mg base (k + 1) f (PySem.W.fnOf name qual params body scope dV kV doc pm an cdv ct) ps S := by
  refine ⟨fun ds k Q h => (spec ds k Q h).1, fun A outer s H args us vs hgd hr e0 hbd r Lk n F ds Q S0 iv hS => ?_⟩
  obtain ⟨hl, hw⟩ := spec ds n Q hS
  have hlv : vs.length = ps.length := by rw [iv.length]; exact hl
  have KX : K.In s.heap := e0.mod.kin.keeps fun b o e => (e0.bs b o e).1
  have lim : s.heap.NoLimit := e0.mod.nolimit.keeps fun b o e => (e0.bs b o e).1
  have hkind : ∀ y ∈ ps.zip us, scope.names.lookup y.1 = some .local ∨ (scope.names.lookup y.1 = some .cell ∧ ((cellsFrom (s.heap.objs.size + 1) scope.names []).lookup y.1).isSome = true) := by
    rintro ⟨n, v⟩ hy
    rcases Sc.par n (List.of_mem_zip hy).1 with q | q
    · exact .inl q
    · exact .inr ⟨q, PySem.W.cellsFrom_some _ _ _ (.inl q)⟩
  refine codeAny_call_function hr.depth (KX _ _ lk) rfl Sc.co Sc.gen rfl (PySem.W.codeRec_of KX hcd) (hbd _ _ _ _ ?_)
  refine wpAny_newFunctionEnv_cells Sc.kind hkind fun env he s1 x => ?_
  subst he
  refine ⟨lim.keeps x.toInCall.keep, codeAny_func ?_⟩
  have bdy := hb A outer s H (hr.deeper _) hgd
  have I : Inv (bodyX P w K mg base N qual scope f cdv A outer s H) [] (L2.start N vs) H s1 := inv_start Sc hr.hd e0 hlv r x
  have hNl : ds.length ≤ N.length := by
    rw [hl]
    have q := congrArg List.length Sc.pre
    rw [List.length_take] at q
    omega
  have sx := sx_start (N := N) S0 iv hNl
  have run := bdy.run (Fo0 := othersOf F H) (D := { nx := fun _ H' => ∃ F' d k', Hs (fun _ => none) Lk k' F' H' ∧ Stp F H F' H' ∧ Is P w K F' .non d ∧ Q d k', rt := fun v H' => ∃ F' d k', Hs (fun _ => none) Lk k' F' H' ∧ Stp F H F' H' ∧ Is P w K F' v d ∧ Q d k' }) ⟨_, ext_start iv, sx⟩ (lk_start S0) hw
    ⟨fun S' s' q => by obtain ⟨h1, h2⟩ := end_back S0 S' s'; exact ⟨_, .non, _, h1, h2, .non, q⟩, fun S' s' i' q => by obtain ⟨h1, h2⟩ := end_back S0 S' s'; exact ⟨_, _, _, h1, h2, i', q⟩, fun _ _ q => q.elim, fun _ _ q => q.elim⟩
  refine wpAny_mono (run [] s1 I) (fun fl s' hs => ?_) fun e s' hs => hs
  cases fl with
  | ret u => obtain ⟨v, σ', H', J, rv, q⟩ := hs; exact ⟨v, H', J.os, J.bare, J.base, J.hok, rv, q⟩
  | next => obtain ⟨σ', H', J, q⟩ := hs; exact ⟨.non, H', J.os, J.bare, J.base, J.hok, rfl, q⟩
  | brk => obtain ⟨_, _, _, q⟩ := hs; exact q.elim
  | cont => obtain ⟨_, _, _, q⟩ := hs; exact q.elim

/-- loops in such a body -/
theorem owns {P : Program} {w : World} {K : PySem.W.Frag} {mg : Str → Option Value} {base : Heap} {N : List Str} {qual : Str} {scope : Scope} {f : Addr} {cd : Value} {A : Around} {outer : List Env} {s : Shared} {H : Hp} : PassesOwn (model P w) (bodyX P w K mg base N qual scope f cd A outer s H).A (bodyX P w K mg base N qual scope f cd A outer s H).env (bodyX P w K mg base N qual scope f cd A outer s H).xe :=
  passes_of (X := bodyX P w K mg base N qual scope f cd A outer s H) (K := fun e s'' => noCX outer H s (fun _ _ _ => False) e s'') rfl
end DL
/-! The data layer, part 25: the law's end. -/
namespace DL
open PySem PySem.Spec PyProof.Rows L2

/-- what is tracked at the law's start: the script, where it is no object of the written part -/
def scrHp (K : PySem.W.Frag) (a : Addr) (vs : List Value) (ns : List Int) : Hp := fun b => if b = a ∧ K.lookup a = none then some (.frz { cls := .type "list", data := .seq vs.toArray } (.lst (ns.map V.int))) else none
theorem scr_at {K : PySem.W.Frag} {a b : Addr} {vs : List Value} {ns : List Int} {u : HO} (h : scrHp K a vs ns b = some u) : b = a ∧ K.lookup a = none ∧ u = .frz { cls := .type "list", data := .seq vs.toArray } (.lst (ns.map V.int)) := by
  unfold scrHp at h
  split at h
  · rename_i c; cases h; exact ⟨c.1, c.2, rfl⟩
  · cases h
theorem scr_off {K : PySem.W.Frag} {a b : Addr} {vs : List Value} {ns : List Int} (h : b ≠ a) : scrHp K a vs ns b = none := if_neg fun c => h c.1
section
variable {K : PySem.W.Frag} {h : Heap} {a : Addr} {vs : List Value} {ns : List Int}
theorem scr_sq (KX : K.In h) (ha : h.get? a = some { cls := .type "list", data := .seq vs.toArray }) (rv : Vals (ns.map V.int) vs) (hl : ns.length ≤ sizeLine) : SqL K (scrHp K a vs ns) a (ns.map V.int) := by
  have hv : vs.length = ns.length := by rw [← rv.length, List.length_map]
  cases hk : K.lookup a with
  | none => exact .inl (.inr ⟨_, if_pos ⟨rfl, hk⟩⟩)
  | some o =>
    have e := KX a o hk
    rw [ha] at e
    have e' := Option.some.inj e
    subst e'
    exact .inr ⟨_, vs.toArray, _, hk, rfl, rfl, rfl, by simpa [hv] using hl, by simpa using rv⟩
theorem scr_hok {P : Program} {w : World} (ha : h.get? a = some { cls := .type "list", data := .seq vs.toArray }) (rv : Vals (ns.map V.int) vs) (hl : ns.length ≤ sizeLine) : HOk P w (scrHp K a vs ns) h := fun b u e => by
  obtain ⟨rfl, _, rfl⟩ := scr_at e
  exact ⟨ha, by simpa using hl, vs, _, rv, ha⟩
/-- what is no list of the written part's stands in the base -/
theorem scr_base (ha : h.get? a = some { cls := .type "list", data := .seq vs.toArray }) {b : Addr} {o : Obj} (hb : h.get? b = some o) (hd : ∃ es ep, o.data = .dict es ep) : (hidT h (scrHp K a vs ns)).get? b = some o := by
  refine hidT_get hb (scr_off fun e => ?_)
  subst e
  rw [ha] at hb
  obtain ⟨es, ep, q⟩ := hd
  rw [← Option.some.inj hb] at q
  have q' : Data.seq vs.toArray _ = Data.dict es ep := q
  cases q'
theorem scr_ns (ha : h.get? a = some { cls := .type "list", data := .seq vs.toArray }) {b : Addr} {m : Str → Option Value} (n : h.Ns b m) : (hidT h (scrHp K a vs ns)).Ns b m := by
  obtain ⟨o, es, ep, e, d, r⟩ := n
  exact ⟨o, es, ep, scr_base ha e ⟨es, ep, d⟩, d, r⟩
end
/-- THE END: a law, by its def's promise over data -/
theorem law_end {l : PySem.W.OpenLaw} {n k : Nat} {q : Program} {loose : List Str} {XP : (Str → Option Value) → Heap → Prop} {YP : World → Heap → Prop} {d : DefRec} {x : Str}
    (hn : l.most = some n) (hn2 : n ≤ 63) (hdf : d.params.defaults = []) (hr : Room k callerA)
    (F : ∀ (w : World) (mg : Str → Option Value) (fa : Addr) (h : Heap), YP w h → h.Ns mainGlobals mg → mg d.name = some (.ref fa) →
      ∃ (K : PySem.W.Frag) (fd : FuncData) (S : FSpec), K.In h ∧ (∀ (s : Shared) (u : Value), BindsTo s fd ⟨[u], []⟩ [(x, u)]) ∧ (∀ ns : List Int, ns.length ≤ 63 → S [.scr ns] 0 (fun d _ => d = .bl true)) ∧
        ∀ base : Heap, K.In base → base.Ns mainGlobals mg → FnG l.prog w K mg base k fa fd [x] S) :
    PySem.W.WalkO q loose XP YP l.row.toRowW d [] (fun f vs => PySem.call f vs) := by
  refine Att.attach_call hn hdf fun w s₀ s1 mg mb fa o pm cd doc a vs ns G Y ho hd hcd hmg hobj hints hlen hgen => ?_
  obtain ⟨K, fd, S, KX, hbind, hS, promise⟩ := F w mg fa s1.heap Y G.T.g hmg
  have rv := vals_ints hints
  have hfit : ns.length ≤ sizeLine := by rw [sizeLine_eq]; omega
  have sq := scr_sq KX hobj rv hfit
  have ok : HOk l.prog w (scrHp K a vs ns) s1.heap := scr_hok hobj rv hfit
  have kin : K.In (hidT s1.heap (scrHp K a vs ns)) := by
    intro b o' e
    refine hidT_get (KX b o' e) ?_
    cases z : scrHp K a vs ns b with
    | none => rfl
    | some u =>
      obtain ⟨eb, ek, _⟩ := scr_at z
      rw [eb, ek] at e; cases e
  have gl : (hidT s1.heap (scrHp K a vs ns)).Ns mainGlobals mg := scr_ns hobj G.T.g
  have md : Mod K mg (hidT s1.heap (scrHp K a vs ns)) := by
    obtain ⟨mc, c1, c2⟩ := G.T.nolimit
    exact ⟨kin, gl, ⟨mb, scr_ns hobj G.T.b, G.T.builtins⟩, ⟨mc, scr_ns hobj c1, c2⟩⟩
  have env : Env0 l.prog w K mg (hidT s1.heap (scrHp K a vs ns)) callerA [] s1 (scrHp K a vs ns) := by
    refine ⟨rfl, md, fun b o' e => of_hidT e, Nat.le_of_eq (hidT_size _ _), trivial, fun b hb => ?_, ok, .of_eq hgen⟩
    cases (show b ∈ ([] : List Addr) from hb)
  have hs : Hs (fun _ => none) (fun _ => none) 0 (scrHp K a vs ns) (scrHp K a vs ns) := by
    refine ⟨fun b u e => .inr ⟨fun z => ?_, e⟩, (fun _ _ e => nomatch e), (fun _ _ e => nomatch e)⟩
    obtain ⟨_, _, e2⟩ := scr_at e
    rw [z] at e2
    cases e2
  have isS : IsA l.prog w K (scrHp K a vs ns) [V.ref a] [D.scr ns] := .cons (.scr sq (by omega)) .nil
  refine codeAny_mono ((promise _ kin gl).run callerA [] s1 (scrHp K a vs ns) ⟨[.ref a], []⟩ [.ref a] [.ref a] rfl hr env (hbind s1 (.ref a)) (.cons rfl .nil) _ 0 (scrHp K a vs ns) [.scr ns] _ hs isS (hS ns (by omega))) fun r s2 post => ?_
  match r, post with
  | .ok (.ret u), ⟨v, H2, os2, bare2, un, ok2, ru, F2, d2, k2, h2, t2, i2, e2⟩ =>
    subst e2
    cases i2
    cases ru
    refine ⟨rfl, OldK.of_keep fun b o' e => ?_, os2, bare2⟩
    cases z : scrHp K a vs ns b with
    | none =>
      refine un.keep b o' e z (fun m => ?_) (fun m => ?_)
      · cases (show b ∈ ([] : List Addr) from m)
      · cases (show b ∈ ([] : List Addr) from m)
    | some u =>
      obtain ⟨_, _, rfl⟩ := scr_at z
      have a1 := (ok b _ z).1
      have a2 := (ok2 b _ (un.frzs b _ _ z)).1
      rw [e] at a1
      rw [Option.some.inj a1]
      exact a2
end DL
/-! The data layer, part 26: constants, a star in a tuple, xs[::-1], dicts of own lists. -/
namespace DL
open PySem PySem.Spec PyProof.Rows L2
variable {Γ : Nat → FSpec} {X : Cx}

theorem s_int {i : Int} {j pos} : S2 Γ X (.Constant (.int i) j pos) (.lit (.int i)) := s_const pe_int fun F => .int i
theorem s_str {x : Str} {j pos} : S2 Γ X (.Constant (.str x) j pos) (.lit (.str x)) := s_const pe_str fun F => .str x
theorem s_bl {b : Bool} {j pos} : S2 Γ X (.Constant (.bool b) j pos) (.lit (.bl b)) := s_const pe_bl fun F => .bl b
theorem s_non {j pos} : S2 Γ X (.Constant .none j pos) (.lit .non) := s_const pe_non fun F => .non
def nkB : Option NameKind → Bool
  | some .local => true
  | some .cell => true
  | some .free => true
  | _ => false
theorem nkB_vis {sc : Scope} {x : Str} (h : nkB (sc.names.lookup x) = true) : Vis sc x := by
  unfold Vis
  revert h
  cases sc.names.lookup x with
  | none => intro h; cases h
  | some k => cases k <;> intro h <;> first | exact .inl rfl | exact .inr (.inl rfl) | exact .inr (.inr rfl) | cases h
def nlB : Option NameKind → Bool
  | some .local => true
  | some .cell => true
  | _ => false
theorem nlB_loc {sc : Scope} {x : Str} (h : nlB (sc.names.lookup x) = true) : L2.Loc sc x := by
  unfold L2.Loc
  revert h
  cases sc.names.lookup x with
  | none => intro h; cases h
  | some k => cases k <;> intro h <;> first | exact .inl rfl | exact .inr rfl | cases h
theorem sv (i : Nat) {x : Str} {pos : Pos} (hN : X.N[i]? = some x) (hv : nkB (X.env.scope.names.lookup x) = true) (hd : (x == ("__debug__" : Str)) = false) (hcd : (x == ("__classdict__" : Str)) = false) : S2 Γ X (.Name x pos) (.var i) := s_var hN (nkB_vis hv) hd hcd
theorem sg (i : Nat) {x : Str} {pos : Pos} (hN : X.N.Nodup) (hi : X.N[i]? = some x) (hx : nlB (X.env.scope.names.lookup x) = true) (hf : X.fn x = true ∨ X.env.scope.names.lookup x = some .local) : SG X (.Name x pos) (.nm i) := sg_nm hN hi (nlB_loc hx) hf
/-- a module's whole number, text -/
def GInt (mg : Str → Option Value) (x : Str) (i : Int) : Prop := ∃ t, mg x = some (.int i t)
def GStr (mg : Str → Option Value) (x z : Str) : Prop := ∃ t, mg x = some (.str z t)
theorem s_gint {x : Str} {i : Int} {pos : Pos} (h : GInt X.mg x i) (hg : Gl X x) (hd : (x == ("__debug__" : Str)) = false) : S2 Γ X (.Name x pos) (.lit (.int i)) := by
  obtain ⟨t, h⟩ := h
  exact s_const (pe_glob (v := .int i) hg h ⟨t, rfl⟩ hd) fun F => .int i
theorem s_gstr {x z : Str} {pos : Pos} (h : GStr X.mg x z) (hg : Gl X x) (hd : (x == ("__debug__" : Str)) = false) : S2 Γ X (.Name x pos) (.lit (.str z)) := by
  obtain ⟨t, h⟩ := h
  exact s_const (pe_glob (v := .str z) hg h ⟨t, rfl⟩ hd) fun F => .str z
/-- the last of a row of and, or -/
theorem s_last {op : BoolOp} {a : Expr} {pa : PX} {pos : Pos} (ha : S2 Γ X a pa) : SE Γ X (.BoolOp op [a] pos) pa := ⟨fun S q c => TEw.of (pe_one (pe_w X a)) (ha.val.run S q c)⟩
theorem s_star0 {e : Expr} {es : List Expr} {p : PX} {ps : PXs} {x1 : Nat} {sp pos : Pos} (he : S2 Γ X e p) (ht : SA (Γ := Γ) X es ps) (hs : starEach (.Starred e sp :: es) X.env = (true, eval e X.env) :: starEach es X.env) : S2 Γ X (.Tuple (.Starred e sp :: es) x1 pos) (.star .nil p ps) :=
  SE.two ⟨fun {Fo Lk F H σ ρ Q R} S q c => by
    have q0 : brw p (wpE Γ p) ρ (fun y ρ2 => seqS2 y fun ys => wpEs Γ ps ρ2 fun qs ρ3 => ([] ++ ys ++ qs).length ≤ sizeLine ∧ Q (.tup ([] ++ ys ++ qs)) ρ3) := q
    refine TEw.of (pe_tup (StX.pa_star (pe_w X e) (pa_w X es) hs)) ?_
    refine he.bor.run S q0 fun v F1 H1 ρ1 d S1 t1 b1 q1 => ?_
    have fin : ∀ (a : Addr) (xs : List V) (ys : List D), v = .ref a → (SqT X.K H1 a xs ∨ SqL X.K H1 a xs) → IsAX X F1 xs ys → (wpEs Γ ps ρ1 fun qs ρ3 => ([] ++ ys ++ qs).length ≤ sizeLine ∧ Q (.tup ([] ++ ys ++ qs)) ρ3) → ∃ p xs, v = V.ref p ∧ (SqT X.K H1 p xs ∨ SqL X.K H1 p xs) ∧ TAw X es σ H1 fun ys H2 => (fun vs H2 => vs.length ≤ sizeLine ∧ ∀ p, H2 p = none → R (.ref p) (upd H2 p (.tup vs))) (xs ++ ys) H2 := fun a xs ys ev hq iv q1 => by
      refine ⟨a, xs, ev, hq, ht.run (R := fun ys H2 => (xs ++ ys).length ≤ sizeLine ∧ ∀ p, H2 p = none → R (.ref p) (upd H2 p (.tup (xs ++ ys)))) S1 q1 fun vs F2 H2 ρ2 ds l2 S2 t2 i2 q2 => ?_⟩
      rw [List.nil_append] at q2
      have iall := (iv.mono t2.sub).append i2
      refine ⟨by rw [iall.length]; exact q2.1, fun p hp => ?_⟩
      obtain ⟨n1, n2, n3⟩ := new_tup S2.hs iall hp
      exact c _ _ _ ρ2 _ (SxX.step S2 n1 n2) (t1.trans (t2.trans n2.q)) n3 q2.2
    cases d with
    | lst ys => obtain ⟨a, xs, ev, h1, i1⟩ := b1.lst S1.hs; exact fin a xs ys ev (.inr (SqL.of h1)) i1 q1
    | tup ys => obtain ⟨a, xs, ev, h1, i1⟩ := b1.tup S1.hs; exact fin a xs ys ev (.inl h1) i1 q1
    | _ => exact q1.elim⟩ rfl
theorem s_rev {e : Expr} {p : PX} {k : Nat} {p1 p2 p3 pos : Pos} (he : S2 Γ X e p) : S2 Γ X (.Subscript e (.Slice none none (some (.UnaryOp .USub (.Constant (.int 1) k p1) p2)) p3) pos) (.rev p) :=
  SE.two ⟨fun {Fo Lk F H σ ρ Q R} S q c => by
    have q0 : brw p (wpE Γ p) ρ (fun x ρ1 => match x with
      | .lst xs => Q (.lst xs.reverse) ρ1
      | _ => False) := q
    refine TEw.of (pe_revL (pe_w X e)) ?_
    refine he.bor.run S q0 fun v F1 H1 ρ1 d S1 t1 b1 q1 => ?_
    cases d with
    | lst xs =>
      obtain ⟨a, vs, ev, h1, i1⟩ := b1.lst S1.hs
      refine ⟨a, vs, ev, SqL.of h1, fun p hp => ?_⟩
      obtain ⟨n1, n2, n3⟩ := new_lst S1.hs i1.reverse hp
      exact c _ _ _ ρ1 _ (SxX.step S1 n1 n2) (t1.trans n2.q) n3 q1
    | _ => exact q1.elim⟩ rfl
end DL
/-! The data layer, part 27: walking over data: loops and comprehensions. -/
namespace DL
open PySem PySem.Spec PyProof.Rows L2
variable {Γ : Nat → FSpec}

/-- a test that is not known stands as it stood -/
theorem ite_back {c : Prop} [h : Decidable c] {A B : Prop} (q : if c then A else B) : Decidable.rec (motive := fun _ => Prop) (fun h => (fun _ => B) h) (fun h => (fun _ => A) h) h := q



/-- a slot that nothing hangs on -/
structure Fr (s : Sl) : Prop where
  od : isOdl s = false
  ow : s.own = false
theorem fr_any : Fr .any := ⟨rfl, rfl⟩
theorem fr_dat {d : D} : Fr (.dat d) := ⟨rfl, rfl⟩
theorem odl_any : isOdl .any = false := rfl
theorem odl_dat {d : D} : isOdl (.dat d) = false := rfl
theorem odl_ol {d : List D} : isOdl (.ol d) = false := rfl
theorem odl_od {d : List (D × D)} : isOdl (.od d) = false := rfl
theorem own_any : Sl.own .any = false := rfl
theorem own_dat {d : D} : Sl.own (.dat d) = false := rfl
/-- a list comprehension whose parts leave the names as they are; g: what an item gives, where it gives something -/
theorem wpLc_run {α : Type} {own : List Nat} {tg : TgX} {we wc : Ev → QD → Prop} {ρ : Ev} (enc : α → D) (g : α → Option D) (hok : (ownOk own ρ && noOdl ρ) = true) :
    ∀ (xs : List α) (acc : List D) (Q : QD), (∀ x ∈ xs, ∀ (RT : D → Ev → Prop) (RF : Ev → Prop), (∀ d, g x = some d → RT d ρ) → (g x = none → RF ρ) → bindT tg (enc x) (wipeE own ρ) fun ρ1 => wc ρ1 fun c ρ2 => match c with
      | .bl b => if b = true then we ρ2 fun d ρ3 => RT d (backE own ρ ρ3) else RF (backE own ρ ρ2)
      | _ => False) → Q (.lst (acc ++ xs.filterMap g)) ρ → wpLc own tg we wc (xs.map enc) acc ρ Q
  | [], acc, Q, _, h => by
    rw [Bool.and_eq_true] at hok
    rw [List.filterMap_nil, List.append_nil] at h
    exact ⟨hok.2, h⟩
  | x :: xs, acc, Q, hs, h => by
    refine ⟨hok, hs x (List.mem_cons_self ..) (fun d ρ' => wpLc own tg we wc (xs.map enc) (acc ++ [d]) ρ' Q) (fun ρ' => wpLc own tg we wc (xs.map enc) acc ρ' Q) (fun d e => ?_) (fun e => ?_)⟩
    · refine wpLc_run enc g hok xs _ Q (fun y hy => hs y (List.mem_cons_of_mem _ hy)) ?_
      rw [List.filterMap_cons, e] at h
      rw [List.append_assoc]
      exact h
    · refine wpLc_run enc g hok xs _ Q (fun y hy => hs y (List.mem_cons_of_mem _ hy)) ?_
      rw [List.filterMap_cons, e] at h
      exact h
theorem fm_some {α β : Type} (f : α → β) (xs : List α) : xs.filterMap (fun x => some (f x)) = xs.map f := by
  induction xs with
  | nil => rfl
  | cons x xs ih => rw [List.filterMap_cons, List.map_cons, ih]
/-- the same without a test -/
theorem wpLc_map {α : Type} {own : List Nat} {tg : TgX} {we : Ev → QD → Prop} {ρ : Ev} {Q : QD} (enc : α → D) (f : α → D) (xs : List α) (hok : (ownOk own ρ && noOdl ρ) = true)
    (hs : ∀ x ∈ xs, ∀ R : D → Ev → Prop, R (f x) ρ → bindT tg (enc x) (wipeE own ρ) fun ρ1 => we ρ1 fun d ρ3 => R d (backE own ρ ρ3)) (h : Q (.lst (xs.map f)) ρ) : WpLc own tg we (fun ρ Q => Q (.bl true) ρ) (xs.map enc) ρ Q := by
  refine ⟨?_⟩
  refine wpLc_run enc (fun x => some (f x)) hok xs [] Q (fun x hx RT RF h1 _ => ?_) (by rw [List.nil_append, fm_some]; exact h)
  have q := hs x hx RT (h1 _ rfl)
  show bindT tg (enc x) (wipeE own ρ) fun ρ1 => if true = true then we ρ1 fun d ρ3 => RT d (backE own ρ ρ3) else _
  simp only [if_true]
  exact q
/-- the same with a test, and the item's text f -/
theorem wpLc_filter {α : Type} {own : List Nat} {tg : TgX} {we wc : Ev → QD → Prop} {ρ : Ev} {Q : QD} (enc : α → D) (c : α → Bool) (f : α → D) (xs : List α) (hok : (ownOk own ρ && noOdl ρ) = true)
    (hs : ∀ x ∈ xs, ∀ (RT : D → Ev → Prop) (RF : Ev → Prop), (c x = true → RT (f x) ρ) → (c x = false → RF ρ) → bindT tg (enc x) (wipeE own ρ) fun ρ1 => wc ρ1 fun c ρ2 => match c with
      | .bl b => if b = true then we ρ2 fun d ρ3 => RT d (backE own ρ ρ3) else RF (backE own ρ ρ2)
      | _ => False) (h : Q (.lst ((xs.filter c).map f)) ρ) : WpLc own tg we wc (xs.map enc) ρ Q := by
  refine ⟨?_⟩
  refine wpLc_run enc (fun x => if c x = true then some (f x) else none) hok xs [] Q (fun x hx RT RF h1 h2 => ?_) ?_
  · refine hs x hx RT RF (fun e => h1 _ (by rw [if_pos e])) (fun e => h2 (by rw [if_neg (by rw [e]; exact fun z => nomatch z)]))
  · have e : xs.filterMap (fun x => if c x = true then some (f x) else none) = (xs.filter c).map f := by
      clear h hs
      induction xs with
      | nil => rfl
      | cons x xs ih =>
        rw [List.filterMap_cons, List.filter_cons]
        by_cases z : c x = true
        · simp only [if_pos z, List.map_cons, ih]
        · simp only [if_neg z, ih]
    rw [List.nil_append, e]
    exact h
/-- a for loop by an invariant of what is done -/
theorem wpL_inv {α : Type} {tg : TgX} {B : Ev → Po → Prop} {P : Po} (enc : α → D) (I : List α → Ev → Prop) (all : List α)
    (step : ∀ done x rest, all = done ++ x :: rest → ∀ ρ, I done ρ → ∀ R : Ev → Prop, (∀ ρ', I (done ++ [x]) ρ' → R ρ') → bindT tg (enc x) ρ fun ρ1 => B ρ1 { nx := R, ct := R, bk := P.nx, rt := P.rt })
    (fin : ∀ ρ, I all ρ → P.nx ρ) : ∀ (rest done : List α), all = done ++ rest → ∀ ρ, I done ρ → wpL tg B P (rest.map enc) ρ
  | [], done, e, ρ, h => by
    rw [List.append_nil] at e
    exact fin ρ (by rw [e]; exact h)
  | x :: rest, done, e, ρ, h => by
    exact step done x rest e ρ h (wpL tg B P (rest.map enc)) fun ρ' h' => wpL_inv enc I all step fin rest (done ++ [x]) (by rw [List.append_assoc]; exact e) ρ' h'
theorem wpL_of {α : Type} {tg : TgX} {B : Ev → Po → Prop} {P : Po} {ρ : Ev} (enc : α → D) (I : List α → Ev → Prop) (all : List α) (h0 : I [] ρ)
    (step : ∀ done x rest, all = done ++ x :: rest → ∀ ρ, I done ρ → ∀ R : Ev → Prop, (∀ ρ', I (done ++ [x]) ρ' → R ρ') → bindT tg (enc x) ρ fun ρ1 => B ρ1 { nx := R, ct := R, bk := P.nx, rt := P.rt })
    (fin : ∀ ρ, I all ρ → P.nx ρ) : WpL tg B P (all.map enc) ρ := ⟨wpL_inv enc I all step fin all [] rfl ρ h0⟩
/-- a for loop by a state of typed data: σ the state, en its names -/
theorem wpL_fold {α S : Type} {tg : TgX} {B : Ev → Po → Prop} {P : Po} (enc : α → D) (en : S → Ev) (f : S → α → S) : ∀ (all : List α) (s : S),
    (∀ x ∈ all, ∀ s, ∀ R : Ev → Prop, R (en (f s x)) → bindT tg (enc x) (en s) fun ρ1 => B ρ1 { nx := R, ct := R, bk := P.nx, rt := P.rt }) → P.nx (en (all.foldl f s)) → wpL tg B P (all.map enc) (en s)
  | [], s, _, h => h
  | x :: all, s, hs, h => hs x (List.mem_cons_self ..) s (wpL tg B P (all.map enc)) (wpL_fold enc en f all (f s x) (fun y hy => hs y (List.mem_cons_of_mem _ hy)) h)
/-- a while loop by an invariant and a measure -/
theorem wpW_inv {C : Ev → QD → Prop} {B : Ev → Po → Prop} {P : Po} (I : Ev → Prop) (m : Ev → Nat)
    (step : ∀ ρ, I ρ → ∀ R : Ev → Prop, (∀ ρ', I ρ' → m ρ' < m ρ → R ρ') → C ρ fun c ρ1 => match c with
      | .bl b => if b = true then B ρ1 { nx := R, ct := R, bk := P.nx, rt := P.rt } else P.nx ρ1
      | _ => False) : ∀ (n : Nat) (ρ : Ev), I ρ → m ρ < n → wpW C B P n ρ
  | 0, _, _, h => absurd h (Nat.not_lt_zero _)
  | n + 1, ρ, h, hm => step ρ h (wpW C B P n) fun ρ' h' hl => wpW_inv I m step n ρ' h' (by omega)
theorem wpW_of {C : Ev → QD → Prop} {B : Ev → Po → Prop} {P : Po} {ρ : Ev} (I : Ev → Prop) (m : Ev → Nat) (h : I ρ)
    (step : ∀ ρ, I ρ → ∀ R : Ev → Prop, (∀ ρ', I ρ' → m ρ' < m ρ → R ρ') → C ρ fun c ρ1 => match c with
      | .bl b => if b = true then B ρ1 { nx := R, ct := R, bk := P.nx, rt := P.rt } else P.nx ρ1
      | _ => False) : ∃ n, wpW C B P n ρ := ⟨m ρ + 1, wpW_inv I m step _ ρ h (Nat.lt_succ_self _)⟩
end DL
/-! The data layer, part 28: the box of draws. -/
namespace DL
open PySem PySem.Spec PyProof.Rows L2
variable {Γ : Nat → FSpec} {X : Cx}

/-- what stands at the box's places -/
def potV (j k : Nat) (v : Int) : Prop := match j with
  | 0 => 0 ≤ v
  | 1 => 0 ≤ v ∧ v < 2305843009213693921
  | 2 => 0 ≤ v ∧ v ≤ (k : Int)
  | _ => False
def potGet (i j : Nat) (ρ : Ev) (Q : QD) : Prop := match ρ.get i with
  | .dat .pot => ∀ v, potV j ρ.k v → Q (.int v) ρ
  | _ => False
def potPut (i j : Nat) (d : D) (ρ : Ev) (Q : Ev → Prop) : Prop := match ρ.get i with
  | .dat .pot => match d with
    | .int v => potV j (ρ.k + 1) v ∧ Q ⟨ρ.sl, ρ.k + 1⟩
    | _ => False
  | _ => False
def potNew (ds : List D) (Q : D → Prop) : Prop := match ds with
  | [.int a, .int b, .int c] => (0 ≤ a ∧ (0 ≤ b ∧ b < 2305843009213693921) ∧ c = 0) ∧ Q .pot
  | _ => False
theorem pot_at {Fo : Hp} {Lk : Lks} {F H : Hp} {σ : L2.St} {ρ : Ev} {i : Nat} (S : SxX X Fo Lk F H σ ρ) (e : ρ.get i = .dat .pot) : ∃ p, σ[i]? = some (some (.ref p)) ∧ F p = some potMark ∧ PotOk ρ.k (H p) := by
  have z := S.sl i
  rw [e] at z
  obtain ⟨v, h1, h2⟩ := z
  cases h2 with
  | @pot p h =>
    refine ⟨p, h1, h, ?_⟩
    rcases S.hs.sub p _ h with ⟨_, q⟩ | ⟨q, _⟩
    · exact q
    · exact (q rfl).elim
theorem potGet_inv {i j : Nat} {ρ : Ev} {Q : QD} (q : potGet i j ρ Q) : ρ.get i = .dat .pot ∧ ∀ v, potV j ρ.k v → Q (.int v) ρ := by
  unfold potGet at q
  split at q
  · rename_i e; exact ⟨e, q⟩
  · exact q.elim
theorem pot_val {k : Nat} {o : Option HO} {j : Nat} (h : PotOk k o) (hj : j < 3) : ∃ xs v, o = some (.lst xs) ∧ atI xs (j : Int) = some (.int v) ∧ potV j k v := by
  obtain ⟨a, b, c, e, h1, h2, h3, h4, h5⟩ := h
  match j, hj with
  | 0, _ => exact ⟨_, a, e, rfl, h1⟩
  | 1, _ => exact ⟨_, b, e, rfl, h2, h3⟩
  | 2, _ => exact ⟨_, c, e, rfl, h4, h5⟩
theorem pot_set {k : Nat} {o : Option HO} {j : Nat} {v : Int} (h : PotOk k o) (hj : j < 3) (hv : potV j (k + 1) v) : ∃ xs, o = some (.lst xs) ∧ ixN xs.length (j : Int) = some j ∧ PotOk (k + 1) (some (.lst (xs.set j (.int v)))) := by
  obtain ⟨a, b, c, e, h1, h2, h3, h4, h5⟩ := h
  have hk : (((k + 1 : Nat) : Int)) = (k : Int) + 1 := by omega
  match j, hj with
  | 0, _ => exact ⟨_, e, rfl, v, b, c, rfl, hv, h2, h3, h4, by omega⟩
  | 1, _ => exact ⟨_, e, rfl, a, v, c, rfl, h1, hv.1, hv.2, h4, by omega⟩
  | 2, _ => exact ⟨_, e, rfl, a, b, v, rfl, h1, h2, h3, hv.1, hv.2⟩
theorem s_pot {i j : Nat} {x : Str} {z : Nat} {np cp pos : Pos} (hj : j < 3) (hN : X.N[i]? = some x) (hv : nkB (X.env.scope.names.lookup x) = true) (hd : (x == ("__debug__" : Str)) = false) (hcd : (x == ("__classdict__" : Str)) = false) (hs : PlainIx (.Constant (.int (j : Int)) z cp)) : S2 Γ X (.Subscript (.Name x np) (.Constant (.int (j : Int)) z cp) pos) (.sem (potGet i j)) :=
  SE.two ⟨fun {Fo Lk F H σ ρ Q R} S q c pins s I => by
    obtain ⟨e, q⟩ := potGet_inv (show potGet i j ρ Q from q)
    obtain ⟨p, h1, h2, h3⟩ := pot_at S e
    obtain ⟨xs, v, h4, h5, h6⟩ := pot_val h3 hj
    refine Subscript_ ?_
    have r1 : TEw X (.Name x np) σ H (fun y H1 => y = .ref p ∧ H1 = H) := TEw.of (pe_var hN (nkB_vis hv) hd hcd) ⟨.ref p, h1, rfl, rfl⟩
    refine thn (r1 pins s I) fun u s1 ⟨y, H1, I1, ru, e1, e2⟩ => ?_
    subst e1 e2
    have r2 : TEw X (.Constant (.int (j : Int)) z cp) σ H1 (fun y H2 => y = .int (j : Int) ∧ H2 = H1) := TEw.of (pe_int) ⟨rfl, rfl⟩
    refine thn (r2 pins s1 I1) fun w s2 ⟨y, H2, I2, rw_, e3, e4⟩ => ?_
    subst e3 e4
    exact ix_list _ _ pins s2 σ H2 _ _ u w R I2 ru rw_ ⟨p, xs, (j : Int), .int v, rfl, rfl, SqL.of h4, h5, c _ F H2 ρ _ S (Stq.refl F H2) (.int _) (q v h6)⟩ (hs _ _)⟩ rfl
theorem Sx.potW {Fo : Hp} {Lk : Lks} {F H : Hp} {σ : L2.St} {ρ : Ev} {p : Addr} {o : HO} (S : SxX X Fo Lk F H σ ρ) (hp : F p = some potMark) (ho : PotOk (ρ.k + 1) (some o)) : SxX X Fo Lk F (upd H p o) σ ⟨ρ.sl, ρ.k + 1⟩ where
  hs := by
    refine ⟨fun a u e => ?_, fun a u e => ?_, fun a ob e => ?_⟩
    · by_cases ha : a = p
      · subst ha
        rw [hp] at e
        cases e
        exact .inl ⟨rfl, by rw [upd_same]; exact ho⟩
      · rw [upd_ne ha]
        rcases S.hs.sub a u e with ⟨q1, q2⟩ | q
        · exact .inl ⟨q1, q2.mono (Nat.le_succ _)⟩
        · exact .inr q
    · have q := S.hs.fo a u e
      have ha : a ≠ p := fun z => by subst z; rw [hp] at q; exact nomatch q.2
      rw [upd_ne ha]; exact q
    · rcases S.hs.lk a ob e with q | ⟨q1, q2⟩
      · exact .inl q
      · have ha : a ≠ p := fun z => by subst z; rw [hp] at q1; exact nomatch q1
        exact .inr ⟨q1, by rw [upd_ne ha]; exact q2⟩
  len := S.len
  sl := fun j => by
    have q := S.sl j
    show SlIs X.prog X.w X.K Fo Lk F (upd H p o) σ[j]? (ρ.get j)
    have hne : ∀ r, F r = none → r ≠ p := fun r hr z => by subst z; rw [hp] at hr; cases hr
    cases e : ρ.get j with
    | any => trivial
    | dat d => rw [e] at q; exact q
    | ol ds => rw [e] at q; obtain ⟨r, xs, h1, h2, h3, h4, h5⟩ := q; exact ⟨r, xs, h1, h2, h3, by rw [upd_ne (hne r h2)]; exact h4, h5⟩
    | odl ps => rw [e] at q; exact q
    | od ps =>
      rw [e] at q
      obtain ⟨r, h1, h2, h3, h4⟩ := q
      obtain ⟨u, h5, h6⟩ := h4.some
      exact ⟨r, h1, h2, h3, h6 F (upd H p o) (Sub.refl F) (by rw [upd_ne (hne r h2)]; exact h5)⟩
  sep := S.sep
theorem ss_pot {i j : Nat} {x : Str} {e : Expr} {p : PX} {z : Nat} {np cp tpos pos : Pos} (hj : j < 3) (hN : X.N[i]? = some x) (hv : nkB (X.env.scope.names.lookup x) = true) (hd : (x == ("__debug__" : Str)) = false) (hcd : (x == ("__classdict__" : Str)) = false) (h : S2 Γ X e p)
    (ha : ∀ v, assign (.Subscript (.Name x np) (.Constant (.int (j : Int)) z cp) tpos) X.env v = (do
      let ov ← holding [v] (eval (.Name x np) X.env)
      let iv ← holding [v, ov] (eval (.Constant (.int (j : Int)) z cp) X.env)
      standAt tpos
      holding [v, ov, iv] (setItem ov iv v)
      release [v, ov, iv] []))
    (hs : swapsWithSole [.Subscript (.Name x np) (.Constant (.int (j : Int)) z cp) tpos] e pos.line X.env = pure false) (hw : swappedStores [.Subscript (.Name x np) (.Constant (.int (j : Int)) z cp) tpos] e X.env = pure none) (h1 : (assignEach [.Subscript (.Name x np) (.Constant (.int (j : Int)) z cp) tpos] X.env).map (·.2) = [assign (.Subscript (.Name x np) (.Constant (.int (j : Int)) z cp) tpos) X.env]) :
    SS (Γ := Γ) X (.Assign [.Subscript (.Name x np) (.Constant (.int (j : Int)) z cp) tpos] e pos) (.updv (potPut i j) p) :=
  ⟨fun {Fo0 Lk F H σ ρ P D} S LO q E => by
    obtain ⟨Fo, le, S⟩ := S
    refine TSw.of (ps_asg (pe_w X e) (pg_sub (pe_var hN (nkB_vis hv) hd hcd) (pe_int) pset_w ha) hs hw h1) ?_
    refine h.val.run S q fun v F1 H1 ρ1 d S1 t1 i1 q1 => ?_
    have q1' : potPut i j d ρ1 P.nx := q1
    unfold potPut at q1'
    split at q1'
    · rename_i e1
      split at q1'
      · rename_i v'
        obtain ⟨q2, q3⟩ := q1'
        obtain ⟨p0, g1, g2, g3⟩ := pot_at S1 e1
        obtain ⟨xs, g4, g5, g6⟩ := pot_set g3 hj q2
        refine ⟨.ref p0, g1, ?_⟩
        intro pins s σ' ov iv' u I ro ri rv
        have e5 := i1.inv_int
        subst e5
        exact set_list pins s σ' H1 _ _ _ ov iv' u _ I ro ri rv ⟨p0, xs, (j : Int), j, rfl, rfl, g4, g5, E.nx ⟨Fo, le, Sx.potW S1 g2 g6⟩ t1.sub q3⟩
      · exact q1'.elim
    · exact q1'.elim⟩
/-- a new box -/
theorem potNew_inv {ds : List D} {Q : D → Prop} (q : potNew ds Q) : ∃ a b : Int, ds = [.int a, .int b, .int 0] ∧ 0 ≤ a ∧ 0 ≤ b ∧ b < 2305843009213693921 ∧ Q .pot := by
  unfold potNew at q
  split at q
  · obtain ⟨⟨h1, ⟨h2, h3⟩, rfl⟩, h5⟩ := q
    exact ⟨_, _, rfl, h1, h2, h3, h5⟩
  · exact q.elim
theorem s_potNew {es : List Expr} {ps : PXs} {pos : Pos} (h : SA (Γ := Γ) X es ps) : S2 Γ X (.List es pos) (.opv potNew ps) :=
  SE.two ⟨fun {Fo Lk F H σ ρ Q R} S q c => by
    refine TEw.of (pe_lst (pa_w X es)) ?_
    refine h.run S q fun vs F1 H1 ρ1 ds l1 S1 t1 i1 q1 => ?_
    obtain ⟨a, b, e0, h1, h2, h3, q2⟩ := potNew_inv q1
    subst e0
    have e : vs = [.int a, .int b, .int 0] := IsA.ints (ns := [a, b, 0]) i1
    subst e
    refine ⟨by show 3 ≤ sizeLine; rw [sizeLine_eq]; omega, fun p hp => ?_⟩
    have hf := S1.hs.nF hp
    have hs2 : Hs Fo Lk ρ1.k (upd F1 p potMark) (upd H1 p (.lst [.int a, .int b, .int 0])) := by
      refine ⟨fun x u e => ?_, fun x u e => ?_, fun x ob e => ?_⟩
      · by_cases hx : x = p
        · subst hx
          rw [upd_same] at e
          cases e
          exact .inl ⟨rfl, a, b, 0, by rw [upd_same], h1, h2, h3, by omega, by omega⟩
        · rw [upd_ne hx] at e ⊢
          exact S1.hs.sub x u e
      · have hx : x ≠ p := fun z => by subst z; rw [S1.hs.noFo hp] at e; cases e
        rw [upd_ne hx, upd_ne hx]
        exact S1.hs.fo x u e
      · have hx : x ≠ p := fun z => by subst z; rw [S1.hs.noLk hp] at e; cases e
        rw [upd_ne hx, upd_ne hx]
        exact S1.hs.lk x ob e
    have st : Stp F1 H1 (upd F1 p potMark) (upd H1 p (.lst [.int a, .int b, .int 0])) := by
      refine ⟨Sub.upd hf, fun a' u e _ => by rw [upd_ne (ne_of_none e hp)]; exact e, fun a' u e1 e2 => by rw [upd_ne (ne_of_none e2 hp)]; exact e1⟩
    exact c _ _ _ ρ1 _ (SxX.step S1 hs2 st) (t1.trans st.q) (.pot upd_same) q2⟩ rfl
end DL
/-! The data layer, part 29: a dict of own lists: d.setdefault(k, []).append(e). -/
namespace DL
open PySem PySem.Spec PyProof.Rows L2
variable {Γ : Nat → FSpec} {X : Cx}

section
variable {P : Program} {w : World} {K : PySem.W.Frag} {F Fo : Hp}
theorem addK_eq : ∀ (kvs : List (D × List D)) (k : D), addK kvs k = if (kvs.any fun p => eqK p.1 k) = true then kvs else kvs ++ [(k, [])]
  | [], k => rfl
  | p :: r, k => by
    rw [addK, addK_eq r k, List.any_cons]
    by_cases h : eqK p.1 k = true
    · rw [if_pos h, if_pos (by rw [h]; rfl)]
    · rw [if_neg h]
      have h' : eqK p.1 k = false := by simpa using h
      rw [h', Bool.false_or]
      split <;> rfl
theorem lookL_cons (p : D × List D) (r : List (D × List D)) (k : D) : lookL (p :: r) k = if eqK p.1 k = true then p.2 else lookL r k := by
  unfold lookL
  rw [List.find?_cons]
  split <;> simp_all
/-- the key is there: its list, and what stands behind one more -/
theorem IsL.there {n : NestedKey} {dk : D} (hk : dk.nk = some n) : ∀ {es : List (NestedKey × Addr × V)} {qs : List Addr} {kvs : List (D × List D)}, IsL P w K F Fo es qs kvs → qs.Nodup → (kvs.any fun p => eqK p.1 dk) = true →
    ∃ q xs, q ∈ qs ∧ Fo q = some (.lst xs) ∧ IsA P w K F xs (lookL kvs dk) ∧ (∀ ys, Nn es ys → valueAt (pairsH ys) n = some (.ref q)) ∧ ∀ F' v d, Sub F F' → Is P w K F' v d → IsL P w K F' (upd Fo q (.lst (xs ++ [v]))) es qs (addL kvs dk d)
  | _, _, _, .nil, _, h => by cases h
  | _, _, _, .cons (k := k1) (b := b1) (q := q1) (dk := d1) (xs := xs1) (ds := ds1) (es := es) (qs := qs) (ps := ps) a b c d e t, nd, h => by
    have nd' := List.nodup_cons.mp nd
    by_cases h1 : eqK d1 dk = true
    · refine ⟨q1, xs1, List.mem_cons_self, d, by rw [lookL_cons, if_pos h1]; exact e, fun ys rel => ?_, fun F' v d' s i => ?_⟩
      · cases rel with
        | cons r t =>
          rename_i y ys
          obtain ⟨y1, y2, y3⟩ := y
          obtain ⟨e1, e2, e3⟩ := r
          have e1' : k1 = y1 := e1
          subst e1'
          have e4 : y3 = .ref q1 := e3
          subst e4
          show valueAt ((k1, Value.ref q1) :: pairsH ys) n = _
          rw [valueAt_cons, if_pos]
          rw [eqK_n c hk] at h1
          exact of_decide_eq_true h1
      · rw [addL, if_pos h1]
        refine .cons (a.mono s) b c upd_same ((e.mono s).append (.cons i .nil)) ((IsL.mono s t).fo fun q hq o e => ?_)
        rw [upd_ne fun z => nd'.1 (by rw [← z]; exact hq)]; exact e
    · have h1' : eqK d1 dk = false := by simpa using h1
      rw [List.any_cons, h1', Bool.false_or] at h
      obtain ⟨q, xs, g1, g2, g3, g4, g5⟩ := IsL.there hk t nd'.2 h
      have hq : q1 ≠ q := fun z => nd'.1 (by rw [z]; exact g1)
      refine ⟨q, xs, List.mem_cons_of_mem _ g1, g2, by rw [lookL_cons, if_neg h1]; exact g3, fun ys rel => ?_, fun F' v d' s i => ?_⟩
      · cases rel with
        | cons r t =>
          rename_i y ys
          obtain ⟨y1, y2, y3⟩ := y
          obtain ⟨e1, e2, e3⟩ := r
          have e1' : k1 = y1 := e1
          subst e1'
          show valueAt ((k1, y3) :: pairsH ys) n = _
          rw [valueAt_cons, if_neg, g4 _ t]
          rw [eqK_n c hk] at h1
          simpa using h1
      · rw [addL, if_neg h1]
        exact .cons (a.mono s) b c (by rw [upd_ne hq]; exact d) (e.mono s) (g5 F' v d' s i)
theorem IsL.absent {n : NestedKey} {dk : D} (hk : dk.nk = some n) : ∀ {es : List (NestedKey × Addr × V)} {qs : List Addr} {kvs : List (D × List D)}, IsL P w K F Fo es qs kvs → (kvs.any fun p => eqK p.1 dk) = false → ∀ ys, Nn es ys → valueAt (pairsH ys) n = none
  | _, _, _, .nil, _, ys, rel => by cases rel; rfl
  | _, _, _, .cons (k := k1) (dk := d1) a b c d e t, h, ys, rel => by
    rw [List.any_cons, Bool.or_eq_false_iff] at h
    cases rel with
    | cons r tr =>
      rename_i y ys
      obtain ⟨y1, y2, y3⟩ := y
      obtain ⟨e1, e2, e3⟩ := r
      have e1' : k1 = y1 := e1
      subst e1'
      show valueAt ((k1, y3) :: pairsH ys) n = _
      rw [valueAt_cons, if_neg, IsL.absent hk t h.2 _ tr]
      have h1 := h.1
      rw [eqK_n c hk] at h1
      simpa using h1
theorem IsL.snoc {n : NestedKey} {b q : Addr} {dk : D} : ∀ {es : List (NestedKey × Addr × V)} {qs : List Addr} {kvs : List (D × List D)}, IsL P w K F Fo es qs kvs → Is P w K F (.ref b) dk → isTK dk = true → dk.nk = some n → Fo q = some (.lst []) → IsL P w K F Fo (es ++ [(n, b, .ref q)]) (qs ++ [q]) (kvs ++ [(dk, [])])
  | _, _, _, .nil, h1, h2, h3, h4 => .cons h1 h2 h3 h4 .nil .nil
  | _, _, _, .cons a b c d e t, h1, h2, h3, h4 => .cons a b c d e (IsL.snoc t h1 h2 h3 h4)
theorem IsL.len : ∀ {es : List (NestedKey × Addr × V)} {qs : List Addr} {kvs : List (D × List D)}, IsL P w K F Fo es qs kvs → es.length = kvs.length
  | _, _, _, .nil => rfl
  | _, _, _, .cons _ _ _ _ _ t => by rw [List.length_cons, List.length_cons, IsL.len t]
theorem IsL.val : ∀ {es : List (NestedKey × Addr × V)} {qs : List Addr} {kvs : List (D × List D)}, IsL P w K F Fo es qs kvs → (∀ q ∈ qs, ∃ e ∈ es, e.2.2 = .ref q) ∧ (∀ e ∈ es, ∃ q ∈ qs, e.2.2 = .ref q)
  | _, _, _, .nil => ⟨(fun _ h => nomatch h), (fun _ h => nomatch h)⟩
  | _, _, _, .cons _ _ _ _ _ t => by
    obtain ⟨h1, h2⟩ := IsL.val t
    refine ⟨fun q hq => ?_, fun e he => ?_⟩
    · rcases List.mem_cons.mp hq with z | hq
      · rw [z]; exact ⟨_, List.mem_cons_self, rfl⟩
      · obtain ⟨e, he, z⟩ := h1 q hq; exact ⟨e, List.mem_cons_of_mem _ he, z⟩
    · rcases List.mem_cons.mp he with z | he
      · rw [z]; exact ⟨_, List.mem_cons_self, rfl⟩
      · obtain ⟨q, hq, z⟩ := h2 e he; exact ⟨q, List.mem_cons_of_mem _ hq, z⟩
/-- frozen -/
theorem IsL.toN {F' : Hp} (s : Sub F F') : ∀ {es : List (NestedKey × Addr × V)} {qs : List Addr} {kvs : List (D × List D)}, IsL P w K F Fo es qs kvs → (∀ q ∈ qs, ∀ o, Fo q = some o → F' q = some o) → IsN P w K F' es (kvs.map fun p => (p.1, .lst p.2))
  | _, _, _, .nil, _ => .nil
  | _, _, _, .cons a b c d e t, h => .cons (a.mono s) b c (.lst (h _ List.mem_cons_self _ d) (e.mono s)) (IsL.toN s t fun q hq => h q (List.mem_cons_of_mem _ hq))
end

/-! ### what stands at the slot -/
theorem noOdl_at {ρ : Ev} (h : noOdl ρ = true) : ∀ j kvs, ρ.get j ≠ .odl kvs := fun j kvs e => by
  unfold noOdl at h
  unfold Ev.get at e
  rw [getS_lt] at e
  cases z : ρ.sl[j]? with
  | none => rw [z] at e; cases e
  | some s =>
    rw [z] at e
    have e' : s = .odl kvs := e
    subst e'
    have q := List.all_eq_true.mp h _ (List.mem_of_getElem? z)
    cases q
theorem onlyOdl_at {i : Nat} {ρ : Ev} (h : onlyOdl i ρ = true) : ∀ j kvs, i ≠ j → ρ.get j ≠ .odl kvs := fun j kvs hij e => by
  refine noOdl_at h j kvs ?_
  rw [Ev.get_set, if_neg fun z => hij z.1]
  exact e
theorem Inv.kno {pins : List (Addr × Obj)} {σ : L2.St} {H : Hp} {s : Shared} (I : Inv X pins σ H s) {p : Addr} {o : HO} (h : H p = some o) : X.K.lookup p = none := by
  cases e : X.K.lookup p with
  | none => rfl
  | some ob =>
    have q := (I.bs p ob (I.ok.mod.kin p ob e)).2
    rw [h] at q; cases q
/-- the def's own dict is held apart -/
theorem ss_toL {i : Nat} {sts : List Stmt} {p : PS} (h : SSs (Γ := Γ) X sts p) : SSs (Γ := Γ) X sts (.seq (.toL i) p) :=
  ⟨fun {Fo0 Lk F H σ ρ P D} S LO q E => by
    obtain ⟨Fo, le, S⟩ := S
    have q0 : (match ρ.get i with
      | .od [] => noOdl ρ = true ∧ wpS Γ p (ρ.set i (.odl [])) P
      | _ => False) := q
    cases e : ρ.get i with
    | od ps =>
      cases ps with
      | cons _ _ => rw [e] at q0; exact q0.elim
      | nil =>
        rw [e] at q0
        obtain ⟨hno, q1⟩ := q0
        have z := S.sl i
        rw [e] at z
        obtain ⟨a, g1, g2, g3, g4⟩ := z
        have hl : Lk a = none := own_lk LO le.le g2 g3
        intro pins s I
        have mu : Mut (H a) := by
          rcases g4 with ⟨kvs, h, _⟩ | ⟨es, h, _⟩
          · rw [h, locked_no hl]; trivial
          · rw [h, locked_no hl]; trivial
        have nd : NDict X.prog X.w a [] s.heap := by
          rcases g4 with ⟨kvs, h, i1⟩ | ⟨es, h, i1⟩
          · have e2 := isK_nil i1
            subst e2
            rw [locked_no hl] at h
            obtain ⟨hz, hs, vs, rel, dd⟩ := (show ObjOk X.prog X.w H s.heap a (.dK []) from I.hok a _ h)
            cases rel
            obtain ⟨o, es, ep, h1, h2, h3, h4, h5, h6⟩ := dictOf_nil dd rfl
            exact ⟨Nat.zero_le _, hs, [], o, es, ep, .nil, h1, h2, h3, h4, by simp⟩
          · have e2 := isN_nil i1
            subst e2
            rw [locked_no hl] at h
            exact (show NDict X.prog X.w a [] s.heap ∧ _ from I.hok a _ h).1
        obtain ⟨o0, ho0⟩ : ∃ o, s.heap.get? a = some o := by
          obtain ⟨_, _, _, o, _, _, _, h1, _⟩ := nd
          exact ⟨o, h1⟩
        have I2 : Inv X pins σ (upd H a (dN X.prog X.w a [])) s := d_write (t' := s.toks) I mu (Heap.SameBut.refl _ _) ⟨o0, ho0⟩ (by
          obtain ⟨hz, hs, ys, o, ents, ep, rel, h1, h2, h3, h4, h5⟩ := nd
          cases rel
          exact dn_ok (es := []) (Nat.zero_le _) hs .nil ⟨o, ents, ep, h1, h2, h3, h4, (fun y hy => nomatch hy), by simp⟩)
        have hs2 : Hs (upd Fo a (dN X.prog X.w a [])) Lk ρ.k F (upd H a (dN X.prog X.w a [])) := by
          have h1 := S.hs.write (o := dN X.prog X.w a []) g2 g3 hl
          refine ⟨h1.sub, fun b u e => ?_, h1.lk⟩
          by_cases hb : b = a
          · subst hb
            rw [upd_same] at e ⊢
            exact ⟨e, g2⟩
          · rw [upd_ne hb] at e ⊢
            exact S.hs.fo b u e
        have hF0 : Fo0 a = none := by
          cases z : Fo0 a with
          | none => rfl
          | some o => have := le.le a o z; rw [g3] at this; cases this
        have hown : (ρ.get i).own = true := by rw [e]; rfl
        have S2 : SxX X (upd Fo a (dN X.prog X.w a [])) Lk F (upd H a (dN X.prog X.w a [])) σ (ρ.set i (.odl [])) := by
          refine ⟨hs2, by show _ = (setS ρ.sl i _).length; rw [setS_length]; exact S.len, fun j => ?_, fun x y r hxy hx hy e1 e2 => ?_⟩
          · rw [Ev.get_set]
            by_cases hij : i = j ∧ i < ρ.sl.length
            · rw [if_pos hij, ← hij.1]
              exact ⟨a, g1, [], [], upd_same, .nil, by simp⟩
            · rw [if_neg hij]
              have hne : i ≠ j := fun z => hij ⟨z, by have := (List.getElem?_eq_some_iff.mp g1).1; rw [S.len] at this; exact this⟩
              have q := S.sl j
              cases e' : ρ.get j with
              | any => trivial
              | dat d => rw [e'] at q; exact q
              | odl ps => exact (noOdl_at hno j ps e').elim
              | ol ds =>
                rw [e'] at q
                obtain ⟨r, ys, h1, h2, h3, h4, h5⟩ := q
                have hr : r ≠ a := fun z => by subst z; exact S.sep i j r hne hown (by rw [e']; rfl) g1 h1
                exact ⟨r, ys, h1, h2, by rw [upd_ne hr]; exact h3, by rw [upd_ne hr]; exact h4, h5⟩
              | od ps =>
                rw [e'] at q
                obtain ⟨r, h1, h2, h3, h4⟩ := q
                have hr : r ≠ a := fun z => by subst z; exact S.sep i j r hne hown (by rw [e']; rfl) g1 h1
                obtain ⟨u, h5, h6⟩ := h4.some
                exact ⟨r, h1, h2, by rw [upd_ne hr]; exact h3, h6 F _ (Sub.refl F) (by rw [upd_ne hr]; exact h5)⟩
          · have own : ∀ c, ((ρ.set i (.odl [])).get c).own = true → (ρ.get c).own = true := fun c h => by
              rw [Ev.get_set] at h
              by_cases hc : i = c ∧ i < ρ.sl.length
              · rw [if_pos hc] at h; cases h
              · rw [if_neg hc] at h; exact h
            exact S.sep x y r hxy (own x hx) (own y hy) e1 e2
        have le2 : Ext X Fo0 (upd Fo a (dN X.prog X.w a [])) σ := by
          refine ⟨fun b o e => ?_, fun j r es e1 e2 => ?_⟩
          · have hb : b ≠ a := fun z => by subst z; rw [hF0] at e; cases e
            rw [upd_ne hb]; exact le.le b o e
          · by_cases hr : r = a
            · subst hr
              rw [upd_same] at e2
              exact .inl ⟨hF0, fun es2 _ => ⟨[], (Option.some.inj e2).symm, (fun e he => nomatch he)⟩⟩
            · rw [upd_ne hr] at e2
              exact le.nr j r es e1 e2
        exact h.run ⟨_, le2, S2⟩ LO q1 E pins s I2
    | _ => rw [e] at q0; exact q0.elim⟩
theorem relV_ref {v : V} {q : Addr} (h : RelV v (.ref q)) : v = .ref q := by
  cases v with
  | ref a => have e : Value.ref q = Value.ref a := h; cases e; rfl
  | non => exact nomatch (show Value.ref q = Value.none from h)
  | bl _ => exact nomatch (show Value.ref q = Value.bool _ from h)
  | ty _ => exact nomatch (show Value.ref q = Value.type _ from h)
  | _ => obtain ⟨_, e⟩ := h; exact nomatch e
theorem nn_at : ∀ {es : List (NestedKey × Addr × V)} {ys : List (NestedKey × Addr × Value)}, Nn es ys → (∀ e ∈ es, ∀ q, e.2.2 = .ref q → Value.ref q ∈ ys.map (·.2.2)) ∧ (∀ q, Value.ref q ∈ ys.map (·.2.2) → ∃ e ∈ es, e.2.2 = .ref q)
  | _, _, .nil => ⟨(fun e he => nomatch he), (fun q hq => nomatch hq)⟩
  | _, _, .cons (a := x) (b := y) r t => by
    obtain ⟨h1, h2⟩ := nn_at t
    obtain ⟨_, _, r3⟩ := r
    refine ⟨fun e he q hq => ?_, fun q hq => ?_⟩
    · rcases List.mem_cons.mp he with z | he
      · subst z
        rw [hq] at r3
        have r4 : y.2.2 = .ref q := r3
        rw [List.map_cons, r4]
        exact List.mem_cons_self
      · rw [List.map_cons]
        exact List.mem_cons_of_mem _ (h1 e he q hq)
    · rw [List.map_cons] at hq
      rcases List.mem_cons.mp hq with z | hq
      · rw [← z] at r3
        exact ⟨x, List.mem_cons_self, relV_ref r3⟩
      · obtain ⟨e, he, z⟩ := h2 q hq
        exact ⟨e, List.mem_cons_of_mem _ he, z⟩
theorem dn_same {P : Program} {w : World} {p : Addr} {h : Heap} {es es2 : List (NestedKey × Addr × V)} (a : NDict P w p es h) (b : NDict P w p es2 h) : ∀ e ∈ es, ∀ q, e.2.2 = .ref q → ∃ e' ∈ es2, e'.2.2 = .ref q := fun e he q hq => by
  obtain ⟨_, _, ys, o, ents, ep, rel, h1, h2, h3, h4, h5⟩ := a
  obtain ⟨_, _, ys', o', ents', ep', rel', k1, k2, k3, k4, k5⟩ := b
  rw [h1] at k1; cases k1
  rw [h3] at k3; cases k3
  have e1 := (nn_at rel).1 e he q hq
  refine (nn_at rel').2 q ?_
  rw [h4] at k4
  have e2 : ys.map (·.2.2) = ys'.map (·.2.2) := by
    have e3 := congrArg (List.map (fun z : DictEntry => z.val)) k4
    rw [List.map_map, List.map_map] at e3
    exact e3
  rw [← e2]; exact e1
/-- the cells of the slot's dict: none of the callers' -/
theorem odl_out {Fo0 Fo : Hp} {Lk : Lks} {F H : Hp} {σ : L2.St} {ρ : Ev} {i : Nat} {kvs : List (D × List D)} {pins : List (Addr × Obj)} {s : Shared} (I : Inv X pins σ H s) (le : Ext X Fo0 Fo σ) (LO : LkOk Fo0 Lk F) (S : SxX X Fo Lk F H σ ρ) (e : ρ.get i = .odl kvs) :
    ∃ p es qs, σ[i]? = some (some (.ref p)) ∧ Fo p = some (dN X.prog X.w p es) ∧ IsL X.prog X.w X.K F Fo es qs kvs ∧ (p :: qs).Nodup ∧ ∀ a ∈ p :: qs, (∃ o, Fo a = some o ∧ H a = some o ∧ ¬ o = potMark) ∧ F a = none ∧ Fo0 a = none ∧ Lk a = none := by
  have z := S.sl i
  rw [e] at z
  obtain ⟨p, g1, es, qs, g2, g3, g4⟩ := z
  refine ⟨p, es, qs, g1, g2, g3, g4, ?_⟩
  have hp := S.hs.fo p _ g2
  have kn := DL.Inv.kno I hp.1
  have out : Fo0 p = none ∧ ∀ q ∈ qs, Fo0 q = none := by
    rcases le.nr i p _ g1 g2 with ⟨h1, h2⟩ | h
    · obtain ⟨es2, h2, h3⟩ := h2 es rfl
      refine ⟨h1, fun q hq => ?_⟩
      obtain ⟨en, hen, hv⟩ := (IsL.val g3).1 q hq
      have n1 : NDict X.prog X.w p es s.heap := (show NDict X.prog X.w p es s.heap ∧ _ from I.hok p _ hp.1).1
      have n2 : NDict X.prog X.w p es2 s.heap := (show NDict X.prog X.w p es2 s.heap ∧ _ from I.hok p (dN X.prog X.w p es2) (by rw [← h2]; exact hp.1)).1
      obtain ⟨en2, hen2, hv2⟩ := dn_same n1 n2 en hen q hv
      exact h3 en2 hen2 q hv2
    · exact (h kn).elim
  have fin : ∀ a o, Fo a = some o → Fo0 a = none → ¬ o = potMark → (∃ o, Fo a = some o ∧ H a = some o ∧ ¬ o = potMark) ∧ F a = none ∧ Fo0 a = none ∧ Lk a = none := fun a o h h0 hn => by
    have q := S.hs.fo a o h
    refine ⟨⟨o, h, q.1, hn⟩, q.2, h0, ?_⟩
    cases e2 : Lk a with
    | none => rfl
    | some ob =>
      rcases LO a ob e2 with z | z
      · exact (z q.2).elim
      · exact (z h0).elim
  intro a ha
  rcases List.mem_cons.mp ha with z | ha
  · subst z; exact fin _ _ g2 out.1 dN_ne
  · obtain ⟨o, ho⟩ := IsL.dom g3 a ha
    have : ∃ xs, Fo a = some (.lst xs) := by
      have go : ∀ {es : List (NestedKey × Addr × V)} {qs : List Addr} {kvs : List (D × List D)}, IsL X.prog X.w X.K F Fo es qs kvs → a ∈ qs → ∃ xs, Fo a = some (.lst xs) := fun t => by
        induction t with
        | nil => intro h; cases h
        | cons a1 b1 c1 d1 e1 t1 ih =>
          intro h
          rcases List.mem_cons.mp h with z | h
          · subst z; exact ⟨_, d1⟩
          · exact ih h
      exact go g3 ha
    obtain ⟨xs, hx⟩ := this
    exact fin a _ hx (out.2 a ha) (fun z => nomatch z)
/-- the def's dict of own lists is frozen -/
theorem ss_fz {i : Nat} {sts : List Stmt} {p : PS} (h : SSs (Γ := Γ) X sts p) : SSs (Γ := Γ) X sts (.seq (.fz i) p) :=
  ⟨fun {Fo0 Lk F H σ ρ P D} S LO q E => by
    cases e : ρ.get i with
    | odl kvs =>
      have q0 : (match ρ.get i with
        | .odl kvs => onlyOdl i ρ = true ∧ wpS Γ p (ρ.set i (.dat (.dct (kvs.map fun p => (p.1, .lst p.2))))) P
        | _ => wpS Γ p ρ P) := q
      rw [e] at q0
      obtain ⟨hno, q1⟩ := q0
      obtain ⟨Fo, le, S⟩ := S
      intro pins s I
      obtain ⟨a, es, qs, g1, g2, g3, g4, g5⟩ := odl_out I le LO S e
      have foN : ∀ b, Fo b = none → b ∉ a :: qs := fun b hb m => by
        obtain ⟨⟨o, h1, _⟩, _⟩ := g5 b m
        rw [hb] at h1; cases h1
      have fN : ∀ b o, F b = some o → b ∉ a :: qs := fun b o hb m => by
        obtain ⟨_, h1, _⟩ := g5 b m
        rw [hb] at h1; cases h1
      let Fo' : Hp := fun b => if b ∈ a :: qs then none else Fo b
      let F' : Hp := fun b => if b ∈ a :: qs then Fo b else F b
      have fo_in : ∀ b, b ∈ a :: qs → Fo' b = none := fun b m => if_pos m
      have fo_out : ∀ b, b ∉ a :: qs → Fo' b = Fo b := fun b m => if_neg m
      have f_in : ∀ b, b ∈ a :: qs → F' b = Fo b := fun b m => if_pos m
      have f_out : ∀ b, b ∉ a :: qs → F' b = F b := fun b m => if_neg m
      have sub : Sub F F' := fun b o hb => by rw [f_out b (fN b o hb)]; exact hb
      have hs2 : Hs Fo' Lk ρ.k F' H := by
        refine ⟨fun b o hb => ?_, fun b o hb => ?_, fun b ob hb => ?_⟩
        · by_cases m : b ∈ a :: qs
          · rw [f_in b m] at hb
            obtain ⟨⟨o', h1, h2, h3⟩, _, _, h4⟩ := g5 b m
            rw [h1] at hb; cases hb
            exact .inr ⟨h3, by rw [locked_no h4]; exact h2⟩
          · rw [f_out b m] at hb
            exact S.hs.sub b o hb
        · by_cases m : b ∈ a :: qs
          · rw [fo_in b m] at hb; cases hb
          · rw [fo_out b m] at hb
            rw [f_out b m]
            exact S.hs.fo b o hb
        · by_cases m : b ∈ a :: qs
          · obtain ⟨_, _, _, h4⟩ := g5 b m
            rw [h4] at hb; cases hb
          · rw [f_out b m]
            exact S.hs.lk b ob hb
      have S2 : SxX X Fo' Lk F' H σ (ρ.set i (.dat (.dct (kvs.map fun p => (p.1, .lst p.2))))) := by
        refine ⟨hs2, by show _ = (setS ρ.sl i _).length; rw [setS_length]; exact S.len, fun j => ?_, fun x y r hxy hx hy e1 e2 => ?_⟩
        · rw [Ev.get_set]
          by_cases hij : i = j ∧ i < ρ.sl.length
          · rw [if_pos hij, ← hij.1]
            exact ⟨.ref a, g1, .dctN (by rw [f_in a List.mem_cons_self]; exact g2) (IsL.toN sub g3 fun q hq o ho => by rw [f_in q (List.mem_cons_of_mem _ hq)]; exact ho)⟩
          · rw [if_neg hij]
            have hne : i ≠ j := fun z => hij ⟨z, by have := (List.getElem?_eq_some_iff.mp g1).1; rw [S.len] at this; exact this⟩
            have q := S.sl j
            cases e' : ρ.get j with
            | any => trivial
            | dat d => rw [e'] at q; obtain ⟨v, h1, h2⟩ := q; exact ⟨v, h1, h2.mono sub⟩
            | odl ps => exact (onlyOdl_at hno j ps hne e').elim
            | ol ds =>
              rw [e'] at q
              obtain ⟨r, ys, h1, h2, h3, h4, h5⟩ := q
              have m := foN r h3
              exact ⟨r, ys, h1, by rw [f_out r m]; exact h2, by rw [fo_out r m]; exact h3, h4, h5.mono sub⟩
            | od ps =>
              rw [e'] at q
              obtain ⟨r, h1, h2, h3, h4⟩ := q
              have m := foN r h3
              obtain ⟨u, h5, h6⟩ := h4.some
              exact ⟨r, h1, by rw [f_out r m]; exact h2, by rw [fo_out r m]; exact h3, h6 F' H sub h5⟩
        · have own : ∀ c, ((ρ.set i (.dat (.dct (kvs.map fun p => (p.1, .lst p.2))))).get c).own = true → (ρ.get c).own = true := fun c h => by
            rw [Ev.get_set] at h
            by_cases hc : i = c ∧ i < ρ.sl.length
            · rw [if_pos hc] at h; cases h
            · rw [if_neg hc] at h; exact h
          exact S.sep x y r hxy (own x hx) (own y hy) e1 e2
      have le2 : Ext X Fo0 Fo' σ := by
        refine ⟨fun b o hb => ?_, fun j r o e1 e2 => ?_⟩
        · have m : b ∉ a :: qs := fun m => by
            obtain ⟨_, _, h3, _⟩ := g5 b m
            rw [h3] at hb; cases hb
          rw [fo_out b m]; exact le.le b o hb
        · by_cases m : r ∈ a :: qs
          · rw [fo_in r m] at e2; cases e2
          · rw [fo_out r m] at e2
            exact le.nr j r o e1 e2
      exact h.run ⟨_, le2, S2⟩ (LO.sub sub) q1 (E.sub sub) pins s I
    | _ =>
      have q0 : (match ρ.get i with
        | .odl kvs => onlyOdl i ρ = true ∧ wpS Γ p (ρ.set i (.dat (.dct (kvs.map fun p => (p.1, .lst p.2))))) P
        | _ => wpS Γ p ρ P) := q
      rw [e] at q0
      exact h.run S LO q0 E⟩
end DL
/-! The data layer, part 30: d.setdefault(k, []).append(e). -/
namespace DL
open PySem PySem.Spec PyProof.Rows L2
variable {Γ : Nat → FSpec} {X : Cx}

/-- the cells held apart are changed -/
theorem Sx.odlW {Fo Fo' : Hp} {Lk : Lks} {F H H' : Hp} {σ : L2.St} {ρ : Ev} {i : Nat} {p : Addr} {kvs : List (D × List D)} (S : SxX X Fo Lk F H σ ρ) (hno : onlyOdl i ρ = true) (hi : σ[i]? = some (some (.ref p))) (ho : (ρ.get i).own = false)
    (h1 : ∀ a o, Fo' a = some o → (Fo a = some o ∧ H' a = H a) ∨ (H' a = some o ∧ F a = none)) (h2 : ∀ a o, H a = some o → Fo a = none → H' a = some o ∧ Fo' a = none) (h3 : ∀ a, Lk a ≠ none → H' a = H a)
    (hs : OdL X.prog X.w X.K F Fo' p kvs) : SxX X Fo' Lk F H' σ (ρ.set i (.odl kvs)) where
  hs := by
    have fN : ∀ a o, F a = some o → Fo a = none := fun a o e => by
      cases z : Fo a with
      | none => rfl
      | some u => have q := (S.hs.fo a u z).2; rw [e] at q; cases q
    refine ⟨fun a o e => ?_, fun a o e => ?_, fun a ob e => ?_⟩
    · rcases S.hs.sub a o e with ⟨q1, x, y, z, q2, q3⟩ | ⟨q1, q2⟩
      · exact .inl ⟨q1, x, y, z, (h2 a _ q2 (fN a o e)).1, q3⟩
      · exact .inr ⟨q1, (h2 a _ q2 (fN a o e)).1⟩
    · rcases h1 a o e with ⟨q1, q2⟩ | ⟨q1, q2⟩
      · have q := S.hs.fo a o q1
        rw [q2]; exact q
      · exact ⟨q1, q2⟩
    · rcases S.hs.lk a ob e with q | ⟨q1, q2⟩
      · exact .inl q
      · refine .inr ⟨q1, ?_⟩
        rw [h3 a (by rw [e]; exact fun z => nomatch z)]
        exact q2
  len := by show _ = (setS ρ.sl i _).length; rw [setS_length]; exact S.len
  sl := fun j => by
    rw [Ev.get_set]
    by_cases hij : i = j ∧ i < ρ.sl.length
    · rw [if_pos hij, ← hij.1]
      exact ⟨p, hi, hs⟩
    · rw [if_neg hij]
      have hne : i ≠ j := fun z => hij ⟨z, by have := (List.getElem?_eq_some_iff.mp hi).1; rw [S.len] at this; exact this⟩
      have q := S.sl j
      cases e' : ρ.get j with
      | any => trivial
      | dat d => rw [e'] at q; exact q
      | odl ps => exact (onlyOdl_at hno j ps hne e').elim
      | ol ds =>
        rw [e'] at q
        obtain ⟨r, ys, g1, g2, g3, g4, g5⟩ := q
        obtain ⟨k1, k2⟩ := h2 r _ g4 g3
        exact ⟨r, ys, g1, g2, k2, k1, g5⟩
      | od ps =>
        rw [e'] at q
        obtain ⟨r, g1, g2, g3, g4⟩ := q
        obtain ⟨u, g5, g6⟩ := g4.some
        obtain ⟨k1, k2⟩ := h2 r u g5 g3
        exact ⟨r, g1, g2, k2, g6 F H' (Sub.refl F) k1⟩
  sep := fun x y r hxy hx hy e1 e2 => by
    have own : ∀ c, ((ρ.set i (.odl kvs)).get c).own = true → (ρ.get c).own = true := fun c h => by
      rw [Ev.get_set] at h
      by_cases hc : i = c ∧ i < ρ.sl.length
      · rw [if_pos hc] at h; cases h
      · rw [if_neg hc] at h; exact h
    exact S.sep x y r hxy (own x hx) (own y hy) e1 e2
theorem isL_keys {pins : List (Addr × Obj)} {σ : L2.St} {s : Shared} {Fo Fo2 : Hp} {Lk : Lks} {k : Nat} {F H : Hp} (I : Inv X pins σ H s) (S : Hs Fo Lk k F H) : ∀ {es : List (NestedKey × Addr × V)} {qs : List Addr} {ys : List (NestedKey × Addr × Value)} {kvs : List (D × List D)}, Nn es ys → IsL X.prog X.w X.K F Fo2 es qs kvs → ∀ y ∈ ys, (nestedKind X.prog X.w).is s.heap y.1 y.2.1
  | _, _, _, _, rel, .nil => fun y hy => by cases rel; exact absurd hy (by simp)
  | _, _, _, _, rel, .cons h0 h1 h2 h h' ht => fun y hy => by
    cases rel with
    | cons r t =>
      rename_i y0 ys
      obtain ⟨e, e2, rv⟩ := r
      rcases List.mem_cons.mp hy with z | z
      · subst z
        obtain ⟨xs, n, _, hn, hd⟩ := isTK_inv h1
        rw [h2] at hn; cases hn
        have e' := e.symm
        have e2' := e2.symm
        dsimp only at e' e2'
        rw [e', e2']
        exact ⟨h0.nest I S h2 rfl, hd⟩
      · exact isL_keys I S t ht y z
theorem nn_snoc {n : NestedKey} {b q : Addr} : ∀ {es : List (NestedKey × Addr × V)} {ys : List (NestedKey × Addr × Value)}, Nn es ys → Nn (es ++ [(n, b, .ref q)]) (ys ++ [(n, b, .ref q)])
  | _, _, .nil => .cons ⟨rfl, rfl, rfl⟩ .nil
  | _, _, .cons r t => .cons r (nn_snoc t)
theorem ss_sdap {i : Nat} {x : Str} {e k : Expr} {p pk : PX} {np apos lp cpos apos2 cpos2 pos : Pos} (hu : X.A.units + 70 < cLine) (hN : X.N[i]? = some x) (hv : nkB (X.env.scope.names.lookup x) = true) (hd : (x == ("__debug__" : Str)) = false) (hcd : (x == ("__classdict__" : Str)) = false) (hk : S2 Γ X k pk) (h : S2 Γ X e p)
    (m : M2 X (.Name x np) "setdefault" apos k (.List [] lp) cpos)
    (hbase : attributeBase (.Call (.Attribute (.Name x np) "setdefault" apos) [k, .List [] lp] [] cpos) "append" X.env (eval (.Call (.Attribute (.Name x np) "setdefault" apos) [k, .List [] lp] [] cpos) X.env) = eval (.Call (.Attribute (.Name x np) "setdefault" apos) [k, .List [] lp] [] cpos) X.env)
    (hline : (apos2.endLine == cpos2.line) = true) (hse : isStar e = false)
    (hfew : ((backTo cpos2 (starEach [e] X.env)).all (fun x => !x.1) && (backToKw cpos2 (keywordEach [] X.env)).all (fun x => x.1.isSome) && decide (([e] : List Expr).length + ([] : List Keyword).length + (if ([] : List Keyword).isEmpty then 0 else 1) < 30)) = true)
    (hs : swapsWith (.Call (.Attribute (.Call (.Attribute (.Name x np) "setdefault" apos) [k, .List [] lp] [] cpos) "append" apos2) [e] [] cpos2) none pos.line X.env = pure false) :
    SS (Γ := Γ) X (.Expr (.Call (.Attribute (.Call (.Attribute (.Name x np) "setdefault" apos) [k, .List [] lp] [] cpos) "append" apos2) [e] [] cpos2) pos) (.sdap i pk p) :=
  ⟨fun {Fo0 Lk F H σ ρ P D} S LO q E => by
    obtain ⟨Fo, le, S⟩ := S
    have q0 : (match ρ.get i with
      | .odl kvs => wpE Γ pk ρ fun x ρ1 => (ρ1.get i = .odl kvs ∧ (onlyOdl i ρ1 && isTK x && decide (kvs.length < sizeLine) && decide ((lookL kvs x).length < sizeLine)) = true) ∧ wpE Γ p (ρ1.set i (.odl (addK kvs x))) fun v ρ2 => (ρ2.get i = .odl (addK kvs x) ∧ onlyOdl i ρ2 = true) ∧ P.nx (ρ2.set i (.odl (addL (addK kvs x) x v)))
      | _ => False) := q
    cases e0 : ρ.get i with
    | odl kvs =>
      rw [e0] at q0
      intro pins0 s0 I0
      obtain ⟨a, es, qs, g1, g2, g3, g4, g5⟩ := odl_out I0 le LO S e0
      refine TSw.of (ps_expr (pe_bm PySem.F.plainAttrs_list PySem.F.slot_list_append PySem.F.type_list_append mt_append (pe_w X _) (pa_cons (pe_w X e) pa_nil (starEach_cons hse)) hbase hfew hline (starEach_cons hse) rfl) hs) ?_ pins0 s0 I0
      have q0' := q0
      -- behind setdefault: the list's cell, the cells held apart
      have fin : ∀ (F1 H4 Fo1 : Hp) (ρ1 : Ev) (es1 : List (NestedKey × Addr × V)) (qs1 : List Addr) (dk : DL.D) (qc : Addr) (xs : List V), SxX X Fo1 Lk F1 H4 σ (ρ1.set i (.odl (addK kvs dk))) → Sub F F1 →
          qc ∈ qs1 → Fo1 qc = some (.lst xs) → Fo1 a = some (dN X.prog X.w a es1) → (∀ e ∈ es1, ∃ q ∈ qs1, e.2.2 = .ref q) → (a :: qs1).Nodup →
          (∀ F' v d, Sub F1 F' → IsX X F' v d → IsL X.prog X.w X.K F' (upd Fo1 qc (.lst (xs ++ [v]))) es1 qs1 (addL (addK kvs dk) dk d)) →
          (∀ c ∈ a :: qs1, Fo0 c = none ∧ Lk c = none) → (∀ c, c ∉ a :: qs1 → Fo1 c = Fo c) → xs.length < sizeLine →
          wpE Γ p (ρ1.set i (.odl (addK kvs dk))) (fun v ρ2 => (ρ2.get i = .odl (addK kvs dk) ∧ onlyOdl i ρ2 = true) ∧ P.nx (ρ2.set i (.odl (addL (addK kvs dk) dk v)))) →
          (tyV X.K "list" (.ref qc) H4 ∧ tCons (TEw X e) tNil σ H4 fun vs H5 => rAppend (.ref qc) vs H5 fun _ H6 => D.nx σ H6) := by
        intro F1 H4 Fo1 ρ1 es1 qs1 dk qc xs S4 s4 k1 k2 k3 k4 k5 k6 k7 k8 k9 q4
        have hqa : qc ≠ a := fun z => by subst z; exact (List.nodup_cons.mp k5).1 k1
        refine ⟨.inl ⟨rfl, xs, SqL.of (S4.hs.fo qc _ k2).1⟩, ?_⟩
        refine h.val.run S4 q4 fun v F5 H5 ρ2 d S5 t5 i5 q5 => ?_
        obtain ⟨⟨e5, hno5⟩, q6⟩ := q5
        refine ⟨qc, xs, v, rfl, rfl, (S5.hs.fo qc _ k2).1, k9, ?_⟩
        refine E.nx ⟨upd Fo1 qc (.lst (xs ++ [v])), ⟨fun b o hb => ?_, fun j r o e1 e2 => ?_⟩, Sx.odlW (p := a) S5 hno5 g1 (by rw [e5]; rfl) (fun b o hb => ?_) (fun b o hb hfo => ?_) (fun b hb => ?_) ⟨es1, qs1, by rw [upd_ne hqa.symm]; exact k3, k6 F5 v d t5.sub i5, k5⟩⟩ (s4.trans t5.sub) q6
        · have m : b ∉ a :: qs1 := fun m => by rw [(k7 b m).1] at hb; cases hb
          have hbq : b ≠ qc := fun z => by subst z; exact m (List.mem_cons_of_mem _ k1)
          rw [upd_ne hbq, k8 b m]
          exact le.le b o hb
        · by_cases m : r ∈ a :: qs1
          · refine .inl ⟨(k7 r m).1, fun es2 he => ?_⟩
            by_cases hr : r = a
            · subst hr
              rw [upd_ne hqa.symm, k3] at e2
              refine ⟨es1, (Option.some.inj e2).symm, fun en hen q hq => ?_⟩
              obtain ⟨q', hq', hv⟩ := k4 en hen
              rw [hv] at hq; cases hq
              exact (k7 _ (List.mem_cons_of_mem _ hq')).1
            · -- a list
              exfalso
              have hm : r ∈ qs1 := (List.mem_cons.mp m).resolve_left hr
              have hl : ∃ zs, upd Fo1 qc (.lst (xs ++ [v])) r = some (.lst zs) := by
                have go : ∀ {es : List (NestedKey × Addr × V)} {qs : List Addr} {kvs : List (DL.D × List DL.D)} {Fo : Hp}, IsL X.prog X.w X.K F5 Fo es qs kvs → r ∈ qs → ∃ zs, Fo r = some (.lst zs) := fun t => by
                  induction t with
                  | nil => intro h; cases h
                  | cons a1 b1 c1 d1 e1 t1 ih =>
                    intro h
                    rcases List.mem_cons.mp h with z | h
                    · subst z; exact ⟨_, d1⟩
                    · exact ih h
                exact go (k6 F5 v d t5.sub i5) hm
              obtain ⟨zs, hz⟩ := hl
              rw [hz] at e2
              rw [he] at e2
              exact nomatch (Option.some.inj e2 : HO.lst zs = dN X.prog X.w r es2)
          · have hbq : r ≠ qc := fun z => by subst z; exact m (List.mem_cons_of_mem _ k1)
            rw [upd_ne hbq, k8 r m] at e2
            exact le.nr j r o e1 e2
        · by_cases hbq : b = qc
          · subst hbq
            rw [upd_same] at hb; cases hb
            exact .inr ⟨upd_same, (S5.hs.fo b _ k2).2⟩
          · rw [upd_ne hbq] at hb
            exact .inl ⟨hb, by rw [upd_ne hbq]⟩
        · have hbq : b ≠ qc := fun z => by subst z; rw [k2] at hfo; cases hfo
          rw [upd_ne hbq, upd_ne hbq]
          exact ⟨hb, hfo⟩
        · have hbq : b ≠ qc := fun z => by subst z; exact hb (k7 b (List.mem_cons_of_mem _ k1)).2
          rw [upd_ne hbq]
      intro pins s I
      refine wpAny_Call_method m.base m.few m.line PySem.F.plainAttrs_dict PySem.F.slot_dict_setdefault PySem.F.type_dict_setdefault ?_
      have r1 : TEw X (.Name x np) σ H (fun y H1 => y = .ref a ∧ H1 = H) := TEw.of (pe_var hN (nkB_vis hv) hd hcd) ⟨.ref a, g1, rfl, rfl⟩
      refine thn (r1 pins s I) fun u s1 ⟨y, H1, I1, ru, e1, e2⟩ => ?_
      subst e1 e2
      cases ru
      have hHa : H1 a = some (dN X.prog X.w a es) := (S.hs.fo a _ g2).1
      have ob1 : ∃ o, s1.heap.get? a = some o ∧ o.ExactDict := by
        obtain ⟨⟨z, hsy, ys, o, ents, ep, rel, h1, h2, h3, h4, h5⟩, _⟩ := (show NDict X.prog X.w a es s1.heap ∧ _ from I1.hok a _ hHa)
        exact ⟨o, h1, h2⟩
      obtain ⟨o1, ho1, ho2⟩ := ob1
      refine ⟨⟨o1, ho1, ho2.1⟩, fun b e => by cases e; exact ⟨o1, ho1, ho2.2.1⟩, ?_⟩
      rw [m.trees]
      have st2 := hk.val.run (R := fun y H2 => ∃ ρ1 F1 dk, SxX X Fo Lk F1 H2 σ ρ1 ∧ Stq F H1 F1 H2 ∧ IsX X F1 y dk ∧ (ρ1.get i = .odl kvs ∧ (onlyOdl i ρ1 && isTK dk && decide (kvs.length < sizeLine) && decide ((lookL kvs dk).length < sizeLine)) = true) ∧ wpE Γ p (ρ1.set i (.odl (addK kvs dk))) fun v ρ2 => (ρ2.get i = .odl (addK kvs dk) ∧ onlyOdl i ρ2 = true) ∧ P.nx (ρ2.set i (.odl (addL (addK kvs dk) dk v)))) S q0 fun y F1 H2 ρ1 dk S1 t1 i1 q1 => ⟨ρ1, F1, dk, S1, t1, i1, q1⟩
      refine Calls.callWith_builtin rfl (Calls.evalArgs_plain (Calls.spliced_cons (thn (st2 pins s1 I1) fun iv s2 ⟨y, H2, I2, ry, ρ1, F1, dk, S1, t1, i1, ⟨q1, q2⟩, q3⟩ => Calls.spliced_cons ?_)))
      have st3 : TEw X (.List [] lp) σ H2 (fun y H3 => ∃ q0, y = .ref q0 ∧ H2 q0 = none ∧ H3 = upd H2 q0 (.lst [])) := TEw.of (pe_lst pa_nil) ⟨by simp, fun p hp => ⟨p, rfl, hp, rfl⟩⟩
      refine thn (st3 pins s2 I2) fun zv s3 ⟨z, H3, I3, rz, q0, ez, hq0, eH⟩ => Calls.spliced_nil ?_
      subst ez eH
      cases rz
      have S3 : SxX X Fo Lk F1 (upd H2 q0 (.lst [])) σ ρ1 := Sx.junk S1 hq0
      simp only [Bool.and_eq_true, decide_eq_true_eq] at q2
      obtain ⟨⟨⟨hno, htk⟩, hz1⟩, hz2⟩ := q2
      obtain ⟨ks, n, edk, hn, hdep⟩ := isTK_inv htk
      have ib : ∃ b, y = .ref b := by
        subst edk
        obtain ⟨b, _, eb, _, _⟩ := i1.inv_tup
        exact ⟨b, eb⟩
      obtain ⟨b, eb⟩ := ib
      subst eb
      cases ry
      have hH2a : H2 a = some (dN X.prog X.w a es) := (S1.hs.fo a _ g2).1
      have haq : a ≠ q0 := fun z => by subst z; rw [hq0] at hH2a; cases hH2a
      have hH3a : (upd H2 q0 (.lst [])) a = some (dN X.prog X.w a es) := by rw [upd_ne haq]; exact hH2a
      have g3' : IsL X.prog X.w X.K F1 Fo es qs kvs := g3.mono t1.sub
      obtain ⟨⟨z, hsy, ys, o, ents, ep, rel, h1, h2, h3, h4, h5⟩, _⟩ := (show NDict X.prog X.w a es s3.heap ∧ _ from I3.hok a _ hH3a)
      have dd : s3.heap.DictOfH (nestedKind X.prog X.w) a ys := ⟨o, ents, ep, h1, h2, h3, h4, isL_keys I3 S3.hs rel g3', h5⟩
      have hkey : (nestedKind X.prog X.w).is s3.heap n b := ⟨i1.nest I3 S3.hs hn rfl, hdep⟩
      have hlen : ys.length ≤ sizeLine := by rw [← Paired.length rel]; exact z
      have hesl : es.length = kvs.length := g3'.len
      refine call_setdefault_heap (hsz := hlen) (room_n hu) hkey hsy dd (fun pr hpr => ?_) fun hnone h' dd' sb => ?_
      · -- the key is there
        have hv1 : valueAt (pairsH ys) n = some pr.2 := by rw [valueAt_pairsH, hpr]; rfl
        have hany : (kvs.any fun p => eqK p.1 dk) = true := by
          cases c : (kvs.any fun p => eqK p.1 dk) with
          | true => rfl
          | false => rw [g3'.absent hn c ys rel] at hv1; cases hv1
        have eK : addK kvs dk = kvs := by rw [addK_eq, if_pos hany]
        obtain ⟨qc, xs, c1, c2, c3, c4, c5⟩ := g3'.there hn (List.nodup_cons.mp g4).2 hany
        rw [c4 ys rel] at hv1
        have hpr2 : pr.2 = .ref qc := (Option.some.inj hv1).symm
        rw [hpr2]
        have S3' : SxX X Fo Lk F1 (upd H2 q0 (.lst [])) σ (ρ1.set i (.odl (addK kvs dk))) := by
          rw [eK]
          exact Sx.odlW (p := a) S3 hno g1 (by rw [q1]; rfl) (fun b o hb => .inl ⟨hb, rfl⟩) (fun b o hb hf => ⟨hb, hf⟩) (fun b _ => rfl) ⟨es, qs, g2, g3', g4⟩
        obtain ⟨f1, f2⟩ := fin F1 (upd H2 q0 (.lst [])) Fo ρ1 es qs dk qc xs S3' t1.sub c1 c2 g2 (IsL.val g3').2 g4 (fun F' v d s i => by rw [eK]; exact c5 F' v d s i) (fun c hc => ⟨(g5 c hc).2.2.1, (g5 c hc).2.2.2⟩) (fun c _ => rfl) (by rw [c3.length]; exact hz2) q3
        exact ⟨.ref qc, _, I3.tok _, rfl, f1, f2⟩
      · -- the key is new
        have hv1 : valueAt (pairsH ys) n = none := by rw [valueAt_pairsH, hnone]; rfl
        have hany : (kvs.any fun p => eqK p.1 dk) = false := by
          cases c : (kvs.any fun p => eqK p.1 dk) with
          | false => rfl
          | true =>
            obtain ⟨qc, xs, c1, c2, c3, c4, c5⟩ := g3'.there hn (List.nodup_cons.mp g4).2 c
            rw [c4 ys rel] at hv1; cases hv1
        have eK : addK kvs dk = kvs ++ [(dk, [])] := by rw [addK_eq, if_neg (by rw [hany]; decide)]
        have eS : storedH ys n b (.ref q0) = ys ++ [(n, b, .ref q0)] := by
          unfold storedH
          rw [if_neg (by rw [hnone]; decide)]
        rw [eS] at dd'
        have rel' : Nn (es ++ [(n, b, .ref q0)]) (ys ++ [(n, b, .ref q0)]) := nn_snoc rel
        have qfo : Fo q0 = none := S1.hs.noFo hq0
        have qqs : q0 ∉ a :: qs := fun m => by
          obtain ⟨⟨o', h1, _⟩, _⟩ := g5 q0 m
          rw [qfo] at h1; cases h1
        have he : ∃ q, h'.get? a = some q := by obtain ⟨q, _, _, hq, _⟩ := dd'; exact ⟨q, hq⟩
        have I4 := d_write (t' := s3.toks + (nestedKind X.prog X.w).draws n) I3 (by rw [hH3a]; trivial) sb he (dn_ok (es := es ++ [(n, b, .ref q0)]) (by rw [List.length_append, hesl]; simp; omega) hsy rel' dd')
        let Fo1 : Hp := upd (upd Fo a (dN X.prog X.w a (es ++ [(n, b, .ref q0)]))) q0 (.lst [])
        have f1a : Fo1 a = some (dN X.prog X.w a (es ++ [(n, b, .ref q0)])) := by show upd _ q0 _ a = _; rw [upd_ne haq, upd_same]
        have f1q : Fo1 q0 = some (.lst []) := upd_same
        have f1o : ∀ c, c ≠ a → c ≠ q0 → Fo1 c = Fo c := fun c h1 h2 => by show upd _ q0 _ c = _; rw [upd_ne h2, upd_ne h1]
        have nd1 : (a :: (qs ++ [q0])).Nodup := by
          have e : a :: (qs ++ [q0]) = (a :: qs) ++ [q0] := rfl
          rw [e, List.nodup_append]
          exact ⟨g4, by simp, fun c hc d hd z => by rw [List.mem_singleton.mp hd] at z; rw [z] at hc; exact qqs hc⟩
        have g31 : IsL X.prog X.w X.K F1 Fo1 es qs kvs := g3'.fo fun q hq o ho => by
          rw [f1o q (fun z => (List.nodup_cons.mp g4).1 (by rw [← z]; exact hq)) fun z => qqs (by rw [← z]; exact List.mem_cons_of_mem _ hq)]
          exact ho
        have g32 : IsL X.prog X.w X.K F1 Fo1 (es ++ [(n, b, .ref q0)]) (qs ++ [q0]) (addK kvs dk) := by rw [eK]; exact g31.snoc i1 htk hn f1q
        have eqn : eqK dk dk = true := by unfold eqK; simp
        have hany2 : ((addK kvs dk).any fun p => eqK p.1 dk) = true := by rw [eK, List.any_append]; simp [eqn]
        obtain ⟨qc, xs, c1, c2, c3, c4, c5⟩ := g32.there hn (List.nodup_cons.mp nd1).2 hany2
        have hqc : qc = q0 := by
          have h1 := c4 _ rel'
          have h2 : valueAt (pairsH (ys ++ [(n, b, Value.ref q0)])) n = some (.ref q0) := by
            have e3 : pairsH (ys ++ [(n, b, Value.ref q0)]) = pairsH ys ++ [(n, Value.ref q0)] := by unfold pairsH; rw [List.map_append]; rfl
            rw [e3]
            unfold valueAt at hv1 ⊢
            rw [List.find?_append]
            have h5 : (pairsH ys).find? (fun p => decide (p.1 = n)) = none := by
              cases c : (pairsH ys).find? (fun p => decide (p.1 = n)) with
              | none => rfl
              | some _ => rw [c] at hv1; cases hv1
            rw [h5]
            simp
          rw [h1] at h2
          have h3 := Option.some.inj h2
          injection h3
        subst hqc
        have S4 : SxX X Fo1 Lk F1 (upd (upd H2 qc (.lst [])) a (dN X.prog X.w a (es ++ [(n, b, .ref qc)]))) σ (ρ1.set i (.odl (addK kvs dk))) := by
          refine Sx.odlW (p := a) S1 hno g1 (by rw [q1]; rfl) (fun c o hc => ?_) (fun c o hc hf => ?_) (fun c hc => ?_) ⟨_, _, f1a, g32, nd1⟩
          · by_cases ca : c = a
            · subst ca
              rw [f1a] at hc; cases hc
              exact .inr ⟨upd_same, (S1.hs.fo c _ g2).2⟩
            · by_cases cq : c = qc
              · subst cq
                rw [f1q] at hc; cases hc
                exact .inr ⟨by rw [upd_ne ca, upd_same], S1.hs.nF hq0⟩
              · rw [f1o c ca cq] at hc
                exact .inl ⟨hc, by rw [upd_ne ca, upd_ne cq]⟩
          · have ca : c ≠ a := fun z => by subst z; rw [g2] at hf; cases hf
            have cq : c ≠ qc := fun z => by subst z; rw [hq0] at hc; cases hc
            rw [upd_ne ca, upd_ne cq, f1o c ca cq]
            exact ⟨hc, hf⟩
          · have ca : c ≠ a := fun z => by subst z; exact hc (g5 c List.mem_cons_self).2.2.2
            have cq : c ≠ qc := fun z => by subst z; exact hc (S1.hs.noLk hq0)
            rw [upd_ne ca, upd_ne cq]
        have hcells : ∀ c ∈ a :: (qs ++ [qc]), Fo0 c = none ∧ Lk c = none := fun c hc => by
          by_cases m : c ∈ a :: qs
          · exact ⟨(g5 c m).2.2.1, (g5 c m).2.2.2⟩
          · have e4 : c = qc := by
              rcases List.mem_cons.mp hc with z | hc
              · exact (m (by rw [z]; exact List.mem_cons_self)).elim
              · rcases List.mem_append.mp hc with z | z
                · exact (m (List.mem_cons_of_mem _ z)).elim
                · exact List.mem_singleton.mp z
            subst e4
            refine ⟨?_, S1.hs.noLk hq0⟩
            cases z : Fo0 c with
            | none => rfl
            | some o' => have := le.le c o' z; rw [qfo] at this; cases this
        obtain ⟨f1, f2⟩ := fin F1 _ Fo1 ρ1 _ _ dk qc xs S4 t1.sub c1 c2 f1a (IsL.val g32).2 nd1 c5 hcells (fun c hc => f1o c (fun z => hc (by rw [z]; exact List.mem_cons_self)) fun z => hc (by rw [z]; exact List.mem_cons_of_mem _ (List.mem_append_right _ List.mem_cons_self))) (by rw [f1q] at c2; cases c2; show 0 < sizeLine; rw [sizeLine_eq]; omega) q3
        exact ⟨.ref qc, _, I4, rfl, f1, f2⟩
    | _ => rw [e0] at q0; exact q0.elim⟩
end DL
/-! The data layer, part 31: dicts by keys that are encoded. -/
namespace DL
open PySem PySem.Spec PyProof.Rows L2

structure Enc {α : Type} [DecidableEq α] (e : α → D) : Prop where
  tk : ∀ a, isTK (e a) = true
  eq : ∀ a b, eqK (e a) (e b) = decide (a = b)
section
variable {α β : Type} [DecidableEq α] {e : α → D} {v : β → D}
/-- the dict of a row of pairs -/
def dcE (e : α → D) (v : β → D) (L : List (α × β)) : List (D × D) := L.map fun p => (e p.1, v p.2)
def asc (L : List (α × β)) (a : α) : Option β := (L.find? fun p => decide (p.1 = a)).map (·.2)
def ins (L : List (α × β)) (a : α) (b : β) : List (α × β) := if a ∈ L.map (·.1) then L.map fun p => if p.1 = a then (p.1, b) else p else L ++ [(a, b)]
theorem dcE_any (E : Enc e) (L : List (α × β)) (a : α) : ((dcE e v L).any fun p => eqK p.1 (e a)) = decide (a ∈ L.map (·.1)) := by
  unfold dcE
  rw [List.any_map]
  induction L with
  | nil => simp
  | cons y L ih =>
    rw [List.any_cons, ih]
    simp only [Function.comp_apply, E.eq]
    by_cases h : y.1 = a
    · subst h; simp
    · simp [h, Ne.symm h]
theorem dcE_kOk (E : Enc e) (L : List (α × β)) (a : α) : kOk (dcE e v L) (e a) = true := by
  unfold kOk dcE
  rw [List.all_map]
  simp [Function.comp_def, E.tk]
theorem dcE_look (E : Enc e) (L : List (α × β)) (a : α) : lookD (dcE e v L) (e a) = (asc L a).map v := by
  unfold lookD dcE asc
  induction L with
  | nil => rfl
  | cons p L ih =>
    rw [List.map_cons, List.find?_cons, List.find?_cons, E.eq]
    by_cases c : p.1 = a
    · simp [c]
    · simpa [c] using ih
theorem dcE_put (E : Enc e) (L : List (α × β)) (a : α) (b : β) : putD (dcE e v L) (e a) (v b) = dcE e v (ins L a b) := by
  unfold putD
  rw [dcE_any E]
  unfold ins
  by_cases h : a ∈ L.map (·.1)
  · rw [if_pos (decide_eq_true h), if_pos h]
    unfold dcE
    rw [List.map_map, List.map_map]
    refine List.map_congr_left fun p _ => ?_
    simp only [Function.comp_apply, E.eq]
    by_cases c : p.1 = a <;> simp [c]
  · rw [if_neg (by simpa using h), if_neg h]
    unfold dcE
    rw [List.map_append]
    rfl
theorem dcE_keys (L : List (α × β)) : (dcE e v L).map (·.1) = (L.map (·.1)).map e := by
  unfold dcE
  rw [List.map_map, List.map_map]; rfl
theorem dcE_len (L : List (α × β)) : (dcE e v L).length = L.length := by unfold dcE; rw [List.length_map]
theorem asc_some {L : List (α × β)} {a : α} {b : β} (h : asc L a = some b) : (a, b) ∈ L := by
  unfold asc at h
  obtain ⟨p, hp, rfl⟩ := Option.map_eq_some_iff.mp h
  have h1 := List.mem_of_find?_eq_some hp
  have h2 := List.find?_some hp
  rw [← of_decide_eq_true h2]
  exact h1
theorem asc_none {L : List (α × β)} {a : α} : asc L a = none ↔ a ∉ L.map (·.1) := by
  unfold asc
  rw [Option.map_eq_none_iff, List.find?_eq_none]
  constructor
  · intro h m
    obtain ⟨p, hp, e⟩ := List.mem_map.mp m
    exact h p hp (decide_eq_true e)
  · intro h p hp c
    exact h (List.mem_map.mpr ⟨p, hp, of_decide_eq_true c⟩)
theorem asc_isSome {L : List (α × β)} {a : α} : (asc L a).isSome = decide (a ∈ L.map (·.1)) := by
  cases c : asc L a with
  | none => rw [asc_none] at c; simp [c]
  | some b => have := asc_some c; simp only [Option.isSome_some]; exact (decide_eq_true (List.mem_map.mpr ⟨_, this, rfl⟩)).symm
theorem asc_mem {L : List (α × β)} (hn : (L.map (·.1)).Nodup) {a : α} {b : β} (h : (a, b) ∈ L) : asc L a = some b := by
  induction L with
  | nil => cases h
  | cons p L ih =>
    rw [List.map_cons, List.nodup_cons] at hn
    unfold asc
    rw [List.find?_cons]
    rcases List.mem_cons.mp h with h | h
    · subst h; simp
    · have c : p.1 ≠ a := fun z => hn.1 (by rw [z]; exact List.mem_map.mpr ⟨_, h, rfl⟩)
      simp only [c, decide_false]
      exact ih hn.2 h
theorem asc_iff {L : List (α × β)} (hn : (L.map (·.1)).Nodup) {a : α} {b : β} : asc L a = some b ↔ (a, b) ∈ L := ⟨asc_some, asc_mem hn⟩
theorem ins_keys {L : List (α × β)} {a : α} {b : β} : (ins L a b).map (·.1) = if a ∈ L.map (·.1) then L.map (·.1) else L.map (·.1) ++ [a] := by
  unfold ins
  split
  · rw [List.map_map]
    refine List.map_congr_left fun p _ => ?_
    simp only [Function.comp_apply]
    split <;> rfl
  · rw [List.map_append]; rfl
theorem ins_nodup {L : List (α × β)} (hn : (L.map (·.1)).Nodup) (a : α) (b : β) : ((ins L a b).map (·.1)).Nodup := by
  rw [ins_keys]
  split
  · exact hn
  · rename_i h
    rw [List.nodup_append]
    exact ⟨hn, by simp, fun x hx y hy z => h (by rw [List.mem_singleton.mp hy] at z; rw [← z]; exact hx)⟩
theorem asc_append (L M : List (α × β)) (a : α) : asc (L ++ M) a = (asc L a).or (asc M a) := by
  unfold asc
  rw [List.find?_append, Option.map_or]
theorem asc_ins (L : List (α × β)) (a : α) (b : β) (x : α) : asc (ins L a b) x = if x = a then some b else asc L x := by
  unfold ins
  by_cases h : a ∈ L.map (·.1)
  · rw [if_pos h]
    unfold asc
    induction L with
    | nil => cases h
    | cons p L ih =>
      rw [List.map_cons, List.find?_cons, List.find?_cons]
      by_cases c : p.1 = a
      · simp only [c, if_true]
        by_cases d : x = a
        · subst d; simp
        · have d' : ¬ a = x := fun z => d z.symm
          simp only [d', decide_false, if_neg d]
          by_cases m : a ∈ L.map (·.1)
          · have := ih m
            simpa [d] using this
          · have e : (L.map fun p => if p.1 = a then (p.1, b) else p) = L := by
              conv => rhs; rw [← List.map_id L]
              refine List.map_congr_left fun q hq => ?_
              have : ¬ q.1 = a := fun z => m (List.mem_map.mpr ⟨q, hq, z⟩)
              simp [this]
            rw [e]
      · have m : a ∈ L.map (·.1) := by
          rw [List.map_cons] at h
          exact (List.mem_cons.mp h).resolve_left fun z => c z.symm
        simp only [if_neg c]
        by_cases d : p.1 = x
        · have d' : ¬ x = a := fun z => c (by rw [d, z])
          simp [d, d']
        · simp only [d, decide_false]
          exact ih m
  · rw [if_neg h, asc_append]
    have e : asc L a = none := asc_none.mpr h
    by_cases d : x = a
    · subst d
      rw [e, if_pos rfl]
      simp [asc]
    · rw [if_neg d]
      have : asc [(a, b)] x = none := by
        rw [asc_none]; simpa using d
      rw [this, Option.or_none]
theorem ins_len (L : List (α × β)) (a : α) (b : β) : (ins L a b).length ≤ L.length + 1 := by
  unfold ins
  split
  · rw [List.length_map]; omega
  · rw [List.length_append]; simp
theorem ins_new {L : List (α × β)} {a : α} (h : a ∉ L.map (·.1)) (b : β) : ins L a b = L ++ [(a, b)] := if_neg h
/-- rows of pairs as dict(..) takes them -/
theorem pairs_dcE (L : List (α × β)) : pairsD (L.map fun p => .tup [e p.1, v p.2]) = some (dcE e v L) := by
  induction L with
  | nil => rfl
  | cons x L ih => rw [List.map_cons, pairsD, ih]; rfl
theorem keysOk_dcE (E : Enc e) (L : List (α × β)) : keysOk (dcE e v L) = true := by
  unfold keysOk dcE
  rw [List.all_map]
  simp [Function.comp_def, E.tk]
theorem putAll_dcE (E : Enc e) : ∀ (M L : List (α × β)), putAll (dcE e v L) (dcE e v M) = dcE e v (M.foldl (fun a p => ins a p.1 p.2) L)
  | [], L => rfl
  | p :: M, L => by
    show putAll (putD (dcE e v L) (e p.1) (v p.2)) (dcE e v M) = _
    rw [dcE_put E, putAll_dcE E M]; rfl
theorem foldl_ins_new : ∀ (M L : List (α × β)), ((L ++ M).map (·.1)).Nodup → M.foldl (fun a p => ins a p.1 p.2) L = L ++ M
  | [], L, _ => by simp
  | p :: M, L, h => by
    rw [List.foldl_cons, ins_new, foldl_ins_new M]
    · rw [List.append_assoc]; rfl
    · rw [List.append_assoc]; exact h
    · rw [List.map_append, List.map_cons, List.nodup_append] at h
      exact fun m => h.2.2 _ m _ List.mem_cons_self rfl
theorem dict_E (E : Enc e) {L : List (α × β)} {Q : D → Prop} (hn : (L.map (·.1)).Nodup) (h : Q (.dct (dcE e v L))) : DictS (L.map fun p => .tup [e p.1, v p.2]) Q := by
  refine ⟨?_⟩
  simp only [pairs_dcE]
  refine ⟨keysOk_dcE E L, ?_⟩
  have := putAll_dcE (v := v) E L []
  rw [foldl_ins_new L [] hn] at this
  have e : putAll [] (dcE e v L) = dcE e v L := this
  rw [e]
  exact h
end
/-- keys of whole numbers, side by side, nested -/
theorem nk_int {i j : Int} : ((D.int i).nk = (D.int j).nk) ↔ i = j := by
  constructor
  · intro h
    simp only [D.nk] at h
    injection h with h; injection h
  · rintro rfl; rfl
theorem lookD_kvL (A : List (D × List D)) (k : D) : ((lookD (A.map fun p => (p.1, D.lst p.2)) k).getD (.lst [])) = .lst (lookL A k) := by
  unfold lookD lookL
  induction A with
  | nil => rfl
  | cons p A ih =>
    rw [List.map_cons, List.find?_cons, List.find?_cons]
    by_cases c : eqK p.1 k = true
    · simp [c]
    · simpa [c] using ih
theorem addK_look (A : List (D × List D)) (k z : D) : lookL (addK A k) z = lookL A z := by
  rw [addK_eq]
  split
  · rfl
  · rename_i h
    unfold lookL
    rw [List.find?_append]
    cases c : A.find? (fun p => eqK p.1 z) with
    | some p => simp
    | none =>
      by_cases d : eqK k z = true <;> simp [d]
theorem addL_look : ∀ (A : List (D × List D)) (k v z : D), (∀ p ∈ A, eqK p.1 k = true → eqK p.1 z = eqK k z) → lookL (addL A k v) z = if eqK k z = true then lookL A z ++ [v] else lookL A z
  | [], k, v, z, _ => by
    unfold addL lookL
    by_cases d : eqK k z = true <;> simp [d]
  | p :: A, k, v, z, h => by
    unfold addL
    by_cases c : eqK p.1 k = true
    · rw [if_pos c, lookL_cons, lookL_cons]
      have := h p List.mem_cons_self c
      rw [this]
      by_cases d : eqK k z = true
      · simp [d]
      · simp [d]
    · rw [if_neg c, lookL_cons, lookL_cons, addL_look A k v z fun q hq => h q (List.mem_cons_of_mem _ hq)]
      by_cases d : eqK p.1 z = true
      · -- then k is not z
        by_cases e : eqK k z = true
        · exfalso
          unfold eqK at c d e
          have d' := of_decide_eq_true d
          have e' := of_decide_eq_true e
          exact c (decide_eq_true (d'.trans e'.symm))
        · simp [d, e]
      · simp [d]
theorem eqK_trans {p k z : D} (h : eqK p k = true) : eqK p z = eqK k z := by
  unfold eqK at *
  rw [of_decide_eq_true h]
theorem addL_len (A : List (D × List D)) (k v : D) : (addL A k v).length ≤ A.length + 1 := by
  induction A with
  | nil => simp [addL]
  | cons p A ih =>
    unfold addL
    split
    · simp
    · simp only [List.length_cons]; omega
theorem addK_len (A : List (D × List D)) (k : D) : (addK A k).length ≤ A.length + 1 := by
  rw [addK_eq]
  split
  · omega
  · simp
theorem addL_addK : ∀ (A : List (D × List D)) (k v : D), addL (addK A k) k v = addL A k v
  | [], k, v => by
    unfold addK addL
    rw [if_pos (show eqK k k = true by unfold eqK; simp)]
    rfl
  | p :: A, k, v => by
    unfold addK
    by_cases c : eqK p.1 k = true
    · rw [if_pos c]
    · rw [if_neg c, addL, if_neg c, addL, if_neg c, addL_addK A k v]
theorem addL_all (A : List (D × List D)) {k : D} (v : D) (hk : isTK k = true) (h : (A.all fun p => isTK p.1) = true) : ((addL A k v).all fun p => isTK p.1) = true := by
  induction A with
  | nil => simp [addL, hk]
  | cons p A ih =>
    rw [List.all_cons, Bool.and_eq_true] at h
    unfold addL
    split
    · rw [List.all_cons, h.1, h.2]; rfl
    · rw [List.all_cons, h.1, ih h.2]; rfl
end DL
/-! The data layer, part 32: data that repr shows. -/
namespace DL
open PySem PySem.Spec PyProof.Rows L2

/-- what repr shows: so deep, so long at most -/
structure Rp (k n : Nat) (d : D) : Prop where
  pl : d.plain = true
  sh : d.py.showable = true
  dp : d.py.depth ≤ k
  ln : d.py.shown.length ≤ n
theorem Rp.mono {k n k' n' : Nat} {d : D} (h : Rp k n d) (hk : k ≤ k') (hn : n ≤ n') : Rp k' n' d := ⟨h.pl, h.sh, Nat.le_trans h.dp hk, Nat.le_trans h.ln hn⟩
theorem Rp.non : Rp 0 13 .non := ⟨rfl, rfl, Nat.le_refl _, by simp only [D.py, PyData.shown]; decide⟩
theorem Rp.bl (b : Bool) : Rp 0 13 (.bl b) := ⟨rfl, rfl, Nat.le_refl _, by simp only [D.py, PyData.shown]; cases b <;> decide⟩
theorem Rp.int {i : Int} (h : i.natAbs < 10 ^ 12) : Rp 0 13 (.int i) := by
  refine ⟨rfl, ?_, Nat.le_refl _, PySem.PyData.shown_int_le h⟩
  simp only [D.py, PyData.showable, decide_eq_true_eq]
  exact Nat.lt_of_lt_of_le (PySem.Flt.log2_lt_of (k := 40) (by omega) (Nat.lt_of_lt_of_le h (by decide))) (by omega)
theorem Rp.intB {i : Int} {m : Nat} (h0 : 0 < m) (hm : m ≤ 400) (h : i.natAbs < 10 ^ m) : Rp 0 (m + 1) (.int i) := by
  refine ⟨rfl, ?_, Nat.le_refl _, ?_⟩
  · simp only [D.py, PyData.showable, decide_eq_true_eq]
    refine Nat.lt_of_lt_of_le (PySem.Flt.log2_lt_of (k := 4 * m) (by omega) (Nat.lt_of_lt_of_le h ?_)) (by omega)
    rw [Nat.pow_mul]
    exact Nat.pow_le_pow_left (by decide) m
  · have e := int_text_length_le10 h0 h
    simp only [D.py, PyData.shown]
    show (Str.ofString (toString i)).length ≤ m + 1
    rw [PySem.ofString_length]; exact e
theorem shown_sum {xs : List D} {n : Nat} (h : ∀ x ∈ xs, x.py.shown.length ≤ n) : ((PyData.shownAll (D.pys xs)).map (·.length)).sum + 2 * (PyData.shownAll (D.pys xs)).length ≤ xs.length * (n + 2) := by
  induction xs with
  | nil => simp [D.pys, PyData.shownAll]
  | cons x xs ih =>
    have h1 := h x List.mem_cons_self
    have h2 := ih fun y hy => h y (List.mem_cons_of_mem _ hy)
    simp only [D.pys, PyData.shownAll, List.map_cons, List.sum_cons, List.length_cons]
    have e : (xs.length + 1) * (n + 2) = xs.length * (n + 2) + (n + 2) := Nat.succ_mul _ _
    omega
theorem all_Rp {xs : List D} {k n : Nat} (h : ∀ x ∈ xs, Rp k n x) : D.plains xs = true ∧ PyData.showableAll (D.pys xs) = true ∧ PyData.depthAll (D.pys xs) ≤ k := by
  induction xs with
  | nil => exact ⟨rfl, rfl, Nat.zero_le _⟩
  | cons x xs ih =>
    have h1 := h x List.mem_cons_self
    obtain ⟨g1, g2, g3⟩ := ih fun y hy => h y (List.mem_cons_of_mem _ hy)
    refine ⟨?_, ?_, ?_⟩
    · rw [D.plains, h1.pl, g1]; rfl
    · rw [D.pys, PyData.showableAll, h1.sh, g2]; rfl
    · rw [D.pys, PyData.depthAll]
      exact Nat.max_le.mpr ⟨h1.dp, g3⟩
theorem Rp.tup {xs : List D} {k n : Nat} (h : ∀ x ∈ xs, Rp k n x) : Rp (k + 1) (xs.length * (n + 2) + 3) (.tup xs) := by
  obtain ⟨g1, g2, g3⟩ := all_Rp h
  refine ⟨g1, g2, ?_, ?_⟩
  · simp only [D.py, PyData.depth]; omega
  · simp only [D.py, PyData.shown]
    have := tupleText_len_le (PyData.shownAll (D.pys xs))
    have := shown_sum fun x hx => (h x hx).ln
    omega
theorem Rp.lst {xs : List D} {k n : Nat} (h : ∀ x ∈ xs, Rp k n x) : Rp (k + 1) (xs.length * (n + 2) + 3) (.lst xs) := by
  obtain ⟨g1, g2, g3⟩ := all_Rp h
  refine ⟨g1, g2, ?_, ?_⟩
  · simp only [D.py, PyData.depth]; omega
  · simp only [D.py, PyData.shown]
    have := listText_len_le (PyData.shownAll (D.pys xs))
    have := shown_sum fun x hx => (h x hx).ln
    omega
theorem Rp.ok {d : D} {k n : Nat} (h : Rp k n d) (hk : k ≤ 60) (hn : n ≤ 16777216) : d.plain = true ∧ d.py.showable = true ∧ d.py.depth ≤ 60 ∧ d.py.shown.length ≤ sizeLine :=
  ⟨h.pl, h.sh, Nat.le_trans h.dp hk, by have := h.ln; rw [sizeLine_eq]; omega⟩
end DL
set_option maxHeartbeats 0
namespace Lw
open PySem PySem.Spec PyProof.Rows L2 DL
def top (i : Nat) : Stmt := PySem.Challenge.pw_warmeveryhour_k97_whole_great_stoves_and.main.body.getD i (.Pass ⟨0, 0, 0, 0⟩)
abbrev s_is_integer : Stmt := top 6
abbrev s_is_between : Stmt := top 7
abbrev s_are_between : Stmt := top 8
abbrev s_does_rise : Stmt := top 14
abbrev s_is_stove : Stmt := top 15
abbrev s_check_stove : Stmt := top 16
abbrev s_logs_by : Stmt := top 17
abbrev s_fired : Stmt := top 18
abbrev s_is_span : Stmt := top 25
abbrev s_is_hour : Stmt := top 26
abbrev s_is_day : Stmt := top 27
abbrev s_check_day : Stmt := top 28
abbrev s_is_stand_of : Stmt := top 29
abbrev s_check_stand : Stmt := top 30
abbrev s_weathers_in : Stmt := top 31
abbrev s_one_behind : Stmt := top 32
abbrev s_rows_behind : Stmt := top 33
abbrev s_stands_of : Stmt := top 34
abbrev s_does_lead : Stmt := top 39
abbrev s_logs_within : Stmt := top 40
abbrev s_ranks_of : Stmt := top 41
abbrev s_is_kept_at : Stmt := top 42
abbrev s_book_of : Stmt := top 43
abbrev s_always : Stmt := top 44
abbrev s_firing : Stmt := top 45
abbrev s_lost_by : Stmt := top 46
abbrev s_kept_told : Stmt := top 47
abbrev s_are_rows : Stmt := top 48
abbrev s_is_book : Stmt := top 49
abbrev s_are_ranks : Stmt := top 50
abbrev s_is_worse : Stmt := top 51
abbrev s_shows_kept : Stmt := top 52
abbrev s_least_most : Stmt := top 53
abbrev s_least_heat : Stmt := top 54
abbrev s_colder : Stmt := top 55
abbrev s_coldest : Stmt := top 56
abbrev s__law_pot : Stmt := top 58
abbrev s__law_take : Stmt := top 59
abbrev s__law_of : Stmt := top 60
abbrev s__law_stove : Stmt := top 61
abbrev s__law_day : Stmt := top 62
abbrev s__law_stands : Stmt := top 63
abbrev s__law_behind : Stmt := top 64
abbrev s__law_logs : Stmt := top 65
abbrev s__law_lost : Stmt := top 66
abbrev s__law_fine : Stmt := top 67
abbrev s__law_colder : Stmt := top 68
abbrev s__law_others_right : Stmt := top 69
abbrev s__law_right : Stmt := top 70
abbrev s__law_is_other_right : Stmt := top 71
abbrev s_law : Stmt := top 72
theorem bt_abs : bootBuiltins "abs" = some (.builtin "abs") := by decide +kernel
theorem bt_all : bootBuiltins "all" = some (.builtin "all") := by decide +kernel
theorem bt_any : bootBuiltins "any" = some (.builtin "any") := by decide +kernel
theorem bt_bool : bootBuiltins "bool" = some (.type "bool") := by decide +kernel
theorem bt_dict : bootBuiltins "dict" = some (.type "dict") := by decide +kernel
theorem bt_enumerate : bootBuiltins "enumerate" = some (.type "enumerate") := by decide +kernel
theorem bt_int : bootBuiltins "int" = some (.type "int") := by decide +kernel
theorem bt_isinstance : bootBuiltins "isinstance" = some (.builtin "isinstance") := by decide +kernel
theorem bt_len : bootBuiltins "len" = some (.builtin "len") := by decide +kernel
theorem bt_list : bootBuiltins "list" = some (.type "list") := by decide +kernel
theorem bt_max : bootBuiltins "max" = some (.builtin "max") := by decide +kernel
theorem bt_min : bootBuiltins "min" = some (.builtin "min") := by decide +kernel
theorem bt_range : bootBuiltins "range" = some (.type "range") := by decide +kernel
theorem bt_repr : bootBuiltins "repr" = some (.builtin "repr") := by decide +kernel
theorem bt_sorted : bootBuiltins "sorted" = some (.builtin "sorted") := by decide +kernel
theorem bt_str : bootBuiltins "str" = some (.type "str") := by decide +kernel
theorem bt_sum : bootBuiltins "sum" = some (.builtin "sum") := by decide +kernel
theorem bt_tuple : bootBuiltins "tuple" = some (.type "tuple") := by decide +kernel
theorem bt_zip : bootBuiltins "zip" = some (.type "zip") := by decide +kernel
structure Fx (mg : Str → Option Value) : Prop where
  b_abs : mg "abs" = none
  b_all : mg "all" = none
  b_any : mg "any" = none
  b_bool : mg "bool" = none
  b_dict : mg "dict" = none
  b_enumerate : mg "enumerate" = none
  b_int : mg "int" = none
  b_isinstance : mg "isinstance" = none
  b_len : mg "len" = none
  b_list : mg "list" = none
  b_max : mg "max" = none
  b_min : mg "min" = none
  b_range : mg "range" = none
  b_repr : mg "repr" = none
  b_sorted : mg "sorted" = none
  b_str : mg "str" = none
  b_sum : mg "sum" = none
  b_super : mg "super" = none
  b_tuple : mg "tuple" = none
  b_zip : mg "zip" = none
  g_MOST_HOLDS : GInt mg "MOST_HOLDS" 10
  g_MOST_HEAT : GInt mg "MOST_HEAT" 5
  g_MOST_LOGS : GInt mg "MOST_LOGS" 4
  g_FOUR : GInt mg "FOUR" 4
  g_MOST_HOURS : GInt mg "MOST_HOURS" 6
  g_MOST_ROOM : GInt mg "MOST_ROOM" 12
  g_MILDEST : GInt mg "MILDEST" (-4)
  g_COLDEST : GInt mg "COLDEST" 8
  g_THREE : GInt mg "THREE" 3
  g_MOST_COLDER : GInt mg "MOST_COLDER" 12
  g_KEPT : GStr mg "KEPT" "kept"
  g_LOST : GStr mg "LOST" "lost"
section
variable {Γ : Nat → FSpec} {P : Program} {w : World} {K : PySem.W.Frag} {mg : Str → Option Value} {base : Heap} {k : Nat}
abbrev i_is_integer : Nat := 0
abbrev i_is_between : Nat := 1
abbrev i_are_between : Nat := 2
abbrev i_does_rise : Nat := 3
abbrev i_is_stove : Nat := 4
abbrev i_check_stove : Nat := 5
abbrev i_logs_by : Nat := 6
abbrev i_fired : Nat := 7
abbrev i_is_span : Nat := 8
abbrev i_is_hour : Nat := 9
abbrev i_is_day : Nat := 10
abbrev i_check_day : Nat := 11
abbrev i_is_stand_of : Nat := 12
abbrev i_check_stand : Nat := 13
abbrev i_weathers_in : Nat := 14
abbrev i_one_behind : Nat := 15
abbrev i_rows_behind : Nat := 16
abbrev i_stands_of : Nat := 17
abbrev i_does_lead : Nat := 18
abbrev i_logs_within : Nat := 19
abbrev i_ranks_of : Nat := 20
abbrev i_is_kept_at : Nat := 21
abbrev i_book_of : Nat := 22
abbrev i_always : Nat := 23
abbrev i_firing : Nat := 24
abbrev i_lost_by : Nat := 25
abbrev i_kept_told : Nat := 26
abbrev i_are_rows : Nat := 27
abbrev i_is_book : Nat := 28
abbrev i_are_ranks : Nat := 29
abbrev i_is_worse : Nat := 30
abbrev i_shows_kept : Nat := 31
abbrev i_least_most : Nat := 32
abbrev i_least_heat : Nat := 33
abbrev i_colder : Nat := 34
abbrev i_coldest : Nat := 35
abbrev i__law_pot : Nat := 36
abbrev i__law_take : Nat := 37
abbrev i__law_of : Nat := 38
abbrev i__law_stove : Nat := 39
abbrev i__law_day : Nat := 40
abbrev i__law_stands : Nat := 41
abbrev i__law_behind : Nat := 42
abbrev i__law_logs : Nat := 43
abbrev i__law_lost : Nat := 44
abbrev i__law_fine : Nat := 45
abbrev i__law_colder : Nat := 46
abbrev i__law_others_right : Nat := 47
abbrev i__law_right : Nat := 48
abbrev i__law_is_other_right : Nat := 49
abbrev i_law : Nat := 50
/-! is_integer -/
abbrev N_is_integer : List Str := ["value"]
abbrev a_is_integer : List Str := ["value"]
theorem sc_is_integer : FnScope N_is_integer a_is_integer (defScope s_is_integer) := ⟨rfl, rfl, rfl, by decide +kernel, rfl, by decide +kernel, by decide +kernel⟩
def p_is_integer : DL.PS := .seq (.ret (.band (.blt (.isi "int") (.cons (.var 0) .nil)) (.not (.blt (.isi "bool") (.cons (.var 0) .nil))))) (.skip)
theorem t_is_integer {qual : Str} {f : Addr} {cd : Value} {A : Around} {outer : List Env} {s : Shared} {H : Hp} (B : Fx mg)  (hr : Room k (bodyX P w K mg base N_is_integer qual (defScope s_is_integer) f cd A outer s H).A) (hgd : (bodyX P w K mg base N_is_integer qual (defScope s_is_integer) f cd A outer s H).A.guards = some []) : SSs (Γ := Γ) (bodyX P w K mg base N_is_integer qual (defScope s_is_integer) f cd A outer s H) (defBody s_is_integer) p_is_integer := by
  have nd : N_is_integer.Nodup := sc_is_integer.nd
  have hu : (bodyX P w K mg base N_is_integer qual (defScope s_is_integer) f cd A outer s H).A.units + 70 < cLine := by have := hr.un; omega
  have b_bool := B.b_bool
  have b_int := B.b_int
  have b_isinstance := B.b_isinstance
  exact (ss_cons (ss_ret (s_and (s_isi isi_int rfl b_isinstance bt_isinstance rfl b_int bt_int (sv 0 rfl rfl rfl rfl) (by decide) rfl (by decide) rfl rfl) (s_last (s_not (s_isi isi_bool rfl b_isinstance bt_isinstance rfl b_bool bt_bool (sv 0 rfl rfl rfl rfl) (by decide) rfl (by decide) rfl rfl))))) ss_nil)
/-! is_between -/
abbrev N_is_between : List Str := ["value", "low", "high"]
abbrev a_is_between : List Str := ["value", "low", "high"]
theorem sc_is_between : FnScope N_is_between a_is_between (defScope s_is_between) := ⟨rfl, rfl, rfl, by decide +kernel, rfl, by decide +kernel, by decide +kernel⟩
def p_is_between : DL.PS := .seq (.ret (.band (.call 0 (.cons (.var 0) (.nil))) (.chain .le .le (.var 1) (.var 0) (.var 2)))) (.skip)
theorem t_is_between {qual : Str} {f : Addr} {cd : Value} {A : Around} {outer : List Env} {s : Shared} {H : Hp} (B : Fx mg) (c_is_integer : FnAt P w K mg base k "is_integer" 1 (Γ 0)) (hr : Room k (bodyX P w K mg base N_is_between qual (defScope s_is_between) f cd A outer s H).A) (hgd : (bodyX P w K mg base N_is_between qual (defScope s_is_between) f cd A outer s H).A.guards = some []) : SSs (Γ := Γ) (bodyX P w K mg base N_is_between qual (defScope s_is_between) f cd A outer s H) (defBody s_is_between) p_is_between := by
  have nd : N_is_between.Nodup := sc_is_between.nd
  have hu : (bodyX P w K mg base N_is_between qual (defScope s_is_between) f cd A outer s H).A.units + 70 < cLine := by have := hr.un; omega
  exact (ss_cons (ss_ret (s_and (s_call c_is_integer hr hgd rfl (sa_cons (sv 0 rfl rfl rfl rfl) sa_nil rfl) rfl rfl rfl) (s_last (s_chain (sv 1 rfl rfl rfl rfl) (sv 0 rfl rfl rfl rfl) (sv 2 rfl rfl rfl rfl) d_le d_le rfl)))) ss_nil)
/-! are_between -/
abbrev N_are_between : List Str := ["value", "low", "high", "one"]
abbrev a_are_between : List Str := ["value", "low", "high"]
theorem sc_are_between : FnScope N_are_between a_are_between (defScope s_are_between) := ⟨rfl, rfl, rfl, by decide +kernel, rfl, by decide +kernel, by decide +kernel⟩
def p_are_between : DL.PS := .seq (.ret (.band (.blt (.isi "tuple") (.cons (.var 0) .nil)) (.bitv .all (.lc (.call 1 (.cons (.var 3) (.cons (.var 1) (.cons (.var 2) (.nil))))) (.nm 3) (.sq (.var 0)) (.no) [3])))) (.skip)
theorem t_are_between {qual : Str} {f : Addr} {cd : Value} {A : Around} {outer : List Env} {s : Shared} {H : Hp} (B : Fx mg) (c_is_between : FnAt P w K mg base k "is_between" 3 (Γ 1)) (hr : Room k (bodyX P w K mg base N_are_between qual (defScope s_are_between) f cd A outer s H).A) (hgd : (bodyX P w K mg base N_are_between qual (defScope s_are_between) f cd A outer s H).A.guards = some []) : SSs (Γ := Γ) (bodyX P w K mg base N_are_between qual (defScope s_are_between) f cd A outer s H) (defBody s_are_between) p_are_between := by
  have nd : N_are_between.Nodup := sc_are_between.nd
  have hu : (bodyX P w K mg base N_are_between qual (defScope s_are_between) f cd A outer s H).A.units + 70 < cLine := by have := hr.un; omega
  have b_all := B.b_all
  have b_isinstance := B.b_isinstance
  have b_tuple := B.b_tuple
  exact (ss_cons (ss_ret (s_and (s_isi isi_tuple rfl b_isinstance bt_isinstance rfl b_tuple bt_tuple (sv 0 rfl rfl rfl rfl) (by decide) rfl (by decide) rfl rfl) (s_last (s_bitvB (d_all rfl) rfl b_all bt_all (s_lc (own := [("one", 3)]) rfl nd (si_sq (sv 0 rfl rfl rfl rfl)) (blkOk_by (own := [("one", 3)]) (show blkC N_are_between (defScope s_are_between) _ _ = true by decide +kernel)) (fun _ _ _ _ _ => (sg 3 nd rfl rfl (by first | exact .inl rfl | exact .inr rfl))) (fun _ _ _ _ _ => sts_no) (fun _ _ _ _ _ => (s_call c_is_between hr hgd rfl (sa_cons (sv 3 rfl rfl rfl rfl) (sa_cons (sv 1 rfl rfl rfl rfl) (sa_cons (sv 2 rfl rfl rfl rfl) sa_nil rfl) rfl) rfl) rfl rfl rfl)) (fun _ => rfl) (by decide)) (by decide) rfl rfl)))) ss_nil)
/-! does_rise -/
abbrev N_does_rise : List Str := ["gives", "steps", "ahead", "later", "step", "place", "number"]
abbrev a_does_rise : List Str := ["gives"]
theorem sc_does_rise : FnScope N_does_rise a_does_rise (defScope s_does_rise) := ⟨rfl, rfl, rfl, by decide +kernel, rfl, by decide +kernel, by decide +kernel⟩
def p_does_rise_1 : DL.PS := .seq (.ret (.band (.bitv .all (.lc (.cmp .isin (.var 4) (.tup (.cons (.lit (.int 0)) (.cons (.lit (.int 1)) (.nil))))) (.nm 4) (.sq (.var 1)) (.no) [4])) (.bitv .all (.lc (.cmp .le (.var 6) (.var 5)) (.cons (.nm 5) (.one (.nm 6))) (.enum (.var 0)) (.no) [5, 6])))) (.skip)
def p_does_rise : DL.PS := .seq (.set 1 (.lc (.bin .sub (.var 3) (.var 2)) (.cons (.nm 2) (.one (.nm 3))) (.zip (.var 0) (.slc (.var 0) (.yes (.lit (.int 1))) (.no))) (.no) [2, 3])) (p_does_rise_1)
theorem t_does_rise {qual : Str} {f : Addr} {cd : Value} {A : Around} {outer : List Env} {s : Shared} {H : Hp} (B : Fx mg)  (hr : Room k (bodyX P w K mg base N_does_rise qual (defScope s_does_rise) f cd A outer s H).A) (hgd : (bodyX P w K mg base N_does_rise qual (defScope s_does_rise) f cd A outer s H).A.guards = some []) : SSs (Γ := Γ) (bodyX P w K mg base N_does_rise qual (defScope s_does_rise) f cd A outer s H) (defBody s_does_rise) p_does_rise := by
  have nd : N_does_rise.Nodup := sc_does_rise.nd
  have hu : (bodyX P w K mg base N_does_rise qual (defScope s_does_rise) f cd A outer s H).A.units + 70 < cLine := by have := hr.un; omega
  have b_all := B.b_all
  have b_enumerate := B.b_enumerate
  have b_zip := B.b_zip
  exact (ss_cons (ss_lc (o := false) (own := [("ahead", 2), ("later", 3)]) (i := 1) rfl nd rfl rfl (sw_true rfl rfl rfl rfl) (si_zip rfl b_zip (sv 0 rfl rfl rfl rfl) (s_slc (sv 0 rfl rfl rfl rfl) (so_yes s_int) so_no) rfl rfl) (blkOk_by (own := [("ahead", 2), ("later", 3)]) (show blkC N_does_rise (defScope s_does_rise) _ _ = true by decide +kernel)) (fun _ _ _ _ _ => (sg_tup rfl (sgs_cons (sg 2 nd rfl rfl (by first | exact .inl rfl | exact .inr rfl)) (sgs_one (sg 3 nd rfl rfl (by first | exact .inl rfl | exact .inr rfl)) rfl) rfl) rfl rfl)) (fun _ _ _ _ _ => sts_no) (fun _ _ _ _ _ => (s_bin (sv 3 rfl rfl rfl rfl) (sv 2 rfl rfl rfl rfl) d_sub)) (fun _ => rfl) (by decide)) (ss_cons (ss_ret (s_and (s_bitvB (d_all rfl) rfl b_all bt_all (s_lc (own := [("step", 4)]) rfl nd (si_sq (sv 1 rfl rfl rfl rfl)) (blkOk_by (own := [("step", 4)]) (show blkC N_does_rise (defScope s_does_rise) _ _ = true by decide +kernel)) (fun _ _ _ _ _ => (sg 4 nd rfl rfl (by first | exact .inl rfl | exact .inr rfl))) (fun _ _ _ _ _ => sts_no) (fun _ _ _ _ _ => (s_cmp (sv 4 rfl rfl rfl rfl) (s_tup (sa_cons s_int (sa_cons s_int sa_nil rfl) rfl) (by decide)) (d_in hu) rfl)) (fun _ => rfl) (by decide)) (by decide) rfl rfl) (s_last (s_bitvB (d_all rfl) rfl b_all bt_all (s_lc (own := [("place", 5), ("number", 6)]) rfl nd (si_enum rfl b_enumerate (sv 0 rfl rfl rfl rfl) rfl) (blkOk_by (own := [("place", 5), ("number", 6)]) (show blkC N_does_rise (defScope s_does_rise) _ _ = true by decide +kernel)) (fun _ _ _ _ _ => (sg_tup rfl (sgs_cons (sg 5 nd rfl rfl (by first | exact .inl rfl | exact .inr rfl)) (sgs_one (sg 6 nd rfl rfl (by first | exact .inl rfl | exact .inr rfl)) rfl) rfl) rfl rfl)) (fun _ _ _ _ _ => sts_no) (fun _ _ _ _ _ => (s_cmp (sv 6 rfl rfl rfl rfl) (sv 5 rfl rfl rfl rfl) d_le rfl)) (fun _ => rfl) (by decide)) (by decide) rfl rfl)))) ss_nil))
/-! is_stove -/
abbrev N_is_stove : List Str := ["value", "holds", "gives", "heat", "most"]
abbrev a_is_stove : List Str := ["value"]
theorem sc_is_stove : FnScope N_is_stove a_is_stove (defScope s_is_stove) := ⟨rfl, rfl, rfl, by decide +kernel, rfl, by decide +kernel, by decide +kernel⟩
def p_is_stove_3 : DL.PS := .seq (.ret (.band (.call 1 (.cons (.var 3) (.cons (.lit (.int 1)) (.cons (.lit (.int 5)) (.nil))))) (.call 1 (.cons (.var 4) (.cons (.lit (.int 0)) (.cons (.lit (.int 4)) (.nil))))))) (.skip)
def p_is_stove_2 : DL.PS := .seq (.ife (.bor (.not (.call 2 (.cons (.var 2) (.cons (.lit (.int 0)) (.cons (.lit (.int 10)) (.nil)))))) (.bor (.cmp .ne (.blt .len (.cons (.var 2) (.nil))) (.bin .add (.var 1) (.lit (.int 1)))) (.not (.call 3 (.cons (.var 2) (.nil)))))) (.seq (.ret (.lit (.bl false))) (.skip)) (.skip)) (p_is_stove_3)
def p_is_stove_1 : DL.PS := .seq (.asg (.cons (.nm 1) (.cons (.nm 2) (.cons (.nm 3) (.one (.nm 4))))) (.var 0)) (p_is_stove_2)
def p_is_stove : DL.PS := .seq (.ife (.bor (.not (.blt (.isi "tuple") (.cons (.var 0) .nil))) (.bor (.cmp .ne (.blt .len (.cons (.var 0) (.nil))) (.lit (.int 4))) (.not (.call 1 (.cons (.idx (.var 0) (.lit (.int 0))) (.cons (.lit (.int 1)) (.cons (.lit (.int 10)) (.nil)))))))) (.seq (.ret (.lit (.bl false))) (.skip)) (.skip)) (p_is_stove_1)
theorem t_is_stove {qual : Str} {f : Addr} {cd : Value} {A : Around} {outer : List Env} {s : Shared} {H : Hp} (B : Fx mg) (c_is_between : FnAt P w K mg base k "is_between" 3 (Γ 1)) (c_are_between : FnAt P w K mg base k "are_between" 3 (Γ 2)) (c_does_rise : FnAt P w K mg base k "does_rise" 1 (Γ 3)) (hr : Room k (bodyX P w K mg base N_is_stove qual (defScope s_is_stove) f cd A outer s H).A) (hgd : (bodyX P w K mg base N_is_stove qual (defScope s_is_stove) f cd A outer s H).A.guards = some []) : SSs (Γ := Γ) (bodyX P w K mg base N_is_stove qual (defScope s_is_stove) f cd A outer s H) (defBody s_is_stove) p_is_stove := by
  have nd : N_is_stove.Nodup := sc_is_stove.nd
  have hu : (bodyX P w K mg base N_is_stove qual (defScope s_is_stove) f cd A outer s H).A.units + 70 < cLine := by have := hr.un; omega
  have b_isinstance := B.b_isinstance
  have b_len := B.b_len
  have b_tuple := B.b_tuple
  have g_FOUR := B.g_FOUR
  have g_MOST_HEAT := B.g_MOST_HEAT
  have g_MOST_HOLDS := B.g_MOST_HOLDS
  have g_MOST_LOGS := B.g_MOST_LOGS
  exact (ss_cons (ss_if (SW.t (sw_or (st_not (st_val (S2.val (s_isi isi_tuple rfl b_isinstance bt_isinstance rfl b_tuple bt_tuple (sv 0 rfl rfl rfl rfl) (by decide) rfl (by decide) rfl rfl)) (fun _ => rfl))) (sw_or (st_cmp (s_bltB d_len rfl b_len bt_len (sab_cons (sv 0 rfl rfl rfl rfl) sab_nil rfl) (by decide) rfl rfl rfl) (s_gint g_FOUR rfl rfl) (d_ne hu) rfl) (sw_or1 (st_not (st_val (S2.val (s_call c_is_between hr hgd rfl (sa_cons (s_idx (sv 0 rfl rfl rfl rfl) s_int (fun _ _ => rfl) hu) (sa_cons s_int (sa_cons (s_gint g_MOST_HOLDS rfl rfl) sa_nil rfl) rfl) rfl) rfl rfl rfl)) (fun _ => rfl))))))) (ss_cons (ss_ret s_bl) ss_nil) ss_nil) (ss_cons (ss_asg (sv 0 rfl rfl rfl rfl) (sg_tup rfl (sgs_cons (sg 1 nd rfl rfl (by first | exact .inl rfl | exact .inr rfl)) (sgs_cons (sg 2 nd rfl rfl (by first | exact .inl rfl | exact .inr rfl)) (sgs_cons (sg 3 nd rfl rfl (by first | exact .inl rfl | exact .inr rfl)) (sgs_one (sg 4 nd rfl rfl (by first | exact .inl rfl | exact .inr rfl)) rfl) rfl) rfl) rfl) rfl rfl) rfl rfl rfl) (ss_cons (ss_if (SW.t (sw_or (st_not (st_val (S2.val (s_call c_are_between hr hgd rfl (sa_cons (sv 2 rfl rfl rfl rfl) (sa_cons s_int (sa_cons (s_gint g_MOST_HOLDS rfl rfl) sa_nil rfl) rfl) rfl) rfl rfl rfl)) (fun _ => rfl))) (sw_or (st_cmp (s_bltB d_len rfl b_len bt_len (sab_cons (sv 2 rfl rfl rfl rfl) sab_nil rfl) (by decide) rfl rfl rfl) (s_bin (sv 1 rfl rfl rfl rfl) s_int d_add) (d_ne hu) rfl) (sw_or1 (st_not (st_val (S2.val (s_call c_does_rise hr hgd rfl (sa_cons (sv 2 rfl rfl rfl rfl) sa_nil rfl) rfl rfl rfl)) (fun _ => rfl))))))) (ss_cons (ss_ret s_bl) ss_nil) ss_nil) (ss_cons (ss_ret (s_and (s_call c_is_between hr hgd rfl (sa_cons (sv 3 rfl rfl rfl rfl) (sa_cons s_int (sa_cons (s_gint g_MOST_HEAT rfl rfl) sa_nil rfl) rfl) rfl) rfl rfl rfl) (s_last (s_call c_is_between hr hgd rfl (sa_cons (sv 4 rfl rfl rfl rfl) (sa_cons s_int (sa_cons (s_gint g_MOST_LOGS rfl rfl) sa_nil rfl) rfl) rfl) rfl rfl rfl)))) ss_nil))))
/-! check_stove -/
abbrev N_check_stove : List Str := ["value"]
abbrev a_check_stove : List Str := ["value"]
theorem sc_check_stove : FnScope N_check_stove a_check_stove (defScope s_check_stove) := ⟨rfl, rfl, rfl, by decide +kernel, rfl, by decide +kernel, by decide +kernel⟩
def p_check_stove : DL.PS := .seq (.ife (.not (.call 4 (.cons (.var 0) (.nil)))) (.seq (.never) (.skip)) (.skip)) (.skip)
theorem t_check_stove {qual : Str} {f : Addr} {cd : Value} {A : Around} {outer : List Env} {s : Shared} {H : Hp} (B : Fx mg) (c_is_stove : FnAt P w K mg base k "is_stove" 1 (Γ 4)) (hr : Room k (bodyX P w K mg base N_check_stove qual (defScope s_check_stove) f cd A outer s H).A) (hgd : (bodyX P w K mg base N_check_stove qual (defScope s_check_stove) f cd A outer s H).A.guards = some []) : SSs (Γ := Γ) (bodyX P w K mg base N_check_stove qual (defScope s_check_stove) f cd A outer s H) (defBody s_check_stove) p_check_stove := by
  have nd : N_check_stove.Nodup := sc_check_stove.nd
  have hu : (bodyX P w K mg base N_check_stove qual (defScope s_check_stove) f cd A outer s H).A.units + 70 < cLine := by have := hr.un; omega
  exact (ss_cons (ss_if (st_not (st_val (S2.val (s_call c_is_stove hr hgd rfl (sa_cons (sv 0 rfl rfl rfl rfl) sa_nil rfl) rfl rfl rfl)) (fun _ => rfl))) (ss_cons ss_never ss_nil) ss_nil) ss_nil)
/-! logs_by -/
abbrev N_logs_by : List Str := ["stove", "tiles", "logs"]
abbrev a_logs_by : List Str := ["stove", "tiles"]
theorem sc_logs_by : FnScope N_logs_by a_logs_by (defScope s_logs_by) := ⟨rfl, rfl, rfl, by decide +kernel, rfl, by decide +kernel, by decide +kernel⟩
def p_logs_by : DL.PS := .seq (.ret (.lc (.var 2) (.nm 2) (.rng1 (.bin .add (.idx (.var 0) (.neg (.lit (.int 1)))) (.lit (.int 1)))) (.yes (.cmp .le (.bin .add (.var 1) (.bin .mul (.idx (.var 0) (.lit (.int 2))) (.var 2))) (.idx (.var 0) (.lit (.int 0))))) [2])) (.skip)
theorem t_logs_by {qual : Str} {f : Addr} {cd : Value} {A : Around} {outer : List Env} {s : Shared} {H : Hp} (B : Fx mg)  (hr : Room k (bodyX P w K mg base N_logs_by qual (defScope s_logs_by) f cd A outer s H).A) (hgd : (bodyX P w K mg base N_logs_by qual (defScope s_logs_by) f cd A outer s H).A.guards = some []) : SSs (Γ := Γ) (bodyX P w K mg base N_logs_by qual (defScope s_logs_by) f cd A outer s H) (defBody s_logs_by) p_logs_by := by
  have nd : N_logs_by.Nodup := sc_logs_by.nd
  have hu : (bodyX P w K mg base N_logs_by qual (defScope s_logs_by) f cd A outer s H).A.units + 70 < cLine := by have := hr.un; omega
  have b_range := B.b_range
  exact (ss_cons (ss_ret (s_lc (own := [("logs", 2)]) rfl nd (si_rng1 rfl b_range (s_bin (s_idx (sv 0 rfl rfl rfl rfl) (s_neg s_int) (fun _ _ => rfl) hu) s_int d_add) rfl) (blkOk_by (own := [("logs", 2)]) (show blkC N_logs_by (defScope s_logs_by) _ _ = true by decide +kernel)) (fun _ _ _ _ _ => (sg 2 nd rfl rfl (by first | exact .inl rfl | exact .inr rfl))) (fun _ _ _ _ _ => (sts_one (st_cmp (s_bin (sv 1 rfl rfl rfl rfl) (s_bin (s_idx (sv 0 rfl rfl rfl rfl) s_int (fun _ _ => rfl) hu) (sv 2 rfl rfl rfl rfl) d_mul) d_add) (s_idx (sv 0 rfl rfl rfl rfl) s_int (fun _ _ => rfl) hu) d_le rfl))) (fun _ _ _ _ _ => (sv 2 rfl rfl rfl rfl)) (fun _ => rfl) (by decide))) ss_nil)
/-! fired -/
abbrev N_fired : List Str := ["stove", "tiles", "logs", "warm"]
abbrev a_fired : List Str := ["stove", "tiles", "logs"]
theorem sc_fired : FnScope N_fired a_fired (defScope s_fired) := ⟨rfl, rfl, rfl, by decide +kernel, rfl, by decide +kernel, by decide +kernel⟩
def p_fired_1 : DL.PS := .seq (.ret (.tup (.cons (.bin .sub (.var 3) (.idx (.idx (.var 0) (.lit (.int 1))) (.var 3))) (.cons (.idx (.idx (.var 0) (.lit (.int 1))) (.var 3)) (.nil))))) (.skip)
def p_fired : DL.PS := .seq (.set 3 (.bin .add (.var 1) (.bin .mul (.idx (.var 0) (.lit (.int 2))) (.var 2)))) (p_fired_1)
theorem t_fired {qual : Str} {f : Addr} {cd : Value} {A : Around} {outer : List Env} {s : Shared} {H : Hp} (B : Fx mg)  (hr : Room k (bodyX P w K mg base N_fired qual (defScope s_fired) f cd A outer s H).A) (hgd : (bodyX P w K mg base N_fired qual (defScope s_fired) f cd A outer s H).A.guards = some []) : SSs (Γ := Γ) (bodyX P w K mg base N_fired qual (defScope s_fired) f cd A outer s H) (defBody s_fired) p_fired := by
  have nd : N_fired.Nodup := sc_fired.nd
  have hu : (bodyX P w K mg base N_fired qual (defScope s_fired) f cd A outer s H).A.units + 70 < cLine := by have := hr.un; omega
  exact (ss_cons (ss_set (i := 3) nd rfl (by first | exact .inl rfl | exact .inr rfl) (s_bin (sv 1 rfl rfl rfl rfl) (s_bin (s_idx (sv 0 rfl rfl rfl rfl) s_int (fun _ _ => rfl) hu) (sv 2 rfl rfl rfl rfl) d_mul) d_add) rfl (.inl rfl)) (ss_cons (ss_ret (s_tup (sa_cons (s_bin (sv 3 rfl rfl rfl rfl) (s_idx (s_idx (sv 0 rfl rfl rfl rfl) s_int (fun _ _ => rfl) hu) (sv 3 rfl rfl rfl rfl) (fun _ _ => rfl) hu) d_sub) (sa_cons (s_idx (s_idx (sv 0 rfl rfl rfl rfl) s_int (fun _ _ => rfl) hu) (sv 3 rfl rfl rfl rfl) (fun _ _ => rfl) hu) sa_nil rfl) rfl) (by decide))) ss_nil))
/-! is_span -/
abbrev N_is_span : List Str := ["value", "low", "high"]
abbrev a_is_span : List Str := ["value", "low", "high"]
theorem sc_is_span : FnScope N_is_span a_is_span (defScope s_is_span) := ⟨rfl, rfl, rfl, by decide +kernel, rfl, by decide +kernel, by decide +kernel⟩
def p_is_span : DL.PS := .seq (.ret (.band (.call 2 (.cons (.var 0) (.cons (.var 1) (.cons (.var 2) (.nil))))) (.band (.cmp .eq (.blt .len (.cons (.var 0) (.nil))) (.lit (.int 2))) (.cmp .le (.idx (.var 0) (.lit (.int 0))) (.idx (.var 0) (.lit (.int 1))))))) (.skip)
theorem t_is_span {qual : Str} {f : Addr} {cd : Value} {A : Around} {outer : List Env} {s : Shared} {H : Hp} (B : Fx mg) (c_are_between : FnAt P w K mg base k "are_between" 3 (Γ 2)) (hr : Room k (bodyX P w K mg base N_is_span qual (defScope s_is_span) f cd A outer s H).A) (hgd : (bodyX P w K mg base N_is_span qual (defScope s_is_span) f cd A outer s H).A.guards = some []) : SSs (Γ := Γ) (bodyX P w K mg base N_is_span qual (defScope s_is_span) f cd A outer s H) (defBody s_is_span) p_is_span := by
  have nd : N_is_span.Nodup := sc_is_span.nd
  have hu : (bodyX P w K mg base N_is_span qual (defScope s_is_span) f cd A outer s H).A.units + 70 < cLine := by have := hr.un; omega
  have b_len := B.b_len
  exact (ss_cons (ss_ret (s_and (s_call c_are_between hr hgd rfl (sa_cons (sv 0 rfl rfl rfl rfl) (sa_cons (sv 1 rfl rfl rfl rfl) (sa_cons (sv 2 rfl rfl rfl rfl) sa_nil rfl) rfl) rfl) rfl rfl rfl) (S2.val (s_and (s_cmp (s_bltB d_len rfl b_len bt_len (sab_cons (sv 0 rfl rfl rfl rfl) sab_nil rfl) (by decide) rfl rfl rfl) s_int (d_eq hu) rfl) (s_last (s_cmp (s_idx (sv 0 rfl rfl rfl rfl) s_int (fun _ _ => rfl) hu) (s_idx (sv 0 rfl rfl rfl rfl) s_int (fun _ _ => rfl) hu) d_le rfl)))))) ss_nil)
/-! is_hour -/
abbrev N_is_hour : List Str := ["value"]
abbrev a_is_hour : List Str := ["value"]
theorem sc_is_hour : FnScope N_is_hour a_is_hour (defScope s_is_hour) := ⟨rfl, rfl, rfl, by decide +kernel, rfl, by decide +kernel, by decide +kernel⟩
def p_is_hour_1 : DL.PS := .seq (.ret (.band (.call 8 (.cons (.idx (.var 0) (.lit (.int 0))) (.cons (.lit (.int 0)) (.cons (.lit (.int 12)) (.nil))))) (.call 8 (.cons (.idx (.var 0) (.lit (.int 1))) (.cons (.lit (.int (-4))) (.cons (.lit (.int 8)) (.nil))))))) (.skip)
def p_is_hour : DL.PS := .seq (.ife (.bor (.not (.blt (.isi "tuple") (.cons (.var 0) .nil))) (.cmp .ne (.blt .len (.cons (.var 0) (.nil))) (.lit (.int 2)))) (.seq (.ret (.lit (.bl false))) (.skip)) (.skip)) (p_is_hour_1)
theorem t_is_hour {qual : Str} {f : Addr} {cd : Value} {A : Around} {outer : List Env} {s : Shared} {H : Hp} (B : Fx mg) (c_is_span : FnAt P w K mg base k "is_span" 3 (Γ 8)) (hr : Room k (bodyX P w K mg base N_is_hour qual (defScope s_is_hour) f cd A outer s H).A) (hgd : (bodyX P w K mg base N_is_hour qual (defScope s_is_hour) f cd A outer s H).A.guards = some []) : SSs (Γ := Γ) (bodyX P w K mg base N_is_hour qual (defScope s_is_hour) f cd A outer s H) (defBody s_is_hour) p_is_hour := by
  have nd : N_is_hour.Nodup := sc_is_hour.nd
  have hu : (bodyX P w K mg base N_is_hour qual (defScope s_is_hour) f cd A outer s H).A.units + 70 < cLine := by have := hr.un; omega
  have b_isinstance := B.b_isinstance
  have b_len := B.b_len
  have b_tuple := B.b_tuple
  have g_COLDEST := B.g_COLDEST
  have g_MILDEST := B.g_MILDEST
  have g_MOST_ROOM := B.g_MOST_ROOM
  exact (ss_cons (ss_if (SW.t (sw_or (st_not (st_val (S2.val (s_isi isi_tuple rfl b_isinstance bt_isinstance rfl b_tuple bt_tuple (sv 0 rfl rfl rfl rfl) (by decide) rfl (by decide) rfl rfl)) (fun _ => rfl))) (sw_or1 (st_cmp (s_bltB d_len rfl b_len bt_len (sab_cons (sv 0 rfl rfl rfl rfl) sab_nil rfl) (by decide) rfl rfl rfl) s_int (d_ne hu) rfl)))) (ss_cons (ss_ret s_bl) ss_nil) ss_nil) (ss_cons (ss_ret (s_and (s_call c_is_span hr hgd rfl (sa_cons (s_idx (sv 0 rfl rfl rfl rfl) s_int (fun _ _ => rfl) hu) (sa_cons s_int (sa_cons (s_gint g_MOST_ROOM rfl rfl) sa_nil rfl) rfl) rfl) rfl rfl rfl) (s_last (s_call c_is_span hr hgd rfl (sa_cons (s_idx (sv 0 rfl rfl rfl rfl) s_int (fun _ _ => rfl) hu) (sa_cons (s_gint g_MILDEST rfl rfl) (sa_cons (s_gint g_COLDEST rfl rfl) sa_nil rfl) rfl) rfl) rfl rfl rfl)))) ss_nil))
/-! is_day -/
abbrev N_is_day : List Str := ["value", "hour"]
abbrev a_is_day : List Str := ["value"]
theorem sc_is_day : FnScope N_is_day a_is_day (defScope s_is_day) := ⟨rfl, rfl, rfl, by decide +kernel, rfl, by decide +kernel, by decide +kernel⟩
def p_is_day : DL.PS := .seq (.ret (.band (.blt (.isi "tuple") (.cons (.var 0) .nil)) (.band (.chain .le .le (.lit (.int 1)) (.blt .len (.cons (.var 0) (.nil))) (.lit (.int 6))) (.bitv .all (.lc (.call 9 (.cons (.var 1) (.nil))) (.nm 1) (.sq (.var 0)) (.no) [1]))))) (.skip)
theorem t_is_day {qual : Str} {f : Addr} {cd : Value} {A : Around} {outer : List Env} {s : Shared} {H : Hp} (B : Fx mg) (c_is_hour : FnAt P w K mg base k "is_hour" 1 (Γ 9)) (hr : Room k (bodyX P w K mg base N_is_day qual (defScope s_is_day) f cd A outer s H).A) (hgd : (bodyX P w K mg base N_is_day qual (defScope s_is_day) f cd A outer s H).A.guards = some []) : SSs (Γ := Γ) (bodyX P w K mg base N_is_day qual (defScope s_is_day) f cd A outer s H) (defBody s_is_day) p_is_day := by
  have nd : N_is_day.Nodup := sc_is_day.nd
  have hu : (bodyX P w K mg base N_is_day qual (defScope s_is_day) f cd A outer s H).A.units + 70 < cLine := by have := hr.un; omega
  have b_all := B.b_all
  have b_isinstance := B.b_isinstance
  have b_len := B.b_len
  have b_tuple := B.b_tuple
  have g_MOST_HOURS := B.g_MOST_HOURS
  exact (ss_cons (ss_ret (s_and (s_isi isi_tuple rfl b_isinstance bt_isinstance rfl b_tuple bt_tuple (sv 0 rfl rfl rfl rfl) (by decide) rfl (by decide) rfl rfl) (S2.val (s_and (s_chain s_int (s_bltB d_len rfl b_len bt_len (sab_cons (sv 0 rfl rfl rfl rfl) sab_nil rfl) (by decide) rfl rfl rfl) (s_gint g_MOST_HOURS rfl rfl) d_le d_le rfl) (s_last (s_bitvB (d_all rfl) rfl b_all bt_all (s_lc (own := [("hour", 1)]) rfl nd (si_sq (sv 0 rfl rfl rfl rfl)) (blkOk_by (own := [("hour", 1)]) (show blkC N_is_day (defScope s_is_day) _ _ = true by decide +kernel)) (fun _ _ _ _ _ => (sg 1 nd rfl rfl (by first | exact .inl rfl | exact .inr rfl))) (fun _ _ _ _ _ => sts_no) (fun _ _ _ _ _ => (s_call c_is_hour hr hgd rfl (sa_cons (sv 1 rfl rfl rfl rfl) sa_nil rfl) rfl rfl rfl)) (fun _ => rfl) (by decide)) (by decide) rfl rfl)))))) ss_nil)
/-! check_day -/
abbrev N_check_day : List Str := ["stove", "day"]
abbrev a_check_day : List Str := ["stove", "day"]
theorem sc_check_day : FnScope N_check_day a_check_day (defScope s_check_day) := ⟨rfl, rfl, rfl, by decide +kernel, rfl, by decide +kernel, by decide +kernel⟩
def p_check_day_1 : DL.PS := .seq (.ife (.not (.call 10 (.cons (.var 1) (.nil)))) (.seq (.never) (.skip)) (.skip)) (.skip)
def p_check_day : DL.PS := .seq (.expr (.call 5 (.cons (.var 0) (.nil)))) (p_check_day_1)
theorem t_check_day {qual : Str} {f : Addr} {cd : Value} {A : Around} {outer : List Env} {s : Shared} {H : Hp} (B : Fx mg) (c_check_stove : FnAt P w K mg base k "check_stove" 1 (Γ 5)) (c_is_day : FnAt P w K mg base k "is_day" 1 (Γ 10)) (hr : Room k (bodyX P w K mg base N_check_day qual (defScope s_check_day) f cd A outer s H).A) (hgd : (bodyX P w K mg base N_check_day qual (defScope s_check_day) f cd A outer s H).A.guards = some []) : SSs (Γ := Γ) (bodyX P w K mg base N_check_day qual (defScope s_check_day) f cd A outer s H) (defBody s_check_day) p_check_day := by
  have nd : N_check_day.Nodup := sc_check_day.nd
  have hu : (bodyX P w K mg base N_check_day qual (defScope s_check_day) f cd A outer s H).A.units + 70 < cLine := by have := hr.un; omega
  exact (ss_cons (ss_expr (s_call c_check_stove hr hgd rfl (sa_cons (sv 0 rfl rfl rfl rfl) sa_nil rfl) rfl rfl rfl) rfl) (ss_cons (ss_if (st_not (st_val (S2.val (s_call c_is_day hr hgd rfl (sa_cons (sv 1 rfl rfl rfl rfl) sa_nil rfl) rfl rfl rfl)) (fun _ => rfl))) (ss_cons ss_never ss_nil) ss_nil) ss_nil))
/-! is_stand_of -/
abbrev N_is_stand_of : List Str := ["stove", "day", "value", "low", "high"]
abbrev a_is_stand_of : List Str := ["stove", "day", "value"]
theorem sc_is_stand_of : FnScope N_is_stand_of a_is_stand_of (defScope s_is_stand_of) := ⟨rfl, rfl, rfl, by decide +kernel, rfl, by decide +kernel, by decide +kernel⟩
def p_is_stand_of_2 : DL.PS := .seq (.ret (.band (.call 1 (.cons (.idx (.var 2) (.lit (.int 1))) (.cons (.lit (.int 0)) (.cons (.idx (.var 0) (.lit (.int 0))) (.nil))))) (.call 1 (.cons (.idx (.var 2) (.lit (.int 2))) (.cons (.var 3) (.cons (.var 4) (.nil))))))) (.skip)
def p_is_stand_of_1 : DL.PS := .seq (.asg (.cons (.nm 3) (.one (.nm 4))) (.idx (.idx (.var 1) (.idx (.var 2) (.lit (.int 0)))) (.lit (.int 0)))) (p_is_stand_of_2)
def p_is_stand_of : DL.PS := .seq (.ife (.bor (.not (.blt (.isi "tuple") (.cons (.var 2) .nil))) (.bor (.cmp .ne (.blt .len (.cons (.var 2) (.nil))) (.lit (.int 3))) (.not (.call 1 (.cons (.idx (.var 2) (.lit (.int 0))) (.cons (.lit (.int 0)) (.cons (.bin .sub (.blt .len (.cons (.var 1) (.nil))) (.lit (.int 1))) (.nil)))))))) (.seq (.ret (.lit (.bl false))) (.skip)) (.skip)) (p_is_stand_of_1)
theorem t_is_stand_of {qual : Str} {f : Addr} {cd : Value} {A : Around} {outer : List Env} {s : Shared} {H : Hp} (B : Fx mg) (c_is_between : FnAt P w K mg base k "is_between" 3 (Γ 1)) (hr : Room k (bodyX P w K mg base N_is_stand_of qual (defScope s_is_stand_of) f cd A outer s H).A) (hgd : (bodyX P w K mg base N_is_stand_of qual (defScope s_is_stand_of) f cd A outer s H).A.guards = some []) : SSs (Γ := Γ) (bodyX P w K mg base N_is_stand_of qual (defScope s_is_stand_of) f cd A outer s H) (defBody s_is_stand_of) p_is_stand_of := by
  have nd : N_is_stand_of.Nodup := sc_is_stand_of.nd
  have hu : (bodyX P w K mg base N_is_stand_of qual (defScope s_is_stand_of) f cd A outer s H).A.units + 70 < cLine := by have := hr.un; omega
  have b_isinstance := B.b_isinstance
  have b_len := B.b_len
  have b_tuple := B.b_tuple
  have g_THREE := B.g_THREE
  exact (ss_cons (ss_if (SW.t (sw_or (st_not (st_val (S2.val (s_isi isi_tuple rfl b_isinstance bt_isinstance rfl b_tuple bt_tuple (sv 2 rfl rfl rfl rfl) (by decide) rfl (by decide) rfl rfl)) (fun _ => rfl))) (sw_or (st_cmp (s_bltB d_len rfl b_len bt_len (sab_cons (sv 2 rfl rfl rfl rfl) sab_nil rfl) (by decide) rfl rfl rfl) (s_gint g_THREE rfl rfl) (d_ne hu) rfl) (sw_or1 (st_not (st_val (S2.val (s_call c_is_between hr hgd rfl (sa_cons (s_idx (sv 2 rfl rfl rfl rfl) s_int (fun _ _ => rfl) hu) (sa_cons s_int (sa_cons (s_bin (s_bltB d_len rfl b_len bt_len (sab_cons (sv 1 rfl rfl rfl rfl) sab_nil rfl) (by decide) rfl rfl rfl) s_int d_sub) sa_nil rfl) rfl) rfl) rfl rfl rfl)) (fun _ => rfl))))))) (ss_cons (ss_ret s_bl) ss_nil) ss_nil) (ss_cons (ss_asg (s_idx (s_idx (sv 1 rfl rfl rfl rfl) (s_idx (sv 2 rfl rfl rfl rfl) s_int (fun _ _ => rfl) hu) (fun _ _ => rfl) hu) s_int (fun _ _ => rfl) hu) (sg_tup rfl (sgs_cons (sg 3 nd rfl rfl (by first | exact .inl rfl | exact .inr rfl)) (sgs_one (sg 4 nd rfl rfl (by first | exact .inl rfl | exact .inr rfl)) rfl) rfl) rfl rfl) rfl rfl rfl) (ss_cons (ss_ret (s_and (s_call c_is_between hr hgd rfl (sa_cons (s_idx (sv 2 rfl rfl rfl rfl) s_int (fun _ _ => rfl) hu) (sa_cons s_int (sa_cons (s_idx (sv 0 rfl rfl rfl rfl) s_int (fun _ _ => rfl) hu) sa_nil rfl) rfl) rfl) rfl rfl rfl) (s_last (s_call c_is_between hr hgd rfl (sa_cons (s_idx (sv 2 rfl rfl rfl rfl) s_int (fun _ _ => rfl) hu) (sa_cons (sv 3 rfl rfl rfl rfl) (sa_cons (sv 4 rfl rfl rfl rfl) sa_nil rfl) rfl) rfl) rfl rfl rfl)))) ss_nil)))
/-! check_stand -/
abbrev N_check_stand : List Str := ["stove", "day", "stand"]
abbrev a_check_stand : List Str := ["stove", "day", "stand"]
theorem sc_check_stand : FnScope N_check_stand a_check_stand (defScope s_check_stand) := ⟨rfl, rfl, rfl, by decide +kernel, rfl, by decide +kernel, by decide +kernel⟩
def p_check_stand_1 : DL.PS := .seq (.ife (.not (.call 12 (.cons (.var 0) (.cons (.var 1) (.cons (.var 2) (.nil)))))) (.seq (.never) (.skip)) (.skip)) (.skip)
def p_check_stand : DL.PS := .seq (.expr (.call 11 (.cons (.var 0) (.cons (.var 1) (.nil))))) (p_check_stand_1)
theorem t_check_stand {qual : Str} {f : Addr} {cd : Value} {A : Around} {outer : List Env} {s : Shared} {H : Hp} (B : Fx mg) (c_check_day : FnAt P w K mg base k "check_day" 2 (Γ 11)) (c_is_stand_of : FnAt P w K mg base k "is_stand_of" 3 (Γ 12)) (hr : Room k (bodyX P w K mg base N_check_stand qual (defScope s_check_stand) f cd A outer s H).A) (hgd : (bodyX P w K mg base N_check_stand qual (defScope s_check_stand) f cd A outer s H).A.guards = some []) : SSs (Γ := Γ) (bodyX P w K mg base N_check_stand qual (defScope s_check_stand) f cd A outer s H) (defBody s_check_stand) p_check_stand := by
  have nd : N_check_stand.Nodup := sc_check_stand.nd
  have hu : (bodyX P w K mg base N_check_stand qual (defScope s_check_stand) f cd A outer s H).A.units + 70 < cLine := by have := hr.un; omega
  exact (ss_cons (ss_expr (s_call c_check_day hr hgd rfl (sa_cons (sv 0 rfl rfl rfl rfl) (sa_cons (sv 1 rfl rfl rfl rfl) sa_nil rfl) rfl) rfl rfl rfl) rfl) (ss_cons (ss_if (st_not (st_val (S2.val (s_call c_is_stand_of hr hgd rfl (sa_cons (sv 0 rfl rfl rfl rfl) (sa_cons (sv 1 rfl rfl rfl rfl) (sa_cons (sv 2 rfl rfl rfl rfl) sa_nil rfl) rfl) rfl) rfl rfl rfl)) (fun _ => rfl))) (ss_cons ss_never ss_nil) ss_nil) ss_nil))
/-! weathers_in -/
abbrev N_weathers_in : List Str := ["day", "hour", "least", "most"]
abbrev a_weathers_in : List Str := ["day", "hour"]
theorem sc_weathers_in : FnScope N_weathers_in a_weathers_in (defScope s_weathers_in) := ⟨rfl, rfl, rfl, by decide +kernel, rfl, by decide +kernel, by decide +kernel⟩
def p_weathers_in_1 : DL.PS := .seq (.ret (.bit .list (.rng2 (.var 2) (.bin .add (.var 3) (.lit (.int 1)))))) (.skip)
def p_weathers_in : DL.PS := .seq (.asg (.cons (.nm 2) (.one (.nm 3))) (.idx (.idx (.var 0) (.var 1)) (.lit (.int 1)))) (p_weathers_in_1)
theorem t_weathers_in {qual : Str} {f : Addr} {cd : Value} {A : Around} {outer : List Env} {s : Shared} {H : Hp} (B : Fx mg)  (hr : Room k (bodyX P w K mg base N_weathers_in qual (defScope s_weathers_in) f cd A outer s H).A) (hgd : (bodyX P w K mg base N_weathers_in qual (defScope s_weathers_in) f cd A outer s H).A.guards = some []) : SSs (Γ := Γ) (bodyX P w K mg base N_weathers_in qual (defScope s_weathers_in) f cd A outer s H) (defBody s_weathers_in) p_weathers_in := by
  have nd : N_weathers_in.Nodup := sc_weathers_in.nd
  have hu : (bodyX P w K mg base N_weathers_in qual (defScope s_weathers_in) f cd A outer s H).A.units + 70 < cLine := by have := hr.un; omega
  have b_list := B.b_list
  have b_range := B.b_range
  exact (ss_cons (ss_asg (s_idx (s_idx (sv 0 rfl rfl rfl rfl) (sv 1 rfl rfl rfl rfl) (fun _ _ => rfl) hu) s_int (fun _ _ => rfl) hu) (sg_tup rfl (sgs_cons (sg 2 nd rfl rfl (by first | exact .inl rfl | exact .inr rfl)) (sgs_one (sg 3 nd rfl rfl (by first | exact .inl rfl | exact .inr rfl)) rfl) rfl) rfl rfl) rfl rfl rfl) (ss_cons (ss_ret (s_listRng2 rfl rfl b_list rfl b_range (sv 2 rfl rfl rfl rfl) (s_bin (sv 3 rfl rfl rfl rfl) s_int d_add) rfl rfl)) ss_nil))
/-! one_behind -/
abbrev N_one_behind : List Str := ["stove", "day", "stand", "logs", "weather", "tiles", "given"]
abbrev a_one_behind : List Str := ["stove", "day", "stand", "logs", "weather"]
theorem sc_one_behind : FnScope N_one_behind a_one_behind (defScope s_one_behind) := ⟨rfl, rfl, rfl, by decide +kernel, rfl, by decide +kernel, by decide +kernel⟩
def p_one_behind_1 : DL.PS := .seq (.ret (.tup (.cons (.bin .mod (.bin .add (.idx (.var 2) (.lit (.int 0))) (.lit (.int 1))) (.blt .len (.cons (.var 1) (.nil)))) (.cons (.var 5) (.cons (.bin .sub (.bin .add (.idx (.var 2) (.lit (.int 2))) (.var 6)) (.var 4)) (.nil)))))) (.skip)
def p_one_behind : DL.PS := .seq (.asg (.cons (.nm 5) (.one (.nm 6))) (.call 7 (.cons (.var 0) (.cons (.idx (.var 2) (.lit (.int 1))) (.cons (.var 3) (.nil)))))) (p_one_behind_1)
theorem t_one_behind {qual : Str} {f : Addr} {cd : Value} {A : Around} {outer : List Env} {s : Shared} {H : Hp} (B : Fx mg) (c_fired : FnAt P w K mg base k "fired" 3 (Γ 7)) (hr : Room k (bodyX P w K mg base N_one_behind qual (defScope s_one_behind) f cd A outer s H).A) (hgd : (bodyX P w K mg base N_one_behind qual (defScope s_one_behind) f cd A outer s H).A.guards = some []) : SSs (Γ := Γ) (bodyX P w K mg base N_one_behind qual (defScope s_one_behind) f cd A outer s H) (defBody s_one_behind) p_one_behind := by
  have nd : N_one_behind.Nodup := sc_one_behind.nd
  have hu : (bodyX P w K mg base N_one_behind qual (defScope s_one_behind) f cd A outer s H).A.units + 70 < cLine := by have := hr.un; omega
  have b_len := B.b_len
  exact (ss_cons (ss_asg (s_call c_fired hr hgd rfl (sa_cons (sv 0 rfl rfl rfl rfl) (sa_cons (s_idx (sv 2 rfl rfl rfl rfl) s_int (fun _ _ => rfl) hu) (sa_cons (sv 3 rfl rfl rfl rfl) sa_nil rfl) rfl) rfl) rfl rfl rfl) (sg_tup rfl (sgs_cons (sg 5 nd rfl rfl (by first | exact .inl rfl | exact .inr rfl)) (sgs_one (sg 6 nd rfl rfl (by first | exact .inl rfl | exact .inr rfl)) rfl) rfl) rfl rfl) rfl rfl rfl) (ss_cons (ss_ret (s_tup (sa_cons (s_bin (s_bin (s_idx (sv 2 rfl rfl rfl rfl) s_int (fun _ _ => rfl) hu) s_int d_add) (s_bltB d_len rfl b_len bt_len (sab_cons (sv 1 rfl rfl rfl rfl) sab_nil rfl) (by decide) rfl rfl rfl) d_mod) (sa_cons (sv 5 rfl rfl rfl rfl) (sa_cons (s_bin (s_bin (s_idx (sv 2 rfl rfl rfl rfl) s_int (fun _ _ => rfl) hu) (sv 6 rfl rfl rfl rfl) d_add) (sv 4 rfl rfl rfl rfl) d_sub) sa_nil rfl) rfl) rfl) (by decide))) ss_nil))
/-! rows_behind -/
abbrev N_rows_behind : List Str := ["stove", "day", "stand", "logs", "weather"]
abbrev a_rows_behind : List Str := ["stove", "day", "stand", "logs"]
theorem sc_rows_behind : FnScope N_rows_behind a_rows_behind (defScope s_rows_behind) := ⟨rfl, rfl, rfl, by decide +kernel, rfl, by decide +kernel, by decide +kernel⟩
def p_rows_behind : DL.PS := .seq (.ret (.lc (.call 15 (.cons (.var 0) (.cons (.var 1) (.cons (.var 2) (.cons (.var 3) (.cons (.var 4) (.nil))))))) (.nm 4) (.sq (.rev (.call 14 (.cons (.var 1) (.cons (.idx (.var 2) (.lit (.int 0))) (.nil)))))) (.no) [4])) (.skip)
theorem t_rows_behind {qual : Str} {f : Addr} {cd : Value} {A : Around} {outer : List Env} {s : Shared} {H : Hp} (B : Fx mg) (c_weathers_in : FnAt P w K mg base k "weathers_in" 2 (Γ 14)) (c_one_behind : FnAt P w K mg base k "one_behind" 5 (Γ 15)) (hr : Room k (bodyX P w K mg base N_rows_behind qual (defScope s_rows_behind) f cd A outer s H).A) (hgd : (bodyX P w K mg base N_rows_behind qual (defScope s_rows_behind) f cd A outer s H).A.guards = some []) : SSs (Γ := Γ) (bodyX P w K mg base N_rows_behind qual (defScope s_rows_behind) f cd A outer s H) (defBody s_rows_behind) p_rows_behind := by
  have nd : N_rows_behind.Nodup := sc_rows_behind.nd
  have hu : (bodyX P w K mg base N_rows_behind qual (defScope s_rows_behind) f cd A outer s H).A.units + 70 < cLine := by have := hr.un; omega
  exact (ss_cons (ss_ret (s_lc (own := [("weather", 4)]) rfl nd (si_sq (s_rev (s_call c_weathers_in hr hgd rfl (sa_cons (sv 1 rfl rfl rfl rfl) (sa_cons (s_idx (sv 2 rfl rfl rfl rfl) s_int (fun _ _ => rfl) hu) sa_nil rfl) rfl) rfl rfl rfl))) (blkOk_by (own := [("weather", 4)]) (show blkC N_rows_behind (defScope s_rows_behind) _ _ = true by decide +kernel)) (fun _ _ _ _ _ => (sg 4 nd rfl rfl (by first | exact .inl rfl | exact .inr rfl))) (fun _ _ _ _ _ => sts_no) (fun _ _ _ _ _ => (s_call c_one_behind hr hgd rfl (sa_cons (sv 0 rfl rfl rfl rfl) (sa_cons (sv 1 rfl rfl rfl rfl) (sa_cons (sv 2 rfl rfl rfl rfl) (sa_cons (sv 3 rfl rfl rfl rfl) (sa_cons (sv 4 rfl rfl rfl rfl) sa_nil rfl) rfl) rfl) rfl) rfl) rfl rfl rfl)) (fun _ => rfl) (by decide))) ss_nil)
/-! stands_of -/
abbrev N_stands_of : List Str := ["stove", "day", "found", "hour", "tiles", "wish", "drop", "room"]
abbrev a_stands_of : List Str := ["stove", "day"]
theorem sc_stands_of : FnScope N_stands_of a_stands_of (defScope s_stands_of) := ⟨rfl, rfl, rfl, by decide +kernel, rfl, by decide +kernel, by decide +kernel⟩
def p_stands_of_2 : DL.PS := .seq (.ret (.var 2)) (.skip)
def p_stands_of_1 : DL.PS := .seq (.for_ (.cons (.nm 3) (.one (.cons (.nm 5) (.one (.nm 6))))) (.enum (.var 1)) (.seq (.for_ (.nm 4) (.rng1 (.bin .add (.idx (.var 0) (.lit (.int 0))) (.lit (.int 1)))) (.seq (.ext 2 (.lc (.tup (.cons (.var 3) (.cons (.var 4) (.cons (.var 7) (.nil))))) (.nm 7) (.rng2 (.idx (.var 5) (.lit (.int 0))) (.bin .add (.idx (.var 5) (.lit (.int 1))) (.lit (.int 1)))) (.no) [7])) (.skip))) (.skip))) (p_stands_of_2)
def p_stands_of : DL.PS := .seq (.setO 2 (.lst (.nil))) (p_stands_of_1)
theorem t_stands_of {qual : Str} {f : Addr} {cd : Value} {A : Around} {outer : List Env} {s : Shared} {H : Hp} (B : Fx mg)  (hr : Room k (bodyX P w K mg base N_stands_of qual (defScope s_stands_of) f cd A outer s H).A) (hgd : (bodyX P w K mg base N_stands_of qual (defScope s_stands_of) f cd A outer s H).A.guards = some []) : SSs (Γ := Γ) (bodyX P w K mg base N_stands_of qual (defScope s_stands_of) f cd A outer s H) (defBody s_stands_of) p_stands_of := by
  have nd : N_stands_of.Nodup := sc_stands_of.nd
  have hu : (bodyX P w K mg base N_stands_of qual (defScope s_stands_of) f cd A outer s H).A.units + 70 < cLine := by have := hr.un; omega
  have b_enumerate := B.b_enumerate
  have b_range := B.b_range
  exact (ss_cons (ss_setO (i := 2) nd rfl (by first | exact .inl rfl | exact .inr rfl) (sf_lst sa_nil (by decide)) rfl (.inl rfl)) (ss_cons (ss_for owns rfl (si_enum rfl b_enumerate (sv 1 rfl rfl rfl rfl) rfl) (sg_tup rfl (sgs_cons (sg 3 nd rfl rfl (by first | exact .inl rfl | exact .inr rfl)) (sgs_one (sg_tup rfl (sgs_cons (sg 5 nd rfl rfl (by first | exact .inl rfl | exact .inr rfl)) (sgs_one (sg 6 nd rfl rfl (by first | exact .inl rfl | exact .inr rfl)) rfl) rfl) rfl rfl) rfl) rfl) rfl rfl) (ss_cons (ss_for owns rfl (si_rng1 rfl b_range (s_bin (s_idx (sv 0 rfl rfl rfl rfl) s_int (fun _ _ => rfl) hu) s_int d_add) rfl) (sg 4 nd rfl rfl (by first | exact .inl rfl | exact .inr rfl)) (ss_cons (ss_ext (i := 2) rfl (by first | exact .inl rfl | exact .inr (.inl rfl)) rfl rfl (s_lc (own := [("room", 7)]) rfl nd (si_rng2 rfl b_range (s_idx (sv 5 rfl rfl rfl rfl) s_int (fun _ _ => rfl) hu) (s_bin (s_idx (sv 5 rfl rfl rfl rfl) s_int (fun _ _ => rfl) hu) s_int d_add) rfl rfl) (blkOk_by (own := [("room", 7)]) (show blkC N_stands_of (defScope s_stands_of) _ _ = true by decide +kernel)) (fun _ _ _ _ _ => (sg 7 nd rfl rfl (by first | exact .inl rfl | exact .inr rfl))) (fun _ _ _ _ _ => sts_no) (fun _ _ _ _ _ => (s_tup (sa_cons (sv 3 rfl rfl rfl rfl) (sa_cons (sv 4 rfl rfl rfl rfl) (sa_cons (sv 7 rfl rfl rfl rfl) sa_nil rfl) rfl) rfl) (by decide))) (fun _ => rfl) (by decide)) rfl rfl rfl rfl rfl) ss_nil) (fun _ => rfl)) ss_nil) (fun _ => rfl)) (ss_cons (ss_ret (sv 2 rfl rfl rfl rfl)) ss_nil)))
/-! does_lead -/
abbrev N_does_lead : List Str := ["stove", "day", "stand", "logs", "known", "there"]
abbrev a_does_lead : List Str := ["stove", "day", "stand", "logs", "known"]
theorem sc_does_lead : FnScope N_does_lead a_does_lead (defScope s_does_lead) := ⟨rfl, rfl, rfl, by decide +kernel, rfl, by decide +kernel, by decide +kernel⟩
def p_does_lead : DL.PS := .seq (.ret (.bitv .all (.lc (.cmp .isin (.var 5) (.var 4)) (.nm 5) (.sq (.call 16 (.cons (.var 0) (.cons (.var 1) (.cons (.var 2) (.cons (.var 3) (.nil))))))) (.no) [5]))) (.skip)
theorem t_does_lead {qual : Str} {f : Addr} {cd : Value} {A : Around} {outer : List Env} {s : Shared} {H : Hp} (B : Fx mg) (c_rows_behind : FnAt P w K mg base k "rows_behind" 4 (Γ 16)) (hr : Room k (bodyX P w K mg base N_does_lead qual (defScope s_does_lead) f cd A outer s H).A) (hgd : (bodyX P w K mg base N_does_lead qual (defScope s_does_lead) f cd A outer s H).A.guards = some []) : SSs (Γ := Γ) (bodyX P w K mg base N_does_lead qual (defScope s_does_lead) f cd A outer s H) (defBody s_does_lead) p_does_lead := by
  have nd : N_does_lead.Nodup := sc_does_lead.nd
  have hu : (bodyX P w K mg base N_does_lead qual (defScope s_does_lead) f cd A outer s H).A.units + 70 < cLine := by have := hr.un; omega
  have b_all := B.b_all
  exact (ss_cons (ss_ret (s_bitvB (d_all rfl) rfl b_all bt_all (s_lc (own := [("there", 5)]) rfl nd (si_sq (s_call c_rows_behind hr hgd rfl (sa_cons (sv 0 rfl rfl rfl rfl) (sa_cons (sv 1 rfl rfl rfl rfl) (sa_cons (sv 2 rfl rfl rfl rfl) (sa_cons (sv 3 rfl rfl rfl rfl) sa_nil rfl) rfl) rfl) rfl) rfl rfl rfl)) (blkOk_by (own := [("there", 5)]) (show blkC N_does_lead (defScope s_does_lead) _ _ = true by decide +kernel)) (fun _ _ _ _ _ => (sg 5 nd rfl rfl (by first | exact .inl rfl | exact .inr rfl))) (fun _ _ _ _ _ => sts_no) (fun _ _ _ _ _ => (s_cmp (sv 5 rfl rfl rfl rfl) (sv 4 rfl rfl rfl rfl) (d_in hu) rfl)) (fun _ => rfl) (by decide)) (by decide) rfl rfl)) ss_nil)
/-! logs_within -/
abbrev N_logs_within : List Str := ["stove", "day", "stand", "known", "logs"]
abbrev a_logs_within : List Str := ["stove", "day", "stand", "known"]
theorem sc_logs_within : FnScope N_logs_within a_logs_within (defScope s_logs_within) := ⟨rfl, rfl, rfl, by decide +kernel, rfl, by decide +kernel, by decide +kernel⟩
def p_logs_within_1 : DL.PS := .seq (.ret (.lit .non)) (.skip)
def p_logs_within : DL.PS := .seq (.for_ (.nm 4) (.sq (.call 6 (.cons (.var 0) (.cons (.idx (.var 2) (.lit (.int 1))) (.nil))))) (.seq (.ife (.call 18 (.cons (.var 0) (.cons (.var 1) (.cons (.var 2) (.cons (.var 4) (.cons (.var 3) (.nil))))))) (.seq (.ret (.var 4)) (.skip)) (.skip)) (.skip))) (p_logs_within_1)
theorem t_logs_within {qual : Str} {f : Addr} {cd : Value} {A : Around} {outer : List Env} {s : Shared} {H : Hp} (B : Fx mg) (c_logs_by : FnAt P w K mg base k "logs_by" 2 (Γ 6)) (c_does_lead : FnAt P w K mg base k "does_lead" 5 (Γ 18)) (hr : Room k (bodyX P w K mg base N_logs_within qual (defScope s_logs_within) f cd A outer s H).A) (hgd : (bodyX P w K mg base N_logs_within qual (defScope s_logs_within) f cd A outer s H).A.guards = some []) : SSs (Γ := Γ) (bodyX P w K mg base N_logs_within qual (defScope s_logs_within) f cd A outer s H) (defBody s_logs_within) p_logs_within := by
  have nd : N_logs_within.Nodup := sc_logs_within.nd
  have hu : (bodyX P w K mg base N_logs_within qual (defScope s_logs_within) f cd A outer s H).A.units + 70 < cLine := by have := hr.un; omega
  exact (ss_cons (ss_for owns rfl (si_sq (s_call c_logs_by hr hgd rfl (sa_cons (sv 0 rfl rfl rfl rfl) (sa_cons (s_idx (sv 2 rfl rfl rfl rfl) s_int (fun _ _ => rfl) hu) sa_nil rfl) rfl) rfl rfl rfl)) (sg 4 nd rfl rfl (by first | exact .inl rfl | exact .inr rfl)) (ss_cons (ss_if (st_val (S2.val (s_call c_does_lead hr hgd rfl (sa_cons (sv 0 rfl rfl rfl rfl) (sa_cons (sv 1 rfl rfl rfl rfl) (sa_cons (sv 2 rfl rfl rfl rfl) (sa_cons (sv 4 rfl rfl rfl rfl) (sa_cons (sv 3 rfl rfl rfl rfl) sa_nil rfl) rfl) rfl) rfl) rfl) rfl rfl rfl)) (fun _ => rfl)) (ss_cons (ss_ret (sv 4 rfl rfl rfl rfl)) ss_nil) ss_nil) ss_nil) (fun _ => rfl)) (ss_cons (ss_ret s_non) ss_nil))
/-! ranks_of -/
abbrev N_ranks_of : List Str := ["stove", "day", "lost", "left", "ranks", "number", "stand"]
abbrev a_ranks_of : List Str := ["stove", "day"]
theorem sc_ranks_of : FnScope N_ranks_of a_ranks_of (defScope s_ranks_of) := ⟨rfl, rfl, rfl, by decide +kernel, rfl, by decide +kernel, by decide +kernel⟩
def p_ranks_of_3 : DL.PS := .seq (.ret (.tup (.cons (.var 4) (.cons (.var 3) (.nil))))) (.skip)
def p_ranks_of_2 : DL.PS := .seq (.whl (.cmp .ne (.var 2) (.lst (.nil))) (.seq (.set 5 (.bin .add (.var 5) (.lit (.int 1)))) (.seq (.set 2 (.lc (.var 6) (.nm 6) (.sq (.var 3)) (.yes (.cmp .is_ (.call 19 (.cons (.var 0) (.cons (.var 1) (.cons (.var 6) (.cons (.var 3) (.nil)))))) (.lit .non))) [6])) (.seq (.for_ (.nm 6) (.sq (.var 2)) (.seq (.put 4 (.var 6) (.var 5)) (.skip))) (.seq (.set 3 (.bitv .dict (.lc (.tup (.cons (.var 6) (.cons (.lit (.bl true)) (.nil)))) (.nm 6) (.sq (.var 3)) (.yes (.cmp .notin (.var 6) (.var 4))) [6]))) (.skip)))))) (p_ranks_of_3)
def p_ranks_of_1 : DL.PS := .seq (.set 2 (.lst (.cons (.lit .non) (.nil)))) (p_ranks_of_2)
def p_ranks_of : DL.PS := .seq (.par [3, 4, 5] [false, true, false] (.cons (.bitv .dict (.lc (.tup (.cons (.var 6) (.cons (.lit (.bl true)) (.nil)))) (.nm 6) (.sq (.call 17 (.cons (.var 0) (.cons (.var 1) (.nil))))) (.no) [6])) (.cons (.dct0) (.cons (.lit (.int 0)) (.nil))))) (p_ranks_of_1)
theorem t_ranks_of {qual : Str} {f : Addr} {cd : Value} {A : Around} {outer : List Env} {s : Shared} {H : Hp} (B : Fx mg) (c_stands_of : FnAt P w K mg base k "stands_of" 2 (Γ 17)) (c_logs_within : FnAt P w K mg base k "logs_within" 4 (Γ 19)) (hr : Room k (bodyX P w K mg base N_ranks_of qual (defScope s_ranks_of) f cd A outer s H).A) (hgd : (bodyX P w K mg base N_ranks_of qual (defScope s_ranks_of) f cd A outer s H).A.guards = some []) : SSs (Γ := Γ) (bodyX P w K mg base N_ranks_of qual (defScope s_ranks_of) f cd A outer s H) (defBody s_ranks_of) p_ranks_of := by
  have nd : N_ranks_of.Nodup := sc_ranks_of.nd
  have hu : (bodyX P w K mg base N_ranks_of qual (defScope s_ranks_of) f cd A outer s H).A.units + 70 < cLine := by have := hr.un; omega
  have b_dict := B.b_dict
  exact (ss_cons (ss_parN rfl (gns_cons (i := 3) nd rfl (by first | exact .inl rfl | exact .inr rfl) (.inl rfl) (gns_cons (i := 4) nd rfl (by first | exact .inl rfl | exact .inr rfl) (.inl rfl) (gns_cons (i := 5) nd rfl (by first | exact .inl rfl | exact .inr rfl) (.inl rfl) gns_nil rfl) rfl) rfl) (sm_val (s_bitvT (d_dict rfl hu) rfl b_dict bt_dict (s_lc (own := [("stand", 6)]) rfl nd (si_sq (s_call c_stands_of hr hgd rfl (sa_cons (sv 0 rfl rfl rfl rfl) (sa_cons (sv 1 rfl rfl rfl rfl) sa_nil rfl) rfl) rfl rfl rfl)) (blkOk_by (own := [("stand", 6)]) (show blkC N_ranks_of (defScope s_ranks_of) _ _ = true by decide +kernel)) (fun _ _ _ _ _ => (sg 6 nd rfl rfl (by first | exact .inl rfl | exact .inr rfl))) (fun _ _ _ _ _ => sts_no) (fun _ _ _ _ _ => (s_tup (sa_cons (sv 6 rfl rfl rfl rfl) (sa_cons s_bl sa_nil rfl) rfl) (by decide))) (fun _ => rfl) (by decide)) (by decide) rfl rfl) (sm_own sf_dct0 (sm_val s_int sm_nil rfl) rfl) rfl) rfl (by decide) rfl rfl rfl rfl rfl) (ss_cons (ss_set (i := 2) nd rfl (by first | exact .inl rfl | exact .inr rfl) (s_lst (sa_cons s_non sa_nil rfl) (by decide)) rfl (.inl rfl)) (ss_cons (ss_while owns (st_cmp (sv 2 rfl rfl rfl rfl) (s_lst sa_nil (by decide)) (d_ne hu) rfl) (ss_cons (ss_set (i := 5) nd rfl (by first | exact .inl rfl | exact .inr rfl) (s_bin (sv 5 rfl rfl rfl rfl) s_int d_add) rfl (.inl rfl)) (ss_cons (ss_lc (o := false) (own := [("stand", 6)]) (i := 2) rfl nd rfl rfl (sw_true rfl rfl rfl rfl) (si_sq (sv 3 rfl rfl rfl rfl)) (blkOk_by (own := [("stand", 6)]) (show blkC N_ranks_of (defScope s_ranks_of) _ _ = true by decide +kernel)) (fun _ _ _ _ _ => (sg 6 nd rfl rfl (by first | exact .inl rfl | exact .inr rfl))) (fun _ _ _ _ _ => (sts_one (st_cmp (s_call c_logs_within hr hgd rfl (sa_cons (sv 0 rfl rfl rfl rfl) (sa_cons (sv 1 rfl rfl rfl rfl) (sa_cons (sv 6 rfl rfl rfl rfl) (sa_cons (sv 3 rfl rfl rfl rfl) sa_nil rfl) rfl) rfl) rfl) rfl rfl rfl) s_non d_is rfl))) (fun _ _ _ _ _ => (sv 6 rfl rfl rfl rfl)) (fun _ => rfl) (by decide)) (ss_cons (ss_for owns rfl (si_sq (sv 2 rfl rfl rfl rfl)) (sg 6 nd rfl rfl (by first | exact .inl rfl | exact .inr rfl)) (ss_cons (ss_put (i := 4) hu rfl (by first | exact .inl rfl | exact .inr (.inl rfl)) rfl rfl (sv 5 rfl rfl rfl rfl) (sv 6 rfl rfl rfl rfl) (fun _ => rfl) rfl rfl rfl) ss_nil) (fun _ => rfl)) (ss_cons (ss_set (i := 3) nd rfl (by first | exact .inl rfl | exact .inr rfl) (s_bitvT (d_dict rfl hu) rfl b_dict bt_dict (s_lc (own := [("stand", 6)]) rfl nd (si_sq (sv 3 rfl rfl rfl rfl)) (blkOk_by (own := [("stand", 6)]) (show blkC N_ranks_of (defScope s_ranks_of) _ _ = true by decide +kernel)) (fun _ _ _ _ _ => (sg 6 nd rfl rfl (by first | exact .inl rfl | exact .inr rfl))) (fun _ _ _ _ _ => (sts_one (st_cmp (sv 6 rfl rfl rfl rfl) (sv 4 rfl rfl rfl rfl) (d_notin hu) rfl))) (fun _ _ _ _ _ => (s_tup (sa_cons (sv 6 rfl rfl rfl rfl) (sa_cons s_bl sa_nil rfl) rfl) (by decide))) (fun _ => rfl) (by decide)) (by decide) rfl rfl) rfl (.inl rfl)) ss_nil))))) (ss_cons (ss_ret (s_tup (sa_cons (sv 4 rfl rfl rfl rfl) (sa_cons (sv 3 rfl rfl rfl rfl) sa_nil rfl) rfl) (by decide))) ss_nil))))
/-! is_kept_at -/
abbrev N_is_kept_at : List Str := ["stove", "day", "stand"]
abbrev a_is_kept_at : List Str := ["stove", "day", "stand"]
theorem sc_is_kept_at : FnScope N_is_kept_at a_is_kept_at (defScope s_is_kept_at) := ⟨rfl, rfl, rfl, by decide +kernel, rfl, by decide +kernel, by decide +kernel⟩
def p_is_kept_at : DL.PS := .seq (.ret (.cmp .isin (.var 2) (.idx (.call 20 (.cons (.var 0) (.cons (.var 1) (.nil)))) (.lit (.int 1))))) (.skip)
theorem t_is_kept_at {qual : Str} {f : Addr} {cd : Value} {A : Around} {outer : List Env} {s : Shared} {H : Hp} (B : Fx mg) (c_ranks_of : FnAt P w K mg base k "ranks_of" 2 (Γ 20)) (hr : Room k (bodyX P w K mg base N_is_kept_at qual (defScope s_is_kept_at) f cd A outer s H).A) (hgd : (bodyX P w K mg base N_is_kept_at qual (defScope s_is_kept_at) f cd A outer s H).A.guards = some []) : SSs (Γ := Γ) (bodyX P w K mg base N_is_kept_at qual (defScope s_is_kept_at) f cd A outer s H) (defBody s_is_kept_at) p_is_kept_at := by
  have nd : N_is_kept_at.Nodup := sc_is_kept_at.nd
  have hu : (bodyX P w K mg base N_is_kept_at qual (defScope s_is_kept_at) f cd A outer s H).A.units + 70 < cLine := by have := hr.un; omega
  exact (ss_cons (ss_ret (s_cmp (sv 2 rfl rfl rfl rfl) (s_idx (s_call c_ranks_of hr hgd rfl (sa_cons (sv 0 rfl rfl rfl rfl) (sa_cons (sv 1 rfl rfl rfl rfl) sa_nil rfl) rfl) rfl rfl rfl) s_int (fun _ _ => rfl) hu) (d_in hu) rfl)) ss_nil)
/-! book_of -/
abbrev N_book_of : List Str := ["stove", "day", "left", "stand"]
abbrev a_book_of : List Str := ["stove", "day", "left"]
theorem sc_book_of : FnScope N_book_of a_book_of (defScope s_book_of) := ⟨rfl, rfl, rfl, by decide +kernel, rfl, by decide +kernel, by decide +kernel⟩
def p_book_of : DL.PS := .seq (.ret (.bitv .tuple (.lc (.tup (.cons (.var 3) (.cons (.call 19 (.cons (.var 0) (.cons (.var 1) (.cons (.var 3) (.cons (.var 2) (.nil)))))) (.nil)))) (.nm 3) (.sq (.bitv .sorted (.var 2))) (.no) [3]))) (.skip)
theorem t_book_of {qual : Str} {f : Addr} {cd : Value} {A : Around} {outer : List Env} {s : Shared} {H : Hp} (B : Fx mg) (c_logs_within : FnAt P w K mg base k "logs_within" 4 (Γ 19)) (hr : Room k (bodyX P w K mg base N_book_of qual (defScope s_book_of) f cd A outer s H).A) (hgd : (bodyX P w K mg base N_book_of qual (defScope s_book_of) f cd A outer s H).A.guards = some []) : SSs (Γ := Γ) (bodyX P w K mg base N_book_of qual (defScope s_book_of) f cd A outer s H) (defBody s_book_of) p_book_of := by
  have nd : N_book_of.Nodup := sc_book_of.nd
  have hu : (bodyX P w K mg base N_book_of qual (defScope s_book_of) f cd A outer s H).A.units + 70 < cLine := by have := hr.un; omega
  have b_sorted := B.b_sorted
  have b_tuple := B.b_tuple
  exact (ss_cons (ss_ret (s_bitvT d_tuple rfl b_tuple bt_tuple (s_lc (own := [("stand", 3)]) rfl nd (si_sq (s_bitvB (d_sorted rfl hu) rfl b_sorted bt_sorted (sv 2 rfl rfl rfl rfl) (by decide) rfl rfl)) (blkOk_by (own := [("stand", 3)]) (show blkC N_book_of (defScope s_book_of) _ _ = true by decide +kernel)) (fun _ _ _ _ _ => (sg 3 nd rfl rfl (by first | exact .inl rfl | exact .inr rfl))) (fun _ _ _ _ _ => sts_no) (fun _ _ _ _ _ => (s_tup (sa_cons (sv 3 rfl rfl rfl rfl) (sa_cons (s_call c_logs_within hr hgd rfl (sa_cons (sv 0 rfl rfl rfl rfl) (sa_cons (sv 1 rfl rfl rfl rfl) (sa_cons (sv 3 rfl rfl rfl rfl) (sa_cons (sv 2 rfl rfl rfl rfl) sa_nil rfl) rfl) rfl) rfl) rfl rfl rfl) sa_nil rfl) rfl) (by decide))) (fun _ => rfl) (by decide)) (by decide) rfl rfl)) ss_nil)
/-! always -/
abbrev N_always : List Str := ["stove", "day"]
abbrev a_always : List Str := ["stove", "day"]
theorem sc_always : FnScope N_always a_always (defScope s_always) := ⟨rfl, rfl, rfl, by decide +kernel, rfl, by decide +kernel, by decide +kernel⟩
def p_always_1 : DL.PS := .seq (.ret (.bitv .tuple (.bitv .sorted (.idx (.call 20 (.cons (.var 0) (.cons (.var 1) (.nil)))) (.lit (.int 1)))))) (.skip)
def p_always : DL.PS := .seq (.expr (.call 11 (.cons (.var 0) (.cons (.var 1) (.nil))))) (p_always_1)
theorem t_always {qual : Str} {f : Addr} {cd : Value} {A : Around} {outer : List Env} {s : Shared} {H : Hp} (B : Fx mg) (c_check_day : FnAt P w K mg base k "check_day" 2 (Γ 11)) (c_ranks_of : FnAt P w K mg base k "ranks_of" 2 (Γ 20)) (hr : Room k (bodyX P w K mg base N_always qual (defScope s_always) f cd A outer s H).A) (hgd : (bodyX P w K mg base N_always qual (defScope s_always) f cd A outer s H).A.guards = some []) : SSs (Γ := Γ) (bodyX P w K mg base N_always qual (defScope s_always) f cd A outer s H) (defBody s_always) p_always := by
  have nd : N_always.Nodup := sc_always.nd
  have hu : (bodyX P w K mg base N_always qual (defScope s_always) f cd A outer s H).A.units + 70 < cLine := by have := hr.un; omega
  have b_sorted := B.b_sorted
  have b_tuple := B.b_tuple
  exact (ss_cons (ss_expr (s_call c_check_day hr hgd rfl (sa_cons (sv 0 rfl rfl rfl rfl) (sa_cons (sv 1 rfl rfl rfl rfl) sa_nil rfl) rfl) rfl rfl rfl) rfl) (ss_cons (ss_ret (s_bitvT d_tuple rfl b_tuple bt_tuple (s_bitvB (d_sorted rfl hu) rfl b_sorted bt_sorted (s_idx (s_call c_ranks_of hr hgd rfl (sa_cons (sv 0 rfl rfl rfl rfl) (sa_cons (sv 1 rfl rfl rfl rfl) sa_nil rfl) rfl) rfl rfl rfl) s_int (fun _ _ => rfl) hu) (by decide) rfl rfl) (by decide) rfl rfl)) ss_nil))
/-! firing -/
abbrev N_firing : List Str := ["stove", "day"]
abbrev a_firing : List Str := ["stove", "day"]
theorem sc_firing : FnScope N_firing a_firing (defScope s_firing) := ⟨rfl, rfl, rfl, by decide +kernel, rfl, by decide +kernel, by decide +kernel⟩
def p_firing_1 : DL.PS := .seq (.ret (.call 22 (.cons (.var 0) (.cons (.var 1) (.cons (.idx (.call 20 (.cons (.var 0) (.cons (.var 1) (.nil)))) (.lit (.int 1))) (.nil)))))) (.skip)
def p_firing : DL.PS := .seq (.expr (.call 11 (.cons (.var 0) (.cons (.var 1) (.nil))))) (p_firing_1)
theorem t_firing {qual : Str} {f : Addr} {cd : Value} {A : Around} {outer : List Env} {s : Shared} {H : Hp} (B : Fx mg) (c_check_day : FnAt P w K mg base k "check_day" 2 (Γ 11)) (c_ranks_of : FnAt P w K mg base k "ranks_of" 2 (Γ 20)) (c_book_of : FnAt P w K mg base k "book_of" 3 (Γ 22)) (hr : Room k (bodyX P w K mg base N_firing qual (defScope s_firing) f cd A outer s H).A) (hgd : (bodyX P w K mg base N_firing qual (defScope s_firing) f cd A outer s H).A.guards = some []) : SSs (Γ := Γ) (bodyX P w K mg base N_firing qual (defScope s_firing) f cd A outer s H) (defBody s_firing) p_firing := by
  have nd : N_firing.Nodup := sc_firing.nd
  have hu : (bodyX P w K mg base N_firing qual (defScope s_firing) f cd A outer s H).A.units + 70 < cLine := by have := hr.un; omega
  exact (ss_cons (ss_expr (s_call c_check_day hr hgd rfl (sa_cons (sv 0 rfl rfl rfl rfl) (sa_cons (sv 1 rfl rfl rfl rfl) sa_nil rfl) rfl) rfl rfl rfl) rfl) (ss_cons (ss_ret (s_call c_book_of hr hgd rfl (sa_cons (sv 0 rfl rfl rfl rfl) (sa_cons (sv 1 rfl rfl rfl rfl) (sa_cons (s_idx (s_call c_ranks_of hr hgd rfl (sa_cons (sv 0 rfl rfl rfl rfl) (sa_cons (sv 1 rfl rfl rfl rfl) sa_nil rfl) rfl) rfl rfl rfl) s_int (fun _ _ => rfl) hu) sa_nil rfl) rfl) rfl) rfl rfl rfl)) ss_nil))
/-! lost_by -/
abbrev N_lost_by : List Str := ["stove", "day", "stand"]
abbrev a_lost_by : List Str := ["stove", "day", "stand"]
theorem sc_lost_by : FnScope N_lost_by a_lost_by (defScope s_lost_by) := ⟨rfl, rfl, rfl, by decide +kernel, rfl, by decide +kernel, by decide +kernel⟩
def p_lost_by_1 : DL.PS := .seq (.ret (.meth .get (.idx (.call 20 (.cons (.var 0) (.cons (.var 1) (.nil)))) (.lit (.int 0))) (.cons (.var 2) .nil))) (.skip)
def p_lost_by : DL.PS := .seq (.expr (.call 13 (.cons (.var 0) (.cons (.var 1) (.cons (.var 2) (.nil)))))) (p_lost_by_1)
theorem t_lost_by {qual : Str} {f : Addr} {cd : Value} {A : Around} {outer : List Env} {s : Shared} {H : Hp} (B : Fx mg) (c_check_stand : FnAt P w K mg base k "check_stand" 3 (Γ 13)) (c_ranks_of : FnAt P w K mg base k "ranks_of" 2 (Γ 20)) (hr : Room k (bodyX P w K mg base N_lost_by qual (defScope s_lost_by) f cd A outer s H).A) (hgd : (bodyX P w K mg base N_lost_by qual (defScope s_lost_by) f cd A outer s H).A.guards = some []) : SSs (Γ := Γ) (bodyX P w K mg base N_lost_by qual (defScope s_lost_by) f cd A outer s H) (defBody s_lost_by) p_lost_by := by
  have nd : N_lost_by.Nodup := sc_lost_by.nd
  have hu : (bodyX P w K mg base N_lost_by qual (defScope s_lost_by) f cd A outer s H).A.units + 70 < cLine := by have := hr.un; omega
  exact (ss_cons (ss_expr (s_call c_check_stand hr hgd rfl (sa_cons (sv 0 rfl rfl rfl rfl) (sa_cons (sv 1 rfl rfl rfl rfl) (sa_cons (sv 2 rfl rfl rfl rfl) sa_nil rfl) rfl) rfl) rfl rfl rfl) rfl) (ss_cons (ss_ret (s_get hu (s_idx (s_call c_ranks_of hr hgd rfl (sa_cons (sv 0 rfl rfl rfl rfl) (sa_cons (sv 1 rfl rfl rfl rfl) sa_nil rfl) rfl) rfl rfl rfl) s_int (fun _ _ => rfl) hu) (sv 2 rfl rfl rfl rfl) ⟨rfl, rfl, rfl, rfl⟩)) ss_nil))
/-! kept_told -/
abbrev N_kept_told : List Str := ["stove", "day", "stand", "ranks", "left"]
abbrev a_kept_told : List Str := ["stove", "day", "stand"]
theorem sc_kept_told : FnScope N_kept_told a_kept_told (defScope s_kept_told) := ⟨rfl, rfl, rfl, by decide +kernel, rfl, by decide +kernel, by decide +kernel⟩
def p_kept_told_3 : DL.PS := .seq (.ret (.tup (.cons (.lit (.str "lost")) (.cons (.bitv .tuple (.bit .sorted (.items (.var 3)))) (.nil))))) (.skip)
def p_kept_told_2 : DL.PS := .seq (.ife (.cmp .isin (.var 2) (.var 4)) (.seq (.ret (.tup (.cons (.lit (.str "kept")) (.cons (.call 22 (.cons (.var 0) (.cons (.var 1) (.cons (.var 4) (.nil))))) (.nil))))) (.skip)) (.skip)) (p_kept_told_3)
def p_kept_told_1 : DL.PS := .seq (.asg (.cons (.nm 3) (.one (.nm 4))) (.call 20 (.cons (.var 0) (.cons (.var 1) (.nil))))) (p_kept_told_2)
def p_kept_told : DL.PS := .seq (.expr (.call 13 (.cons (.var 0) (.cons (.var 1) (.cons (.var 2) (.nil)))))) (p_kept_told_1)
theorem t_kept_told {qual : Str} {f : Addr} {cd : Value} {A : Around} {outer : List Env} {s : Shared} {H : Hp} (B : Fx mg) (c_check_stand : FnAt P w K mg base k "check_stand" 3 (Γ 13)) (c_ranks_of : FnAt P w K mg base k "ranks_of" 2 (Γ 20)) (c_book_of : FnAt P w K mg base k "book_of" 3 (Γ 22)) (hr : Room k (bodyX P w K mg base N_kept_told qual (defScope s_kept_told) f cd A outer s H).A) (hgd : (bodyX P w K mg base N_kept_told qual (defScope s_kept_told) f cd A outer s H).A.guards = some []) : SSs (Γ := Γ) (bodyX P w K mg base N_kept_told qual (defScope s_kept_told) f cd A outer s H) (defBody s_kept_told) p_kept_told := by
  have nd : N_kept_told.Nodup := sc_kept_told.nd
  have hu : (bodyX P w K mg base N_kept_told qual (defScope s_kept_told) f cd A outer s H).A.units + 70 < cLine := by have := hr.un; omega
  have b_sorted := B.b_sorted
  have b_tuple := B.b_tuple
  have g_KEPT := B.g_KEPT
  have g_LOST := B.g_LOST
  exact (ss_cons (ss_expr (s_call c_check_stand hr hgd rfl (sa_cons (sv 0 rfl rfl rfl rfl) (sa_cons (sv 1 rfl rfl rfl rfl) (sa_cons (sv 2 rfl rfl rfl rfl) sa_nil rfl) rfl) rfl) rfl rfl rfl) rfl) (ss_cons (ss_asg (s_call c_ranks_of hr hgd rfl (sa_cons (sv 0 rfl rfl rfl rfl) (sa_cons (sv 1 rfl rfl rfl rfl) sa_nil rfl) rfl) rfl rfl rfl) (sg_tup rfl (sgs_cons (sg 3 nd rfl rfl (by first | exact .inl rfl | exact .inr rfl)) (sgs_one (sg 4 nd rfl rfl (by first | exact .inl rfl | exact .inr rfl)) rfl) rfl) rfl rfl) rfl rfl rfl) (ss_cons (ss_if (st_cmp (sv 2 rfl rfl rfl rfl) (sv 4 rfl rfl rfl rfl) (d_in hu) rfl) (ss_cons (ss_ret (s_tup (sa_cons (s_gstr g_KEPT rfl rfl) (sa_cons (s_call c_book_of hr hgd rfl (sa_cons (sv 0 rfl rfl rfl rfl) (sa_cons (sv 1 rfl rfl rfl rfl) (sa_cons (sv 4 rfl rfl rfl rfl) sa_nil rfl) rfl) rfl) rfl rfl rfl) sa_nil rfl) rfl) (by decide))) ss_nil) ss_nil) (ss_cons (ss_ret (s_tup (sa_cons (s_gstr g_LOST rfl rfl) (sa_cons (s_bitvT d_tuple rfl b_tuple bt_tuple (s_sortItems rfl hu rfl b_sorted bt_sorted (sv 3 rfl rfl rfl rfl) rfl rfl) (by decide) rfl rfl) sa_nil rfl) rfl) (by decide))) ss_nil))))
/-! are_rows -/
abbrev N_are_rows : List Str := ["stove", "day", "value", "one", "other", "row", "stand", "number"]
abbrev a_are_rows : List Str := ["stove", "day", "value"]
theorem sc_are_rows : FnScope N_are_rows a_are_rows (defScope s_are_rows) := ⟨rfl, rfl, rfl, by decide +kernel, rfl, by decide +kernel, by decide +kernel⟩
def p_are_rows_2 : DL.PS := .seq (.ret (.bitv .all (.lc (.cmp .lt (.idx (.var 3) (.lit (.int 0))) (.idx (.var 4) (.lit (.int 0)))) (.cons (.nm 3) (.one (.nm 4))) (.zip (.var 2) (.slc (.var 2) (.yes (.lit (.int 1))) (.no))) (.no) [3, 4]))) (.skip)
def p_are_rows_1 : DL.PS := .seq (.ife (.not (.bitv .all (.lc (.call 12 (.cons (.var 0) (.cons (.var 1) (.cons (.var 6) (.nil))))) (.cons (.nm 6) (.one (.nm 7))) (.sq (.var 2)) (.no) [6, 7]))) (.seq (.ret (.lit (.bl false))) (.skip)) (.skip)) (p_are_rows_2)
def p_are_rows : DL.PS := .seq (.ife (.bor (.not (.blt (.isi "tuple") (.cons (.var 2) .nil))) (.not (.bitv .all (.lc (.band (.blt (.isi "tuple") (.cons (.var 5) .nil)) (.cmp .eq (.blt .len (.cons (.var 5) (.nil))) (.lit (.int 2)))) (.nm 5) (.sq (.var 2)) (.no) [5])))) (.seq (.ret (.lit (.bl false))) (.skip)) (.skip)) (p_are_rows_1)
theorem t_are_rows {qual : Str} {f : Addr} {cd : Value} {A : Around} {outer : List Env} {s : Shared} {H : Hp} (B : Fx mg) (c_is_stand_of : FnAt P w K mg base k "is_stand_of" 3 (Γ 12)) (hr : Room k (bodyX P w K mg base N_are_rows qual (defScope s_are_rows) f cd A outer s H).A) (hgd : (bodyX P w K mg base N_are_rows qual (defScope s_are_rows) f cd A outer s H).A.guards = some []) : SSs (Γ := Γ) (bodyX P w K mg base N_are_rows qual (defScope s_are_rows) f cd A outer s H) (defBody s_are_rows) p_are_rows := by
  have nd : N_are_rows.Nodup := sc_are_rows.nd
  have hu : (bodyX P w K mg base N_are_rows qual (defScope s_are_rows) f cd A outer s H).A.units + 70 < cLine := by have := hr.un; omega
  have b_all := B.b_all
  have b_isinstance := B.b_isinstance
  have b_len := B.b_len
  have b_tuple := B.b_tuple
  have b_zip := B.b_zip
  exact (ss_cons (ss_if (SW.t (sw_or (st_not (st_val (S2.val (s_isi isi_tuple rfl b_isinstance bt_isinstance rfl b_tuple bt_tuple (sv 2 rfl rfl rfl rfl) (by decide) rfl (by decide) rfl rfl)) (fun _ => rfl))) (sw_or1 (st_not (st_val (S2.val (s_bitvB (d_all rfl) rfl b_all bt_all (s_lc (own := [("row", 5)]) rfl nd (si_sq (sv 2 rfl rfl rfl rfl)) (blkOk_by (own := [("row", 5)]) (show blkC N_are_rows (defScope s_are_rows) _ _ = true by decide +kernel)) (fun _ _ _ _ _ => (sg 5 nd rfl rfl (by first | exact .inl rfl | exact .inr rfl))) (fun _ _ _ _ _ => sts_no) (fun _ _ _ _ _ => (s_and (s_isi isi_tuple rfl b_isinstance bt_isinstance rfl b_tuple bt_tuple (sv 5 rfl rfl rfl rfl) (by decide) rfl (by decide) rfl rfl) (s_last (s_cmp (s_bltB d_len rfl b_len bt_len (sab_cons (sv 5 rfl rfl rfl rfl) sab_nil rfl) (by decide) rfl rfl rfl) s_int (d_eq hu) rfl)))) (fun _ => rfl) (by decide)) (by decide) rfl rfl)) (fun _ => rfl)))))) (ss_cons (ss_ret s_bl) ss_nil) ss_nil) (ss_cons (ss_if (st_not (st_val (S2.val (s_bitvB (d_all rfl) rfl b_all bt_all (s_lc (own := [("stand", 6), ("number", 7)]) rfl nd (si_sq (sv 2 rfl rfl rfl rfl)) (blkOk_by (own := [("stand", 6), ("number", 7)]) (show blkC N_are_rows (defScope s_are_rows) _ _ = true by decide +kernel)) (fun _ _ _ _ _ => (sg_tup rfl (sgs_cons (sg 6 nd rfl rfl (by first | exact .inl rfl | exact .inr rfl)) (sgs_one (sg 7 nd rfl rfl (by first | exact .inl rfl | exact .inr rfl)) rfl) rfl) rfl rfl)) (fun _ _ _ _ _ => sts_no) (fun _ _ _ _ _ => (s_call c_is_stand_of hr hgd rfl (sa_cons (sv 0 rfl rfl rfl rfl) (sa_cons (sv 1 rfl rfl rfl rfl) (sa_cons (sv 6 rfl rfl rfl rfl) sa_nil rfl) rfl) rfl) rfl rfl rfl)) (fun _ => rfl) (by decide)) (by decide) rfl rfl)) (fun _ => rfl))) (ss_cons (ss_ret s_bl) ss_nil) ss_nil) (ss_cons (ss_ret (s_bitvB (d_all rfl) rfl b_all bt_all (s_lc (own := [("one", 3), ("other", 4)]) rfl nd (si_zip rfl b_zip (sv 2 rfl rfl rfl rfl) (s_slc (sv 2 rfl rfl rfl rfl) (so_yes s_int) so_no) rfl rfl) (blkOk_by (own := [("one", 3), ("other", 4)]) (show blkC N_are_rows (defScope s_are_rows) _ _ = true by decide +kernel)) (fun _ _ _ _ _ => (sg_tup rfl (sgs_cons (sg 3 nd rfl rfl (by first | exact .inl rfl | exact .inr rfl)) (sgs_one (sg 4 nd rfl rfl (by first | exact .inl rfl | exact .inr rfl)) rfl) rfl) rfl rfl)) (fun _ _ _ _ _ => sts_no) (fun _ _ _ _ _ => (s_cmp (s_idx (sv 3 rfl rfl rfl rfl) s_int (fun _ _ => rfl) hu) (s_idx (sv 4 rfl rfl rfl rfl) s_int (fun _ _ => rfl) hu) (d_lt hu) rfl)) (fun _ => rfl) (by decide)) (by decide) rfl rfl)) ss_nil)))
/-! is_book -/
abbrev N_is_book : List Str := ["stove", "day", "value", "known", "stand", "logs"]
abbrev a_is_book : List Str := ["stove", "day", "value"]
theorem sc_is_book : FnScope N_is_book a_is_book (defScope s_is_book) := ⟨rfl, rfl, rfl, by decide +kernel, rfl, by decide +kernel, by decide +kernel⟩
def p_is_book_3 : DL.PS := .seq (.ret (.lit (.bl true))) (.skip)
def p_is_book_2 : DL.PS := .seq (.for_ (.cons (.nm 4) (.one (.nm 5))) (.sq (.var 2)) (.seq (.ife (.bor (.cmp .notin (.var 5) (.call 6 (.cons (.var 0) (.cons (.idx (.var 4) (.lit (.int 1))) (.nil))))) (.not (.call 18 (.cons (.var 0) (.cons (.var 1) (.cons (.var 4) (.cons (.var 5) (.cons (.var 3) (.nil))))))))) (.seq (.ret (.lit (.bl false))) (.skip)) (.skip)) (.skip))) (p_is_book_3)
def p_is_book_1 : DL.PS := .seq (.set 3 (.bitv .dict (.bitv .list (.var 2)))) (p_is_book_2)
def p_is_book : DL.PS := .seq (.ife (.bor (.not (.call 27 (.cons (.var 0) (.cons (.var 1) (.cons (.var 2) (.nil)))))) (.not (.bitv .all (.lc (.call 1 (.cons (.var 5) (.cons (.lit (.int 0)) (.cons (.lit (.int 4)) (.nil))))) (.cons (.nm 4) (.one (.nm 5))) (.sq (.var 2)) (.no) [4, 5])))) (.seq (.ret (.lit (.bl false))) (.skip)) (.skip)) (p_is_book_1)
theorem t_is_book {qual : Str} {f : Addr} {cd : Value} {A : Around} {outer : List Env} {s : Shared} {H : Hp} (B : Fx mg) (c_is_between : FnAt P w K mg base k "is_between" 3 (Γ 1)) (c_logs_by : FnAt P w K mg base k "logs_by" 2 (Γ 6)) (c_does_lead : FnAt P w K mg base k "does_lead" 5 (Γ 18)) (c_are_rows : FnAt P w K mg base k "are_rows" 3 (Γ 27)) (hr : Room k (bodyX P w K mg base N_is_book qual (defScope s_is_book) f cd A outer s H).A) (hgd : (bodyX P w K mg base N_is_book qual (defScope s_is_book) f cd A outer s H).A.guards = some []) : SSs (Γ := Γ) (bodyX P w K mg base N_is_book qual (defScope s_is_book) f cd A outer s H) (defBody s_is_book) p_is_book := by
  have nd : N_is_book.Nodup := sc_is_book.nd
  have hu : (bodyX P w K mg base N_is_book qual (defScope s_is_book) f cd A outer s H).A.units + 70 < cLine := by have := hr.un; omega
  have b_all := B.b_all
  have b_dict := B.b_dict
  have b_list := B.b_list
  have g_MOST_LOGS := B.g_MOST_LOGS
  exact (ss_cons (ss_if (SW.t (sw_or (st_not (st_val (S2.val (s_call c_are_rows hr hgd rfl (sa_cons (sv 0 rfl rfl rfl rfl) (sa_cons (sv 1 rfl rfl rfl rfl) (sa_cons (sv 2 rfl rfl rfl rfl) sa_nil rfl) rfl) rfl) rfl rfl rfl)) (fun _ => rfl))) (sw_or1 (st_not (st_val (S2.val (s_bitvB (d_all rfl) rfl b_all bt_all (s_lc (own := [("stand", 4), ("logs", 5)]) rfl nd (si_sq (sv 2 rfl rfl rfl rfl)) (blkOk_by (own := [("stand", 4), ("logs", 5)]) (show blkC N_is_book (defScope s_is_book) _ _ = true by decide +kernel)) (fun _ _ _ _ _ => (sg_tup rfl (sgs_cons (sg 4 nd rfl rfl (by first | exact .inl rfl | exact .inr rfl)) (sgs_one (sg 5 nd rfl rfl (by first | exact .inl rfl | exact .inr rfl)) rfl) rfl) rfl rfl)) (fun _ _ _ _ _ => sts_no) (fun _ _ _ _ _ => (s_call c_is_between hr hgd rfl (sa_cons (sv 5 rfl rfl rfl rfl) (sa_cons s_int (sa_cons (s_gint g_MOST_LOGS rfl rfl) sa_nil rfl) rfl) rfl) rfl rfl rfl)) (fun _ => rfl) (by decide)) (by decide) rfl rfl)) (fun _ => rfl)))))) (ss_cons (ss_ret s_bl) ss_nil) ss_nil) (ss_cons (ss_set (i := 3) nd rfl (by first | exact .inl rfl | exact .inr rfl) (s_bitvT (d_dict rfl hu) rfl b_dict bt_dict (s_bitvT d_list rfl b_list bt_list (sv 2 rfl rfl rfl rfl) (by decide) rfl rfl) (by decide) rfl rfl) rfl (.inl rfl)) (ss_cons (ss_for owns rfl (si_sq (sv 2 rfl rfl rfl rfl)) (sg_tup rfl (sgs_cons (sg 4 nd rfl rfl (by first | exact .inl rfl | exact .inr rfl)) (sgs_one (sg 5 nd rfl rfl (by first | exact .inl rfl | exact .inr rfl)) rfl) rfl) rfl rfl) (ss_cons (ss_if (SW.t (sw_or (st_cmp (sv 5 rfl rfl rfl rfl) (s_call c_logs_by hr hgd rfl (sa_cons (sv 0 rfl rfl rfl rfl) (sa_cons (s_idx (sv 4 rfl rfl rfl rfl) s_int (fun _ _ => rfl) hu) sa_nil rfl) rfl) rfl rfl rfl) (d_notin hu) rfl) (sw_or1 (st_not (st_val (S2.val (s_call c_does_lead hr hgd rfl (sa_cons (sv 0 rfl rfl rfl rfl) (sa_cons (sv 1 rfl rfl rfl rfl) (sa_cons (sv 4 rfl rfl rfl rfl) (sa_cons (sv 5 rfl rfl rfl rfl) (sa_cons (sv 3 rfl rfl rfl rfl) sa_nil rfl) rfl) rfl) rfl) rfl) rfl rfl rfl)) (fun _ => rfl)))))) (ss_cons (ss_ret s_bl) ss_nil) ss_nil) ss_nil) (fun _ => rfl)) (ss_cons (ss_ret s_bl) ss_nil))))
/-! are_ranks -/
abbrev N_are_ranks : List Str := ["stove", "day", "value", "known", "stand", "number", "logs", "there"]
abbrev a_are_ranks : List Str := ["stove", "day", "value"]
theorem sc_are_ranks : FnScope N_are_ranks a_are_ranks (defScope s_are_ranks) := ⟨rfl, rfl, rfl, by decide +kernel, rfl, by decide +kernel, by decide +kernel⟩
def p_are_ranks_3 : DL.PS := .seq (.ret (.lit (.bl true))) (.skip)
def p_are_ranks_2 : DL.PS := .seq (.for_ (.cons (.nm 4) (.one (.nm 5))) (.sq (.var 2)) (.seq (.for_ (.nm 6) (.sq (.call 6 (.cons (.var 0) (.cons (.idx (.var 4) (.lit (.int 1))) (.nil))))) (.seq (.ife (.not (.bitv .any (.lc (.call 30 (.cons (.var 0) (.cons (.var 1) (.cons (.var 3) (.cons (.var 7) (.cons (.var 5) (.nil))))))) (.nm 7) (.sq (.call 16 (.cons (.var 0) (.cons (.var 1) (.cons (.var 4) (.cons (.var 6) (.nil))))))) (.no) [7]))) (.seq (.ret (.lit (.bl false))) (.skip)) (.skip)) (.skip))) (.skip))) (p_are_ranks_3)
def p_are_ranks_1 : DL.PS := .seq (.set 3 (.bitv .dict (.bitv .list (.var 2)))) (p_are_ranks_2)
def p_are_ranks : DL.PS := .seq (.ife (.bor (.not (.call 27 (.cons (.var 0) (.cons (.var 1) (.cons (.var 2) (.nil)))))) (.not (.bitv .all (.lc (.band (.call 0 (.cons (.var 5) (.nil))) (.cmp .ge (.var 5) (.lit (.int 1)))) (.cons (.nm 4) (.one (.nm 5))) (.sq (.var 2)) (.no) [4, 5])))) (.seq (.ret (.lit (.bl false))) (.skip)) (.skip)) (p_are_ranks_1)
theorem t_are_ranks {qual : Str} {f : Addr} {cd : Value} {A : Around} {outer : List Env} {s : Shared} {H : Hp} (B : Fx mg) (c_is_integer : FnAt P w K mg base k "is_integer" 1 (Γ 0)) (c_logs_by : FnAt P w K mg base k "logs_by" 2 (Γ 6)) (c_rows_behind : FnAt P w K mg base k "rows_behind" 4 (Γ 16)) (c_are_rows : FnAt P w K mg base k "are_rows" 3 (Γ 27)) (c_is_worse : FnAt P w K mg base k "is_worse" 5 (Γ 30)) (hr : Room k (bodyX P w K mg base N_are_ranks qual (defScope s_are_ranks) f cd A outer s H).A) (hgd : (bodyX P w K mg base N_are_ranks qual (defScope s_are_ranks) f cd A outer s H).A.guards = some []) : SSs (Γ := Γ) (bodyX P w K mg base N_are_ranks qual (defScope s_are_ranks) f cd A outer s H) (defBody s_are_ranks) p_are_ranks := by
  have nd : N_are_ranks.Nodup := sc_are_ranks.nd
  have hu : (bodyX P w K mg base N_are_ranks qual (defScope s_are_ranks) f cd A outer s H).A.units + 70 < cLine := by have := hr.un; omega
  have b_all := B.b_all
  have b_any := B.b_any
  have b_dict := B.b_dict
  have b_list := B.b_list
  exact (ss_cons (ss_if (SW.t (sw_or (st_not (st_val (S2.val (s_call c_are_rows hr hgd rfl (sa_cons (sv 0 rfl rfl rfl rfl) (sa_cons (sv 1 rfl rfl rfl rfl) (sa_cons (sv 2 rfl rfl rfl rfl) sa_nil rfl) rfl) rfl) rfl rfl rfl)) (fun _ => rfl))) (sw_or1 (st_not (st_val (S2.val (s_bitvB (d_all rfl) rfl b_all bt_all (s_lc (own := [("stand", 4), ("number", 5)]) rfl nd (si_sq (sv 2 rfl rfl rfl rfl)) (blkOk_by (own := [("stand", 4), ("number", 5)]) (show blkC N_are_ranks (defScope s_are_ranks) _ _ = true by decide +kernel)) (fun _ _ _ _ _ => (sg_tup rfl (sgs_cons (sg 4 nd rfl rfl (by first | exact .inl rfl | exact .inr rfl)) (sgs_one (sg 5 nd rfl rfl (by first | exact .inl rfl | exact .inr rfl)) rfl) rfl) rfl rfl)) (fun _ _ _ _ _ => sts_no) (fun _ _ _ _ _ => (s_and (s_call c_is_integer hr hgd rfl (sa_cons (sv 5 rfl rfl rfl rfl) sa_nil rfl) rfl rfl rfl) (s_last (s_cmp (sv 5 rfl rfl rfl rfl) s_int d_ge rfl)))) (fun _ => rfl) (by decide)) (by decide) rfl rfl)) (fun _ => rfl)))))) (ss_cons (ss_ret s_bl) ss_nil) ss_nil) (ss_cons (ss_set (i := 3) nd rfl (by first | exact .inl rfl | exact .inr rfl) (s_bitvT (d_dict rfl hu) rfl b_dict bt_dict (s_bitvT d_list rfl b_list bt_list (sv 2 rfl rfl rfl rfl) (by decide) rfl rfl) (by decide) rfl rfl) rfl (.inl rfl)) (ss_cons (ss_for owns rfl (si_sq (sv 2 rfl rfl rfl rfl)) (sg_tup rfl (sgs_cons (sg 4 nd rfl rfl (by first | exact .inl rfl | exact .inr rfl)) (sgs_one (sg 5 nd rfl rfl (by first | exact .inl rfl | exact .inr rfl)) rfl) rfl) rfl rfl) (ss_cons (ss_for owns rfl (si_sq (s_call c_logs_by hr hgd rfl (sa_cons (sv 0 rfl rfl rfl rfl) (sa_cons (s_idx (sv 4 rfl rfl rfl rfl) s_int (fun _ _ => rfl) hu) sa_nil rfl) rfl) rfl rfl rfl)) (sg 6 nd rfl rfl (by first | exact .inl rfl | exact .inr rfl)) (ss_cons (ss_if (st_not (st_val (S2.val (s_bitvB (d_any rfl) rfl b_any bt_any (s_lc (own := [("there", 7)]) rfl nd (si_sq (s_call c_rows_behind hr hgd rfl (sa_cons (sv 0 rfl rfl rfl rfl) (sa_cons (sv 1 rfl rfl rfl rfl) (sa_cons (sv 4 rfl rfl rfl rfl) (sa_cons (sv 6 rfl rfl rfl rfl) sa_nil rfl) rfl) rfl) rfl) rfl rfl rfl)) (blkOk_by (own := [("there", 7)]) (show blkC N_are_ranks (defScope s_are_ranks) _ _ = true by decide +kernel)) (fun _ _ _ _ _ => (sg 7 nd rfl rfl (by first | exact .inl rfl | exact .inr rfl))) (fun _ _ _ _ _ => sts_no) (fun _ _ _ _ _ => (s_call c_is_worse hr hgd rfl (sa_cons (sv 0 rfl rfl rfl rfl) (sa_cons (sv 1 rfl rfl rfl rfl) (sa_cons (sv 3 rfl rfl rfl rfl) (sa_cons (sv 7 rfl rfl rfl rfl) (sa_cons (sv 5 rfl rfl rfl rfl) sa_nil rfl) rfl) rfl) rfl) rfl) rfl rfl rfl)) (fun _ => rfl) (by decide)) (by decide) rfl rfl)) (fun _ => rfl))) (ss_cons (ss_ret s_bl) ss_nil) ss_nil) ss_nil) (fun _ => rfl)) ss_nil) (fun _ => rfl)) (ss_cons (ss_ret s_bl) ss_nil))))
/-! is_worse -/
abbrev N_is_worse : List Str := ["stove", "day", "known", "there", "number"]
abbrev a_is_worse : List Str := ["stove", "day", "known", "there", "number"]
theorem sc_is_worse : FnScope N_is_worse a_is_worse (defScope s_is_worse) := ⟨rfl, rfl, rfl, by decide +kernel, rfl, by decide +kernel, by decide +kernel⟩
def p_is_worse : DL.PS := .seq (.ret (.bor (.not (.call 12 (.cons (.var 0) (.cons (.var 1) (.cons (.var 3) (.nil)))))) (.band (.cmp .isin (.var 3) (.var 2)) (.cmp .lt (.idx (.var 2) (.var 3)) (.var 4))))) (.skip)
theorem t_is_worse {qual : Str} {f : Addr} {cd : Value} {A : Around} {outer : List Env} {s : Shared} {H : Hp} (B : Fx mg) (c_is_stand_of : FnAt P w K mg base k "is_stand_of" 3 (Γ 12)) (hr : Room k (bodyX P w K mg base N_is_worse qual (defScope s_is_worse) f cd A outer s H).A) (hgd : (bodyX P w K mg base N_is_worse qual (defScope s_is_worse) f cd A outer s H).A.guards = some []) : SSs (Γ := Γ) (bodyX P w K mg base N_is_worse qual (defScope s_is_worse) f cd A outer s H) (defBody s_is_worse) p_is_worse := by
  have nd : N_is_worse.Nodup := sc_is_worse.nd
  have hu : (bodyX P w K mg base N_is_worse qual (defScope s_is_worse) f cd A outer s H).A.units + 70 < cLine := by have := hr.un; omega
  exact (ss_cons (ss_ret (s_or (s_not (s_call c_is_stand_of hr hgd rfl (sa_cons (sv 0 rfl rfl rfl rfl) (sa_cons (sv 1 rfl rfl rfl rfl) (sa_cons (sv 3 rfl rfl rfl rfl) sa_nil rfl) rfl) rfl) rfl rfl rfl)) (s_last (s_and (s_cmp (sv 3 rfl rfl rfl rfl) (sv 2 rfl rfl rfl rfl) (d_in hu) rfl) (s_last (s_cmp (s_idx (sv 2 rfl rfl rfl rfl) (sv 3 rfl rfl rfl rfl) (fun _ _ => rfl) hu) (sv 4 rfl rfl rfl rfl) (d_lt hu) rfl)))))) ss_nil)
/-! shows_kept -/
abbrev N_shows_kept : List Str := ["stove", "day", "stand", "value", "row"]
abbrev a_shows_kept : List Str := ["stove", "day", "stand", "value"]
theorem sc_shows_kept : FnScope N_shows_kept a_shows_kept (defScope s_shows_kept) := ⟨rfl, rfl, rfl, by decide +kernel, rfl, by decide +kernel, by decide +kernel⟩
def p_shows_kept_3 : DL.PS := .seq (.ret (.band (.cmp .eq (.idx (.var 3) (.lit (.int 0))) (.lit (.str "lost"))) (.band (.call 29 (.cons (.var 0) (.cons (.var 1) (.cons (.idx (.var 3) (.lit (.int 1))) (.nil))))) (.cmp .isin (.var 2) (.lc (.idx (.var 4) (.lit (.int 0))) (.nm 4) (.sq (.idx (.var 3) (.lit (.int 1)))) (.no) [4]))))) (.skip)
def p_shows_kept_2 : DL.PS := .seq (.ife (.cmp .eq (.idx (.var 3) (.lit (.int 0))) (.lit (.str "kept"))) (.seq (.ret (.band (.call 28 (.cons (.var 0) (.cons (.var 1) (.cons (.idx (.var 3) (.lit (.int 1))) (.nil))))) (.cmp .isin (.var 2) (.lc (.idx (.var 4) (.lit (.int 0))) (.nm 4) (.sq (.idx (.var 3) (.lit (.int 1)))) (.no) [4])))) (.skip)) (.skip)) (p_shows_kept_3)
def p_shows_kept_1 : DL.PS := .seq (.ife (.bor (.not (.blt (.isi "tuple") (.cons (.var 3) .nil))) (.bor (.cmp .ne (.blt .len (.cons (.var 3) (.nil))) (.lit (.int 2))) (.not (.blt (.isi "str") (.cons (.idx (.var 3) (.lit (.int 0))) .nil))))) (.seq (.ret (.lit (.bl false))) (.skip)) (.skip)) (p_shows_kept_2)
def p_shows_kept : DL.PS := .seq (.expr (.call 13 (.cons (.var 0) (.cons (.var 1) (.cons (.var 2) (.nil)))))) (p_shows_kept_1)
theorem t_shows_kept {qual : Str} {f : Addr} {cd : Value} {A : Around} {outer : List Env} {s : Shared} {H : Hp} (B : Fx mg) (c_check_stand : FnAt P w K mg base k "check_stand" 3 (Γ 13)) (c_is_book : FnAt P w K mg base k "is_book" 3 (Γ 28)) (c_are_ranks : FnAt P w K mg base k "are_ranks" 3 (Γ 29)) (hr : Room k (bodyX P w K mg base N_shows_kept qual (defScope s_shows_kept) f cd A outer s H).A) (hgd : (bodyX P w K mg base N_shows_kept qual (defScope s_shows_kept) f cd A outer s H).A.guards = some []) : SSs (Γ := Γ) (bodyX P w K mg base N_shows_kept qual (defScope s_shows_kept) f cd A outer s H) (defBody s_shows_kept) p_shows_kept := by
  have nd : N_shows_kept.Nodup := sc_shows_kept.nd
  have hu : (bodyX P w K mg base N_shows_kept qual (defScope s_shows_kept) f cd A outer s H).A.units + 70 < cLine := by have := hr.un; omega
  have b_isinstance := B.b_isinstance
  have b_len := B.b_len
  have b_str := B.b_str
  have b_tuple := B.b_tuple
  have g_KEPT := B.g_KEPT
  have g_LOST := B.g_LOST
  exact (ss_cons (ss_expr (s_call c_check_stand hr hgd rfl (sa_cons (sv 0 rfl rfl rfl rfl) (sa_cons (sv 1 rfl rfl rfl rfl) (sa_cons (sv 2 rfl rfl rfl rfl) sa_nil rfl) rfl) rfl) rfl rfl rfl) rfl) (ss_cons (ss_if (SW.t (sw_or (st_not (st_val (S2.val (s_isi isi_tuple rfl b_isinstance bt_isinstance rfl b_tuple bt_tuple (sv 3 rfl rfl rfl rfl) (by decide) rfl (by decide) rfl rfl)) (fun _ => rfl))) (sw_or (st_cmp (s_bltB d_len rfl b_len bt_len (sab_cons (sv 3 rfl rfl rfl rfl) sab_nil rfl) (by decide) rfl rfl rfl) s_int (d_ne hu) rfl) (sw_or1 (st_not (st_val (S2.val (s_isi isi_str rfl b_isinstance bt_isinstance rfl b_str bt_str (s_idx (sv 3 rfl rfl rfl rfl) s_int (fun _ _ => rfl) hu) (by decide) rfl (by decide) rfl rfl)) (fun _ => rfl))))))) (ss_cons (ss_ret s_bl) ss_nil) ss_nil) (ss_cons (ss_if (st_cmp (s_idx (sv 3 rfl rfl rfl rfl) s_int (fun _ _ => rfl) hu) (s_gstr g_KEPT rfl rfl) (d_eq hu) rfl) (ss_cons (ss_ret (s_and (s_call c_is_book hr hgd rfl (sa_cons (sv 0 rfl rfl rfl rfl) (sa_cons (sv 1 rfl rfl rfl rfl) (sa_cons (s_idx (sv 3 rfl rfl rfl rfl) s_int (fun _ _ => rfl) hu) sa_nil rfl) rfl) rfl) rfl rfl rfl) (s_last (s_cmp (sv 2 rfl rfl rfl rfl) (s_lc (own := [("row", 4)]) rfl nd (si_sq (s_idx (sv 3 rfl rfl rfl rfl) s_int (fun _ _ => rfl) hu)) (blkOk_by (own := [("row", 4)]) (show blkC N_shows_kept (defScope s_shows_kept) _ _ = true by decide +kernel)) (fun _ _ _ _ _ => (sg 4 nd rfl rfl (by first | exact .inl rfl | exact .inr rfl))) (fun _ _ _ _ _ => sts_no) (fun _ _ _ _ _ => (s_idx (sv 4 rfl rfl rfl rfl) s_int (fun _ _ => rfl) hu)) (fun _ => rfl) (by decide)) (d_in hu) rfl)))) ss_nil) ss_nil) (ss_cons (ss_ret (s_and (s_cmp (s_idx (sv 3 rfl rfl rfl rfl) s_int (fun _ _ => rfl) hu) (s_gstr g_LOST rfl rfl) (d_eq hu) rfl) (S2.val (s_and (s_call c_are_ranks hr hgd rfl (sa_cons (sv 0 rfl rfl rfl rfl) (sa_cons (sv 1 rfl rfl rfl rfl) (sa_cons (s_idx (sv 3 rfl rfl rfl rfl) s_int (fun _ _ => rfl) hu) sa_nil rfl) rfl) rfl) rfl rfl rfl) (s_last (s_cmp (sv 2 rfl rfl rfl rfl) (s_lc (own := [("row", 4)]) rfl nd (si_sq (s_idx (sv 3 rfl rfl rfl rfl) s_int (fun _ _ => rfl) hu)) (blkOk_by (own := [("row", 4)]) (show blkC N_shows_kept (defScope s_shows_kept) _ _ = true by decide +kernel)) (fun _ _ _ _ _ => (sg 4 nd rfl rfl (by first | exact .inl rfl | exact .inr rfl))) (fun _ _ _ _ _ => sts_no) (fun _ _ _ _ _ => (s_idx (sv 4 rfl rfl rfl rfl) s_int (fun _ _ => rfl) hu)) (fun _ => rfl) (by decide)) (d_in hu) rfl)))))) ss_nil))))
/-! least_most -/
abbrev N_least_most : List Str := ["stove", "day", "stand", "most"]
abbrev a_least_most : List Str := ["stove", "day", "stand"]
theorem sc_least_most : FnScope N_least_most a_least_most (defScope s_least_most) := ⟨rfl, rfl, rfl, by decide +kernel, rfl, by decide +kernel, by decide +kernel⟩
def p_least_most_2 : DL.PS := .seq (.ret (.lit .non)) (.skip)
def p_least_most_1 : DL.PS := .seq (.for_ (.nm 3) (.rng1 (.bin .add (.lit (.int 4)) (.lit (.int 1)))) (.seq (.ife (.call 21 (.cons (.star .nil (.slc (.var 0) (.no) (.yes (.neg (.lit (.int 1))))) (.cons (.var 3) (.nil))) (.cons (.var 1) (.cons (.var 2) (.nil))))) (.seq (.ret (.var 3)) (.skip)) (.skip)) (.skip))) (p_least_most_2)
def p_least_most : DL.PS := .seq (.expr (.call 13 (.cons (.var 0) (.cons (.var 1) (.cons (.var 2) (.nil)))))) (p_least_most_1)
theorem t_least_most {qual : Str} {f : Addr} {cd : Value} {A : Around} {outer : List Env} {s : Shared} {H : Hp} (B : Fx mg) (c_check_stand : FnAt P w K mg base k "check_stand" 3 (Γ 13)) (c_is_kept_at : FnAt P w K mg base k "is_kept_at" 3 (Γ 21)) (hr : Room k (bodyX P w K mg base N_least_most qual (defScope s_least_most) f cd A outer s H).A) (hgd : (bodyX P w K mg base N_least_most qual (defScope s_least_most) f cd A outer s H).A.guards = some []) : SSs (Γ := Γ) (bodyX P w K mg base N_least_most qual (defScope s_least_most) f cd A outer s H) (defBody s_least_most) p_least_most := by
  have nd : N_least_most.Nodup := sc_least_most.nd
  have hu : (bodyX P w K mg base N_least_most qual (defScope s_least_most) f cd A outer s H).A.units + 70 < cLine := by have := hr.un; omega
  have b_range := B.b_range
  have g_MOST_LOGS := B.g_MOST_LOGS
  exact (ss_cons (ss_expr (s_call c_check_stand hr hgd rfl (sa_cons (sv 0 rfl rfl rfl rfl) (sa_cons (sv 1 rfl rfl rfl rfl) (sa_cons (sv 2 rfl rfl rfl rfl) sa_nil rfl) rfl) rfl) rfl rfl rfl) rfl) (ss_cons (ss_for owns rfl (si_rng1 rfl b_range (s_bin (s_gint g_MOST_LOGS rfl rfl) s_int d_add) rfl) (sg 3 nd rfl rfl (by first | exact .inl rfl | exact .inr rfl)) (ss_cons (ss_if (st_val (S2.val (s_call c_is_kept_at hr hgd rfl (sa_cons (s_star0 (s_slc (sv 0 rfl rfl rfl rfl) so_no (so_yes (s_neg s_int))) (sa_cons (sv 3 rfl rfl rfl rfl) sa_nil rfl) rfl) (sa_cons (sv 1 rfl rfl rfl rfl) (sa_cons (sv 2 rfl rfl rfl rfl) sa_nil rfl) rfl) rfl) rfl rfl rfl)) (fun _ => rfl)) (ss_cons (ss_ret (sv 3 rfl rfl rfl rfl)) ss_nil) ss_nil) ss_nil) (fun _ => rfl)) (ss_cons (ss_ret s_non) ss_nil)))
/-! least_heat -/
abbrev N_least_heat : List Str := ["stove", "day", "stand", "heat"]
abbrev a_least_heat : List Str := ["stove", "day", "stand"]
theorem sc_least_heat : FnScope N_least_heat a_least_heat (defScope s_least_heat) := ⟨rfl, rfl, rfl, by decide +kernel, rfl, by decide +kernel, by decide +kernel⟩
def p_least_heat_2 : DL.PS := .seq (.ret (.lit .non)) (.skip)
def p_least_heat_1 : DL.PS := .seq (.for_ (.nm 3) (.rng2 (.lit (.int 1)) (.bin .add (.lit (.int 5)) (.lit (.int 1)))) (.seq (.ife (.call 21 (.cons (.star .nil (.slc (.var 0) (.no) (.yes (.lit (.int 2)))) (.cons (.var 3) (.cons (.idx (.var 0) (.neg (.lit (.int 1)))) (.nil)))) (.cons (.var 1) (.cons (.var 2) (.nil))))) (.seq (.ret (.var 3)) (.skip)) (.skip)) (.skip))) (p_least_heat_2)
def p_least_heat : DL.PS := .seq (.expr (.call 13 (.cons (.var 0) (.cons (.var 1) (.cons (.var 2) (.nil)))))) (p_least_heat_1)
theorem t_least_heat {qual : Str} {f : Addr} {cd : Value} {A : Around} {outer : List Env} {s : Shared} {H : Hp} (B : Fx mg) (c_check_stand : FnAt P w K mg base k "check_stand" 3 (Γ 13)) (c_is_kept_at : FnAt P w K mg base k "is_kept_at" 3 (Γ 21)) (hr : Room k (bodyX P w K mg base N_least_heat qual (defScope s_least_heat) f cd A outer s H).A) (hgd : (bodyX P w K mg base N_least_heat qual (defScope s_least_heat) f cd A outer s H).A.guards = some []) : SSs (Γ := Γ) (bodyX P w K mg base N_least_heat qual (defScope s_least_heat) f cd A outer s H) (defBody s_least_heat) p_least_heat := by
  have nd : N_least_heat.Nodup := sc_least_heat.nd
  have hu : (bodyX P w K mg base N_least_heat qual (defScope s_least_heat) f cd A outer s H).A.units + 70 < cLine := by have := hr.un; omega
  have b_range := B.b_range
  have g_MOST_HEAT := B.g_MOST_HEAT
  exact (ss_cons (ss_expr (s_call c_check_stand hr hgd rfl (sa_cons (sv 0 rfl rfl rfl rfl) (sa_cons (sv 1 rfl rfl rfl rfl) (sa_cons (sv 2 rfl rfl rfl rfl) sa_nil rfl) rfl) rfl) rfl rfl rfl) rfl) (ss_cons (ss_for owns rfl (si_rng2 rfl b_range s_int (s_bin (s_gint g_MOST_HEAT rfl rfl) s_int d_add) rfl rfl) (sg 3 nd rfl rfl (by first | exact .inl rfl | exact .inr rfl)) (ss_cons (ss_if (st_val (S2.val (s_call c_is_kept_at hr hgd rfl (sa_cons (s_star0 (s_slc (sv 0 rfl rfl rfl rfl) so_no (so_yes s_int)) (sa_cons (sv 3 rfl rfl rfl rfl) (sa_cons (s_idx (sv 0 rfl rfl rfl rfl) (s_neg s_int) (fun _ _ => rfl) hu) sa_nil rfl) rfl) rfl) (sa_cons (sv 1 rfl rfl rfl rfl) (sa_cons (sv 2 rfl rfl rfl rfl) sa_nil rfl) rfl) rfl) rfl rfl rfl)) (fun _ => rfl)) (ss_cons (ss_ret (sv 3 rfl rfl rfl rfl)) ss_nil) ss_nil) ss_nil) (fun _ => rfl)) (ss_cons (ss_ret s_non) ss_nil)))
/-! colder -/
abbrev N_colder : List Str := ["day", "more", "wish", "least", "most"]
abbrev a_colder : List Str := ["day", "more"]
theorem sc_colder : FnScope N_colder a_colder (defScope s_colder) := ⟨rfl, rfl, rfl, by decide +kernel, rfl, by decide +kernel, by decide +kernel⟩
def p_colder : DL.PS := .seq (.ret (.bitv .tuple (.lc (.tup (.cons (.var 2) (.cons (.tup (.cons (.var 3) (.cons (.blt .min2 (.cons (.lit (.int 8)) (.cons (.bin .add (.var 4) (.var 1)) (.nil)))) (.nil)))) (.nil)))) (.cons (.nm 2) (.one (.cons (.nm 3) (.one (.nm 4))))) (.sq (.var 0)) (.no) [2, 3, 4]))) (.skip)
theorem t_colder {qual : Str} {f : Addr} {cd : Value} {A : Around} {outer : List Env} {s : Shared} {H : Hp} (B : Fx mg)  (hr : Room k (bodyX P w K mg base N_colder qual (defScope s_colder) f cd A outer s H).A) (hgd : (bodyX P w K mg base N_colder qual (defScope s_colder) f cd A outer s H).A.guards = some []) : SSs (Γ := Γ) (bodyX P w K mg base N_colder qual (defScope s_colder) f cd A outer s H) (defBody s_colder) p_colder := by
  have nd : N_colder.Nodup := sc_colder.nd
  have hu : (bodyX P w K mg base N_colder qual (defScope s_colder) f cd A outer s H).A.units + 70 < cLine := by have := hr.un; omega
  have b_min := B.b_min
  have b_tuple := B.b_tuple
  have g_COLDEST := B.g_COLDEST
  exact (ss_cons (ss_ret (s_bitvT d_tuple rfl b_tuple bt_tuple (s_lc (own := [("wish", 2), ("least", 3), ("most", 4)]) rfl nd (si_sq (sv 0 rfl rfl rfl rfl)) (blkOk_by (own := [("wish", 2), ("least", 3), ("most", 4)]) (show blkC N_colder (defScope s_colder) _ _ = true by decide +kernel)) (fun _ _ _ _ _ => (sg_tup rfl (sgs_cons (sg 2 nd rfl rfl (by first | exact .inl rfl | exact .inr rfl)) (sgs_one (sg_tup rfl (sgs_cons (sg 3 nd rfl rfl (by first | exact .inl rfl | exact .inr rfl)) (sgs_one (sg 4 nd rfl rfl (by first | exact .inl rfl | exact .inr rfl)) rfl) rfl) rfl rfl) rfl) rfl) rfl rfl)) (fun _ _ _ _ _ => sts_no) (fun _ _ _ _ _ => (s_tup (sa_cons (sv 2 rfl rfl rfl rfl) (sa_cons (s_tup (sa_cons (sv 3 rfl rfl rfl rfl) (sa_cons (s_bltB (d_min2 rfl) rfl b_min bt_min (sab_cons (s_gint g_COLDEST rfl rfl) (sab_cons (s_bin (sv 4 rfl rfl rfl rfl) (sv 1 rfl rfl rfl rfl) d_add) sab_nil rfl) rfl) (by decide) rfl rfl rfl) sa_nil rfl) rfl) (by decide)) sa_nil rfl) rfl) (by decide))) (fun _ => rfl) (by decide)) (by decide) rfl rfl)) ss_nil)
/-! coldest -/
abbrev N_coldest : List Str := ["stove", "day", "stand", "found", "more"]
abbrev a_coldest : List Str := ["stove", "day", "stand"]
theorem sc_coldest : FnScope N_coldest a_coldest (defScope s_coldest) := ⟨rfl, rfl, rfl, by decide +kernel, rfl, by decide +kernel, by decide +kernel⟩
def p_coldest_3 : DL.PS := .seq (.ret (.var 3)) (.skip)
def p_coldest_2 : DL.PS := .seq (.for_ (.nm 4) (.rng1 (.bin .add (.lit (.int 12)) (.lit (.int 1)))) (.seq (.ife (.call 21 (.cons (.var 0) (.cons (.call 34 (.cons (.var 1) (.cons (.var 4) (.nil)))) (.cons (.var 2) (.nil))))) (.seq (.set 3 (.var 4)) (.skip)) (.skip)) (.skip))) (p_coldest_3)
def p_coldest_1 : DL.PS := .seq (.set 3 (.lit .non)) (p_coldest_2)
def p_coldest : DL.PS := .seq (.expr (.call 13 (.cons (.var 0) (.cons (.var 1) (.cons (.var 2) (.nil)))))) (p_coldest_1)
theorem t_coldest {qual : Str} {f : Addr} {cd : Value} {A : Around} {outer : List Env} {s : Shared} {H : Hp} (B : Fx mg) (c_check_stand : FnAt P w K mg base k "check_stand" 3 (Γ 13)) (c_is_kept_at : FnAt P w K mg base k "is_kept_at" 3 (Γ 21)) (c_colder : FnAt P w K mg base k "colder" 2 (Γ 34)) (hr : Room k (bodyX P w K mg base N_coldest qual (defScope s_coldest) f cd A outer s H).A) (hgd : (bodyX P w K mg base N_coldest qual (defScope s_coldest) f cd A outer s H).A.guards = some []) : SSs (Γ := Γ) (bodyX P w K mg base N_coldest qual (defScope s_coldest) f cd A outer s H) (defBody s_coldest) p_coldest := by
  have nd : N_coldest.Nodup := sc_coldest.nd
  have hu : (bodyX P w K mg base N_coldest qual (defScope s_coldest) f cd A outer s H).A.units + 70 < cLine := by have := hr.un; omega
  have b_range := B.b_range
  have g_MOST_COLDER := B.g_MOST_COLDER
  exact (ss_cons (ss_expr (s_call c_check_stand hr hgd rfl (sa_cons (sv 0 rfl rfl rfl rfl) (sa_cons (sv 1 rfl rfl rfl rfl) (sa_cons (sv 2 rfl rfl rfl rfl) sa_nil rfl) rfl) rfl) rfl rfl rfl) rfl) (ss_cons (ss_set (i := 3) nd rfl (by first | exact .inl rfl | exact .inr rfl) s_non rfl (.inl rfl)) (ss_cons (ss_for owns rfl (si_rng1 rfl b_range (s_bin (s_gint g_MOST_COLDER rfl rfl) s_int d_add) rfl) (sg 4 nd rfl rfl (by first | exact .inl rfl | exact .inr rfl)) (ss_cons (ss_if (st_val (S2.val (s_call c_is_kept_at hr hgd rfl (sa_cons (sv 0 rfl rfl rfl rfl) (sa_cons (s_call c_colder hr hgd rfl (sa_cons (sv 1 rfl rfl rfl rfl) (sa_cons (sv 4 rfl rfl rfl rfl) sa_nil rfl) rfl) rfl rfl rfl) (sa_cons (sv 2 rfl rfl rfl rfl) sa_nil rfl) rfl) rfl) rfl rfl rfl)) (fun _ => rfl)) (ss_cons (ss_set (i := 3) nd rfl (by first | exact .inl rfl | exact .inr rfl) (sv 4 rfl rfl rfl rfl) rfl (.inl rfl)) ss_nil) ss_nil) ss_nil) (fun _ => rfl)) (ss_cons (ss_ret (sv 3 rfl rfl rfl rfl)) ss_nil))))
/-! _law_pot -/
abbrev N__law_pot : List Str := ["script", "place", "cell", "own", "small"]
abbrev a__law_pot : List Str := ["script", "place"]
theorem sc__law_pot : FnScope N__law_pot a__law_pot (defScope s__law_pot) := ⟨rfl, rfl, rfl, by decide +kernel, rfl, by decide +kernel, by decide +kernel⟩
def p__law_pot_3 : DL.PS := .seq (.ret (.opv potNew (.cons (.var 3) (.cons (.bin .mod (.blt .int (.cons (.bin .add (.bin .add (.bin .mul (.var 4) (.lit (.int 41407))) (.bin .mul (.bin .mul (.lit (.int 9349)) (.var 1)) (.var 1))) (.lit (.int 2129))) (.nil))) (.lit (.int 2305843009213693921))) (.cons (.lit (.int 0)) (.nil)))))) (.skip)
def p__law_pot_2 : DL.PS := .seq (.set 4 (.bin .mod (.blt .int (.cons (.var 2) (.nil))) (.lit (.int 2305843009213693951)))) (p__law_pot_3)
def p__law_pot_1 : DL.PS := .seq (.set 3 (.bin .mul (.bin .mod (.blt .int (.cons (.blt .abs (.cons (.var 2) (.nil))) (.nil))) (.bin .pow (.bin .pow (.lit (.int 10)) (.lit (.int 60))) (.lit (.int 5)))) (.blt .int (.cons (.cmp .ge (.blt .abs (.cons (.var 2) (.nil))) (.bin .pow (.lit (.int 10)) (.lit (.int 18)))) (.nil))))) (p__law_pot_2)
def p__law_pot : DL.PS := .seq (.set 2 (.ife (.cmp .lt (.var 1) (.blt .len (.cons (.var 0) (.nil)))) (.idx (.var 0) (.var 1)) (.bin .add (.bin .add (.bin .mod (.bitv .sum (.slc (.var 0) (.no) (.yes (.lit (.int 1))))) (.lit (.int 1000691))) (.bin .mul (.lit (.int 7309)) (.var 1))) (.lit (.int 1393))))) (p__law_pot_1)
theorem t__law_pot {qual : Str} {f : Addr} {cd : Value} {A : Around} {outer : List Env} {s : Shared} {H : Hp} (B : Fx mg)  (hr : Room k (bodyX P w K mg base N__law_pot qual (defScope s__law_pot) f cd A outer s H).A) (hgd : (bodyX P w K mg base N__law_pot qual (defScope s__law_pot) f cd A outer s H).A.guards = some []) : SSs (Γ := Γ) (bodyX P w K mg base N__law_pot qual (defScope s__law_pot) f cd A outer s H) (defBody s__law_pot) p__law_pot := by
  have nd : N__law_pot.Nodup := sc__law_pot.nd
  have hu : (bodyX P w K mg base N__law_pot qual (defScope s__law_pot) f cd A outer s H).A.units + 70 < cLine := by have := hr.un; omega
  have b_abs := B.b_abs
  have b_int := B.b_int
  have b_len := B.b_len
  have b_sum := B.b_sum
  exact (ss_cons (ss_set (i := 2) nd rfl (by first | exact .inl rfl | exact .inr rfl) (s_ife (st_cmp (sv 1 rfl rfl rfl rfl) (s_bltB d_len rfl b_len bt_len (sab_cons (sv 0 rfl rfl rfl rfl) sab_nil rfl) (by decide) rfl rfl rfl) (d_lt hu) rfl) (s_idx (sv 0 rfl rfl rfl rfl) (sv 1 rfl rfl rfl rfl) (fun _ _ => rfl) hu) (s_bin (s_bin (s_bin (s_bitvB (d_sum rfl) rfl b_sum bt_sum (s_slc (sv 0 rfl rfl rfl rfl) so_no (so_yes s_int)) (by decide) rfl rfl) s_int d_mod) (s_bin s_int (sv 1 rfl rfl rfl rfl) d_mul) d_add) s_int d_add)) rfl (.inl rfl)) (ss_cons (ss_set (i := 3) nd rfl (by first | exact .inl rfl | exact .inr rfl) (s_bin (s_bin (s_bltT d_int rfl b_int bt_int (sab_cons (s_bltB d_abs rfl b_abs bt_abs (sab_cons (sv 2 rfl rfl rfl rfl) sab_nil rfl) (by decide) rfl rfl rfl) sab_nil rfl) (by decide) rfl rfl rfl) (s_bin (s_bin s_int s_int d_pow) s_int d_pow) d_mod) (s_bltT d_int rfl b_int bt_int (sab_cons (s_cmp (s_bltB d_abs rfl b_abs bt_abs (sab_cons (sv 2 rfl rfl rfl rfl) sab_nil rfl) (by decide) rfl rfl rfl) (s_bin s_int s_int d_pow) d_ge rfl) sab_nil rfl) (by decide) rfl rfl rfl) d_mul) rfl (.inl rfl)) (ss_cons (ss_set (i := 4) nd rfl (by first | exact .inl rfl | exact .inr rfl) (s_bin (s_bltT d_int rfl b_int bt_int (sab_cons (sv 2 rfl rfl rfl rfl) sab_nil rfl) (by decide) rfl rfl rfl) s_int d_mod) rfl (.inl rfl)) (ss_cons (ss_ret (s_potNew (sa_cons (sv 3 rfl rfl rfl rfl) (sa_cons (s_bin (s_bltT d_int rfl b_int bt_int (sab_cons (s_bin (s_bin (s_bin (sv 4 rfl rfl rfl rfl) s_int d_mul) (s_bin (s_bin s_int (sv 1 rfl rfl rfl rfl) d_mul) (sv 1 rfl rfl rfl rfl) d_mul) d_add) s_int d_add) sab_nil rfl) (by decide) rfl rfl rfl) s_int d_mod) (sa_cons s_int sa_nil rfl) rfl) rfl))) ss_nil))))
/-! _law_take -/
abbrev N__law_take : List Str := ["pot", "upto", "prime", "blend", "digit"]
abbrev a__law_take : List Str := ["pot", "upto"]
theorem sc__law_take : FnScope N__law_take a__law_take (defScope s__law_take) := ⟨rfl, rfl, rfl, by decide +kernel, rfl, by decide +kernel, by decide +kernel⟩
def p__law_take_5 : DL.PS := .seq (.ret (.bin .mod (.blt .int (.cons (.bin .fdiv (.var 3) (.lit (.int 203))) (.nil))) (.var 1))) (.skip)
def p__law_take_4 : DL.PS := .seq (.set 3 (.bin .mod (.blt .int (.cons (.bin .mul (.var 3) (.bin .add (.bin .mod (.blt .int (.cons (.var 3) (.nil))) (.lit (.int 8311))) (.bin .mul (.lit (.int 692)) (.sem (potGet 0 2))))) (.nil))) (.lit (.int 2305843009213693907)))) (p__law_take_5)
def p__law_take_3 : DL.PS := .seq (.set 3 (.bin .mod (.blt .int (.cons (.bin .pow (.blt .int (.cons (.bin .add (.bin .add (.sem (potGet 0 1)) (.bin .mul (.bin .mul (.lit (.int 52489)) (.sem (potGet 0 2))) (.sem (potGet 0 2)))) (.lit (.int 3163))) (.nil))) (.lit (.int 3))) (.nil))) (.var 2))) (p__law_take_4)
def p__law_take_2 : DL.PS := .seq (.set 2 (.idx (.lst (.cons (.lit (.int 2147483647)) (.cons (.lit (.int 2147483629)) (.cons (.lit (.int 2147483587)) (.cons (.lit (.int 2147483579)) (.cons (.lit (.int 2147483563)) (.nil))))))) (.bin .mod (.blt .int (.cons (.sem (potGet 0 2)) (.nil))) (.lit (.int 5))))) (p__law_take_3)
def p__law_take_1 : DL.PS := .seq (.updv (potPut 0 2) (.bin .add (.sem (potGet 0 2)) (.lit (.int 1)))) (p__law_take_2)
def p__law_take : DL.PS := .seq (.ife (.cmp .gt (.sem (potGet 0 0)) (.lit (.int 0))) (.seq (.set 4 (.bin .mod (.blt .int (.cons (.sem (potGet 0 0)) (.nil))) (.var 1))) (.seq (.updv (potPut 0 0) (.bin .fdiv (.sem (potGet 0 0)) (.var 1))) (.seq (.ret (.var 4)) (.skip)))) (.skip)) (p__law_take_1)
theorem t__law_take {qual : Str} {f : Addr} {cd : Value} {A : Around} {outer : List Env} {s : Shared} {H : Hp} (B : Fx mg)  (hr : Room k (bodyX P w K mg base N__law_take qual (defScope s__law_take) f cd A outer s H).A) (hgd : (bodyX P w K mg base N__law_take qual (defScope s__law_take) f cd A outer s H).A.guards = some []) : SSs (Γ := Γ) (bodyX P w K mg base N__law_take qual (defScope s__law_take) f cd A outer s H) (defBody s__law_take) p__law_take := by
  have nd : N__law_take.Nodup := sc__law_take.nd
  have hu : (bodyX P w K mg base N__law_take qual (defScope s__law_take) f cd A outer s H).A.units + 70 < cLine := by have := hr.un; omega
  have b_int := B.b_int
  exact (ss_cons (ss_if (st_cmp (s_pot (i := 0) (j := 0) (by decide) rfl rfl rfl rfl (fun _ _ => rfl)) s_int d_gt rfl) (ss_cons (ss_set (i := 4) nd rfl (by first | exact .inl rfl | exact .inr rfl) (s_bin (s_bltT d_int rfl b_int bt_int (sab_cons (s_pot (i := 0) (j := 0) (by decide) rfl rfl rfl rfl (fun _ _ => rfl)) sab_nil rfl) (by decide) rfl rfl rfl) (sv 1 rfl rfl rfl rfl) d_mod) rfl (.inl rfl)) (ss_cons (ss_pot (i := 0) (j := 0) (by decide) rfl rfl rfl rfl (s_bin (s_pot (i := 0) (j := 0) (by decide) rfl rfl rfl rfl (fun _ _ => rfl)) (sv 1 rfl rfl rfl rfl) d_fdiv) (fun _ => rfl) rfl rfl rfl) (ss_cons (ss_ret (sv 4 rfl rfl rfl rfl)) ss_nil))) ss_nil) (ss_cons (ss_pot (i := 0) (j := 2) (by decide) rfl rfl rfl rfl (s_bin (s_pot (i := 0) (j := 2) (by decide) rfl rfl rfl rfl (fun _ _ => rfl)) s_int d_add) (fun _ => rfl) rfl rfl rfl) (ss_cons (ss_set (i := 2) nd rfl (by first | exact .inl rfl | exact .inr rfl) (s_idx (s_lst (sa_cons s_int (sa_cons s_int (sa_cons s_int (sa_cons s_int (sa_cons s_int sa_nil rfl) rfl) rfl) rfl) rfl) (by decide)) (s_bin (s_bltT d_int rfl b_int bt_int (sab_cons (s_pot (i := 0) (j := 2) (by decide) rfl rfl rfl rfl (fun _ _ => rfl)) sab_nil rfl) (by decide) rfl rfl rfl) s_int d_mod) (fun _ _ => rfl) hu) rfl (.inl rfl)) (ss_cons (ss_set (i := 3) nd rfl (by first | exact .inl rfl | exact .inr rfl) (s_bin (s_bltT d_int rfl b_int bt_int (sab_cons (s_bin (s_bltT d_int rfl b_int bt_int (sab_cons (s_bin (s_bin (s_pot (i := 0) (j := 1) (by decide) rfl rfl rfl rfl (fun _ _ => rfl)) (s_bin (s_bin s_int (s_pot (i := 0) (j := 2) (by decide) rfl rfl rfl rfl (fun _ _ => rfl)) d_mul) (s_pot (i := 0) (j := 2) (by decide) rfl rfl rfl rfl (fun _ _ => rfl)) d_mul) d_add) s_int d_add) sab_nil rfl) (by decide) rfl rfl rfl) s_int d_pow) sab_nil rfl) (by decide) rfl rfl rfl) (sv 2 rfl rfl rfl rfl) d_mod) rfl (.inl rfl)) (ss_cons (ss_set (i := 3) nd rfl (by first | exact .inl rfl | exact .inr rfl) (s_bin (s_bltT d_int rfl b_int bt_int (sab_cons (s_bin (sv 3 rfl rfl rfl rfl) (s_bin (s_bin (s_bltT d_int rfl b_int bt_int (sab_cons (sv 3 rfl rfl rfl rfl) sab_nil rfl) (by decide) rfl rfl rfl) s_int d_mod) (s_bin s_int (s_pot (i := 0) (j := 2) (by decide) rfl rfl rfl rfl (fun _ _ => rfl)) d_mul) d_add) d_mul) sab_nil rfl) (by decide) rfl rfl rfl) s_int d_mod) rfl (.inl rfl)) (ss_cons (ss_ret (s_bin (s_bltT d_int rfl b_int bt_int (sab_cons (s_bin (sv 3 rfl rfl rfl rfl) s_int d_fdiv) sab_nil rfl) (by decide) rfl rfl rfl) (sv 1 rfl rfl rfl rfl) d_mod)) ss_nil))))))
/-! _law_of -/
abbrev N__law_of : List Str := ["pot", "some"]
abbrev a__law_of : List Str := ["pot", "some"]
theorem sc__law_of : FnScope N__law_of a__law_of (defScope s__law_of) := ⟨rfl, rfl, rfl, by decide +kernel, rfl, by decide +kernel, by decide +kernel⟩
def p__law_of : DL.PS := .seq (.ret (.idx (.var 1) (.call 37 (.cons (.var 0) (.cons (.blt .len (.cons (.var 1) (.nil))) (.nil)))))) (.skip)
theorem t__law_of {qual : Str} {f : Addr} {cd : Value} {A : Around} {outer : List Env} {s : Shared} {H : Hp} (B : Fx mg) (c__law_take : FnAt P w K mg base k "_law_take" 2 (Γ 37)) (hr : Room k (bodyX P w K mg base N__law_of qual (defScope s__law_of) f cd A outer s H).A) (hgd : (bodyX P w K mg base N__law_of qual (defScope s__law_of) f cd A outer s H).A.guards = some []) : SSs (Γ := Γ) (bodyX P w K mg base N__law_of qual (defScope s__law_of) f cd A outer s H) (defBody s__law_of) p__law_of := by
  have nd : N__law_of.Nodup := sc__law_of.nd
  have hu : (bodyX P w K mg base N__law_of qual (defScope s__law_of) f cd A outer s H).A.units + 70 < cLine := by have := hr.un; omega
  have b_len := B.b_len
  exact (ss_cons (ss_ret (s_idx (sv 1 rfl rfl rfl rfl) (s_call c__law_take hr hgd rfl (sa_cons (sv 0 rfl rfl rfl rfl) (sa_cons (s_bltB d_len rfl b_len bt_len (sab_cons (sv 1 rfl rfl rfl rfl) sab_nil rfl) (by decide) rfl rfl rfl) sa_nil rfl) rfl) rfl rfl rfl) (fun _ _ => rfl) hu)) ss_nil)
/-! _law_stove -/
abbrev N__law_stove : List Str := ["pot", "most", "warm", "holds", "gives", "one"]
abbrev a__law_stove : List Str := ["pot", "most"]
theorem sc__law_stove : FnScope N__law_stove a__law_stove (defScope s__law_stove) := ⟨rfl, rfl, rfl, by decide +kernel, rfl, by decide +kernel, by decide +kernel⟩
def p__law_stove_2 : DL.PS := .seq (.ret (.tup (.cons (.blt .int (.cons (.var 3) (.nil))) (.cons (.bitv .tuple (.lc (.blt .int (.cons (.var 5) (.nil))) (.nm 5) (.sq (.var 4)) (.no) [5])) (.cons (.blt .int (.cons (.bin .add (.lit (.int 1)) (.call 37 (.cons (.var 0) (.cons (.lit (.int 5)) (.nil))))) (.nil))) (.cons (.blt .int (.cons (.call 38 (.cons (.var 0) (.cons (.lst (.cons (.lit (.int 1)) (.cons (.lit (.int 2)) (.cons (.lit (.int 3)) (.cons (.lit (.int 4)) (.cons (.lit (.int 4)) (.cons (.lit (.int 0)) (.nil)))))))) (.nil)))) (.nil))) (.nil))))))) (.skip)
def p__law_stove_1 : DL.PS := .seq (.for_ (.nm 2) (.rng2 (.lit (.int 1)) (.bin .add (.var 3) (.lit (.int 1)))) (.seq (.app 4 (.blt .min2 (.cons (.var 2) (.cons (.bin .add (.idx (.var 4) (.neg (.lit (.int 1)))) (.blt .int (.cons (.cmp .lt (.call 37 (.cons (.var 0) (.cons (.lit (.int 3)) (.nil)))) (.bin .add (.lit (.int 1)) (.bin .mod (.var 2) (.lit (.int 2))))) (.nil)))) (.nil))))) (.skip))) (p__law_stove_2)
def p__law_stove : DL.PS := .seq (.par [3, 4] [false, true] (.cons (.bin .add (.lit (.int 6)) (.call 37 (.cons (.var 0) (.cons (.bin .sub (.var 1) (.lit (.int 5))) (.nil))))) (.cons (.lst (.cons (.lit (.int 0)) (.nil))) (.nil)))) (p__law_stove_1)
theorem t__law_stove {qual : Str} {f : Addr} {cd : Value} {A : Around} {outer : List Env} {s : Shared} {H : Hp} (B : Fx mg) (c__law_take : FnAt P w K mg base k "_law_take" 2 (Γ 37)) (c__law_of : FnAt P w K mg base k "_law_of" 2 (Γ 38)) (hr : Room k (bodyX P w K mg base N__law_stove qual (defScope s__law_stove) f cd A outer s H).A) (hgd : (bodyX P w K mg base N__law_stove qual (defScope s__law_stove) f cd A outer s H).A.guards = some []) : SSs (Γ := Γ) (bodyX P w K mg base N__law_stove qual (defScope s__law_stove) f cd A outer s H) (defBody s__law_stove) p__law_stove := by
  have nd : N__law_stove.Nodup := sc__law_stove.nd
  have hu : (bodyX P w K mg base N__law_stove qual (defScope s__law_stove) f cd A outer s H).A.units + 70 < cLine := by have := hr.un; omega
  have b_int := B.b_int
  have b_min := B.b_min
  have b_range := B.b_range
  have b_tuple := B.b_tuple
  exact (ss_cons (ss_par2 (i := 3) (j := 4) rfl nd rfl rfl (by decide) rfl rfl (sm_val (s_bin s_int (s_call c__law_take hr hgd rfl (sa_cons (sv 0 rfl rfl rfl rfl) (sa_cons (s_bin (sv 1 rfl rfl rfl rfl) s_int d_sub) sa_nil rfl) rfl) rfl rfl rfl) d_add) (sm_own (sf_lst (sa_cons s_int sa_nil rfl) (by decide)) sm_nil rfl) rfl) rfl rfl) (ss_cons (ss_for owns rfl (si_rng2 rfl b_range s_int (s_bin (sv 3 rfl rfl rfl rfl) s_int d_add) rfl rfl) (sg 2 nd rfl rfl (by first | exact .inl rfl | exact .inr rfl)) (ss_cons (ss_app (i := 4) rfl (by first | exact .inl rfl | exact .inr (.inl rfl)) rfl rfl (s_bltB (d_min2 rfl) rfl b_min bt_min (sab_cons (sv 2 rfl rfl rfl rfl) (sab_cons (s_bin (s_idx (sv 4 rfl rfl rfl rfl) (s_neg s_int) (fun _ _ => rfl) hu) (s_bltT d_int rfl b_int bt_int (sab_cons (s_cmp (s_call c__law_take hr hgd rfl (sa_cons (sv 0 rfl rfl rfl rfl) (sa_cons s_int sa_nil rfl) rfl) rfl rfl rfl) (s_bin s_int (s_bin (sv 2 rfl rfl rfl rfl) s_int d_mod) d_add) (d_lt hu) rfl) sab_nil rfl) (by decide) rfl rfl rfl) d_add) sab_nil rfl) rfl) (by decide) rfl rfl rfl) rfl rfl rfl rfl rfl) ss_nil) (fun _ => rfl)) (ss_cons (ss_ret (s_tup (sa_cons (s_bltT d_int rfl b_int bt_int (sab_cons (sv 3 rfl rfl rfl rfl) sab_nil rfl) (by decide) rfl rfl rfl) (sa_cons (s_bitvT d_tuple rfl b_tuple bt_tuple (s_lc (own := [("one", 5)]) rfl nd (si_sq (sv 4 rfl rfl rfl rfl)) (blkOk_by (own := [("one", 5)]) (show blkC N__law_stove (defScope s__law_stove) _ _ = true by decide +kernel)) (fun _ _ _ _ _ => (sg 5 nd rfl rfl (by first | exact .inl rfl | exact .inr rfl))) (fun _ _ _ _ _ => sts_no) (fun _ _ _ _ _ => (s_bltT d_int rfl b_int bt_int (sab_cons (sv 5 rfl rfl rfl rfl) sab_nil rfl) (by decide) rfl rfl rfl)) (fun _ => rfl) (by decide)) (by decide) rfl rfl) (sa_cons (s_bltT d_int rfl b_int bt_int (sab_cons (s_bin s_int (s_call c__law_take hr hgd rfl (sa_cons (sv 0 rfl rfl rfl rfl) (sa_cons s_int sa_nil rfl) rfl) rfl rfl rfl) d_add) sab_nil rfl) (by decide) rfl rfl rfl) (sa_cons (s_bltT d_int rfl b_int bt_int (sab_cons (s_call c__law_of hr hgd rfl (sa_cons (sv 0 rfl rfl rfl rfl) (sa_cons (s_lst (sa_cons s_int (sa_cons s_int (sa_cons s_int (sa_cons s_int (sa_cons s_int (sa_cons s_int sa_nil rfl) rfl) rfl) rfl) rfl) rfl) (by decide)) sa_nil rfl) rfl) rfl rfl rfl) sab_nil rfl) (by decide) rfl rfl rfl) sa_nil rfl) rfl) rfl) rfl) (by decide))) ss_nil)))
/-! _law_day -/
abbrev N__law_day : List Str := ["pot", "most", "hour", "day", "base", "low", "least"]
abbrev a__law_day : List Str := ["pot", "most"]
theorem sc__law_day : FnScope N__law_day a__law_day (defScope s__law_day) := ⟨rfl, rfl, rfl, by decide +kernel, rfl, by decide +kernel, by decide +kernel⟩
def p__law_day_2 : DL.PS := .seq (.ret (.bitv .tuple (.var 3))) (.skip)
def p__law_day_1 : DL.PS := .seq (.for_ (.nm 2) (.rng1 (.bin .add (.lit (.int 1)) (.call 37 (.cons (.var 0) (.cons (.var 1) (.nil)))))) (.seq (.par [5, 6] [false, false] (.cons (.bin .add (.var 4) (.call 37 (.cons (.var 0) (.cons (.lit (.int 2)) (.nil))))) (.cons (.call 38 (.cons (.var 0) (.cons (.lst (.cons (.neg (.lit (.int 4))) (.cons (.neg (.lit (.int 1))) (.cons (.lit (.int 0)) (.cons (.lit (.int 0)) (.cons (.lit (.int 1)) (.cons (.lit (.int 1)) (.cons (.lit (.int 2)) (.nil))))))))) (.nil)))) (.nil)))) (.seq (.app 3 (.tup (.cons (.tup (.cons (.blt .int (.cons (.var 5) (.nil))) (.cons (.blt .int (.cons (.blt .min2 (.cons (.lit (.int 12)) (.cons (.bin .add (.bin .add (.var 5) (.lit (.int 3))) (.call 37 (.cons (.var 0) (.cons (.lit (.int 6)) (.nil))))) (.nil)))) (.nil))) (.nil)))) (.cons (.tup (.cons (.blt .int (.cons (.var 6) (.nil))) (.cons (.blt .int (.cons (.bin .add (.var 6) (.call 38 (.cons (.var 0) (.cons (.lst (.cons (.lit (.int 0)) (.cons (.lit (.int 0)) (.cons (.lit (.int 1)) (.cons (.lit (.int 1)) (.cons (.lit (.int 1)) (.cons (.lit (.int 2)) (.cons (.bin .add (.lit (.int 2)) (.bin .mul (.lit (.int 4)) (.blt .int (.cons (.cmp .eq (.var 6) (.neg (.lit (.int 4)))) (.nil))))) (.nil))))))))) (.nil))))) (.nil))) (.nil)))) (.nil))))) (.skip)))) (p__law_day_2)
def p__law_day : DL.PS := .seq (.par [3, 4] [true, false] (.cons (.lst (.nil)) (.cons (.call 37 (.cons (.var 0) (.cons (.lit (.int 5)) (.nil)))) (.nil)))) (p__law_day_1)
theorem t__law_day {qual : Str} {f : Addr} {cd : Value} {A : Around} {outer : List Env} {s : Shared} {H : Hp} (B : Fx mg) (c__law_take : FnAt P w K mg base k "_law_take" 2 (Γ 37)) (c__law_of : FnAt P w K mg base k "_law_of" 2 (Γ 38)) (hr : Room k (bodyX P w K mg base N__law_day qual (defScope s__law_day) f cd A outer s H).A) (hgd : (bodyX P w K mg base N__law_day qual (defScope s__law_day) f cd A outer s H).A.guards = some []) : SSs (Γ := Γ) (bodyX P w K mg base N__law_day qual (defScope s__law_day) f cd A outer s H) (defBody s__law_day) p__law_day := by
  have nd : N__law_day.Nodup := sc__law_day.nd
  have hu : (bodyX P w K mg base N__law_day qual (defScope s__law_day) f cd A outer s H).A.units + 70 < cLine := by have := hr.un; omega
  have b_int := B.b_int
  have b_min := B.b_min
  have b_range := B.b_range
  have b_tuple := B.b_tuple
  exact (ss_cons (ss_par2 (i := 3) (j := 4) rfl nd rfl rfl (by decide) rfl rfl (sm_own (sf_lst sa_nil (by decide)) (sm_val (s_call c__law_take hr hgd rfl (sa_cons (sv 0 rfl rfl rfl rfl) (sa_cons s_int sa_nil rfl) rfl) rfl rfl rfl) sm_nil rfl) rfl) rfl rfl) (ss_cons (ss_for owns rfl (si_rng1 rfl b_range (s_bin s_int (s_call c__law_take hr hgd rfl (sa_cons (sv 0 rfl rfl rfl rfl) (sa_cons (sv 1 rfl rfl rfl rfl) sa_nil rfl) rfl) rfl rfl rfl) d_add) rfl) (sg 2 nd rfl rfl (by first | exact .inl rfl | exact .inr rfl)) (ss_cons (ss_par2 (i := 5) (j := 6) rfl nd rfl rfl (by decide) rfl rfl (sm_val (s_bin (sv 4 rfl rfl rfl rfl) (s_call c__law_take hr hgd rfl (sa_cons (sv 0 rfl rfl rfl rfl) (sa_cons s_int sa_nil rfl) rfl) rfl rfl rfl) d_add) (sm_val (s_call c__law_of hr hgd rfl (sa_cons (sv 0 rfl rfl rfl rfl) (sa_cons (s_lst (sa_cons (s_neg s_int) (sa_cons (s_neg s_int) (sa_cons s_int (sa_cons s_int (sa_cons s_int (sa_cons s_int (sa_cons s_int sa_nil rfl) rfl) rfl) rfl) rfl) rfl) rfl) (by decide)) sa_nil rfl) rfl) rfl rfl rfl) sm_nil rfl) rfl) rfl rfl) (ss_cons (ss_app (i := 3) rfl (by first | exact .inl rfl | exact .inr (.inl rfl)) rfl rfl (s_tup (sa_cons (s_tup (sa_cons (s_bltT d_int rfl b_int bt_int (sab_cons (sv 5 rfl rfl rfl rfl) sab_nil rfl) (by decide) rfl rfl rfl) (sa_cons (s_bltT d_int rfl b_int bt_int (sab_cons (s_bltB (d_min2 rfl) rfl b_min bt_min (sab_cons s_int (sab_cons (s_bin (s_bin (sv 5 rfl rfl rfl rfl) s_int d_add) (s_call c__law_take hr hgd rfl (sa_cons (sv 0 rfl rfl rfl rfl) (sa_cons s_int sa_nil rfl) rfl) rfl rfl rfl) d_add) sab_nil rfl) rfl) (by decide) rfl rfl rfl) sab_nil rfl) (by decide) rfl rfl rfl) sa_nil rfl) rfl) (by decide)) (sa_cons (s_tup (sa_cons (s_bltT d_int rfl b_int bt_int (sab_cons (sv 6 rfl rfl rfl rfl) sab_nil rfl) (by decide) rfl rfl rfl) (sa_cons (s_bltT d_int rfl b_int bt_int (sab_cons (s_bin (sv 6 rfl rfl rfl rfl) (s_call c__law_of hr hgd rfl (sa_cons (sv 0 rfl rfl rfl rfl) (sa_cons (s_lst (sa_cons s_int (sa_cons s_int (sa_cons s_int (sa_cons s_int (sa_cons s_int (sa_cons s_int (sa_cons (s_bin s_int (s_bin s_int (s_bltT d_int rfl b_int bt_int (sab_cons (s_cmp (sv 6 rfl rfl rfl rfl) (s_neg s_int) (d_eq hu) rfl) sab_nil rfl) (by decide) rfl rfl rfl) d_mul) d_add) sa_nil rfl) rfl) rfl) rfl) rfl) rfl) rfl) (by decide)) sa_nil rfl) rfl) rfl rfl rfl) d_add) sab_nil rfl) (by decide) rfl rfl rfl) sa_nil rfl) rfl) (by decide)) sa_nil rfl) rfl) (by decide)) rfl rfl rfl rfl rfl) ss_nil)) (fun _ => rfl)) (ss_cons (ss_ret (s_bitvT d_tuple rfl b_tuple bt_tuple (sv 3 rfl rfl rfl rfl) (by decide) rfl rfl)) ss_nil)))
/-! _law_stands -/
abbrev N__law_stands : List Str := ["stove", "day", "found", "hour", "tiles", "low", "high", "room"]
abbrev a__law_stands : List Str := ["stove", "day"]
theorem sc__law_stands : FnScope N__law_stands a__law_stands (defScope s__law_stands) := ⟨rfl, rfl, rfl, by decide +kernel, rfl, by decide +kernel, by decide +kernel⟩
def p__law_stands_2 : DL.PS := .seq (.ret (.var 2)) (.skip)
def p__law_stands_1 : DL.PS := .seq (.for_ (.nm 3) (.rng1 (.blt .len (.cons (.var 1) (.nil)))) (.seq (.asg (.cons (.nm 5) (.one (.nm 6))) (.idx (.idx (.var 1) (.var 3)) (.lit (.int 0)))) (.seq (.for_ (.nm 4) (.rng1 (.bin .add (.idx (.var 0) (.lit (.int 0))) (.lit (.int 1)))) (.seq (.ext 2 (.lc (.tup (.cons (.blt .int (.cons (.var 3) (.nil))) (.cons (.blt .int (.cons (.var 4) (.nil))) (.cons (.blt .int (.cons (.var 7) (.nil))) (.nil))))) (.nm 7) (.rng2 (.var 5) (.bin .add (.var 6) (.lit (.int 1)))) (.no) [7])) (.skip))) (.skip)))) (p__law_stands_2)
def p__law_stands : DL.PS := .seq (.setO 2 (.lst (.nil))) (p__law_stands_1)
theorem t__law_stands {qual : Str} {f : Addr} {cd : Value} {A : Around} {outer : List Env} {s : Shared} {H : Hp} (B : Fx mg)  (hr : Room k (bodyX P w K mg base N__law_stands qual (defScope s__law_stands) f cd A outer s H).A) (hgd : (bodyX P w K mg base N__law_stands qual (defScope s__law_stands) f cd A outer s H).A.guards = some []) : SSs (Γ := Γ) (bodyX P w K mg base N__law_stands qual (defScope s__law_stands) f cd A outer s H) (defBody s__law_stands) p__law_stands := by
  have nd : N__law_stands.Nodup := sc__law_stands.nd
  have hu : (bodyX P w K mg base N__law_stands qual (defScope s__law_stands) f cd A outer s H).A.units + 70 < cLine := by have := hr.un; omega
  have b_int := B.b_int
  have b_len := B.b_len
  have b_range := B.b_range
  exact (ss_cons (ss_setO (i := 2) nd rfl (by first | exact .inl rfl | exact .inr rfl) (sf_lst sa_nil (by decide)) rfl (.inl rfl)) (ss_cons (ss_for owns rfl (si_rng1 rfl b_range (s_bltB d_len rfl b_len bt_len (sab_cons (sv 1 rfl rfl rfl rfl) sab_nil rfl) (by decide) rfl rfl rfl) rfl) (sg 3 nd rfl rfl (by first | exact .inl rfl | exact .inr rfl)) (ss_cons (ss_asg (s_idx (s_idx (sv 1 rfl rfl rfl rfl) (sv 3 rfl rfl rfl rfl) (fun _ _ => rfl) hu) s_int (fun _ _ => rfl) hu) (sg_tup rfl (sgs_cons (sg 5 nd rfl rfl (by first | exact .inl rfl | exact .inr rfl)) (sgs_one (sg 6 nd rfl rfl (by first | exact .inl rfl | exact .inr rfl)) rfl) rfl) rfl rfl) rfl rfl rfl) (ss_cons (ss_for owns rfl (si_rng1 rfl b_range (s_bin (s_idx (sv 0 rfl rfl rfl rfl) s_int (fun _ _ => rfl) hu) s_int d_add) rfl) (sg 4 nd rfl rfl (by first | exact .inl rfl | exact .inr rfl)) (ss_cons (ss_ext (i := 2) rfl (by first | exact .inl rfl | exact .inr (.inl rfl)) rfl rfl (s_lc (own := [("room", 7)]) rfl nd (si_rng2 rfl b_range (sv 5 rfl rfl rfl rfl) (s_bin (sv 6 rfl rfl rfl rfl) s_int d_add) rfl rfl) (blkOk_by (own := [("room", 7)]) (show blkC N__law_stands (defScope s__law_stands) _ _ = true by decide +kernel)) (fun _ _ _ _ _ => (sg 7 nd rfl rfl (by first | exact .inl rfl | exact .inr rfl))) (fun _ _ _ _ _ => sts_no) (fun _ _ _ _ _ => (s_tup (sa_cons (s_bltT d_int rfl b_int bt_int (sab_cons (sv 3 rfl rfl rfl rfl) sab_nil rfl) (by decide) rfl rfl rfl) (sa_cons (s_bltT d_int rfl b_int bt_int (sab_cons (sv 4 rfl rfl rfl rfl) sab_nil rfl) (by decide) rfl rfl rfl) (sa_cons (s_bltT d_int rfl b_int bt_int (sab_cons (sv 7 rfl rfl rfl rfl) sab_nil rfl) (by decide) rfl rfl rfl) sa_nil rfl) rfl) rfl) (by decide))) (fun _ => rfl) (by decide)) rfl rfl rfl rfl rfl) ss_nil) (fun _ => rfl)) ss_nil)) (fun _ => rfl)) (ss_cons (ss_ret (sv 2 rfl rfl rfl rfl)) ss_nil)))
/-! _law_behind -/
abbrev N__law_behind : List Str := ["stove", "day", "stand", "logs", "hour", "warm", "given", "low", "high", "least", "most", "weather"]
abbrev a__law_behind : List Str := ["stove", "day", "stand", "logs"]
theorem sc__law_behind : FnScope N__law_behind a__law_behind (defScope s__law_behind) := ⟨rfl, rfl, rfl, by decide +kernel, rfl, by decide +kernel, by decide +kernel⟩
def p__law_behind_4 : DL.PS := .seq (.ret (.lc (.tup (.cons (.var 4) (.cons (.bin .sub (.var 5) (.var 6)) (.cons (.bin .sub (.bin .add (.idx (.var 2) (.lit (.int 2))) (.var 6)) (.var 11)) (.nil))))) (.nm 11) (.rng2 (.var 9) (.bin .add (.var 10) (.lit (.int 1)))) (.no) [11])) (.skip)
def p__law_behind_3 : DL.PS := .seq (.ife (.bor (.cmp .lt (.bin .sub (.bin .add (.idx (.var 2) (.lit (.int 2))) (.var 6)) (.var 10)) (.var 7)) (.cmp .gt (.bin .sub (.bin .add (.idx (.var 2) (.lit (.int 2))) (.var 6)) (.var 9)) (.var 8))) (.seq (.ret (.lit .non)) (.skip)) (.skip)) (p__law_behind_4)
def p__law_behind_2 : DL.PS := .seq (.asg (.cons (.nm 7) (.one (.nm 8))) (.idx (.idx (.var 1) (.var 4)) (.lit (.int 0)))) (p__law_behind_3)
def p__law_behind_1 : DL.PS := .seq (.asg (.cons (.nm 6) (.one (.cons (.nm 9) (.one (.nm 10))))) (.tup (.cons (.idx (.idx (.var 0) (.lit (.int 1))) (.var 5)) (.cons (.idx (.idx (.var 1) (.idx (.var 2) (.lit (.int 0)))) (.lit (.int 1))) (.nil))))) (p__law_behind_2)
def p__law_behind : DL.PS := .seq (.par [4, 5] [false, false] (.cons (.bin .mod (.bin .add (.idx (.var 2) (.lit (.int 0))) (.lit (.int 1))) (.blt .len (.cons (.var 1) (.nil)))) (.cons (.bin .add (.idx (.var 2) (.lit (.int 1))) (.bin .mul (.idx (.var 0) (.lit (.int 2))) (.var 3))) (.nil)))) (p__law_behind_1)
theorem t__law_behind {qual : Str} {f : Addr} {cd : Value} {A : Around} {outer : List Env} {s : Shared} {H : Hp} (B : Fx mg)  (hr : Room k (bodyX P w K mg base N__law_behind qual (defScope s__law_behind) f cd A outer s H).A) (hgd : (bodyX P w K mg base N__law_behind qual (defScope s__law_behind) f cd A outer s H).A.guards = some []) : SSs (Γ := Γ) (bodyX P w K mg base N__law_behind qual (defScope s__law_behind) f cd A outer s H) (defBody s__law_behind) p__law_behind := by
  have nd : N__law_behind.Nodup := sc__law_behind.nd
  have hu : (bodyX P w K mg base N__law_behind qual (defScope s__law_behind) f cd A outer s H).A.units + 70 < cLine := by have := hr.un; omega
  have b_len := B.b_len
  have b_range := B.b_range
  exact (ss_cons (ss_parN rfl (gns_cons (i := 4) nd rfl (by first | exact .inl rfl | exact .inr rfl) (.inl rfl) (gns_cons (i := 5) nd rfl (by first | exact .inl rfl | exact .inr rfl) (.inl rfl) gns_nil rfl) rfl) (sm_val (s_bin (s_bin (s_idx (sv 2 rfl rfl rfl rfl) s_int (fun _ _ => rfl) hu) s_int d_add) (s_bltB d_len rfl b_len bt_len (sab_cons (sv 1 rfl rfl rfl rfl) sab_nil rfl) (by decide) rfl rfl rfl) d_mod) (sm_val (s_bin (s_idx (sv 2 rfl rfl rfl rfl) s_int (fun _ _ => rfl) hu) (s_bin (s_idx (sv 0 rfl rfl rfl rfl) s_int (fun _ _ => rfl) hu) (sv 3 rfl rfl rfl rfl) d_mul) d_add) sm_nil rfl) rfl) rfl (by decide) rfl rfl rfl rfl rfl) (ss_cons (ss_asg (s_tup (sa_cons (s_idx (s_idx (sv 0 rfl rfl rfl rfl) s_int (fun _ _ => rfl) hu) (sv 5 rfl rfl rfl rfl) (fun _ _ => rfl) hu) (sa_cons (s_idx (s_idx (sv 1 rfl rfl rfl rfl) (s_idx (sv 2 rfl rfl rfl rfl) s_int (fun _ _ => rfl) hu) (fun _ _ => rfl) hu) s_int (fun _ _ => rfl) hu) sa_nil rfl) rfl) (by decide)) (sg_tup rfl (sgs_cons (sg 6 nd rfl rfl (by first | exact .inl rfl | exact .inr rfl)) (sgs_one (sg_tup rfl (sgs_cons (sg 9 nd rfl rfl (by first | exact .inl rfl | exact .inr rfl)) (sgs_one (sg 10 nd rfl rfl (by first | exact .inl rfl | exact .inr rfl)) rfl) rfl) rfl rfl) rfl) rfl) rfl rfl) rfl rfl rfl) (ss_cons (ss_asg (s_idx (s_idx (sv 1 rfl rfl rfl rfl) (sv 4 rfl rfl rfl rfl) (fun _ _ => rfl) hu) s_int (fun _ _ => rfl) hu) (sg_tup rfl (sgs_cons (sg 7 nd rfl rfl (by first | exact .inl rfl | exact .inr rfl)) (sgs_one (sg 8 nd rfl rfl (by first | exact .inl rfl | exact .inr rfl)) rfl) rfl) rfl rfl) rfl rfl rfl) (ss_cons (ss_if (SW.t (sw_or (st_cmp (s_bin (s_bin (s_idx (sv 2 rfl rfl rfl rfl) s_int (fun _ _ => rfl) hu) (sv 6 rfl rfl rfl rfl) d_add) (sv 10 rfl rfl rfl rfl) d_sub) (sv 7 rfl rfl rfl rfl) (d_lt hu) rfl) (sw_or1 (st_cmp (s_bin (s_bin (s_idx (sv 2 rfl rfl rfl rfl) s_int (fun _ _ => rfl) hu) (sv 6 rfl rfl rfl rfl) d_add) (sv 9 rfl rfl rfl rfl) d_sub) (sv 8 rfl rfl rfl rfl) d_gt rfl)))) (ss_cons (ss_ret s_non) ss_nil) ss_nil) (ss_cons (ss_ret (s_lc (own := [("weather", 11)]) rfl nd (si_rng2 rfl b_range (sv 9 rfl rfl rfl rfl) (s_bin (sv 10 rfl rfl rfl rfl) s_int d_add) rfl rfl) (blkOk_by (own := [("weather", 11)]) (show blkC N__law_behind (defScope s__law_behind) _ _ = true by decide +kernel)) (fun _ _ _ _ _ => (sg 11 nd rfl rfl (by first | exact .inl rfl | exact .inr rfl))) (fun _ _ _ _ _ => sts_no) (fun _ _ _ _ _ => (s_tup (sa_cons (sv 4 rfl rfl rfl rfl) (sa_cons (s_bin (sv 5 rfl rfl rfl rfl) (sv 6 rfl rfl rfl rfl) d_sub) (sa_cons (s_bin (s_bin (s_idx (sv 2 rfl rfl rfl rfl) s_int (fun _ _ => rfl) hu) (sv 6 rfl rfl rfl rfl) d_add) (sv 11 rfl rfl rfl rfl) d_sub) sa_nil rfl) rfl) rfl) (by decide))) (fun _ => rfl) (by decide))) ss_nil)))))
/-! _law_logs -/
abbrev N__law_logs : List Str := ["stove", "stand", "logs"]
abbrev a__law_logs : List Str := ["stove", "stand"]
theorem sc__law_logs : FnScope N__law_logs a__law_logs (defScope s__law_logs) := ⟨rfl, rfl, rfl, by decide +kernel, rfl, by decide +kernel, by decide +kernel⟩
def p__law_logs : DL.PS := .seq (.ret (.lc (.var 2) (.nm 2) (.rng1 (.bin .add (.idx (.var 0) (.lit (.int 3))) (.lit (.int 1)))) (.yes (.cmp .le (.bin .add (.idx (.var 1) (.lit (.int 1))) (.bin .mul (.idx (.var 0) (.lit (.int 2))) (.var 2))) (.idx (.var 0) (.lit (.int 0))))) [2])) (.skip)
theorem t__law_logs {qual : Str} {f : Addr} {cd : Value} {A : Around} {outer : List Env} {s : Shared} {H : Hp} (B : Fx mg)  (hr : Room k (bodyX P w K mg base N__law_logs qual (defScope s__law_logs) f cd A outer s H).A) (hgd : (bodyX P w K mg base N__law_logs qual (defScope s__law_logs) f cd A outer s H).A.guards = some []) : SSs (Γ := Γ) (bodyX P w K mg base N__law_logs qual (defScope s__law_logs) f cd A outer s H) (defBody s__law_logs) p__law_logs := by
  have nd : N__law_logs.Nodup := sc__law_logs.nd
  have hu : (bodyX P w K mg base N__law_logs qual (defScope s__law_logs) f cd A outer s H).A.units + 70 < cLine := by have := hr.un; omega
  have b_range := B.b_range
  exact (ss_cons (ss_ret (s_lc (own := [("logs", 2)]) rfl nd (si_rng1 rfl b_range (s_bin (s_idx (sv 0 rfl rfl rfl rfl) s_int (fun _ _ => rfl) hu) s_int d_add) rfl) (blkOk_by (own := [("logs", 2)]) (show blkC N__law_logs (defScope s__law_logs) _ _ = true by decide +kernel)) (fun _ _ _ _ _ => (sg 2 nd rfl rfl (by first | exact .inl rfl | exact .inr rfl))) (fun _ _ _ _ _ => (sts_one (st_cmp (s_bin (s_idx (sv 1 rfl rfl rfl rfl) s_int (fun _ _ => rfl) hu) (s_bin (s_idx (sv 0 rfl rfl rfl rfl) s_int (fun _ _ => rfl) hu) (sv 2 rfl rfl rfl rfl) d_mul) d_add) (s_idx (sv 0 rfl rfl rfl rfl) s_int (fun _ _ => rfl) hu) d_le rfl))) (fun _ _ _ _ _ => (sv 2 rfl rfl rfl rfl)) (fun _ => rfl) (by decide))) ss_nil)
/-! _law_lost -/
abbrev N__law_lost : List Str := ["stove", "day", "stand", "lost", "lap", "left", "ahead", "gone", "ranks", "number", "logs", "later", "theres", "way", "there", "one"]
abbrev a__law_lost : List Str := ["stove", "day"]
theorem sc__law_lost : FnScope N__law_lost a__law_lost (defScope s__law_lost) := ⟨rfl, rfl, rfl, by decide +kernel, rfl, by decide +kernel, by decide +kernel⟩
def p__law_lost_4 : DL.PS := .seq (.ret (.var 8)) (.skip)
def p__law_lost_3 : DL.PS := .seq (.for_ (.nm 4) (.rng1 (.blt .len (.cons (.var 5) (.nil)))) (.seq (.setO 11 (.lst (.nil))) (.seq (.for_ (.nm 2) (.sq (.var 3)) (.seq (.put 8 (.var 2) (.blt .int (.cons (.var 9) (.nil)))) (.seq (.for_ (.nm 13) (.sq (.lc (.var 15) (.nm 15) (.sq (.meth .getD (.var 6) (.cons (.var 2) (.cons (.lst (.nil)) .nil)))) (.yes (.cmp .notin (.var 15) (.var 7))) [15])) (.seq (.put 7 (.var 13) (.lit (.bl true))) (.seq (.put 5 (.idx (.var 13) (.lit (.int 0))) (.bin .sub (.idx (.var 5) (.idx (.var 13) (.lit (.int 0)))) (.lit (.int 1)))) (.seq (.ife (.cmp .eq (.idx (.var 5) (.idx (.var 13) (.lit (.int 0)))) (.lit (.int 0))) (.seq (.app 11 (.idx (.var 13) (.lit (.int 0)))) (.skip)) (.skip)) (.skip))))) (.skip)))) (.seq (.ife (.cmp .eq (.var 11) (.lst (.nil))) (.seq (.ret (.var 8)) (.skip)) (.skip)) (.seq (.par [3, 9] [false, false] (.cons (.var 11) (.cons (.bin .add (.var 9) (.lit (.int 1))) (.nil)))) (.skip)))))) (p__law_lost_4)
def p__law_lost_2 : DL.PS := .seq (.set 3 (.lc (.var 2) (.nm 2) (.sq (.var 5)) (.yes (.cmp .eq (.idx (.var 5) (.var 2)) (.lit (.int 0)))) [2])) (p__law_lost_3)
def p__law_lost_1 : DL.PS := .seq (.for_ (.nm 2) (.sq (.call 41 (.cons (.var 0) (.cons (.var 1) (.nil))))) (.seq (.put 5 (.var 2) (.lit (.int 0))) (.seq (.for_ (.nm 10) (.sq (.call 43 (.cons (.var 0) (.cons (.var 2) (.nil))))) (.seq (.set 12 (.call 42 (.cons (.var 0) (.cons (.var 1) (.cons (.var 2) (.cons (.var 10) (.nil))))))) (.seq (.ife (.cmp .isnt (.var 12) (.lit .non)) (.seq (.put 5 (.var 2) (.bin .add (.idx (.var 5) (.var 2)) (.lit (.int 1)))) (.seq (.for_ (.nm 14) (.sq (.var 12)) (.seq (.sdap 6 (.var 14) (.tup (.cons (.var 2) (.cons (.var 10) (.nil))))) (.skip))) (.skip))) (.skip)) (.skip)))) (.skip)))) (.seq (.fz 6) (p__law_lost_2))
def p__law_lost : DL.PS := .seq (.par [5, 6, 7, 8, 9] [true, true, true, true, false] (.cons (.dct0) (.cons (.dct0) (.cons (.dct0) (.cons (.dct0) (.cons (.lit (.int 1)) (.nil))))))) (.seq (.toL 6) (p__law_lost_1))
theorem t__law_lost {qual : Str} {f : Addr} {cd : Value} {A : Around} {outer : List Env} {s : Shared} {H : Hp} (B : Fx mg) (c__law_stands : FnAt P w K mg base k "_law_stands" 2 (Γ 41)) (c__law_behind : FnAt P w K mg base k "_law_behind" 4 (Γ 42)) (c__law_logs : FnAt P w K mg base k "_law_logs" 2 (Γ 43)) (hr : Room k (bodyX P w K mg base N__law_lost qual (defScope s__law_lost) f cd A outer s H).A) (hgd : (bodyX P w K mg base N__law_lost qual (defScope s__law_lost) f cd A outer s H).A.guards = some []) : SSs (Γ := Γ) (bodyX P w K mg base N__law_lost qual (defScope s__law_lost) f cd A outer s H) (defBody s__law_lost) p__law_lost := by
  have nd : N__law_lost.Nodup := sc__law_lost.nd
  have hu : (bodyX P w K mg base N__law_lost qual (defScope s__law_lost) f cd A outer s H).A.units + 70 < cLine := by have := hr.un; omega
  have b_int := B.b_int
  have b_len := B.b_len
  have b_range := B.b_range
  exact (ss_cons (ss_parN rfl (gns_cons (i := 5) nd rfl (by first | exact .inl rfl | exact .inr rfl) (.inl rfl) (gns_cons (i := 6) nd rfl (by first | exact .inl rfl | exact .inr rfl) (.inl rfl) (gns_cons (i := 7) nd rfl (by first | exact .inl rfl | exact .inr rfl) (.inl rfl) (gns_cons (i := 8) nd rfl (by first | exact .inl rfl | exact .inr rfl) (.inl rfl) (gns_cons (i := 9) nd rfl (by first | exact .inl rfl | exact .inr rfl) (.inl rfl) gns_nil rfl) rfl) rfl) rfl) rfl) (sm_own sf_dct0 (sm_own sf_dct0 (sm_own sf_dct0 (sm_own sf_dct0 (sm_val s_int sm_nil rfl) rfl) rfl) rfl) rfl) rfl (by decide) rfl rfl rfl rfl rfl) (ss_toL (i := 6) (ss_cons (ss_for owns rfl (si_sq (s_call c__law_stands hr hgd rfl (sa_cons (sv 0 rfl rfl rfl rfl) (sa_cons (sv 1 rfl rfl rfl rfl) sa_nil rfl) rfl) rfl rfl rfl)) (sg 2 nd rfl rfl (by first | exact .inl rfl | exact .inr rfl)) (ss_cons (ss_put (i := 5) hu rfl (by first | exact .inl rfl | exact .inr (.inl rfl)) rfl rfl s_int (sv 2 rfl rfl rfl rfl) (fun _ => rfl) rfl rfl rfl) (ss_cons (ss_for owns rfl (si_sq (s_call c__law_logs hr hgd rfl (sa_cons (sv 0 rfl rfl rfl rfl) (sa_cons (sv 2 rfl rfl rfl rfl) sa_nil rfl) rfl) rfl rfl rfl)) (sg 10 nd rfl rfl (by first | exact .inl rfl | exact .inr rfl)) (ss_cons (ss_set (i := 12) nd rfl (by first | exact .inl rfl | exact .inr rfl) (s_call c__law_behind hr hgd rfl (sa_cons (sv 0 rfl rfl rfl rfl) (sa_cons (sv 1 rfl rfl rfl rfl) (sa_cons (sv 2 rfl rfl rfl rfl) (sa_cons (sv 10 rfl rfl rfl rfl) sa_nil rfl) rfl) rfl) rfl) rfl rfl rfl) rfl (.inl rfl)) (ss_cons (ss_if (st_cmp (sv 12 rfl rfl rfl rfl) s_non d_isnt rfl) (ss_cons (ss_put (i := 5) hu rfl (by first | exact .inl rfl | exact .inr (.inl rfl)) rfl rfl (s_bin (s_idx (sv 5 rfl rfl rfl rfl) (sv 2 rfl rfl rfl rfl) (fun _ _ => rfl) hu) s_int d_add) (sv 2 rfl rfl rfl rfl) (fun _ => rfl) rfl rfl rfl) (ss_cons (ss_for owns rfl (si_sq (sv 12 rfl rfl rfl rfl)) (sg 14 nd rfl rfl (by first | exact .inl rfl | exact .inr rfl)) (ss_cons (ss_sdap (i := 6) hu rfl rfl rfl rfl (sv 14 rfl rfl rfl rfl) (s_tup (sa_cons (sv 2 rfl rfl rfl rfl) (sa_cons (sv 10 rfl rfl rfl rfl) sa_nil rfl) rfl) (by decide)) ⟨rfl, rfl, rfl, rfl⟩ rfl rfl rfl rfl rfl) ss_nil) (fun _ => rfl)) ss_nil)) ss_nil) ss_nil)) (fun _ => rfl)) ss_nil)) (fun _ => rfl)) (ss_fz (i := 6) (ss_cons (ss_lc (o := false) (own := [("stand", 2)]) (i := 3) rfl nd rfl rfl (sw_true rfl rfl rfl rfl) (si_sq (sv 5 rfl rfl rfl rfl)) (blkOk_by (own := [("stand", 2)]) (show blkC N__law_lost (defScope s__law_lost) _ _ = true by decide +kernel)) (fun _ _ _ _ _ => (sg 2 nd rfl rfl (by first | exact .inl rfl | exact .inr rfl))) (fun _ _ _ _ _ => (sts_one (st_cmp (s_idx (sv 5 rfl rfl rfl rfl) (sv 2 rfl rfl rfl rfl) (fun _ _ => rfl) hu) s_int (d_eq hu) rfl))) (fun _ _ _ _ _ => (sv 2 rfl rfl rfl rfl)) (fun _ => rfl) (by decide)) (ss_cons (ss_for owns rfl (si_rng1 rfl b_range (s_bltB d_len rfl b_len bt_len (sab_cons (sv 5 rfl rfl rfl rfl) sab_nil rfl) (by decide) rfl rfl rfl) rfl) (sg 4 nd rfl rfl (by first | exact .inl rfl | exact .inr rfl)) (ss_cons (ss_setO (i := 11) nd rfl (by first | exact .inl rfl | exact .inr rfl) (sf_lst sa_nil (by decide)) rfl (.inl rfl)) (ss_cons (ss_for owns rfl (si_sq (sv 3 rfl rfl rfl rfl)) (sg 2 nd rfl rfl (by first | exact .inl rfl | exact .inr rfl)) (ss_cons (ss_put (i := 8) hu rfl (by first | exact .inl rfl | exact .inr (.inl rfl)) rfl rfl (s_bltT d_int rfl b_int bt_int (sab_cons (sv 9 rfl rfl rfl rfl) sab_nil rfl) (by decide) rfl rfl rfl) (sv 2 rfl rfl rfl rfl) (fun _ => rfl) rfl rfl rfl) (ss_cons (ss_for owns rfl (si_sq (s_lc (own := [("one", 15)]) rfl nd (si_sq (s_getD hu (sv 6 rfl rfl rfl rfl) (sv 2 rfl rfl rfl rfl) (s_lst sa_nil (by decide)) ⟨rfl, rfl, rfl, rfl⟩)) (blkOk_by (own := [("one", 15)]) (show blkC N__law_lost (defScope s__law_lost) _ _ = true by decide +kernel)) (fun _ _ _ _ _ => (sg 15 nd rfl rfl (by first | exact .inl rfl | exact .inr rfl))) (fun _ _ _ _ _ => (sts_one (st_cmp (sv 15 rfl rfl rfl rfl) (sv 7 rfl rfl rfl rfl) (d_notin hu) rfl))) (fun _ _ _ _ _ => (sv 15 rfl rfl rfl rfl)) (fun _ => rfl) (by decide))) (sg 13 nd rfl rfl (by first | exact .inl rfl | exact .inr rfl)) (ss_cons (ss_put (i := 7) hu rfl (by first | exact .inl rfl | exact .inr (.inl rfl)) rfl rfl s_bl (sv 13 rfl rfl rfl rfl) (fun _ => rfl) rfl rfl rfl) (ss_cons (ss_put (i := 5) hu rfl (by first | exact .inl rfl | exact .inr (.inl rfl)) rfl rfl (s_bin (s_idx (sv 5 rfl rfl rfl rfl) (s_idx (sv 13 rfl rfl rfl rfl) s_int (fun _ _ => rfl) hu) (fun _ _ => rfl) hu) s_int d_sub) (s_idx (sv 13 rfl rfl rfl rfl) s_int (fun _ _ => rfl) hu) (fun _ => rfl) rfl rfl rfl) (ss_cons (ss_if (st_cmp (s_idx (sv 5 rfl rfl rfl rfl) (s_idx (sv 13 rfl rfl rfl rfl) s_int (fun _ _ => rfl) hu) (fun _ _ => rfl) hu) s_int (d_eq hu) rfl) (ss_cons (ss_app (i := 11) rfl (by first | exact .inl rfl | exact .inr (.inl rfl)) rfl rfl (s_idx (sv 13 rfl rfl rfl rfl) s_int (fun _ _ => rfl) hu) rfl rfl rfl rfl rfl) ss_nil) ss_nil) ss_nil))) (fun _ => rfl)) ss_nil)) (fun _ => rfl)) (ss_cons (ss_if (st_cmp (sv 11 rfl rfl rfl rfl) (s_lst sa_nil (by decide)) (d_eq hu) rfl) (ss_cons (ss_ret (sv 8 rfl rfl rfl rfl)) ss_nil) ss_nil) (ss_cons (ss_par2 (i := 3) (j := 9) rfl nd rfl rfl (by decide) rfl rfl (sm_val (sv 11 rfl rfl rfl rfl) (sm_val (s_bin (sv 9 rfl rfl rfl rfl) s_int d_add) sm_nil rfl) rfl) rfl rfl) ss_nil)))) (fun _ => rfl)) (ss_cons (ss_ret (sv 8 rfl rfl rfl rfl)) ss_nil)))))))
/-! _law_fine -/
abbrev N__law_fine : List Str := ["stove", "day", "ranks", "stand", "found", "logs", "theres", "there"]
abbrev a__law_fine : List Str := ["stove", "day", "ranks", "stand"]
theorem sc__law_fine : FnScope N__law_fine a__law_fine (defScope s__law_fine) := ⟨rfl, rfl, rfl, by decide +kernel, rfl, by decide +kernel, by decide +kernel⟩
def p__law_fine_2 : DL.PS := .seq (.ret (.var 4)) (.skip)
def p__law_fine_1 : DL.PS := .seq (.for_ (.nm 5) (.sq (.call 43 (.cons (.var 0) (.cons (.var 3) (.nil))))) (.seq (.set 6 (.call 42 (.cons (.var 0) (.cons (.var 1) (.cons (.var 3) (.cons (.var 5) (.nil))))))) (.seq (.ife (.band (.cmp .isnt (.var 6) (.lit .non)) (.not (.bitv .any (.lc (.cmp .isin (.var 7) (.var 2)) (.nm 7) (.sq (.var 6)) (.no) [7])))) (.seq (.app 4 (.blt .int (.cons (.var 5) (.nil)))) (.skip)) (.skip)) (.skip)))) (p__law_fine_2)
def p__law_fine : DL.PS := .seq (.setO 4 (.lst (.nil))) (p__law_fine_1)
theorem t__law_fine {qual : Str} {f : Addr} {cd : Value} {A : Around} {outer : List Env} {s : Shared} {H : Hp} (B : Fx mg) (c__law_behind : FnAt P w K mg base k "_law_behind" 4 (Γ 42)) (c__law_logs : FnAt P w K mg base k "_law_logs" 2 (Γ 43)) (hr : Room k (bodyX P w K mg base N__law_fine qual (defScope s__law_fine) f cd A outer s H).A) (hgd : (bodyX P w K mg base N__law_fine qual (defScope s__law_fine) f cd A outer s H).A.guards = some []) : SSs (Γ := Γ) (bodyX P w K mg base N__law_fine qual (defScope s__law_fine) f cd A outer s H) (defBody s__law_fine) p__law_fine := by
  have nd : N__law_fine.Nodup := sc__law_fine.nd
  have hu : (bodyX P w K mg base N__law_fine qual (defScope s__law_fine) f cd A outer s H).A.units + 70 < cLine := by have := hr.un; omega
  have b_any := B.b_any
  have b_int := B.b_int
  exact (ss_cons (ss_setO (i := 4) nd rfl (by first | exact .inl rfl | exact .inr rfl) (sf_lst sa_nil (by decide)) rfl (.inl rfl)) (ss_cons (ss_for owns rfl (si_sq (s_call c__law_logs hr hgd rfl (sa_cons (sv 0 rfl rfl rfl rfl) (sa_cons (sv 3 rfl rfl rfl rfl) sa_nil rfl) rfl) rfl rfl rfl)) (sg 5 nd rfl rfl (by first | exact .inl rfl | exact .inr rfl)) (ss_cons (ss_set (i := 6) nd rfl (by first | exact .inl rfl | exact .inr rfl) (s_call c__law_behind hr hgd rfl (sa_cons (sv 0 rfl rfl rfl rfl) (sa_cons (sv 1 rfl rfl rfl rfl) (sa_cons (sv 3 rfl rfl rfl rfl) (sa_cons (sv 5 rfl rfl rfl rfl) sa_nil rfl) rfl) rfl) rfl) rfl rfl rfl) rfl (.inl rfl)) (ss_cons (ss_if (SW.t (sw_and (st_cmp (sv 6 rfl rfl rfl rfl) s_non d_isnt rfl) (sw_and1 (st_not (st_val (S2.val (s_bitvB (d_any rfl) rfl b_any bt_any (s_lc (own := [("there", 7)]) rfl nd (si_sq (sv 6 rfl rfl rfl rfl)) (blkOk_by (own := [("there", 7)]) (show blkC N__law_fine (defScope s__law_fine) _ _ = true by decide +kernel)) (fun _ _ _ _ _ => (sg 7 nd rfl rfl (by first | exact .inl rfl | exact .inr rfl))) (fun _ _ _ _ _ => sts_no) (fun _ _ _ _ _ => (s_cmp (sv 7 rfl rfl rfl rfl) (sv 2 rfl rfl rfl rfl) (d_in hu) rfl)) (fun _ => rfl) (by decide)) (by decide) rfl rfl)) (fun _ => rfl)))))) (ss_cons (ss_app (i := 4) rfl (by first | exact .inl rfl | exact .inr (.inl rfl)) rfl rfl (s_bltT d_int rfl b_int bt_int (sab_cons (sv 5 rfl rfl rfl rfl) sab_nil rfl) (by decide) rfl rfl rfl) rfl rfl rfl rfl rfl) ss_nil) ss_nil) ss_nil)) (fun _ => rfl)) (ss_cons (ss_ret (sv 4 rfl rfl rfl rfl)) ss_nil)))
/-! _law_colder -/
abbrev N__law_colder : List Str := ["day", "more", "wish", "drop"]
abbrev a__law_colder : List Str := ["day", "more"]
theorem sc__law_colder : FnScope N__law_colder a__law_colder (defScope s__law_colder) := ⟨rfl, rfl, rfl, by decide +kernel, rfl, by decide +kernel, by decide +kernel⟩
def p__law_colder : DL.PS := .seq (.ret (.bitv .tuple (.lc (.tup (.cons (.var 2) (.cons (.tup (.cons (.idx (.var 3) (.lit (.int 0))) (.cons (.blt .max2 (.cons (.idx (.var 3) (.lit (.int 1))) (.cons (.blt .min2 (.cons (.lit (.int 8)) (.cons (.bin .add (.idx (.var 3) (.lit (.int 1))) (.var 1)) (.nil)))) (.nil)))) (.nil)))) (.nil)))) (.cons (.nm 2) (.one (.nm 3))) (.sq (.var 0)) (.no) [2, 3]))) (.skip)
theorem t__law_colder {qual : Str} {f : Addr} {cd : Value} {A : Around} {outer : List Env} {s : Shared} {H : Hp} (B : Fx mg)  (hr : Room k (bodyX P w K mg base N__law_colder qual (defScope s__law_colder) f cd A outer s H).A) (hgd : (bodyX P w K mg base N__law_colder qual (defScope s__law_colder) f cd A outer s H).A.guards = some []) : SSs (Γ := Γ) (bodyX P w K mg base N__law_colder qual (defScope s__law_colder) f cd A outer s H) (defBody s__law_colder) p__law_colder := by
  have nd : N__law_colder.Nodup := sc__law_colder.nd
  have hu : (bodyX P w K mg base N__law_colder qual (defScope s__law_colder) f cd A outer s H).A.units + 70 < cLine := by have := hr.un; omega
  have b_max := B.b_max
  have b_min := B.b_min
  have b_tuple := B.b_tuple
  exact (ss_cons (ss_ret (s_bitvT d_tuple rfl b_tuple bt_tuple (s_lc (own := [("wish", 2), ("drop", 3)]) rfl nd (si_sq (sv 0 rfl rfl rfl rfl)) (blkOk_by (own := [("wish", 2), ("drop", 3)]) (show blkC N__law_colder (defScope s__law_colder) _ _ = true by decide +kernel)) (fun _ _ _ _ _ => (sg_tup rfl (sgs_cons (sg 2 nd rfl rfl (by first | exact .inl rfl | exact .inr rfl)) (sgs_one (sg 3 nd rfl rfl (by first | exact .inl rfl | exact .inr rfl)) rfl) rfl) rfl rfl)) (fun _ _ _ _ _ => sts_no) (fun _ _ _ _ _ => (s_tup (sa_cons (sv 2 rfl rfl rfl rfl) (sa_cons (s_tup (sa_cons (s_idx (sv 3 rfl rfl rfl rfl) s_int (fun _ _ => rfl) hu) (sa_cons (s_bltB (d_max2 rfl) rfl b_max bt_max (sab_cons (s_idx (sv 3 rfl rfl rfl rfl) s_int (fun _ _ => rfl) hu) (sab_cons (s_bltB (d_min2 rfl) rfl b_min bt_min (sab_cons s_int (sab_cons (s_bin (s_idx (sv 3 rfl rfl rfl rfl) s_int (fun _ _ => rfl) hu) (sv 1 rfl rfl rfl rfl) d_add) sab_nil rfl) rfl) (by decide) rfl rfl rfl) sab_nil rfl) rfl) (by decide) rfl rfl rfl) sa_nil rfl) rfl) (by decide)) sa_nil rfl) rfl) (by decide))) (fun _ => rfl) (by decide)) (by decide) rfl rfl)) ss_nil)
/-! _law_others_right -/
abbrev N__law_others_right : List Str := ["stove", "day", "stand", "is_kept", "number", "fine", "most", "heat", "cold", "other"]
abbrev a__law_others_right : List Str := ["stove", "day", "stand", "is_kept"]
theorem sc__law_others_right : FnScope N__law_others_right a__law_others_right (defScope s__law_others_right) := ⟨rfl, rfl, rfl, by decide +kernel, rfl, by decide +kernel, by decide +kernel⟩
def p__law_others_right_6 : DL.PS := .seq (.ret (.bor (.cmp .eq (.var 8) (.lit (.int 12))) (.cmp .isin (.var 2) (.call 44 (.cons (.var 0) (.cons (.call 46 (.cons (.var 1) (.cons (.bin .add (.var 8) (.lit (.int 1))) (.nil)))) (.nil))))))) (.skip)
def p__law_others_right_5 : DL.PS := .seq (.ife (.bor (.cmp .notin (.blt .repr (.cons (.var 8) (.nil))) (.lc (.blt .repr (.cons (.var 4) (.nil))) (.nm 4) (.rng1 (.lit (.int 13))) (.no) [4])) (.cmp .isin (.var 2) (.call 44 (.cons (.var 0) (.cons (.call 46 (.cons (.var 1) (.cons (.var 8) (.nil)))) (.nil)))))) (.seq (.ret (.lit (.bl false))) (.skip)) (.skip)) (p__law_others_right_6)
def p__law_others_right_4 : DL.PS := .seq (.ife (.bor (.cmp .is_ (.var 8) (.lit .non)) (.not (.var 3))) (.seq (.ret (.band (.cmp .is_ (.var 8) (.lit .non)) (.not (.var 3)))) (.skip)) (.skip)) (p__law_others_right_5)
def p__law_others_right_3 : DL.PS := .seq (.ife (.cmp .ne (.blt .repr (.cons (.tup (.cons (.var 7) (.cons (.var 6) (.nil)))) (.nil))) (.blt .repr (.cons (.tup (.cons (.ife (.cmp .ne (.var 5) (.lst (.nil))) (.idx (.var 5) (.lit (.int 0))) (.lit .non)) (.cons (.ife (.cmp .is_ (.var 6) (.lit .non)) (.var 6) (.blt .int (.cons (.var 6) (.nil)))) (.nil)))) (.nil)))) (.seq (.ret (.lit (.bl false))) (.skip)) (.skip)) (p__law_others_right_4)
def p__law_others_right_2 : DL.PS := .seq (.set 5 (.lc (.blt .int (.cons (.var 4) (.nil))) (.nm 4) (.rng2 (.lit (.int 1)) (.lit (.int 6))) (.yes (.cmp .notin (.var 2) (.call 44 (.cons (.bin .add (.slc (.var 0) (.no) (.yes (.lit (.int 2)))) (.tup (.cons (.var 4) (.cons (.idx (.var 0) (.lit (.int 3))) (.nil))))) (.cons (.var 1) (.nil)))))) [4])) (p__law_others_right_3)
def p__law_others_right_1 : DL.PS := .seq (.for_ (.nm 4) (.rng1 (.lit (.int 5))) (.seq (.set 9 (.bin .add (.slc (.var 0) (.no) (.yes (.lit (.int 3)))) (.tup (.cons (.var 4) (.nil))))) (.seq (.ife (.cmp .ne (.cmp .notin (.var 2) (.call 44 (.cons (.var 9) (.cons (.var 1) (.nil))))) (.band (.cmp .isnt (.var 6) (.lit .non)) (.cmp .le (.var 6) (.var 4)))) (.seq (.ret (.lit (.bl false))) (.skip)) (.skip)) (.skip)))) (p__law_others_right_2)
def p__law_others_right : DL.PS := .seq (.par [6, 7, 8] [false, false, false] (.cons (.call 32 (.cons (.var 0) (.cons (.var 1) (.cons (.var 2) (.nil))))) (.cons (.call 33 (.cons (.var 0) (.cons (.var 1) (.cons (.var 2) (.nil))))) (.cons (.call 35 (.cons (.var 0) (.cons (.var 1) (.cons (.var 2) (.nil))))) (.nil))))) (p__law_others_right_1)
theorem t__law_others_right {qual : Str} {f : Addr} {cd : Value} {A : Around} {outer : List Env} {s : Shared} {H : Hp} (B : Fx mg) (c_least_most : FnAt P w K mg base k "least_most" 3 (Γ 32)) (c_least_heat : FnAt P w K mg base k "least_heat" 3 (Γ 33)) (c_coldest : FnAt P w K mg base k "coldest" 3 (Γ 35)) (c__law_lost : FnAt P w K mg base k "_law_lost" 2 (Γ 44)) (c__law_colder : FnAt P w K mg base k "_law_colder" 2 (Γ 46)) (hr : Room k (bodyX P w K mg base N__law_others_right qual (defScope s__law_others_right) f cd A outer s H).A) (hgd : (bodyX P w K mg base N__law_others_right qual (defScope s__law_others_right) f cd A outer s H).A.guards = some []) : SSs (Γ := Γ) (bodyX P w K mg base N__law_others_right qual (defScope s__law_others_right) f cd A outer s H) (defBody s__law_others_right) p__law_others_right := by
  have nd : N__law_others_right.Nodup := sc__law_others_right.nd
  have hu : (bodyX P w K mg base N__law_others_right qual (defScope s__law_others_right) f cd A outer s H).A.units + 70 < cLine := by have := hr.un; omega
  have b_int := B.b_int
  have b_range := B.b_range
  have b_repr := B.b_repr
  exact (ss_cons (ss_par3 (i := 6) (j := 7) (l := 8) rfl nd rfl rfl rfl (by decide) (by decide) (by decide) rfl rfl rfl (sm_val (s_call c_least_most hr hgd rfl (sa_cons (sv 0 rfl rfl rfl rfl) (sa_cons (sv 1 rfl rfl rfl rfl) (sa_cons (sv 2 rfl rfl rfl rfl) sa_nil rfl) rfl) rfl) rfl rfl rfl) (sm_val (s_call c_least_heat hr hgd rfl (sa_cons (sv 0 rfl rfl rfl rfl) (sa_cons (sv 1 rfl rfl rfl rfl) (sa_cons (sv 2 rfl rfl rfl rfl) sa_nil rfl) rfl) rfl) rfl rfl rfl) (sm_val (s_call c_coldest hr hgd rfl (sa_cons (sv 0 rfl rfl rfl rfl) (sa_cons (sv 1 rfl rfl rfl rfl) (sa_cons (sv 2 rfl rfl rfl rfl) sa_nil rfl) rfl) rfl) rfl rfl rfl) sm_nil rfl) rfl) rfl) rfl rfl) (ss_cons (ss_for owns rfl (si_rng1 rfl b_range s_int rfl) (sg 4 nd rfl rfl (by first | exact .inl rfl | exact .inr rfl)) (ss_cons (ss_set (i := 9) nd rfl (by first | exact .inl rfl | exact .inr rfl) (s_bin (s_slc (sv 0 rfl rfl rfl rfl) so_no (so_yes s_int)) (s_tup (sa_cons (sv 4 rfl rfl rfl rfl) sa_nil rfl) (by decide)) d_add) rfl (.inl rfl)) (ss_cons (ss_if (st_cmp (s_cmp (sv 2 rfl rfl rfl rfl) (s_call c__law_lost hr hgd rfl (sa_cons (sv 9 rfl rfl rfl rfl) (sa_cons (sv 1 rfl rfl rfl rfl) sa_nil rfl) rfl) rfl rfl rfl) (d_notin hu) rfl) (s_and (s_cmp (sv 6 rfl rfl rfl rfl) s_non d_isnt rfl) (s_last (s_cmp (sv 6 rfl rfl rfl rfl) (sv 4 rfl rfl rfl rfl) d_le rfl))) (d_ne hu) rfl) (ss_cons (ss_ret s_bl) ss_nil) ss_nil) ss_nil)) (fun _ => rfl)) (ss_cons (ss_lc (o := false) (own := [("number", 4)]) (i := 5) rfl nd rfl rfl (sw_true rfl rfl rfl rfl) (si_rng2 rfl b_range s_int s_int rfl rfl) (blkOk_by (own := [("number", 4)]) (show blkC N__law_others_right (defScope s__law_others_right) _ _ = true by decide +kernel)) (fun _ _ _ _ _ => (sg 4 nd rfl rfl (by first | exact .inl rfl | exact .inr rfl))) (fun _ _ _ _ _ => (sts_one (st_cmp (sv 2 rfl rfl rfl rfl) (s_call c__law_lost hr hgd rfl (sa_cons (s_bin (s_slc (sv 0 rfl rfl rfl rfl) so_no (so_yes s_int)) (s_tup (sa_cons (sv 4 rfl rfl rfl rfl) (sa_cons (s_idx (sv 0 rfl rfl rfl rfl) s_int (fun _ _ => rfl) hu) sa_nil rfl) rfl) (by decide)) d_add) (sa_cons (sv 1 rfl rfl rfl rfl) sa_nil rfl) rfl) rfl rfl rfl) (d_notin hu) rfl))) (fun _ _ _ _ _ => (s_bltT d_int rfl b_int bt_int (sab_cons (sv 4 rfl rfl rfl rfl) sab_nil rfl) (by decide) rfl rfl rfl)) (fun _ => rfl) (by decide)) (ss_cons (ss_if (st_cmp (s_bltB (d_repr hgd hu) rfl b_repr bt_repr (sab_cons (s_tup (sa_cons (sv 7 rfl rfl rfl rfl) (sa_cons (sv 6 rfl rfl rfl rfl) sa_nil rfl) rfl) (by decide)) sab_nil rfl) (by decide) rfl rfl rfl) (s_bltB (d_repr hgd hu) rfl b_repr bt_repr (sab_cons (s_tup (sa_cons (s_ife (st_cmp (sv 5 rfl rfl rfl rfl) (s_lst sa_nil (by decide)) (d_ne hu) rfl) (s_idx (sv 5 rfl rfl rfl rfl) s_int (fun _ _ => rfl) hu) s_non) (sa_cons (s_ife (st_cmp (sv 6 rfl rfl rfl rfl) s_non d_is rfl) (sv 6 rfl rfl rfl rfl) (s_bltT d_int rfl b_int bt_int (sab_cons (sv 6 rfl rfl rfl rfl) sab_nil rfl) (by decide) rfl rfl rfl)) sa_nil rfl) rfl) (by decide)) sab_nil rfl) (by decide) rfl rfl rfl) (d_ne hu) rfl) (ss_cons (ss_ret s_bl) ss_nil) ss_nil) (ss_cons (ss_if (SW.t (sw_or (st_cmp (sv 8 rfl rfl rfl rfl) s_non d_is rfl) (sw_or1 (st_not (st_val (S2.val (sv 3 rfl rfl rfl rfl)) (fun _ => rfl)))))) (ss_cons (ss_ret (s_and (s_cmp (sv 8 rfl rfl rfl rfl) s_non d_is rfl) (s_last (s_not (sv 3 rfl rfl rfl rfl))))) ss_nil) ss_nil) (ss_cons (ss_if (SW.t (sw_or (st_cmp (s_bltB (d_repr hgd hu) rfl b_repr bt_repr (sab_cons (sv 8 rfl rfl rfl rfl) sab_nil rfl) (by decide) rfl rfl rfl) (s_lc (own := [("number", 4)]) rfl nd (si_rng1 rfl b_range s_int rfl) (blkOk_by (own := [("number", 4)]) (show blkC N__law_others_right (defScope s__law_others_right) _ _ = true by decide +kernel)) (fun _ _ _ _ _ => (sg 4 nd rfl rfl (by first | exact .inl rfl | exact .inr rfl))) (fun _ _ _ _ _ => sts_no) (fun _ _ _ _ _ => (s_bltB (d_repr hgd hu) rfl b_repr bt_repr (sab_cons (sv 4 rfl rfl rfl rfl) sab_nil rfl) (by decide) rfl rfl rfl)) (fun _ => rfl) (by decide)) (d_notin hu) rfl) (sw_or1 (st_cmp (sv 2 rfl rfl rfl rfl) (s_call c__law_lost hr hgd rfl (sa_cons (sv 0 rfl rfl rfl rfl) (sa_cons (s_call c__law_colder hr hgd rfl (sa_cons (sv 1 rfl rfl rfl rfl) (sa_cons (sv 8 rfl rfl rfl rfl) sa_nil rfl) rfl) rfl rfl rfl) sa_nil rfl) rfl) rfl rfl rfl) (d_in hu) rfl)))) (ss_cons (ss_ret s_bl) ss_nil) ss_nil) (ss_cons (ss_ret (s_or (s_cmp (sv 8 rfl rfl rfl rfl) s_int (d_eq hu) rfl) (s_last (s_cmp (sv 2 rfl rfl rfl rfl) (s_call c__law_lost hr hgd rfl (sa_cons (sv 0 rfl rfl rfl rfl) (sa_cons (s_call c__law_colder hr hgd rfl (sa_cons (sv 1 rfl rfl rfl rfl) (sa_cons (s_bin (sv 8 rfl rfl rfl rfl) s_int d_add) sa_nil rfl) rfl) rfl rfl rfl) sa_nil rfl) rfl) rfl rfl rfl) (d_in hu) rfl)))) ss_nil)))))))
/-! _law_right -/
abbrev N__law_right : List Str := ["pot", "stove", "day", "kept", "fine", "stand", "book", "some", "later", "words", "ranks", "stands", "told", "is_kept", "one", "number"]
abbrev a__law_right : List Str := ["pot"]
theorem sc__law_right : FnScope N__law_right a__law_right (defScope s__law_right) := ⟨rfl, rfl, rfl, by decide +kernel, rfl, by decide +kernel, by decide +kernel⟩
def p__law_right_14 : DL.PS := .seq (.ret (.cmp .eq (.blt .repr (.cons (.var 9) (.nil))) (.blt .repr (.cons (.lst (.cons (.var 13) (.cons (.not (.var 13)) (.cons (.not (.var 13)) (.nil))))) (.nil))))) (.skip)
def p__law_right_13 : DL.PS := .seq (.set 9 (.lst (.cons (.call 31 (.cons (.var 1) (.cons (.var 2) (.cons (.var 5) (.cons (.tup (.cons (.lit (.str "kept")) (.cons (.var 6) (.nil)))) (.nil)))))) (.cons (.call 31 (.cons (.var 1) (.cons (.var 2) (.cons (.var 5) (.cons (.tup (.cons (.lit (.str "lost")) (.cons (.var 7) (.nil)))) (.nil)))))) (.cons (.call 31 (.cons (.var 1) (.cons (.var 2) (.cons (.var 5) (.cons (.tup (.cons (.lit (.str "lost")) (.cons (.var 8) (.nil)))) (.nil)))))) (.nil)))))) (p__law_right_14)
def p__law_right_12 : DL.PS := .seq (.set 8 (.bitv .tuple (.lc (.tup (.cons (.var 14) (.cons (.bin .add (.var 15) (.lit (.int 1))) (.nil)))) (.cons (.nm 14) (.one (.nm 15))) (.sq (.var 7)) (.no) [14, 15]))) (p__law_right_13)
def p__law_right_11 : DL.PS := .seq (.set 7 (.bitv .tuple (.bitv .sorted (.lc (.tup (.cons (.var 14) (.cons (.idx (.var 10) (.var 14)) (.nil)))) (.nm 14) (.sq (.var 10)) (.no) [14])))) (p__law_right_12)
def p__law_right_10 : DL.PS := .seq (.set 6 (.bitv .tuple (.lc (.tup (.cons (.var 14) (.cons (.idx (.idx (.var 4) (.var 14)) (.neg (.lit (.int 1)))) (.nil)))) (.nm 14) (.sq (.var 3)) (.no) [14]))) (p__law_right_11)
def p__law_right_9 : DL.PS := .seq (.ife (.bor (.cmp .ne (.cmp .eq (.idx (.var 12) (.lit (.int 0))) (.lit (.str "kept"))) (.var 13)) (.bor (.cmp .isnt (.call 31 (.cons (.var 1) (.cons (.var 2) (.cons (.var 5) (.cons (.var 12) (.nil)))))) (.lit (.bl true))) (.cmp .ne (.blt .repr (.cons (.call 25 (.cons (.var 1) (.cons (.var 2) (.cons (.var 5) (.nil))))) (.nil))) (.blt .repr (.cons (.meth .get (.var 10) (.cons (.var 5) .nil)) (.nil)))))) (.seq (.ret (.lit (.bl false))) (.skip)) (.skip)) (p__law_right_10)
def p__law_right_8 : DL.PS := .seq (.par [12, 13] [false, false] (.cons (.call 26 (.cons (.var 1) (.cons (.var 2) (.cons (.var 5) (.nil))))) (.cons (.cmp .isin (.var 5) (.var 4)) (.nil)))) (p__law_right_9)
def p__law_right_7 : DL.PS := .seq (.set 5 (.ife (.band (.cmp .ne (.var 3) (.lst (.nil))) (.cmp .eq (.call 37 (.cons (.var 0) (.cons (.lit (.int 2)) (.nil)))) (.lit (.int 0)))) (.call 38 (.cons (.var 0) (.cons (.var 3) (.nil)))) (.call 38 (.cons (.var 0) (.cons (.var 11) (.nil)))))) (p__law_right_8)
def p__law_right_6 : DL.PS := .seq (.ife (.cmp .ne (.blt .repr (.cons (.call 24 (.cons (.var 1) (.cons (.var 2) (.nil)))) (.nil))) (.blt .repr (.cons (.bitv .tuple (.lc (.tup (.cons (.var 5) (.cons (.idx (.idx (.var 4) (.var 5)) (.lit (.int 0))) (.nil)))) (.nm 5) (.sq (.var 3)) (.no) [5])) (.nil)))) (.seq (.ret (.lit (.bl false))) (.skip)) (.skip)) (p__law_right_7)
def p__law_right_5 : DL.PS := .seq (.set 4 (.bitv .dict (.lc (.tup (.cons (.var 5) (.cons (.call 45 (.cons (.var 1) (.cons (.var 2) (.cons (.var 10) (.cons (.var 5) (.nil)))))) (.nil)))) (.nm 5) (.sq (.var 3)) (.no) [5]))) (p__law_right_6)
def p__law_right_4 : DL.PS := .seq (.ife (.cmp .ne (.blt .repr (.cons (.call 23 (.cons (.var 1) (.cons (.var 2) (.nil)))) (.nil))) (.blt .repr (.cons (.bitv .tuple (.var 3)) (.nil)))) (.seq (.ret (.lit (.bl false))) (.skip)) (.skip)) (p__law_right_5)
def p__law_right_3 : DL.PS := .seq (.set 3 (.lc (.var 5) (.nm 5) (.sq (.var 11)) (.yes (.cmp .notin (.var 5) (.var 10))) [5])) (p__law_right_4)
def p__law_right_2 : DL.PS := .seq (.par [10, 11] [false, false] (.cons (.call 44 (.cons (.var 1) (.cons (.var 2) (.nil)))) (.cons (.call 41 (.cons (.var 1) (.cons (.var 2) (.nil)))) (.nil)))) (p__law_right_3)
def p__law_right_1 : DL.PS := .seq (.set 2 (.call 40 (.cons (.var 0) (.cons (.lit (.int 6)) (.nil))))) (p__law_right_2)
def p__law_right : DL.PS := .seq (.set 1 (.call 39 (.cons (.var 0) (.cons (.lit (.int 10)) (.nil))))) (p__law_right_1)
theorem t__law_right {qual : Str} {f : Addr} {cd : Value} {A : Around} {outer : List Env} {s : Shared} {H : Hp} (B : Fx mg) (c_always : FnAt P w K mg base k "always" 2 (Γ 23)) (c_firing : FnAt P w K mg base k "firing" 2 (Γ 24)) (c_lost_by : FnAt P w K mg base k "lost_by" 3 (Γ 25)) (c_kept_told : FnAt P w K mg base k "kept_told" 3 (Γ 26)) (c_shows_kept : FnAt P w K mg base k "shows_kept" 4 (Γ 31)) (c__law_take : FnAt P w K mg base k "_law_take" 2 (Γ 37)) (c__law_of : FnAt P w K mg base k "_law_of" 2 (Γ 38)) (c__law_stove : FnAt P w K mg base k "_law_stove" 2 (Γ 39)) (c__law_day : FnAt P w K mg base k "_law_day" 2 (Γ 40)) (c__law_stands : FnAt P w K mg base k "_law_stands" 2 (Γ 41)) (c__law_lost : FnAt P w K mg base k "_law_lost" 2 (Γ 44)) (c__law_fine : FnAt P w K mg base k "_law_fine" 4 (Γ 45)) (hr : Room k (bodyX P w K mg base N__law_right qual (defScope s__law_right) f cd A outer s H).A) (hgd : (bodyX P w K mg base N__law_right qual (defScope s__law_right) f cd A outer s H).A.guards = some []) : SSs (Γ := Γ) (bodyX P w K mg base N__law_right qual (defScope s__law_right) f cd A outer s H) (defBody s__law_right) p__law_right := by
  have nd : N__law_right.Nodup := sc__law_right.nd
  have hu : (bodyX P w K mg base N__law_right qual (defScope s__law_right) f cd A outer s H).A.units + 70 < cLine := by have := hr.un; omega
  have b_dict := B.b_dict
  have b_repr := B.b_repr
  have b_sorted := B.b_sorted
  have b_tuple := B.b_tuple
  exact (ss_cons (ss_set (i := 1) nd rfl (by first | exact .inl rfl | exact .inr rfl) (s_call c__law_stove hr hgd rfl (sa_cons (sv 0 rfl rfl rfl rfl) (sa_cons s_int sa_nil rfl) rfl) rfl rfl rfl) rfl (.inl rfl)) (ss_cons (ss_set (i := 2) nd rfl (by first | exact .inl rfl | exact .inr rfl) (s_call c__law_day hr hgd rfl (sa_cons (sv 0 rfl rfl rfl rfl) (sa_cons s_int sa_nil rfl) rfl) rfl rfl rfl) rfl (.inl rfl)) (ss_cons (ss_parN rfl (gns_cons (i := 10) nd rfl (by first | exact .inl rfl | exact .inr rfl) (.inl rfl) (gns_cons (i := 11) nd rfl (by first | exact .inl rfl | exact .inr rfl) (.inl rfl) gns_nil rfl) rfl) (sm_val (s_call c__law_lost hr hgd rfl (sa_cons (sv 1 rfl rfl rfl rfl) (sa_cons (sv 2 rfl rfl rfl rfl) sa_nil rfl) rfl) rfl rfl rfl) (sm_val (s_call c__law_stands hr hgd rfl (sa_cons (sv 1 rfl rfl rfl rfl) (sa_cons (sv 2 rfl rfl rfl rfl) sa_nil rfl) rfl) rfl rfl rfl) sm_nil rfl) rfl) rfl (by decide) rfl rfl rfl rfl rfl) (ss_cons (ss_lc (o := false) (own := [("stand", 5)]) (i := 3) rfl nd rfl rfl (sw_true rfl rfl rfl rfl) (si_sq (sv 11 rfl rfl rfl rfl)) (blkOk_by (own := [("stand", 5)]) (show blkC N__law_right (defScope s__law_right) _ _ = true by decide +kernel)) (fun _ _ _ _ _ => (sg 5 nd rfl rfl (by first | exact .inl rfl | exact .inr rfl))) (fun _ _ _ _ _ => (sts_one (st_cmp (sv 5 rfl rfl rfl rfl) (sv 10 rfl rfl rfl rfl) (d_notin hu) rfl))) (fun _ _ _ _ _ => (sv 5 rfl rfl rfl rfl)) (fun _ => rfl) (by decide)) (ss_cons (ss_if (st_cmp (s_bltB (d_repr hgd hu) rfl b_repr bt_repr (sab_cons (s_call c_always hr hgd rfl (sa_cons (sv 1 rfl rfl rfl rfl) (sa_cons (sv 2 rfl rfl rfl rfl) sa_nil rfl) rfl) rfl rfl rfl) sab_nil rfl) (by decide) rfl rfl rfl) (s_bltB (d_repr hgd hu) rfl b_repr bt_repr (sab_cons (s_bitvT d_tuple rfl b_tuple bt_tuple (sv 3 rfl rfl rfl rfl) (by decide) rfl rfl) sab_nil rfl) (by decide) rfl rfl rfl) (d_ne hu) rfl) (ss_cons (ss_ret s_bl) ss_nil) ss_nil) (ss_cons (ss_set (i := 4) nd rfl (by first | exact .inl rfl | exact .inr rfl) (s_bitvT (d_dict rfl hu) rfl b_dict bt_dict (s_lc (own := [("stand", 5)]) rfl nd (si_sq (sv 3 rfl rfl rfl rfl)) (blkOk_by (own := [("stand", 5)]) (show blkC N__law_right (defScope s__law_right) _ _ = true by decide +kernel)) (fun _ _ _ _ _ => (sg 5 nd rfl rfl (by first | exact .inl rfl | exact .inr rfl))) (fun _ _ _ _ _ => sts_no) (fun _ _ _ _ _ => (s_tup (sa_cons (sv 5 rfl rfl rfl rfl) (sa_cons (s_call c__law_fine hr hgd rfl (sa_cons (sv 1 rfl rfl rfl rfl) (sa_cons (sv 2 rfl rfl rfl rfl) (sa_cons (sv 10 rfl rfl rfl rfl) (sa_cons (sv 5 rfl rfl rfl rfl) sa_nil rfl) rfl) rfl) rfl) rfl rfl rfl) sa_nil rfl) rfl) (by decide))) (fun _ => rfl) (by decide)) (by decide) rfl rfl) rfl (.inl rfl)) (ss_cons (ss_if (st_cmp (s_bltB (d_repr hgd hu) rfl b_repr bt_repr (sab_cons (s_call c_firing hr hgd rfl (sa_cons (sv 1 rfl rfl rfl rfl) (sa_cons (sv 2 rfl rfl rfl rfl) sa_nil rfl) rfl) rfl rfl rfl) sab_nil rfl) (by decide) rfl rfl rfl) (s_bltB (d_repr hgd hu) rfl b_repr bt_repr (sab_cons (s_bitvT d_tuple rfl b_tuple bt_tuple (s_lc (own := [("stand", 5)]) rfl nd (si_sq (sv 3 rfl rfl rfl rfl)) (blkOk_by (own := [("stand", 5)]) (show blkC N__law_right (defScope s__law_right) _ _ = true by decide +kernel)) (fun _ _ _ _ _ => (sg 5 nd rfl rfl (by first | exact .inl rfl | exact .inr rfl))) (fun _ _ _ _ _ => sts_no) (fun _ _ _ _ _ => (s_tup (sa_cons (sv 5 rfl rfl rfl rfl) (sa_cons (s_idx (s_idx (sv 4 rfl rfl rfl rfl) (sv 5 rfl rfl rfl rfl) (fun _ _ => rfl) hu) s_int (fun _ _ => rfl) hu) sa_nil rfl) rfl) (by decide))) (fun _ => rfl) (by decide)) (by decide) rfl rfl) sab_nil rfl) (by decide) rfl rfl rfl) (d_ne hu) rfl) (ss_cons (ss_ret s_bl) ss_nil) ss_nil) (ss_cons (ss_set (i := 5) nd rfl (by first | exact .inl rfl | exact .inr rfl) (s_ife (SW.t (sw_and (st_cmp (sv 3 rfl rfl rfl rfl) (s_lst sa_nil (by decide)) (d_ne hu) rfl) (sw_and1 (st_cmp (s_call c__law_take hr hgd rfl (sa_cons (sv 0 rfl rfl rfl rfl) (sa_cons s_int sa_nil rfl) rfl) rfl rfl rfl) s_int (d_eq hu) rfl)))) (s_call c__law_of hr hgd rfl (sa_cons (sv 0 rfl rfl rfl rfl) (sa_cons (sv 3 rfl rfl rfl rfl) sa_nil rfl) rfl) rfl rfl rfl) (s_call c__law_of hr hgd rfl (sa_cons (sv 0 rfl rfl rfl rfl) (sa_cons (sv 11 rfl rfl rfl rfl) sa_nil rfl) rfl) rfl rfl rfl)) rfl (.inl rfl)) (ss_cons (ss_par2 (i := 12) (j := 13) rfl nd rfl rfl (by decide) rfl rfl (sm_val (s_call c_kept_told hr hgd rfl (sa_cons (sv 1 rfl rfl rfl rfl) (sa_cons (sv 2 rfl rfl rfl rfl) (sa_cons (sv 5 rfl rfl rfl rfl) sa_nil rfl) rfl) rfl) rfl rfl rfl) (sm_val (s_cmp (sv 5 rfl rfl rfl rfl) (sv 4 rfl rfl rfl rfl) (d_in hu) rfl) sm_nil rfl) rfl) rfl rfl) (ss_cons (ss_if (SW.t (sw_or (st_cmp (s_cmp (s_idx (sv 12 rfl rfl rfl rfl) s_int (fun _ _ => rfl) hu) s_str (d_eq hu) rfl) (sv 13 rfl rfl rfl rfl) (d_ne hu) rfl) (sw_or (st_cmp (s_call c_shows_kept hr hgd rfl (sa_cons (sv 1 rfl rfl rfl rfl) (sa_cons (sv 2 rfl rfl rfl rfl) (sa_cons (sv 5 rfl rfl rfl rfl) (sa_cons (sv 12 rfl rfl rfl rfl) sa_nil rfl) rfl) rfl) rfl) rfl rfl rfl) s_bl d_isnt rfl) (sw_or1 (st_cmp (s_bltB (d_repr hgd hu) rfl b_repr bt_repr (sab_cons (s_call c_lost_by hr hgd rfl (sa_cons (sv 1 rfl rfl rfl rfl) (sa_cons (sv 2 rfl rfl rfl rfl) (sa_cons (sv 5 rfl rfl rfl rfl) sa_nil rfl) rfl) rfl) rfl rfl rfl) sab_nil rfl) (by decide) rfl rfl rfl) (s_bltB (d_repr hgd hu) rfl b_repr bt_repr (sab_cons (s_get hu (sv 10 rfl rfl rfl rfl) (sv 5 rfl rfl rfl rfl) ⟨rfl, rfl, rfl, rfl⟩) sab_nil rfl) (by decide) rfl rfl rfl) (d_ne hu) rfl))))) (ss_cons (ss_ret s_bl) ss_nil) ss_nil) (ss_cons (ss_set (i := 6) nd rfl (by first | exact .inl rfl | exact .inr rfl) (s_bitvT d_tuple rfl b_tuple bt_tuple (s_lc (own := [("one", 14)]) rfl nd (si_sq (sv 3 rfl rfl rfl rfl)) (blkOk_by (own := [("one", 14)]) (show blkC N__law_right (defScope s__law_right) _ _ = true by decide +kernel)) (fun _ _ _ _ _ => (sg 14 nd rfl rfl (by first | exact .inl rfl | exact .inr rfl))) (fun _ _ _ _ _ => sts_no) (fun _ _ _ _ _ => (s_tup (sa_cons (sv 14 rfl rfl rfl rfl) (sa_cons (s_idx (s_idx (sv 4 rfl rfl rfl rfl) (sv 14 rfl rfl rfl rfl) (fun _ _ => rfl) hu) (s_neg s_int) (fun _ _ => rfl) hu) sa_nil rfl) rfl) (by decide))) (fun _ => rfl) (by decide)) (by decide) rfl rfl) rfl (.inl rfl)) (ss_cons (ss_set (i := 7) nd rfl (by first | exact .inl rfl | exact .inr rfl) (s_bitvT d_tuple rfl b_tuple bt_tuple (s_bitvB (d_sorted rfl hu) rfl b_sorted bt_sorted (s_lc (own := [("one", 14)]) rfl nd (si_sq (sv 10 rfl rfl rfl rfl)) (blkOk_by (own := [("one", 14)]) (show blkC N__law_right (defScope s__law_right) _ _ = true by decide +kernel)) (fun _ _ _ _ _ => (sg 14 nd rfl rfl (by first | exact .inl rfl | exact .inr rfl))) (fun _ _ _ _ _ => sts_no) (fun _ _ _ _ _ => (s_tup (sa_cons (sv 14 rfl rfl rfl rfl) (sa_cons (s_idx (sv 10 rfl rfl rfl rfl) (sv 14 rfl rfl rfl rfl) (fun _ _ => rfl) hu) sa_nil rfl) rfl) (by decide))) (fun _ => rfl) (by decide)) (by decide) rfl rfl) (by decide) rfl rfl) rfl (.inl rfl)) (ss_cons (ss_set (i := 8) nd rfl (by first | exact .inl rfl | exact .inr rfl) (s_bitvT d_tuple rfl b_tuple bt_tuple (s_lc (own := [("one", 14), ("number", 15)]) rfl nd (si_sq (sv 7 rfl rfl rfl rfl)) (blkOk_by (own := [("one", 14), ("number", 15)]) (show blkC N__law_right (defScope s__law_right) _ _ = true by decide +kernel)) (fun _ _ _ _ _ => (sg_tup rfl (sgs_cons (sg 14 nd rfl rfl (by first | exact .inl rfl | exact .inr rfl)) (sgs_one (sg 15 nd rfl rfl (by first | exact .inl rfl | exact .inr rfl)) rfl) rfl) rfl rfl)) (fun _ _ _ _ _ => sts_no) (fun _ _ _ _ _ => (s_tup (sa_cons (sv 14 rfl rfl rfl rfl) (sa_cons (s_bin (sv 15 rfl rfl rfl rfl) s_int d_add) sa_nil rfl) rfl) (by decide))) (fun _ => rfl) (by decide)) (by decide) rfl rfl) rfl (.inl rfl)) (ss_cons (ss_set (i := 9) nd rfl (by first | exact .inl rfl | exact .inr rfl) (s_lst (sa_cons (s_call c_shows_kept hr hgd rfl (sa_cons (sv 1 rfl rfl rfl rfl) (sa_cons (sv 2 rfl rfl rfl rfl) (sa_cons (sv 5 rfl rfl rfl rfl) (sa_cons (s_tup (sa_cons s_str (sa_cons (sv 6 rfl rfl rfl rfl) sa_nil rfl) rfl) (by decide)) sa_nil rfl) rfl) rfl) rfl) rfl rfl rfl) (sa_cons (s_call c_shows_kept hr hgd rfl (sa_cons (sv 1 rfl rfl rfl rfl) (sa_cons (sv 2 rfl rfl rfl rfl) (sa_cons (sv 5 rfl rfl rfl rfl) (sa_cons (s_tup (sa_cons s_str (sa_cons (sv 7 rfl rfl rfl rfl) sa_nil rfl) rfl) (by decide)) sa_nil rfl) rfl) rfl) rfl) rfl rfl rfl) (sa_cons (s_call c_shows_kept hr hgd rfl (sa_cons (sv 1 rfl rfl rfl rfl) (sa_cons (sv 2 rfl rfl rfl rfl) (sa_cons (sv 5 rfl rfl rfl rfl) (sa_cons (s_tup (sa_cons s_str (sa_cons (sv 8 rfl rfl rfl rfl) sa_nil rfl) rfl) (by decide)) sa_nil rfl) rfl) rfl) rfl) rfl rfl rfl) sa_nil rfl) rfl) rfl) (by decide)) rfl (.inl rfl)) (ss_cons (ss_ret (s_cmp (s_bltB (d_repr hgd hu) rfl b_repr bt_repr (sab_cons (sv 9 rfl rfl rfl rfl) sab_nil rfl) (by decide) rfl rfl rfl) (s_bltB (d_repr hgd hu) rfl b_repr bt_repr (sab_cons (s_lst (sa_cons (sv 13 rfl rfl rfl rfl) (sa_cons (s_not (sv 13 rfl rfl rfl rfl)) (sa_cons (s_not (sv 13 rfl rfl rfl rfl)) sa_nil rfl) rfl) rfl) (by decide)) sab_nil rfl) (by decide) rfl rfl rfl) (d_eq hu) rfl)) ss_nil)))))))))))))))
/-! _law_is_other_right -/
abbrev N__law_is_other_right : List Str := ["pot", "stove", "day", "kept", "stand", "ranks", "stands"]
abbrev a__law_is_other_right : List Str := ["pot"]
theorem sc__law_is_other_right : FnScope N__law_is_other_right a__law_is_other_right (defScope s__law_is_other_right) := ⟨rfl, rfl, rfl, by decide +kernel, rfl, by decide +kernel, by decide +kernel⟩
def p__law_is_other_right_5 : DL.PS := .seq (.ret (.call 47 (.cons (.var 1) (.cons (.var 2) (.cons (.var 4) (.cons (.cmp .notin (.var 4) (.var 5)) (.nil))))))) (.skip)
def p__law_is_other_right_4 : DL.PS := .seq (.set 4 (.ife (.band (.cmp .ne (.var 3) (.lst (.nil))) (.cmp .gt (.call 37 (.cons (.var 0) (.cons (.lit (.int 4)) (.nil)))) (.lit (.int 0)))) (.call 38 (.cons (.var 0) (.cons (.var 3) (.nil)))) (.call 38 (.cons (.var 0) (.cons (.var 6) (.nil)))))) (p__law_is_other_right_5)
def p__law_is_other_right_3 : DL.PS := .seq (.set 3 (.lc (.var 4) (.nm 4) (.sq (.var 6)) (.yes (.cmp .notin (.var 4) (.var 5))) [4])) (p__law_is_other_right_4)
def p__law_is_other_right_2 : DL.PS := .seq (.par [5, 6] [false, false] (.cons (.call 44 (.cons (.var 1) (.cons (.var 2) (.nil)))) (.cons (.call 41 (.cons (.var 1) (.cons (.var 2) (.nil)))) (.nil)))) (p__law_is_other_right_3)
def p__law_is_other_right_1 : DL.PS := .seq (.set 2 (.call 40 (.cons (.var 0) (.cons (.lit (.int 2)) (.nil))))) (p__law_is_other_right_2)
def p__law_is_other_right : DL.PS := .seq (.set 1 (.call 39 (.cons (.var 0) (.cons (.lit (.int 10)) (.nil))))) (p__law_is_other_right_1)
theorem t__law_is_other_right {qual : Str} {f : Addr} {cd : Value} {A : Around} {outer : List Env} {s : Shared} {H : Hp} (B : Fx mg) (c__law_take : FnAt P w K mg base k "_law_take" 2 (Γ 37)) (c__law_of : FnAt P w K mg base k "_law_of" 2 (Γ 38)) (c__law_stove : FnAt P w K mg base k "_law_stove" 2 (Γ 39)) (c__law_day : FnAt P w K mg base k "_law_day" 2 (Γ 40)) (c__law_stands : FnAt P w K mg base k "_law_stands" 2 (Γ 41)) (c__law_lost : FnAt P w K mg base k "_law_lost" 2 (Γ 44)) (c__law_others_right : FnAt P w K mg base k "_law_others_right" 4 (Γ 47)) (hr : Room k (bodyX P w K mg base N__law_is_other_right qual (defScope s__law_is_other_right) f cd A outer s H).A) (hgd : (bodyX P w K mg base N__law_is_other_right qual (defScope s__law_is_other_right) f cd A outer s H).A.guards = some []) : SSs (Γ := Γ) (bodyX P w K mg base N__law_is_other_right qual (defScope s__law_is_other_right) f cd A outer s H) (defBody s__law_is_other_right) p__law_is_other_right := by
  have nd : N__law_is_other_right.Nodup := sc__law_is_other_right.nd
  have hu : (bodyX P w K mg base N__law_is_other_right qual (defScope s__law_is_other_right) f cd A outer s H).A.units + 70 < cLine := by have := hr.un; omega
  exact (ss_cons (ss_set (i := 1) nd rfl (by first | exact .inl rfl | exact .inr rfl) (s_call c__law_stove hr hgd rfl (sa_cons (sv 0 rfl rfl rfl rfl) (sa_cons s_int sa_nil rfl) rfl) rfl rfl rfl) rfl (.inl rfl)) (ss_cons (ss_set (i := 2) nd rfl (by first | exact .inl rfl | exact .inr rfl) (s_call c__law_day hr hgd rfl (sa_cons (sv 0 rfl rfl rfl rfl) (sa_cons s_int sa_nil rfl) rfl) rfl rfl rfl) rfl (.inl rfl)) (ss_cons (ss_parN rfl (gns_cons (i := 5) nd rfl (by first | exact .inl rfl | exact .inr rfl) (.inl rfl) (gns_cons (i := 6) nd rfl (by first | exact .inl rfl | exact .inr rfl) (.inl rfl) gns_nil rfl) rfl) (sm_val (s_call c__law_lost hr hgd rfl (sa_cons (sv 1 rfl rfl rfl rfl) (sa_cons (sv 2 rfl rfl rfl rfl) sa_nil rfl) rfl) rfl rfl rfl) (sm_val (s_call c__law_stands hr hgd rfl (sa_cons (sv 1 rfl rfl rfl rfl) (sa_cons (sv 2 rfl rfl rfl rfl) sa_nil rfl) rfl) rfl rfl rfl) sm_nil rfl) rfl) rfl (by decide) rfl rfl rfl rfl rfl) (ss_cons (ss_lc (o := false) (own := [("stand", 4)]) (i := 3) rfl nd rfl rfl (sw_true rfl rfl rfl rfl) (si_sq (sv 6 rfl rfl rfl rfl)) (blkOk_by (own := [("stand", 4)]) (show blkC N__law_is_other_right (defScope s__law_is_other_right) _ _ = true by decide +kernel)) (fun _ _ _ _ _ => (sg 4 nd rfl rfl (by first | exact .inl rfl | exact .inr rfl))) (fun _ _ _ _ _ => (sts_one (st_cmp (sv 4 rfl rfl rfl rfl) (sv 5 rfl rfl rfl rfl) (d_notin hu) rfl))) (fun _ _ _ _ _ => (sv 4 rfl rfl rfl rfl)) (fun _ => rfl) (by decide)) (ss_cons (ss_set (i := 4) nd rfl (by first | exact .inl rfl | exact .inr rfl) (s_ife (SW.t (sw_and (st_cmp (sv 3 rfl rfl rfl rfl) (s_lst sa_nil (by decide)) (d_ne hu) rfl) (sw_and1 (st_cmp (s_call c__law_take hr hgd rfl (sa_cons (sv 0 rfl rfl rfl rfl) (sa_cons s_int sa_nil rfl) rfl) rfl rfl rfl) s_int d_gt rfl)))) (s_call c__law_of hr hgd rfl (sa_cons (sv 0 rfl rfl rfl rfl) (sa_cons (sv 3 rfl rfl rfl rfl) sa_nil rfl) rfl) rfl rfl rfl) (s_call c__law_of hr hgd rfl (sa_cons (sv 0 rfl rfl rfl rfl) (sa_cons (sv 6 rfl rfl rfl rfl) sa_nil rfl) rfl) rfl rfl rfl)) rfl (.inl rfl)) (ss_cons (ss_ret (s_call c__law_others_right hr hgd rfl (sa_cons (sv 1 rfl rfl rfl rfl) (sa_cons (sv 2 rfl rfl rfl rfl) (sa_cons (sv 4 rfl rfl rfl rfl) (sa_cons (s_cmp (sv 4 rfl rfl rfl rfl) (sv 5 rfl rfl rfl rfl) (d_notin hu) rfl) sa_nil rfl) rfl) rfl) rfl) rfl rfl rfl)) ss_nil))))))
/-! law -/
abbrev N_law : List Str := ["script"]
abbrev a_law : List Str := ["script"]
theorem sc_law : FnScope N_law a_law (defScope s_law) := ⟨rfl, rfl, rfl, by decide +kernel, rfl, by decide +kernel, by decide +kernel⟩
def p_law : DL.PS := .seq (.ret (.band (.call 48 (.cons (.call 36 (.cons (.var 0) (.cons (.lit (.int 0)) (.nil)))) (.nil))) (.call 49 (.cons (.call 36 (.cons (.var 0) (.cons (.lit (.int 1)) (.nil)))) (.nil))))) (.skip)
theorem t_law {qual : Str} {f : Addr} {cd : Value} {A : Around} {outer : List Env} {s : Shared} {H : Hp} (B : Fx mg) (c__law_pot : FnAt P w K mg base k "_law_pot" 2 (Γ 36)) (c__law_right : FnAt P w K mg base k "_law_right" 1 (Γ 48)) (c__law_is_other_right : FnAt P w K mg base k "_law_is_other_right" 1 (Γ 49)) (hr : Room k (bodyX P w K mg base N_law qual (defScope s_law) f cd A outer s H).A) (hgd : (bodyX P w K mg base N_law qual (defScope s_law) f cd A outer s H).A.guards = some []) : SSs (Γ := Γ) (bodyX P w K mg base N_law qual (defScope s_law) f cd A outer s H) (defBody s_law) p_law := by
  have nd : N_law.Nodup := sc_law.nd
  have hu : (bodyX P w K mg base N_law qual (defScope s_law) f cd A outer s H).A.units + 70 < cLine := by have := hr.un; omega
  exact (ss_cons (ss_ret (s_and (s_call c__law_right hr hgd rfl (sa_cons (s_call c__law_pot hr hgd rfl (sa_cons (sv 0 rfl rfl rfl rfl) (sa_cons s_int sa_nil rfl) rfl) rfl rfl rfl) sa_nil rfl) rfl rfl rfl) (s_last (s_call c__law_is_other_right hr hgd rfl (sa_cons (s_call c__law_pot hr hgd rfl (sa_cons (sv 0 rfl rfl rfl rfl) (sa_cons s_int sa_nil rfl) rfl) rfl rfl rfl) sa_nil rfl) rfl rfl rfl)))) ss_nil)
end
end Lw
namespace Lw
open PySem PySem.Spec PyProof.Rows L2 DL
variable {Γ : Nat → FSpec}
/-! typed data -/
structure Stv where
  holds : Nat
  gives : List Int
  heat : Int
  most : Int
abbrev Hr := (Int × Int) × (Int × Int)
abbrev Sd := Int × Int × Int
def iD (i : Int) : D := .int i
def sD (s : Sd) : D := .tup [.int s.1, .int s.2.1, .int s.2.2]
def hD (h : Hr) : D := .tup [.tup [.int h.1.1, .int h.1.2], .tup [.int h.2.1, .int h.2.2]]
def dD (d : List Hr) : D := .tup (d.map hD)
def stD (s : Stv) : D := .tup [.int s.holds, .tup (s.gives.map iD), .int s.heat, .int s.most]
structure Stv.Ok (s : Stv) : Prop where
  h1 : 1 ≤ s.holds
  h2 : s.holds ≤ 10
  len : s.gives.length = s.holds + 1
  rise : ∀ i (h : i + 1 < s.gives.length), s.gives[i + 1] - s.gives[i] = 0 ∨ s.gives[i + 1] - s.gives[i] = 1
  le : ∀ i (h : i < s.gives.length), s.gives[i] ≤ (i : Nat)
  rng : ∀ g ∈ s.gives, 0 ≤ g ∧ g ≤ 10
  t1 : 1 ≤ s.heat
  t2 : s.heat ≤ 5
  m1 : 0 ≤ s.most
  m2 : s.most ≤ 4
structure HOk (h : Hr) : Prop where
  a : 0 ≤ h.1.1
  b : h.1.1 ≤ h.1.2
  c : h.1.2 ≤ 12
  d : -4 ≤ h.2.1
  e : h.2.1 ≤ h.2.2
  f : h.2.2 ≤ 8
structure DyOk (d : List Hr) : Prop where
  l1 : 1 ≤ d.length
  l2 : d.length ≤ 6
  ok : ∀ h ∈ d, HOk h
/-- a def's promise at its text -/
abbrev Wok (Γ : Nat → FSpec) (S : FSpec) (p : DL.PS) (n m : Nat) : Prop := ∀ ds k Q, S ds k Q → ds.length = m ∧ wpS Γ p ⟨slots0 n ds, k⟩ { nx := fun ρ => Q .non ρ.k, rt := Q }
theorem allT_map {α : Type} (f : α → Bool) (xs : List α) : (xs.map fun x => D.bl (f x)).all isT = xs.all f := by
  rw [List.all_map]; rfl
theorem allT_true {α : Type} (xs : List α) : (xs.all fun _ => true) = true := by simp
theorem allB_map {α : Type} (f : α → Bool) (xs : List α) : (xs.map fun x => D.bl (f x)).all DL.isBl = true := by
  rw [List.all_map]; simp [DL.isBl]
/-! words -/
def S_is_integer : FSpec := fun ds k Q => ∃ d, ds = [d] ∧ d.box = false ∧ Q (.bl (DL.isInt d)) k
theorem w_is_integer : Wok Γ S_is_integer p_is_integer 1 1 := by
  rintro _ k Q ⟨d, rfl, h1, h⟩
  refine ⟨rfl, ?_⟩
  unfold p_is_integer
  ((conv => whnf); try refine ite_back ?_)
  refine ⟨h1, ?_⟩
  ((conv => whnf); try refine ite_back ?_)
  cases d <;> first | exact h | exact ⟨h1, h⟩ | exact ⟨h1, rfl, h⟩
def S_is_between : FSpec := fun ds k Q => ∃ d lo hi, ds = [d, .int lo, .int hi] ∧ d.box = false ∧ Q (.bl (DL.isInt d && (decide (lo ≤ toI d) && decide (toI d ≤ hi)))) k
theorem w_is_between (e : Γ i_is_integer = S_is_integer) : Wok Γ S_is_between p_is_between 3 3 := by
  rintro _ k Q ⟨d, lo, hi, rfl, hd, h⟩
  refine ⟨rfl, ?_⟩
  unfold p_is_between
  ((conv => whnf); try refine ite_back ?_)
  rw [e]
  refine ⟨d, rfl, hd, ?_⟩
  ((conv => whnf); try refine ite_back ?_)
  cases d with
  | int i =>
    ((conv => whnf); try refine ite_back ?_)
    by_cases c : lo ≤ i
    · rw [if_pos (decide_eq_true c)]
      (((conv => whnf); try refine ite_back ?_); repeat (refine ⟨by first | rfl | exact ⟨rfl, rfl⟩ | exact ⟨fun z => DL.D.noConfusion z, fun z => DL.D.noConfusion z⟩, ?_⟩; ((conv => whnf); try refine ite_back ?_)))
      simp only [toI, DL.isInt, c, decide_true, Bool.true_and] at h
      exact h
    · rw [if_neg (by simp [c])]
      (((conv => whnf); try refine ite_back ?_); repeat (refine ⟨by first | rfl | exact ⟨rfl, rfl⟩ | exact ⟨fun z => DL.D.noConfusion z, fun z => DL.D.noConfusion z⟩, ?_⟩; ((conv => whnf); try refine ite_back ?_)))
      simp only [toI, DL.isInt, c, decide_false, Bool.false_and, Bool.and_false] at h
      exact h
  | _ => exact h
def S_are_between : FSpec := fun ds k Q => ∃ (xs : List Int) (lo hi : Int), ds = [.tup (xs.map iD), .int lo, .int hi] ∧ Q (.bl (xs.all fun x => decide (lo ≤ x) && decide (x ≤ hi))) k
theorem w_are_between (e : Γ i_is_between = S_is_between) : Wok Γ S_are_between p_are_between 4 3 := by
  rintro _ k Q ⟨xs, lo, hi, rfl, h⟩
  refine ⟨rfl, ?_⟩
  unfold p_are_between
  ((conv => whnf); try refine ite_back ?_)
  refine ⟨rfl, ?_⟩
  ((conv => whnf); try refine ite_back ?_)
  refine wpLc_map iD (fun x => .bl (decide (lo ≤ x) && decide (x ≤ hi))) xs rfl (fun x hx R q => ?_) ?_
  · ((conv => whnf); try refine ite_back ?_)
    rw [e]
    exact ⟨_, lo, hi, rfl, rfl, q⟩
  · ((conv => whnf); try refine ite_back ?_)
    refine ⟨rfl, ?_⟩
    ((conv => whnf); try refine ite_back ?_)
    refine ⟨by simp [List.all_map, Function.comp_def, DL.isBl], ?_⟩
    ((conv => whnf); try refine ite_back ?_)
    refine ⟨rfl, ?_⟩
    simpa only [List.all_map, Function.comp_def, isT] using h
theorem zipD_map (xs ys : List Int) : zipD (xs.map iD) (ys.map iD) = (xs.zip ys).map fun p => .tup [iD p.1, iD p.2] := by
  induction xs generalizing ys with
  | nil => rfl
  | cons x xs ih =>
    cases ys with
    | nil => rfl
    | cons y ys => exact congrArg _ (ih ys)
theorem enumD_map {α : Type} (f : α → D) : ∀ (xs : List α) (i : Nat), enumD i (xs.map f) = (xs.zipIdx i).map fun p => .tup [.int (p.2 : Nat), f p.1]
  | [], _ => rfl
  | x :: xs, i => congrArg _ (enumD_map f xs (i + 1))
theorem cutD_map {α : Type} (f : α → D) (xs : List α) : DL.cutD (xs.map f) (some 1) none = (xs.drop 1).map f := by
  unfold DL.cutD
  rw [List.length_map]
  have h0 : HT.sIx xs.length xs.length none = xs.length := rfl
  have h1 : HT.sIx xs.length 0 (some 1) = min 1 xs.length := by
    show (if (1 : Int) < 0 then (1 + (xs.length : Int)).toNat else min (1 : Int).toNat xs.length) = _
    rw [if_neg (by decide)]
    rfl
  rw [h0, h1, ← List.map_drop, ← List.map_take]
  cases xs with
  | nil => rfl
  | cons x xs => simp
def S_does_rise : FSpec := fun ds k Q => ∃ s : Stv, s.Ok ∧ ds = [.tup (s.gives.map iD)] ∧ Q (.bl true) k
theorem w_does_rise : Wok Γ S_does_rise p_does_rise 7 1 := by
  rintro _ k Q ⟨s, ok, rfl, h⟩
  refine ⟨rfl, ?_⟩
  unfold p_does_rise
  ((conv => whnf); try refine ite_back ?_)
  have l1 := ok.len
  have l2 := ok.h2
  refine ⟨by rw [List.length_map, l1, sizeLine_eq]; omega, ?_⟩
  ((conv => whnf); try refine ite_back ?_)
  rw [cutD_map, zipD_map]
  refine wpLc_map (fun p : Int × Int => .tup [iD p.1, iD p.2]) (fun p => iD (p.2 - p.1)) _ rfl (fun x hx R q => by ((conv => whnf); try refine ite_back ?_); exact q) ?_
  ((conv => whnf); try refine ite_back ?_)
  refine wpLc_map (fun p : Int × Int => iD (p.2 - p.1)) (fun p => .bl true) _ rfl (fun x hx R q => ?_) ?_
  · ((conv => whnf); try refine ite_back ?_)
    refine ⟨⟨rfl, rfl⟩, ?_⟩
    have e : x.2 - x.1 = 0 ∨ x.2 - x.1 = 1 := by
      obtain ⟨i, hi, rfl⟩ := List.getElem_of_mem hx
      rw [List.getElem_zip, List.getElem_drop]
      have := ok.rise i (by rw [List.length_zip, List.length_drop] at hi; omega)
      simpa [Nat.add_comm] using this
    have e2 : ([D.int 0, D.int 1].any fun z => eqD z (iD (x.2 - x.1))) = true := by
      rcases e with e | e <;> rw [e] <;> rfl
    rw [e2]
    exact q
  · (((conv => whnf); try refine ite_back ?_); repeat (refine ⟨by first | rfl | exact ⟨rfl, rfl⟩ | exact ⟨fun z => DL.D.noConfusion z, fun z => DL.D.noConfusion z⟩, ?_⟩; ((conv => whnf); try refine ite_back ?_)))
    refine ⟨by simp [List.all_map, Function.comp_def, DL.isBl], ?_⟩
    ((conv => whnf); try refine ite_back ?_)
    rw [if_pos (by simp [List.all_map, Function.comp_def, isT])]
    ((conv => whnf); try refine ite_back ?_)
    rw [enumD_map]
    refine wpLc_map _ (fun p : Int × Nat => .bl true) _ rfl (fun x hx R q => ?_) ?_
    · ((conv => whnf); try refine ite_back ?_)
      obtain ⟨i, hi, rfl⟩ := List.getElem_of_mem hx
      have e : decide ((s.gives.zipIdx 0)[i].1 ≤ ((s.gives.zipIdx 0)[i].2 : Nat)) = true := by
        rw [List.getElem_zipIdx]
        exact decide_eq_true (by simpa using ok.le i (by simpa using hi))
      rw [e]
      exact q
    · (((conv => whnf); try refine ite_back ?_); repeat (refine ⟨by first | rfl | exact ⟨rfl, rfl⟩ | exact ⟨fun z => DL.D.noConfusion z, fun z => DL.D.noConfusion z⟩, ?_⟩; ((conv => whnf); try refine ite_back ?_)))
      refine ⟨by simp [List.all_map, Function.comp_def, DL.isBl], ?_⟩
      (((conv => whnf); try refine ite_back ?_); repeat (refine ⟨by first | rfl | exact ⟨rfl, rfl⟩ | exact ⟨fun z => DL.D.noConfusion z, fun z => DL.D.noConfusion z⟩, ?_⟩; ((conv => whnf); try refine ite_back ?_)))
      rw [allT_map, allT_true]
      exact h
/-! stoves -/
theorem btw_true {lo hi i : Int} (h1 : lo ≤ i) (h2 : i ≤ hi) : (DL.isInt (D.int i) && (decide (lo ≤ toI (.int i)) && decide (toI (.int i) ≤ hi))) = true := by
  simp only [DL.isInt, toI, h1, h2, decide_true, Bool.and_self]
theorem call_btw {i lo hi : Int} {k : Nat} {Q : D → Nat → Prop} (h : Q (.bl (decide (lo ≤ i) && decide (i ≤ hi))) k) : S_is_between [.int i, .int lo, .int hi] k Q :=
  ⟨_, lo, hi, rfl, rfl, h⟩
theorem call_btw1 {i lo hi : Int} {k : Nat} {Q : D → Nat → Prop} (h1 : lo ≤ i) (h2 : i ≤ hi) (h : Q (.bl true) k) : S_is_between [.int i, .int lo, .int hi] k Q :=
  call_btw (by simpa only [h1, h2, decide_true, Bool.and_self] using h)
theorem call_abtw {xs : List Int} {lo hi : Int} {k : Nat} {Q : D → Nat → Prop} (h1 : ∀ x ∈ xs, lo ≤ x ∧ x ≤ hi) (h : Q (.bl true) k) : S_are_between [.tup (xs.map iD), .int lo, .int hi] k Q := by
  refine ⟨xs, lo, hi, rfl, ?_⟩
  rw [List.all_eq_true.mpr fun x hx => by have := h1 x hx; simp only [this, decide_true, Bool.and_self]]
  exact h
def S_is_stove : FSpec := fun ds k Q => ∃ s : Stv, s.Ok ∧ ds = [stD s] ∧ Q (.bl true) k
theorem w_is_stove (e1 : Γ i_is_between = S_is_between) (e2 : Γ i_are_between = S_are_between) (e3 : Γ i_does_rise = S_does_rise) : Wok Γ S_is_stove p_is_stove 5 1 := by
  rintro _ k Q ⟨s, ok, rfl, h⟩
  refine ⟨rfl, ?_⟩
  unfold p_is_stove
  (((conv => whnf); try refine ite_back ?_); repeat (refine ⟨by first | rfl | exact ⟨rfl, rfl⟩ | exact ⟨fun z => DL.D.noConfusion z, fun z => DL.D.noConfusion z⟩, ?_⟩; ((conv => whnf); try refine ite_back ?_)))
  rw [e1]
  refine call_btw1 (by have := ok.h1; omega) (by have := ok.h2; omega) ?_
  (((conv => whnf); try refine ite_back ?_); repeat (refine ⟨by first | rfl | exact ⟨rfl, rfl⟩ | exact ⟨fun z => DL.D.noConfusion z, fun z => DL.D.noConfusion z⟩, ?_⟩; ((conv => whnf); try refine ite_back ?_)))
  rw [e2]
  refine call_abtw ok.rng ?_
  (((conv => whnf); try refine ite_back ?_); repeat (refine ⟨by first | rfl | exact ⟨rfl, rfl⟩ | exact ⟨fun z => DL.D.noConfusion z, fun z => DL.D.noConfusion z⟩, ?_⟩; ((conv => whnf); try refine ite_back ?_)))
  rw [if_neg (by rw [List.length_map, ok.len]; simp)]
  (((conv => whnf); try refine ite_back ?_); repeat (refine ⟨by first | rfl | exact ⟨rfl, rfl⟩ | exact ⟨fun z => DL.D.noConfusion z, fun z => DL.D.noConfusion z⟩, ?_⟩; ((conv => whnf); try refine ite_back ?_)))
  rw [e3]
  refine ⟨s, ok, rfl, ?_⟩
  (((conv => whnf); try refine ite_back ?_); repeat (refine ⟨by first | rfl | exact ⟨rfl, rfl⟩ | exact ⟨fun z => DL.D.noConfusion z, fun z => DL.D.noConfusion z⟩, ?_⟩; ((conv => whnf); try refine ite_back ?_)))
  rw [e1]
  refine call_btw1 ok.t1 ok.t2 ?_
  (((conv => whnf); try refine ite_back ?_); repeat (refine ⟨by first | rfl | exact ⟨rfl, rfl⟩ | exact ⟨fun z => DL.D.noConfusion z, fun z => DL.D.noConfusion z⟩, ?_⟩; ((conv => whnf); try refine ite_back ?_)))
  rw [e1]
  refine call_btw1 ok.m1 ok.m2 ?_
  (((conv => whnf); try refine ite_back ?_); repeat (refine ⟨by first | rfl | exact ⟨rfl, rfl⟩ | exact ⟨fun z => DL.D.noConfusion z, fun z => DL.D.noConfusion z⟩, ?_⟩; ((conv => whnf); try refine ite_back ?_)))
  exact h
def S_check_stove : FSpec := fun ds k Q => ∃ s : Stv, s.Ok ∧ ds = [stD s] ∧ Q .non k
theorem w_check_stove (e : Γ i_is_stove = S_is_stove) : Wok Γ S_check_stove p_check_stove 1 1 := by
  rintro _ k Q ⟨s, ok, rfl, h⟩
  refine ⟨rfl, ?_⟩
  unfold p_check_stove
  (((conv => whnf); try refine ite_back ?_); repeat (refine ⟨by first | rfl | exact ⟨rfl, rfl⟩ | exact ⟨fun z => DL.D.noConfusion z, fun z => DL.D.noConfusion z⟩, ?_⟩; ((conv => whnf); try refine ite_back ?_)))
  rw [e]
  exact ⟨s, ok, rfl, h⟩
def rngI (lo : Int) (n : Nat) : List Int := (List.range n).map fun i => lo + (i : Nat)
theorem rangeD_map (lo : Int) (n : Nat) : rangeD lo n = (rngI lo n).map iD := by
  unfold rangeD rngI
  rw [List.map_map]; rfl
theorem mem_rngI {lo x : Int} {n : Nat} : x ∈ rngI lo n ↔ lo ≤ x ∧ x < lo + n := by
  unfold rngI
  rw [List.mem_map]
  constructor
  · rintro ⟨i, hi, rfl⟩
    have := List.mem_range.mp hi
    omega
  · rintro ⟨h1, h2⟩
    exact ⟨(x - lo).toNat, List.mem_range.mpr (by omega), by omega⟩
def logsBy (s : Stv) (t : Int) : List Int := (rngI 0 (s.most + 1).toNat).filter fun l => decide (t + s.heat * l ≤ s.holds)
def S_logs_by : FSpec := fun ds k Q => ∃ (s : Stv) (t : Int), s.Ok ∧ ds = [stD s, .int t] ∧ Q (.lst ((logsBy s t).map iD)) k
theorem rng_ok {lo hi : Int} {Q : List D → Prop} (h1 : -1000000 ≤ lo) (h2 : lo ≤ 1000000) (h3 : -1000000 ≤ hi) (h4 : hi ≤ 1000000) (h : Q ((rngI lo (hi - lo).toNat).map iD)) : rngS lo hi Q := by
  refine ⟨⟨⟨by omega, by omega, by omega, by omega⟩, by rw [sizeLine_eq]; omega⟩, ?_⟩
  rw [rangeD_map]
  exact h
theorem w_logs_by : Wok Γ S_logs_by p_logs_by 3 2 := by
  rintro _ k Q ⟨s, t, ok, rfl, h⟩
  refine ⟨rfl, ?_⟩
  unfold p_logs_by
  have a1 := ok.m1; have a2 := ok.m2; have a3 := ok.t1; have a4 := ok.t2
  (((conv => whnf); try refine ite_back ?_); repeat (refine ⟨by first | rfl | exact ⟨rfl, rfl⟩ | exact ⟨fun z => DL.D.noConfusion z, fun z => DL.D.noConfusion z⟩, ?_⟩; ((conv => whnf); try refine ite_back ?_)))
  · refine rng_ok (by omega) (by omega) (by omega) (by omega) ?_
    (((conv => whnf); try refine ite_back ?_); repeat (refine ⟨by first | rfl | exact ⟨rfl, rfl⟩ | exact ⟨fun z => DL.D.noConfusion z, fun z => DL.D.noConfusion z⟩, ?_⟩; ((conv => whnf); try refine ite_back ?_)))
    refine wpLc_filter iD (fun l => decide (t + s.heat * l ≤ s.holds)) iD _ rfl (fun x hx RT RF h1 h2 => ?_) ?_
    · ((conv => whnf); try refine ite_back ?_)
      refine ⟨.inl ⟨by omega, by omega⟩, ?_⟩
      ((conv => whnf); try refine ite_back ?_)
      by_cases c : t + s.heat * x ≤ s.holds
      · rw [if_pos (decide_eq_true c)]
        exact h1 (decide_eq_true c)
      · rw [if_neg (by simpa using c)]
        exact h2 (decide_eq_false c)
    · (((conv => whnf); try refine ite_back ?_); repeat (refine ⟨by first | rfl | exact ⟨rfl, rfl⟩ | exact ⟨fun z => DL.D.noConfusion z, fun z => DL.D.noConfusion z⟩, ?_⟩; ((conv => whnf); try refine ite_back ?_)))
      simpa only [logsBy, Int.sub_zero] using h
end Lw
namespace Lw
open PySem PySem.Spec PyProof.Rows L2 DL
variable {Γ : Nat → FSpec}
theorem getD_lt {α : Type} (xs : List α) (a : α) {i : Nat} (h : i < xs.length) : xs.getD i a = xs[i] := by
  rw [List.getD, List.getElem?_eq_getElem h]; rfl
theorem atD_map {α : Type} (f : α → D) (xs : List α) (i : Int) (h0 : 0 ≤ i) (h : i < xs.length) : atD (xs.map f) i = some (f (xs[i.toNat]'(by omega))) := by
  unfold atD ixD
  rw [List.length_map, if_pos h0, if_pos h]
  show (xs.map f)[i.toNat]? = _
  rw [List.getElem?_map, List.getElem?_eq_getElem (by omega : i.toNat < xs.length)]
  rfl
def gv (s : Stv) (w : Int) : Int := s.gives.getD w.toNat 0
def warm (s : Stv) (t l : Int) : Int := t + s.heat * l
theorem atD_gives {s : Stv} (ok : s.Ok) {w : Int} (h0 : 0 ≤ w) (h : w ≤ s.holds) : atD (s.gives.map iD) w = some (.int (gv s w)) := by
  have l := ok.len
  rw [atD_map iD _ w h0 (by omega)]
  unfold gv iD
  rw [getD_lt _ _ (by omega)]
def S_fired : FSpec := fun ds k Q => ∃ (s : Stv) (t l : Int), s.Ok ∧ (0 ≤ t ∧ 0 ≤ l ∧ warm s t l ≤ s.holds) ∧ ds = [stD s, .int t, .int l] ∧ Q (.tup [.int (warm s t l - gv s (warm s t l)), .int (gv s (warm s t l))]) k
theorem warm_nn {s : Stv} (ok : s.Ok) {t l : Int} (h1 : 0 ≤ t) (h2 : 0 ≤ l) : 0 ≤ warm s t l := by
  have a := ok.t1
  have := Int.mul_nonneg (by omega : 0 ≤ s.heat) h2
  unfold warm; omega
theorem w_fired : Wok Γ S_fired p_fired 4 3 := by
  rintro _ k Q ⟨s, t, l, ok, ⟨h1, h2, h3⟩, rfl, h⟩
  refine ⟨rfl, ?_⟩
  unfold p_fired
  have a3 := ok.t1; have a4 := ok.t2
  have h0 := warm_nn ok h1 h2
  (((conv => whnf); try refine ite_back ?_); repeat (refine ⟨by first | rfl | exact ⟨rfl, rfl⟩ | exact ⟨fun z => DL.D.noConfusion z, fun z => DL.D.noConfusion z⟩, ?_⟩; ((conv => whnf); try refine ite_back ?_)))
  refine ⟨.inl ⟨by omega, by omega⟩, ?_⟩
  (((conv => whnf); try refine ite_back ?_); repeat (refine ⟨by first | rfl | exact ⟨rfl, rfl⟩ | exact ⟨fun z => DL.D.noConfusion z, fun z => DL.D.noConfusion z⟩, ?_⟩; ((conv => whnf); try refine ite_back ?_)))
  rw [atD_gives (w := t + s.heat * l) ok h0 h3]
  (((conv => whnf); try refine ite_back ?_); repeat (refine ⟨by first | rfl | exact ⟨rfl, rfl⟩ | exact ⟨fun z => DL.D.noConfusion z, fun z => DL.D.noConfusion z⟩, ?_⟩; ((conv => whnf); try refine ite_back ?_)))
  rw [atD_gives (w := t + s.heat * l) ok h0 h3]
  exact h
/-! days -/
def S_is_span : FSpec := fun ds k Q => ∃ (a b lo hi : Int), (lo ≤ a ∧ a ≤ b ∧ b ≤ hi) ∧ ds = [.tup [.int a, .int b], .int lo, .int hi] ∧ Q (.bl true) k
theorem w_is_span (e : Γ i_are_between = S_are_between) : Wok Γ S_is_span p_is_span 3 3 := by
  rintro _ k Q ⟨a, b, lo, hi, ⟨h1, h2, h3⟩, rfl, h⟩
  refine ⟨rfl, ?_⟩
  unfold p_is_span
  (((conv => whnf); try refine ite_back ?_); repeat (refine ⟨by first | rfl | exact ⟨rfl, rfl⟩ | exact ⟨fun z => DL.D.noConfusion z, fun z => DL.D.noConfusion z⟩, ?_⟩; ((conv => whnf); try refine ite_back ?_)))
  rw [e]
  refine call_abtw (xs := [a, b]) (fun x hx => ?_) ?_
  · rcases List.mem_cons.mp hx with rfl | hx
    · omega
    · rcases List.mem_cons.mp hx with rfl | hx
      · omega
      · cases hx
  · (((conv => whnf); try refine ite_back ?_); repeat (refine ⟨by first | rfl | exact ⟨rfl, rfl⟩ | exact ⟨fun z => DL.D.noConfusion z, fun z => DL.D.noConfusion z⟩, ?_⟩; ((conv => whnf); try refine ite_back ?_)))
    rw [decide_eq_true h2]
    exact h
def S_is_hour : FSpec := fun ds k Q => ∃ h : Hr, HOk h ∧ ds = [hD h] ∧ Q (.bl true) k
theorem w_is_hour (e : Γ i_is_span = S_is_span) : Wok Γ S_is_hour p_is_hour 1 1 := by
  rintro _ k Q ⟨o, ok, rfl, h⟩
  refine ⟨rfl, ?_⟩
  unfold p_is_hour
  (((conv => whnf); try refine ite_back ?_); repeat (refine ⟨by first | rfl | exact ⟨rfl, rfl⟩ | exact ⟨fun z => DL.D.noConfusion z, fun z => DL.D.noConfusion z⟩, ?_⟩; ((conv => whnf); try refine ite_back ?_)))
  rw [e]
  refine ⟨_, _, _, _, ⟨ok.a, ok.b, ok.c⟩, rfl, ?_⟩
  (((conv => whnf); try refine ite_back ?_); repeat (refine ⟨by first | rfl | exact ⟨rfl, rfl⟩ | exact ⟨fun z => DL.D.noConfusion z, fun z => DL.D.noConfusion z⟩, ?_⟩; ((conv => whnf); try refine ite_back ?_)))
  rw [e]
  refine ⟨_, _, _, _, ⟨ok.d, ok.e, ok.f⟩, rfl, ?_⟩
  (((conv => whnf); try refine ite_back ?_); repeat (refine ⟨by first | rfl | exact ⟨rfl, rfl⟩ | exact ⟨fun z => DL.D.noConfusion z, fun z => DL.D.noConfusion z⟩, ?_⟩; ((conv => whnf); try refine ite_back ?_)))
  exact h
def S_is_day : FSpec := fun ds k Q => ∃ d : List Hr, DyOk d ∧ ds = [dD d] ∧ Q (.bl true) k
theorem w_is_day (e : Γ i_is_hour = S_is_hour) : Wok Γ S_is_day p_is_day 2 1 := by
  rintro _ k Q ⟨d, ok, rfl, h⟩
  refine ⟨rfl, ?_⟩
  unfold p_is_day
  have l1 := ok.l1; have l2 := ok.l2
  (((conv => whnf); try refine ite_back ?_); repeat (refine ⟨by first | rfl | exact ⟨rfl, rfl⟩ | exact ⟨fun z => DL.D.noConfusion z, fun z => DL.D.noConfusion z⟩, ?_⟩; ((conv => whnf); try refine ite_back ?_)))
  rw [if_pos (decide_eq_true (by rw [List.length_map]; omega))]
  (((conv => whnf); try refine ite_back ?_); repeat (refine ⟨by first | rfl | exact ⟨rfl, rfl⟩ | exact ⟨fun z => DL.D.noConfusion z, fun z => DL.D.noConfusion z⟩, ?_⟩; ((conv => whnf); try refine ite_back ?_)))
  rw [decide_eq_true (by rw [List.length_map]; omega : ((d.map hD).length : Int) ≤ 6)]
  (((conv => whnf); try refine ite_back ?_); repeat (refine ⟨by first | rfl | exact ⟨rfl, rfl⟩ | exact ⟨fun z => DL.D.noConfusion z, fun z => DL.D.noConfusion z⟩, ?_⟩; ((conv => whnf); try refine ite_back ?_)))
  refine wpLc_map hD (fun _ => .bl true) d rfl (fun x hx R q => ?_) ?_
  · (((conv => whnf); try refine ite_back ?_); repeat (refine ⟨by first | rfl | exact ⟨rfl, rfl⟩ | exact ⟨fun z => DL.D.noConfusion z, fun z => DL.D.noConfusion z⟩, ?_⟩; ((conv => whnf); try refine ite_back ?_)))
    rw [e]
    exact ⟨x, ok.ok x hx, rfl, q⟩
  · (((conv => whnf); try refine ite_back ?_); repeat (refine ⟨by first | rfl | exact ⟨rfl, rfl⟩ | exact ⟨fun z => DL.D.noConfusion z, fun z => DL.D.noConfusion z⟩, ?_⟩; ((conv => whnf); try refine ite_back ?_)))
    refine ⟨allB_map _ _, ?_⟩
    (((conv => whnf); try refine ite_back ?_); repeat (refine ⟨by first | rfl | exact ⟨rfl, rfl⟩ | exact ⟨fun z => DL.D.noConfusion z, fun z => DL.D.noConfusion z⟩, ?_⟩; ((conv => whnf); try refine ite_back ?_)))
    rw [allT_map, allT_true]
    exact h
def S_check_day : FSpec := fun ds k Q => ∃ (s : Stv) (d : List Hr), s.Ok ∧ DyOk d ∧ ds = [stD s, dD d] ∧ Q .non k
theorem w_check_day (e1 : Γ i_check_stove = S_check_stove) (e2 : Γ i_is_day = S_is_day) : Wok Γ S_check_day p_check_day 2 2 := by
  rintro _ k Q ⟨s, d, ok, dk, rfl, h⟩
  refine ⟨rfl, ?_⟩
  unfold p_check_day
  (((conv => whnf); try refine ite_back ?_); repeat (refine ⟨by first | rfl | exact ⟨rfl, rfl⟩ | exact ⟨fun z => DL.D.noConfusion z, fun z => DL.D.noConfusion z⟩, ?_⟩; ((conv => whnf); try refine ite_back ?_)))
  rw [e1]
  refine ⟨s, ok, rfl, ?_⟩
  (((conv => whnf); try refine ite_back ?_); repeat (refine ⟨by first | rfl | exact ⟨rfl, rfl⟩ | exact ⟨fun z => DL.D.noConfusion z, fun z => DL.D.noConfusion z⟩, ?_⟩; ((conv => whnf); try refine ite_back ?_)))
  rw [e2]
  exact ⟨d, dk, rfl, h⟩
/-- the hour of a day -/
def hrAt (d : List Hr) (i : Int) : Hr := d.getD i.toNat ((0, 0), (0, 0))
theorem atD_day {d : List Hr} {i : Int} (h0 : 0 ≤ i) (h : i < d.length) : atD (d.map hD) i = some (hD (hrAt d i)) := by
  rw [atD_map hD _ i h0 h]
  unfold hrAt
  rw [getD_lt _ _ (by omega)]
theorem hrAt_mem {d : List Hr} {i : Int} (h0 : 0 ≤ i) (h : i < d.length) : hrAt d i ∈ d := by
  unfold hrAt
  rw [getD_lt _ _ (by omega)]
  exact List.getElem_mem _
def inDay (s : Stv) (d : List Hr) (x : Sd) : Bool := (decide (0 ≤ x.1) && decide (x.1 ≤ (d.length : Int) - 1)) && ((decide (0 ≤ x.2.1) && decide (x.2.1 ≤ s.holds)) && (decide ((hrAt d x.1).1.1 ≤ x.2.2) && decide (x.2.2 ≤ (hrAt d x.1).1.2)))
def S_is_stand_of : FSpec := fun ds k Q => ∃ (s : Stv) (d : List Hr) (x : Sd), ds = [stD s, dD d, sD x] ∧ Q (.bl (inDay s d x)) k
theorem w_is_stand_of (e : Γ i_is_between = S_is_between) : Wok Γ S_is_stand_of p_is_stand_of 5 3 := by
  rintro _ k Q ⟨s, d, x, rfl, h⟩
  refine ⟨rfl, ?_⟩
  unfold p_is_stand_of
  (((conv => whnf); try refine ite_back ?_); repeat (refine ⟨by first | rfl | exact ⟨rfl, rfl⟩ | exact ⟨fun z => DL.D.noConfusion z, fun z => DL.D.noConfusion z⟩, ?_⟩; ((conv => whnf); try refine ite_back ?_)))
  rw [e]
  refine call_btw ?_
  (((conv => whnf); try refine ite_back ?_); repeat (refine ⟨by first | rfl | exact ⟨rfl, rfl⟩ | exact ⟨fun z => DL.D.noConfusion z, fun z => DL.D.noConfusion z⟩, ?_⟩; ((conv => whnf); try refine ite_back ?_)))
  cases c : (decide (0 ≤ x.1) && decide (x.1 ≤ ((d.map hD).length : Int) - 1)) with
  | false =>
    rw [List.length_map] at c
    (((conv => whnf); try refine ite_back ?_); repeat (refine ⟨by first | rfl | exact ⟨rfl, rfl⟩ | exact ⟨fun z => DL.D.noConfusion z, fun z => DL.D.noConfusion z⟩, ?_⟩; ((conv => whnf); try refine ite_back ?_)))
    unfold inDay at h
    rw [c] at h
    exact h
  | true =>
    rw [List.length_map] at c
    (((conv => whnf); try refine ite_back ?_); repeat (refine ⟨by first | rfl | exact ⟨rfl, rfl⟩ | exact ⟨fun z => DL.D.noConfusion z, fun z => DL.D.noConfusion z⟩, ?_⟩; ((conv => whnf); try refine ite_back ?_)))
    have c' := c
    rw [Bool.and_eq_true, decide_eq_true_eq, decide_eq_true_eq] at c'
    rw [atD_day c'.1 (by omega)]
    (((conv => whnf); try refine ite_back ?_); repeat (refine ⟨by first | rfl | exact ⟨rfl, rfl⟩ | exact ⟨fun z => DL.D.noConfusion z, fun z => DL.D.noConfusion z⟩, ?_⟩; ((conv => whnf); try refine ite_back ?_)))
    rw [e]
    refine call_btw ?_
    unfold inDay at h
    rw [c, Bool.true_and] at h
    cases c2 : (decide (0 ≤ x.2.1) && decide (x.2.1 ≤ (s.holds : Int))) with
    | false => rw [c2] at h; exact h
    | true =>
      rw [c2, Bool.true_and] at h
      (((conv => whnf); try refine ite_back ?_); repeat (refine ⟨by first | rfl | exact ⟨rfl, rfl⟩ | exact ⟨fun z => DL.D.noConfusion z, fun z => DL.D.noConfusion z⟩, ?_⟩; ((conv => whnf); try refine ite_back ?_)))
      rw [e]
      refine call_btw ?_
      (((conv => whnf); try refine ite_back ?_); repeat (refine ⟨by first | rfl | exact ⟨rfl, rfl⟩ | exact ⟨fun z => DL.D.noConfusion z, fun z => DL.D.noConfusion z⟩, ?_⟩; ((conv => whnf); try refine ite_back ?_)))
      exact h
def S_check_stand : FSpec := fun ds k Q => ∃ (s : Stv) (d : List Hr) (x : Sd), s.Ok ∧ DyOk d ∧ inDay s d x = true ∧ ds = [stD s, dD d, sD x] ∧ Q .non k
theorem w_check_stand (e1 : Γ i_check_day = S_check_day) (e2 : Γ i_is_stand_of = S_is_stand_of) : Wok Γ S_check_stand p_check_stand 3 3 := by
  rintro _ k Q ⟨s, d, x, ok, dk, hx, rfl, h⟩
  refine ⟨rfl, ?_⟩
  unfold p_check_stand
  (((conv => whnf); try refine ite_back ?_); repeat (refine ⟨by first | rfl | exact ⟨rfl, rfl⟩ | exact ⟨fun z => DL.D.noConfusion z, fun z => DL.D.noConfusion z⟩, ?_⟩; ((conv => whnf); try refine ite_back ?_)))
  rw [e1]
  refine ⟨s, d, ok, dk, rfl, ?_⟩
  (((conv => whnf); try refine ite_back ?_); repeat (refine ⟨by first | rfl | exact ⟨rfl, rfl⟩ | exact ⟨fun z => DL.D.noConfusion z, fun z => DL.D.noConfusion z⟩, ?_⟩; ((conv => whnf); try refine ite_back ?_)))
  rw [e2]
  refine ⟨s, d, x, rfl, ?_⟩
  rw [hx]
  exact h
end Lw
namespace Lw
open PySem PySem.Spec PyProof.Rows L2 DL
variable {Γ : Nat → FSpec}
/-- what stands where the day allows -/
structure In (s : Stv) (d : List Hr) (x : Sd) : Prop where
  a0 : 0 ≤ x.1
  a1 : x.1 < d.length
  t0 : 0 ≤ x.2.1
  t1 : x.2.1 ≤ s.holds
  r0 : (hrAt d x.1).1.1 ≤ x.2.2
  r1 : x.2.2 ≤ (hrAt d x.1).1.2
theorem inDay_iff {s : Stv} {d : List Hr} {x : Sd} : inDay s d x = true ↔ In s d x := by
  unfold inDay
  simp only [Bool.and_eq_true, decide_eq_true_eq]
  exact ⟨fun ⟨⟨a, b⟩, ⟨c, e⟩, f, g⟩ => ⟨a, by omega, c, e, f, g⟩, fun h => ⟨⟨h.a0, by have := h.a1; omega⟩, ⟨h.t0, h.t1⟩, h.r0, h.r1⟩⟩
def weathers (d : List Hr) (i : Int) : List Int := rngI (hrAt d i).2.1 ((hrAt d i).2.2 + 1 - (hrAt d i).2.1).toNat
def S_weathers_in : FSpec := fun ds k Q => ∃ (d : List Hr) (i : Int), DyOk d ∧ (0 ≤ i ∧ i < d.length) ∧ ds = [dD d, .int i] ∧ Q (.lst ((weathers d i).map iD)) k
theorem w_weathers_in : Wok Γ S_weathers_in p_weathers_in 4 2 := by
  rintro _ k Q ⟨d, i, dk, ⟨h0, h1⟩, rfl, h⟩
  refine ⟨rfl, ?_⟩
  unfold p_weathers_in
  (((conv => whnf); try refine ite_back ?_); repeat (refine ⟨by first | rfl | exact ⟨rfl, rfl⟩ | exact ⟨fun z => DL.D.noConfusion z, fun z => DL.D.noConfusion z⟩, ?_⟩; ((conv => whnf); try refine ite_back ?_)))
  rw [atD_day h0 h1]
  (((conv => whnf); try refine ite_back ?_); repeat (refine ⟨by first | rfl | exact ⟨rfl, rfl⟩ | exact ⟨fun z => DL.D.noConfusion z, fun z => DL.D.noConfusion z⟩, ?_⟩; ((conv => whnf); try refine ite_back ?_)))
  have o := dk.ok _ (hrAt_mem h0 h1)
  have o1 := o.d; have o2 := o.e; have o3 := o.f
  refine rng_ok (by omega) (by omega) (by omega) (by omega) ?_
  exact h
/-- the stand behind -/
def behind (s : Stv) (d : List Hr) (x : Sd) (l w : Int) : Sd := ((x.1 + 1) % (d.length : Int), warm s x.2.1 l - gv s (warm s x.2.1 l), x.2.2 + gv s (warm s x.2.1 l) - w)
def S_one_behind : FSpec := fun ds k Q => ∃ (s : Stv) (d : List Hr) (x : Sd) (l w : Int), s.Ok ∧ DyOk d ∧ (0 ≤ x.2.1 ∧ 0 ≤ l ∧ warm s x.2.1 l ≤ s.holds) ∧ ds = [stD s, dD d, sD x, .int l, .int w] ∧ Q (sD (behind s d x l w)) k
theorem w_one_behind (e : Γ i_fired = S_fired) : Wok Γ S_one_behind p_one_behind 7 5 := by
  rintro _ k Q ⟨s, d, x, l, w, ok, dk, hw, rfl, h⟩
  refine ⟨rfl, ?_⟩
  unfold p_one_behind
  (((conv => whnf); try refine ite_back ?_); repeat (refine ⟨by first | rfl | exact ⟨rfl, rfl⟩ | exact ⟨fun z => DL.D.noConfusion z, fun z => DL.D.noConfusion z⟩, ?_⟩; ((conv => whnf); try refine ite_back ?_)))
  rw [e]
  refine ⟨s, x.2.1, l, ok, hw, rfl, ?_⟩
  (((conv => whnf); try refine ite_back ?_); repeat (refine ⟨by first | rfl | exact ⟨rfl, rfl⟩ | exact ⟨fun z => DL.D.noConfusion z, fun z => DL.D.noConfusion z⟩, ?_⟩; ((conv => whnf); try refine ite_back ?_)))
  have := dk.l1
  refine ⟨by rw [List.length_map]; omega, ?_⟩
  (((conv => whnf); try refine ite_back ?_); repeat (refine ⟨by first | rfl | exact ⟨rfl, rfl⟩ | exact ⟨fun z => DL.D.noConfusion z, fun z => DL.D.noConfusion z⟩, ?_⟩; ((conv => whnf); try refine ite_back ?_)))
  rw [List.length_map]
  exact h
def rows (s : Stv) (d : List Hr) (x : Sd) (l : Int) : List Sd := (weathers d x.1).reverse.map fun w => behind s d x l w
def S_rows_behind : FSpec := fun ds k Q => ∃ (s : Stv) (d : List Hr) (x : Sd) (l : Int), s.Ok ∧ DyOk d ∧ In s d x ∧ (0 ≤ l ∧ warm s x.2.1 l ≤ s.holds) ∧ ds = [stD s, dD d, sD x, .int l] ∧ Q (.lst ((rows s d x l).map sD)) k
theorem w_rows_behind (e1 : Γ i_weathers_in = S_weathers_in) (e2 : Γ i_one_behind = S_one_behind) : Wok Γ S_rows_behind p_rows_behind 5 4 := by
  rintro _ k Q ⟨s, d, x, l, ok, dk, hx, hw, rfl, h⟩
  refine ⟨rfl, ?_⟩
  unfold p_rows_behind
  (((conv => whnf); try refine ite_back ?_); repeat (refine ⟨by first | rfl | exact ⟨rfl, rfl⟩ | exact ⟨fun z => DL.D.noConfusion z, fun z => DL.D.noConfusion z⟩, ?_⟩; ((conv => whnf); try refine ite_back ?_)))
  rw [e1]
  refine ⟨d, x.1, dk, ⟨hx.a0, hx.a1⟩, rfl, ?_⟩
  (((conv => whnf); try refine ite_back ?_); repeat (refine ⟨by first | rfl | exact ⟨rfl, rfl⟩ | exact ⟨fun z => DL.D.noConfusion z, fun z => DL.D.noConfusion z⟩, ?_⟩; ((conv => whnf); try refine ite_back ?_)))
  rw [← List.map_reverse]
  refine wpLc_map iD (fun w => sD (behind s d x l w)) _ rfl (fun w hm R q => ?_) ?_
  · (((conv => whnf); try refine ite_back ?_); repeat (refine ⟨by first | rfl | exact ⟨rfl, rfl⟩ | exact ⟨fun z => DL.D.noConfusion z, fun z => DL.D.noConfusion z⟩, ?_⟩; ((conv => whnf); try refine ite_back ?_)))
    rw [e2]
    exact ⟨s, d, x, l, w, ok, dk, ⟨hx.t0, hw⟩, rfl, q⟩
  · (((conv => whnf); try refine ite_back ?_); repeat (refine ⟨by first | rfl | exact ⟨rfl, rfl⟩ | exact ⟨fun z => DL.D.noConfusion z, fun z => DL.D.noConfusion z⟩, ?_⟩; ((conv => whnf); try refine ite_back ?_)))
    unfold rows at h
    rw [List.map_map] at h
    exact h
/-- all stands, hour by hour -/
def standsAt (s : Stv) (i : Int) (o : Hr) : List Sd := ((rngI 0 (s.holds + 1)).map fun t => (rngI o.1.1 (o.1.2 + 1 - o.1.1).toNat).map fun r => ((i, t, r) : Sd)).flatten
def stands (s : Stv) (d : List Hr) : List Sd := (d.zipIdx.map fun p => standsAt s (p.2 : Nat) p.1).flatten
theorem flatten_len {α : Type} (n : Nat) : ∀ (xss : List (List α)), (∀ xs ∈ xss, xs.length ≤ n) → xss.flatten.length ≤ xss.length * n
  | [], _ => by simp
  | xs :: r, h => by
    have h1 := h xs (List.mem_cons_self ..)
    have h2 := flatten_len n r fun y hy => h y (List.mem_cons_of_mem _ hy)
    rw [List.flatten_cons, List.length_append, List.length_cons, Nat.succ_mul]
    omega
theorem fl_snoc {α β : Type} (g : α → List β) (xs : List α) (x : α) : ((xs ++ [x]).map g).flatten = (xs.map g).flatten ++ g x := by
  rw [List.map_append, List.map_cons, List.map_nil, List.flatten_append, List.flatten_cons, List.flatten_nil, List.append_nil]
theorem rngI_len (lo : Int) (n : Nat) : (rngI lo n).length = n := by unfold rngI; simp
def S_stands_of : FSpec := fun ds k Q => ∃ (s : Stv) (d : List Hr), s.Ok ∧ DyOk d ∧ ds = [stD s, dD d] ∧ Q (.lst ((stands s d).map sD)) k
theorem w_stands_of : Wok Γ S_stands_of p_stands_of 8 2 := by
  rintro _ k Q ⟨s, d, ok, dk, rfl, h⟩
  refine ⟨rfl, ?_⟩
  unfold p_stands_of
  (((conv => whnf); try refine ite_back ?_); repeat (refine ⟨by first | rfl | exact ⟨rfl, rfl⟩ | exact ⟨fun z => DL.D.noConfusion z, fun z => DL.D.noConfusion z⟩, ?_⟩; ((conv => whnf); try refine ite_back ?_)))
  rw [enumD_map]
  have l2 := dk.l2; have s1 := ok.h1; have s2 := ok.h2
  refine wpL_of (fun p : Hr × Nat => .tup [.int (p.2 : Nat), hD p.1]) (fun done ρ => ∃ a b c e f, (Fr a ∧ Fr b ∧ Fr c ∧ Fr e ∧ Fr f) ∧ done.length ≤ 6 ∧ ρ = ⟨[.dat (stD s), .dat (dD d), .ol (((done.map fun p => standsAt s (p.2 : Nat) p.1).flatten).map sD), a, b, c, e, f], k⟩ ∧ ((done.map fun p => standsAt s (p.2 : Nat) p.1).flatten).length ≤ done.length * 200) _ ⟨_, _, _, _, _, ⟨fr_any, fr_any, fr_any, fr_any, fr_any⟩, by simp, rfl, by simp⟩ ?_ ?_
  · rintro done ⟨o, i⟩ rest hall ρ ⟨a, b, c, e, f, ⟨fa, fb, fc, fe, ff⟩, hl, rfl, hn⟩ R hR
    have hlen : done.length + 1 ≤ 6 := by
      have := congrArg List.length hall
      simp at this; omega
    have om : o ∈ d := by
      have : (o, i) ∈ d.zipIdx := by rw [hall]; simp
      exact (List.mem_zipIdx this).2.2 ▸ List.getElem_mem _
    have o1 := (dk.ok o om).a; have o2 := (dk.ok o om).b; have o3 := (dk.ok o om).c
    (((conv => whnf); try refine ite_back ?_); repeat (refine ⟨by first | rfl | exact ⟨rfl, rfl⟩ | exact ⟨fun z => DL.D.noConfusion z, fun z => DL.D.noConfusion z⟩, ?_⟩; ((conv => whnf); try refine ite_back ?_)))
    refine rng_ok (by omega) (by omega) (by omega) (by omega) ?_
    (((conv => whnf); try refine ite_back ?_); repeat (refine ⟨by first | rfl | exact ⟨rfl, rfl⟩ | exact ⟨fun z => DL.D.noConfusion z, fun z => DL.D.noConfusion z⟩, ?_⟩; ((conv => whnf); try refine ite_back ?_)))
    have e0 : ((s.holds : Int) + 1 - 0).toNat = s.holds + 1 := by omega
    rw [e0]
    generalize hB : ((done.map fun p => standsAt s (p.2 : Nat) p.1).flatten) = base at *
    refine wpL_of iD (fun dn ρ => ∃ a e f, (Fr a ∧ Fr e ∧ Fr f) ∧ dn.length ≤ 11 ∧ ρ = ⟨[.dat (stD s), .dat (dD d), .ol ((base ++ (dn.map fun t => (rngI o.1.1 (o.1.2 + 1 - o.1.1).toNat).map fun r => ((((i : Nat) : Int), t, r) : Sd)).flatten).map sD), .dat (.int (i : Nat)), a, .dat (.tup [.int o.1.1, .int o.1.2]), e, f], k⟩) _ ⟨_, _, _, ⟨fb, fr_dat, ff⟩, by simp, by rw [List.map_nil, List.flatten_nil, List.append_nil]; rfl⟩ ?_ ?_
    · rintro dn t rst hal ρ ⟨a, e, f, ⟨fa, fe, ff⟩, hl2, rfl⟩ R2 hR2
      have hl3 : dn.length + 1 ≤ 11 := by
        have := congrArg List.length hal
        rw [rngI_len] at this; simp at this; omega
      (((conv => whnf); try refine ite_back ?_); repeat (refine ⟨by first | rfl | exact ⟨rfl, rfl⟩ | exact ⟨fun z => DL.D.noConfusion z, fun z => DL.D.noConfusion z⟩, ?_⟩; ((conv => whnf); try refine ite_back ?_)))
      refine rng_ok (by omega) (by omega) (by omega) (by omega) ?_
      refine wpLc_map iD (fun r => sD ((i : Nat), t, r)) _ (by (first | rfl | (simp only [ownOk, noOdl, Ev.get, Ev.set, getS, setS, List.all_cons, List.all_nil, odl_any, odl_dat, odl_ol, odl_od, own_any, own_dat, Fr.od, Fr.ow, Bool.not_false, Bool.and_true, Bool.true_and, *]; done))) (fun r hr R q => ?_) ?_
      · (((conv => whnf); try refine ite_back ?_); repeat (refine ⟨by first | rfl | exact ⟨rfl, rfl⟩ | exact ⟨fun z => DL.D.noConfusion z, fun z => DL.D.noConfusion z⟩, ?_⟩; ((conv => whnf); try refine ite_back ?_)))
        exact q
      · (((conv => whnf); try refine ite_back ?_); repeat (refine ⟨by first | rfl | exact ⟨rfl, rfl⟩ | exact ⟨fun z => DL.D.noConfusion z, fun z => DL.D.noConfusion z⟩, ?_⟩; ((conv => whnf); try refine ite_back ?_)))
        have n1 := flatten_len 13 (dn.map fun t => (rngI o.1.1 (o.1.2 + 1 - o.1.1).toNat).map fun r => (((i : Nat) : Int), t, r)) fun xs hx => by
          obtain ⟨t, _, rfl⟩ := List.mem_map.mp hx
          rw [List.length_map, rngI_len]; omega
        rw [List.length_map] at n1
        refine ⟨?_, ?_⟩
        · rw [List.length_map, List.length_map, List.length_append, rngI_len, sizeLine_eq]
          omega
        · (((conv => whnf); try refine ite_back ?_); repeat (refine ⟨by first | rfl | exact ⟨rfl, rfl⟩ | exact ⟨fun z => DL.D.noConfusion z, fun z => DL.D.noConfusion z⟩, ?_⟩; ((conv => whnf); try refine ite_back ?_)))
          refine hR2 _ ⟨.dat (iD t), e, f, ⟨fr_dat, fe, ff⟩, by simpa using hl3, ?_⟩
          simp only [List.map_append, List.map_cons, List.map_nil, List.flatten_append, List.flatten_cons, List.flatten_nil, List.append_nil, List.append_assoc, List.map_map]
          rfl
    · rintro ρ ⟨a, e, f, ⟨fa, fe, ff⟩, _, rfl⟩
      (((conv => whnf); try refine ite_back ?_); repeat (refine ⟨by first | rfl | exact ⟨rfl, rfl⟩ | exact ⟨fun z => DL.D.noConfusion z, fun z => DL.D.noConfusion z⟩, ?_⟩; ((conv => whnf); try refine ite_back ?_)))
      refine hR _ ⟨.dat (.int (i : Nat)), a, .dat (.tup [.int o.1.1, .int o.1.2]), e, f, ⟨fr_dat, fa, fr_dat, fe, ff⟩, by simpa using hlen, ?_, ?_⟩
      · rw [fl_snoc, hB]
        simp only [List.map_append]
        rfl
      · rw [fl_snoc, hB, List.length_append, List.length_append, List.length_cons, List.length_nil]
        have n1 := flatten_len 13 ((rngI 0 (s.holds + 1)).map fun t => (rngI o.1.1 (o.1.2 + 1 - o.1.1).toNat).map fun r => ((((i : Nat) : Int), t, r) : Sd)) fun xs hx => by
          obtain ⟨t, _, rfl⟩ := List.mem_map.mp hx
          rw [List.length_map, rngI_len]; omega
        rw [List.length_map, rngI_len] at n1
        have n2 : (standsAt s (i : Nat) o).length ≤ (s.holds + 1) * 13 := n1
        show base.length + (standsAt s (i : Nat) o).length ≤ _
        omega
  · rintro ρ ⟨a, b, c, e, f, _, _, rfl, _⟩
    (((conv => whnf); try refine ite_back ?_); repeat (refine ⟨by first | rfl | exact ⟨rfl, rfl⟩ | exact ⟨fun z => DL.D.noConfusion z, fun z => DL.D.noConfusion z⟩, ?_⟩; ((conv => whnf); try refine ite_back ?_)))
    exact h
end Lw
namespace Lw
open PySem PySem.Spec PyProof.Rows L2 DL
variable {Γ : Nat → FSpec}
/-! dicts by stands -/
theorem tk_sD (x : Sd) : isTK (sD x) = true := rfl
theorem nk_inj {x y : Sd} (h : (sD x).nk = (sD y).nk) : x = y := by
  obtain ⟨a, b, c⟩ := x
  obtain ⟨a', b', c'⟩ := y
  simp only [sD, D.nk, D.nks] at h
  simp at h
  obtain ⟨rfl, rfl, rfl⟩ := h
  rfl
theorem eqK_sD (x y : Sd) : eqK (sD x) (sD y) = decide (x = y) := by
  unfold eqK
  by_cases h : x = y
  · rw [h]; simp
  · rw [decide_eq_false h, decide_eq_false fun z => h (nk_inj z)]
def dctS (L : List Sd) (g : Sd → D) : D := .dct (L.map fun x => (sD x, g x))
theorem kOk_S (L : List Sd) (g : Sd → D) (x : Sd) : kOk (L.map fun x => (sD x, g x)) (sD x) = true := by
  unfold kOk
  rw [List.all_map]
  simp [Function.comp_def, tk_sD]
theorem look_S (L : List Sd) (g : Sd → D) (x : Sd) : lookD (L.map fun x => (sD x, g x)) (sD x) = if x ∈ L then some (g x) else none := by
  unfold lookD
  induction L with
  | nil => rfl
  | cons y L ih =>
    rw [List.map_cons, List.find?_cons, eqK_sD]
    by_cases h : y = x
    · subst h; simp
    · rw [decide_eq_false h]
      simp only [List.mem_cons, Ne.symm h, false_or]
      exact ih
def leads (s : Stv) (d : List Hr) (x : Sd) (l : Int) (L : List Sd) : Bool := (rows s d x l).all fun y => decide (y ∈ L)
def S_does_lead : FSpec := fun ds k Q => ∃ (s : Stv) (d : List Hr) (x : Sd) (l : Int) (L : List Sd) (g : Sd → D), s.Ok ∧ DyOk d ∧ In s d x ∧ (0 ≤ l ∧ warm s x.2.1 l ≤ s.holds) ∧ ds = [stD s, dD d, sD x, .int l, dctS L g] ∧ Q (.bl (leads s d x l L)) k
theorem w_does_lead (e : Γ i_rows_behind = S_rows_behind) : Wok Γ S_does_lead p_does_lead 6 5 := by
  rintro _ k Q ⟨s, d, x, l, L, g, ok, dk, hx, hw, rfl, h⟩
  refine ⟨rfl, ?_⟩
  unfold p_does_lead
  (((conv => whnf); try refine ite_back ?_); repeat (refine ⟨by first | rfl | exact ⟨rfl, rfl⟩ | exact ⟨fun z => DL.D.noConfusion z, fun z => DL.D.noConfusion z⟩, ?_⟩; ((conv => whnf); try refine ite_back ?_)))
  rw [e]
  refine ⟨s, d, x, l, ok, dk, hx, hw, rfl, ?_⟩
  (((conv => whnf); try refine ite_back ?_); repeat (refine ⟨by first | rfl | exact ⟨rfl, rfl⟩ | exact ⟨fun z => DL.D.noConfusion z, fun z => DL.D.noConfusion z⟩, ?_⟩; ((conv => whnf); try refine ite_back ?_)))
  refine wpLc_map sD (fun y => .bl (decide (y ∈ L))) _ rfl (fun y hy R q => ?_) ?_
  · ((conv => whnf); try refine ite_back ?_)
    refine ⟨kOk_S L g y, ?_⟩
    rw [look_S]
    have e2 : (if y ∈ L then some (g y) else none).isSome = decide (y ∈ L) := by by_cases c : y ∈ L <;> simp [c]
    rw [e2]
    exact q
  · (((conv => whnf); try refine ite_back ?_); repeat (refine ⟨by first | rfl | exact ⟨rfl, rfl⟩ | exact ⟨fun z => DL.D.noConfusion z, fun z => DL.D.noConfusion z⟩, ?_⟩; ((conv => whnf); try refine ite_back ?_)))
    refine ⟨allB_map _ _, ?_⟩
    (((conv => whnf); try refine ite_back ?_); repeat (refine ⟨by first | rfl | exact ⟨rfl, rfl⟩ | exact ⟨fun z => DL.D.noConfusion z, fun z => DL.D.noConfusion z⟩, ?_⟩; ((conv => whnf); try refine ite_back ?_)))
    rw [allT_map]
    exact h
/-- the fewest logs that lead into L -/
def logsIn (s : Stv) (d : List Hr) (x : Sd) (L : List Sd) : Option Int := (logsBy s x.2.1).find? fun l => leads s d x l L
def oD : Option Int → D
  | none => .non
  | some i => .int i
theorem mem_logsBy {s : Stv} {t l : Int} : l ∈ logsBy s t ↔ (0 ≤ l ∧ l ≤ s.most) ∧ warm s t l ≤ s.holds := by
  unfold logsBy warm
  rw [List.mem_filter, mem_rngI, decide_eq_true_eq]
  omega
def S_logs_within : FSpec := fun ds k Q => ∃ (s : Stv) (d : List Hr) (x : Sd) (L : List Sd) (g : Sd → D), s.Ok ∧ DyOk d ∧ In s d x ∧ ds = [stD s, dD d, sD x, dctS L g] ∧ Q (oD (logsIn s d x L)) k
theorem w_logs_within (e1 : Γ i_logs_by = S_logs_by) (e2 : Γ i_does_lead = S_does_lead) : Wok Γ S_logs_within p_logs_within 5 4 := by
  rintro _ k Q ⟨s, d, x, L, g, ok, dk, hx, rfl, h⟩
  refine ⟨rfl, ?_⟩
  unfold p_logs_within
  (((conv => whnf); try refine ite_back ?_); repeat (refine ⟨by first | rfl | exact ⟨rfl, rfl⟩ | exact ⟨fun z => DL.D.noConfusion z, fun z => DL.D.noConfusion z⟩, ?_⟩; ((conv => whnf); try refine ite_back ?_)))
  rw [e1]
  refine ⟨s, x.2.1, ok, rfl, ?_⟩
  (((conv => whnf); try refine ite_back ?_); repeat (refine ⟨by first | rfl | exact ⟨rfl, rfl⟩ | exact ⟨fun z => DL.D.noConfusion z, fun z => DL.D.noConfusion z⟩, ?_⟩; ((conv => whnf); try refine ite_back ?_)))
  refine wpL_of iD (fun done ρ => ∃ a, ρ = ⟨[.dat (stD s), .dat (dD d), .dat (sD x), .dat (dctS L g), a], k⟩ ∧ ∀ l ∈ done, leads s d x l L = false) _ ⟨_, rfl, fun _ h => nomatch h⟩ ?_ ?_
  · rintro done l rest hall ρ ⟨a, rfl, hd⟩ R hR
    have hm : l ∈ logsBy s x.2.1 := by rw [hall]; simp
    obtain ⟨⟨m1, _⟩, m2⟩ := mem_logsBy.mp hm
    (((conv => whnf); try refine ite_back ?_); repeat (refine ⟨by first | rfl | exact ⟨rfl, rfl⟩ | exact ⟨fun z => DL.D.noConfusion z, fun z => DL.D.noConfusion z⟩, ?_⟩; ((conv => whnf); try refine ite_back ?_)))
    rw [e2]
    refine ⟨s, d, x, l, L, g, ok, dk, hx, ⟨m1, m2⟩, rfl, ?_⟩
    (((conv => whnf); try refine ite_back ?_); repeat (refine ⟨by first | rfl | exact ⟨rfl, rfl⟩ | exact ⟨fun z => DL.D.noConfusion z, fun z => DL.D.noConfusion z⟩, ?_⟩; ((conv => whnf); try refine ite_back ?_)))
    cases c : leads s d x l L with
    | true =>
      (((conv => whnf); try refine ite_back ?_); repeat (refine ⟨by first | rfl | exact ⟨rfl, rfl⟩ | exact ⟨fun z => DL.D.noConfusion z, fun z => DL.D.noConfusion z⟩, ?_⟩; ((conv => whnf); try refine ite_back ?_)))
      have : logsIn s d x L = some l := by
        unfold logsIn
        rw [hall, List.find?_append, List.find?_eq_none.mpr fun y hy => by rw [hd y hy]; exact fun z => nomatch z]
        simp [c]
      rw [this] at h
      exact h
    | false =>
      (((conv => whnf); try refine ite_back ?_); repeat (refine ⟨by first | rfl | exact ⟨rfl, rfl⟩ | exact ⟨fun z => DL.D.noConfusion z, fun z => DL.D.noConfusion z⟩, ?_⟩; ((conv => whnf); try refine ite_back ?_)))
      refine hR _ ⟨_, rfl, fun y hy => ?_⟩
      rcases List.mem_append.mp hy with hy | hy
      · exact hd y hy
      · rw [List.mem_singleton.mp hy]; exact c
  · rintro ρ ⟨a, rfl, hd⟩
    (((conv => whnf); try refine ite_back ?_); repeat (refine ⟨by first | rfl | exact ⟨rfl, rfl⟩ | exact ⟨fun z => DL.D.noConfusion z, fun z => DL.D.noConfusion z⟩, ?_⟩; ((conv => whnf); try refine ite_back ?_)))
    have : logsIn s d x L = none := List.find?_eq_none.mpr fun y hy => by rw [hd y hy]; exact fun z => nomatch z
    rw [this] at h
    exact h
end Lw
namespace Lw
open PySem PySem.Spec PyProof.Rows L2 DL
variable {Γ : Nat → FSpec}
mutual
/-- data of ints alone, at most n deep -/
def flat : Nat → D → Bool
  | _, .non => true
  | _, .bl _ => true
  | _, .int _ => true
  | n + 1, .tup xs => flats n xs
  | n + 1, .lst xs => flats n xs
  | _, _ => false
def flats : Nat → List D → Bool
  | _, [] => true
  | n, x :: xs => flat n x && flats n xs
end
theorem flats_map {α : Type} {n : Nat} {f : α → D} (h : ∀ x, flat n (f x) = true) : ∀ xs : List α, flats n (xs.map f) = true
  | [] => by simp [flats]
  | x :: xs => by rw [List.map_cons, flats, h x, flats_map h xs]; rfl
mutual
theorem flat_ok : ∀ (n : Nat) (d : D), flat n d = true → d.plain = true ∧ PyData.canLay0 d.py = true ∧ d.py.depth ≤ n
  | n, .non, _ => ⟨rfl, rfl, Nat.zero_le _⟩
  | n, .bl _, _ => ⟨rfl, rfl, Nat.zero_le _⟩
  | n, .int _, _ => ⟨rfl, rfl, Nat.zero_le _⟩
  | n + 1, .tup xs, h => by
    have q := flats_ok n xs (by simpa [flat] using h)
    exact ⟨q.1, q.2.1, Nat.succ_le_succ q.2.2⟩
  | n + 1, .lst xs, h => by
    have q := flats_ok n xs (by simpa [flat] using h)
    exact ⟨q.1, q.2.1, Nat.succ_le_succ q.2.2⟩
  | 0, .tup _, h => by simp [flat] at h
  | 0, .lst _, h => by simp [flat] at h
  | n, .str _, h => by simp [flat] at h
  | n, .dct _, h => by simp [flat] at h
  | n, .pot, h => by simp [flat] at h
  | n, .scr _, h => by simp [flat] at h
theorem flats_ok : ∀ (n : Nat) (xs : List D), flats n xs = true → D.plains xs = true ∧ PyData.canLayAll0 (D.pys xs) = true ∧ PyData.depthAll (D.pys xs) ≤ n
  | n, [], _ => ⟨rfl, rfl, Nat.zero_le _⟩
  | n, x :: xs, h => by
    rw [flats, Bool.and_eq_true] at h
    have a := flat_ok n x h.1
    have b := flats_ok n xs h.2
    refine ⟨?_, ?_, ?_⟩
    · rw [D.plains, a.1, b.1]; rfl
    · rw [D.pys, PyData.canLayAll0, a.2.1, b.2.1]; rfl
    · rw [D.pys, PyData.depthAll]; exact Nat.max_le.mpr ⟨a.2.2, b.2.2⟩
end
theorem okData_flat {n : Nat} {d : D} (h : flat n d = true) (hn : n ≤ 64) : okData d = true := by
  obtain ⟨a, b, c⟩ := flat_ok n d h
  unfold okData SeqAt.shaped
  rw [a, b, decide_eq_true (by omega)]
  rfl
theorem flat_sD (x : Sd) : flat 1 (sD x) = true := rfl
/-! the dicts -/
theorem pairs_S (L : List Sd) (g : Sd → D) : pairsD (L.map fun x => .tup [sD x, g x]) = some (L.map fun x => (sD x, g x)) := by
  induction L with
  | nil => rfl
  | cons x L ih => rw [List.map_cons, pairsD, ih]; rfl
theorem keysOk_S (L : List Sd) (g : Sd → D) : keysOk (L.map fun x => (sD x, g x)) = true := by
  unfold keysOk
  rw [List.all_map]
  simp [Function.comp_def, tk_sD]
theorem any_S (L : List Sd) (g : Sd → D) (x : Sd) : ((L.map fun x => (sD x, g x)).any fun p => eqK p.1 (sD x)) = decide (x ∈ L) := by
  rw [List.any_map]
  induction L with
  | nil => simp
  | cons y L ih =>
    rw [List.any_cons, ih]
    simp only [Function.comp_apply, eqK_sD]
    by_cases h : y = x
    · subst h; simp
    · simp [h, Ne.symm h]
theorem putD_new (L : List Sd) (g : Sd → D) (x : Sd) (h : x ∉ L) : putD (L.map fun x => (sD x, g x)) (sD x) (g x) = (L ++ [x]).map fun x => (sD x, g x) := by
  unfold putD
  rw [any_S, decide_eq_false h, if_neg (by simp), List.map_append]
  rfl
theorem putAll_S (g : Sd → D) : ∀ (L M : List Sd), (M ++ L).Nodup → putAll (M.map fun x => (sD x, g x)) (L.map fun x => (sD x, g x)) = (M ++ L).map fun x => (sD x, g x)
  | [], M, _ => by rw [List.append_nil]; rfl
  | x :: L, M, h => by
    have hx : x ∉ M := fun hm => by
      rw [List.nodup_append] at h
      exact h.2.2 x hm x (List.mem_cons_self ..) rfl
    show putAll (putD (M.map fun x => (sD x, g x)) (sD x) (g x)) (L.map fun x => (sD x, g x)) = _
    rw [putD_new _ _ _ hx, putAll_S g L (M ++ [x]) (by rw [List.append_assoc]; exact h), List.append_assoc]
    rfl
theorem dict_S {L : List Sd} {g : Sd → D} {Q : D → Prop} (hn : L.Nodup) (h : Q (dctS L g)) : DictS (L.map fun x => .tup [sD x, g x]) Q := by
  refine ⟨?_⟩
  simp only [pairs_S]
  refine ⟨keysOk_S L g, ?_⟩
  have := putAll_S g L [] hn
  rw [List.map_nil, List.nil_append] at this
  rw [this]
  exact h
/-! the rounds -/
def lostOf (s : Stv) (d : List Hr) (L : List Sd) : List Sd := L.filter fun x => (logsIn s d x L).isNone
def keepOf (s : Stv) (d : List Hr) (L : List Sd) : List Sd := L.filter fun x => decide (x ∉ lostOf s d L)
def rounds (s : Stv) (d : List Hr) : Nat → List Sd → Int → List (Sd × Int) → List (Sd × Int) × List Sd
  | 0, L, _, R => (R, L)
  | f + 1, L, n, R => if lostOf s d L = [] then (R, L) else rounds s d f (keepOf s d L) (n + 1) (R ++ (lostOf s d L).map fun x => (x, n + 1))
theorem keep_len {s : Stv} {d : List Hr} {L : List Sd} (h : lostOf s d L ≠ []) : (keepOf s d L).length < L.length := by
  unfold keepOf
  obtain ⟨x, hx⟩ := List.exists_mem_of_ne_nil _ h
  have hm : x ∈ L := (List.mem_filter.mp hx).1
  refine List.length_filter_lt_length_iff_exists.mpr ⟨x, hm, by simp [hx]⟩
def rkD (R : List (Sd × Int)) : List (D × D) := R.map fun p => (sD p.1, .int p.2)
theorem kOk_R (R : List (Sd × Int)) (x : Sd) : kOk (rkD R) (sD x) = true := by
  unfold kOk rkD
  rw [List.all_map]
  simp [Function.comp_def, tk_sD]
theorem any_R (R : List (Sd × Int)) (x : Sd) : ((rkD R).any fun p => eqK p.1 (sD x)) = decide (x ∈ R.map (·.1)) := by
  unfold rkD
  rw [List.any_map]
  induction R with
  | nil => simp
  | cons y L ih =>
    rw [List.any_cons, ih]
    simp only [Function.comp_apply, eqK_sD]
    by_cases h : y.1 = x
    · subst h; simp
    · simp [h, Ne.symm h]
theorem putR_new (R : List (Sd × Int)) (x : Sd) (n : Int) (h : x ∉ R.map (·.1)) : putD (rkD R) (sD x) (.int n) = rkD (R ++ [(x, n)]) := by
  unfold putD
  rw [any_R, decide_eq_false h, if_neg (by simp)]
  unfold rkD
  rw [List.map_append]
  rfl
theorem look_R_some (R : List (Sd × Int)) (x : Sd) : (lookD (rkD R) (sD x)).isSome = decide (x ∈ R.map (·.1)) := by
  unfold lookD
  rw [Option.isSome_map, ← any_R, List.isSome_find?]
/-- what ranks_of gives -/
def ranksOf (s : Stv) (d : List Hr) : List (Sd × Int) × List Sd := rounds s d ((stands s d).length + 1) (stands s d) 0 []
end Lw
namespace Lw
open PySem PySem.Spec PyProof.Rows L2 DL
variable {Γ : Nat → FSpec}
theorem mem_standsAt {s : Stv} {i : Int} {o : Hr} {x : Sd} : x ∈ standsAt s i o ↔ x.1 = i ∧ (0 ≤ x.2.1 ∧ x.2.1 ≤ s.holds) ∧ (o.1.1 ≤ x.2.2 ∧ x.2.2 ≤ o.1.2) := by
  unfold standsAt
  rw [List.mem_flatten]
  constructor
  · rintro ⟨l, hl, hx⟩
    obtain ⟨t, ht, rfl⟩ := List.mem_map.mp hl
    obtain ⟨r, hr, rfl⟩ := List.mem_map.mp hx
    rw [mem_rngI] at ht hr
    exact ⟨rfl, ⟨by show 0 ≤ t; omega, by show t ≤ _; omega⟩, by show _ ≤ r; omega, by show r ≤ _; omega⟩
  · rintro ⟨rfl, ⟨h1, h2⟩, h3, h4⟩
    exact ⟨_, List.mem_map.mpr ⟨x.2.1, mem_rngI.mpr ⟨by omega, by omega⟩, rfl⟩, List.mem_map.mpr ⟨x.2.2, mem_rngI.mpr ⟨by omega, by omega⟩, rfl⟩⟩
theorem mem_stands {s : Stv} {d : List Hr} {x : Sd} : x ∈ stands s d ↔ In s d x := by
  unfold stands
  rw [List.mem_flatten]
  constructor
  · rintro ⟨l, hl, hx⟩
    obtain ⟨⟨o, i⟩, hp, rfl⟩ := List.mem_map.mp hl
    obtain ⟨h1, ⟨h2, h3⟩, h4, h5⟩ := mem_standsAt.mp hx
    have hz := List.mem_zipIdx hp
    have hi : i < d.length := by have := hz.2.1; omega
    have ho : hrAt d x.1 = o := by
      rw [h1]
      unfold hrAt
      have e : ((i : Nat) : Int).toNat = i := rfl
      show d.getD ((i : Nat) : Int).toNat _ = o
      rw [e, getD_lt _ _ hi, hz.2.2]
      simp
    exact ⟨by rw [h1]; omega, by rw [h1]; exact Int.ofNat_lt.mpr hi, h2, h3, by rw [ho]; exact h4, by rw [ho]; exact h5⟩
  · intro h
    have a0 := h.a0; have a1 := h.a1
    have hi : x.1.toNat < d.length := by omega
    refine ⟨_, List.mem_map.mpr ⟨(d[x.1.toNat], x.1.toNat), ?_, rfl⟩, mem_standsAt.mpr ⟨by show x.1 = ((x.1.toNat : Nat) : Int); omega, ⟨h.t0, h.t1⟩, ?_⟩⟩
    · rw [List.mem_zipIdx_iff_getElem?, List.getElem?_eq_getElem hi]
    · have r0 := h.r0; have r1 := h.r1
      unfold hrAt at r0 r1
      rw [getD_lt _ _ hi] at r0 r1
      exact ⟨r0, r1⟩
/-- one stand before another -/
def ltS (x y : Sd) : Prop := x.1 < y.1 ∨ (x.1 = y.1 ∧ (x.2.1 < y.2.1 ∨ (x.2.1 = y.2.1 ∧ x.2.2 < y.2.2)))
theorem rngI_lt (lo : Int) (n : Nat) : (rngI lo n).Pairwise (· < ·) := by
  unfold rngI
  rw [List.pairwise_map]
  exact List.pairwise_lt_range.imp fun h => by omega
theorem standsAt_lt (s : Stv) (i : Int) (o : Hr) : (standsAt s i o).Pairwise ltS := by
  unfold standsAt
  rw [List.pairwise_flatten]
  refine ⟨fun l hl => ?_, ?_⟩
  · obtain ⟨t, _, rfl⟩ := List.mem_map.mp hl
    rw [List.pairwise_map]
    exact (rngI_lt _ _).imp fun h => .inr ⟨rfl, .inr ⟨rfl, h⟩⟩
  · rw [List.pairwise_map]
    refine (rngI_lt _ _).imp fun h x hx y hy => ?_
    obtain ⟨r, _, rfl⟩ := List.mem_map.mp hx
    obtain ⟨r', _, rfl⟩ := List.mem_map.mp hy
    exact .inr ⟨rfl, .inl h⟩
theorem stands_lt (s : Stv) (d : List Hr) : (stands s d).Pairwise ltS := by
  unfold stands
  rw [List.pairwise_flatten]
  refine ⟨fun l hl => ?_, ?_⟩
  · obtain ⟨p, _, rfl⟩ := List.mem_map.mp hl
    exact standsAt_lt _ _ _
  · rw [List.pairwise_map]
    have hp : (d.zipIdx.map (·.2)).Pairwise (· < ·) := by
      rw [List.zipIdx_map_snd]
      exact List.pairwise_lt_range'
    rw [List.pairwise_map] at hp
    refine hp.imp fun h x hx y hy => ?_
    have a := (mem_standsAt.mp hx).1
    have b := (mem_standsAt.mp hy).1
    exact .inl (by rw [a, b]; omega)
theorem ltS_ne {x y : Sd} (h : ltS x y) : x ≠ y := fun e => by
  subst e
  rcases h with h | ⟨_, h | ⟨_, h⟩⟩ <;> omega
theorem stands_nd (s : Stv) (d : List Hr) : (stands s d).Nodup := (stands_lt s d).imp ltS_ne
theorem stands_len {s : Stv} {d : List Hr} (ok : s.Ok) (dk : DyOk d) : (stands s d).length ≤ 1200 := by
  have l2 := dk.l2; have s2 := ok.h2
  have h := flatten_len 200 (d.zipIdx.map fun p => standsAt s (p.2 : Nat) p.1) fun xs hx => by
    obtain ⟨⟨o, i⟩, hp, rfl⟩ := List.mem_map.mp hx
    have hz := List.mem_zipIdx hp
    have om : o ∈ d := by rw [hz.2.2]; exact List.getElem_mem _
    have o1 := (dk.ok o om).a; have o2 := (dk.ok o om).b; have o3 := (dk.ok o om).c
    have n1 := flatten_len 13 ((rngI 0 (s.holds + 1)).map fun t => (rngI o.1.1 (o.1.2 + 1 - o.1.1).toNat).map fun r => ((((i : Nat) : Int), t, r) : Sd)) fun xs hx => by
      obtain ⟨t, _, rfl⟩ := List.mem_map.mp hx
      rw [List.length_map, rngI_len]; omega
    rw [List.length_map, rngI_len] at n1
    have n2 : (standsAt s (i : Nat) o).length ≤ (s.holds + 1) * 13 := n1
    show (standsAt s (i : Nat) o).length ≤ 200
    omega
  rw [List.length_map, List.length_zipIdx] at h
  unfold stands
  omega
theorem keys_S (L : List Sd) (g : Sd → D) : (L.map fun x => (sD x, g x)).map (·.1) = L.map sD := by
  rw [List.map_map]; rfl
theorem wpW_ix {C : Ev → QD → Prop} {B : Ev → Po → Prop} {P : Po} (I : Nat → Ev → Prop)
    (step : ∀ m ρ, I m ρ → ∀ R : Ev → Prop, (∀ m' ρ', I m' ρ' → m' < m → R ρ') → C ρ fun c ρ1 => match c with
      | .bl b => if b = true then B ρ1 { nx := R, ct := R, bk := P.nx, rt := P.rt } else P.nx ρ1
      | _ => False) : ∀ (n m : Nat) (ρ : Ev), I m ρ → m < n → wpW C B P n ρ
  | 0, _, _, _, h => absurd h (Nat.not_lt_zero _)
  | n + 1, m, ρ, h, hm => step m ρ h (wpW C B P n) fun m' ρ' h' hl => wpW_ix I step n m' ρ' h' (by omega)
theorem len_split {α : Type} (p : α → Bool) : ∀ L : List α, (L.filter p).length + (L.filter fun x => !p x).length = L.length
  | [] => rfl
  | x :: L => by
    have ih := len_split p L
    cases h : p x <;> simp [List.filter_cons, h] <;> omega
theorem keepOf_eq (s : Stv) (d : List Hr) (L : List Sd) : keepOf s d L = L.filter fun x => !(logsIn s d x L).isNone := by
  unfold keepOf
  refine List.filter_congr fun x hx => ?_
  unfold lostOf
  cases h : (logsIn s d x L).isNone <;> simp [List.mem_filter, hx, h]
def S_ranks_of : FSpec := fun ds k Q => ∃ (s : Stv) (d : List Hr), s.Ok ∧ DyOk d ∧ ds = [stD s, dD d] ∧ Q (.tup [.dct (rkD (ranksOf s d).1), dctS (ranksOf s d).2 fun _ => .bl true]) k
/-- where the rounds stand -/
structure At (s : Stv) (d : List Hr) (L : List Sd) (R : List (Sd × Int)) : Prop where
  sub : ∀ x ∈ L, In s d x
  nd : L.Nodup
  off : ∀ x ∈ L, x ∉ R.map (·.1)
  len : R.length + L.length ≤ 1200
theorem lost_nd {s : Stv} {d : List Hr} {L : List Sd} {R : List (Sd × Int)} (h : At s d L R) : (lostOf s d L).Nodup := h.nd.filter _
theorem w_ranks_of (e1 : Γ i_stands_of = S_stands_of) (e2 : Γ i_logs_within = S_logs_within) : Wok Γ S_ranks_of p_ranks_of 7 2 := by
  rintro _ k Q ⟨s, d, ok, dk, rfl, h⟩
  refine ⟨rfl, ?_⟩
  unfold p_ranks_of
  (((conv => whnf); try refine ite_back ?_); repeat (refine ⟨by first | rfl | exact ⟨rfl, rfl⟩ | exact ⟨fun z => DL.D.noConfusion z, fun z => DL.D.noConfusion z⟩, ?_⟩; ((conv => whnf); try refine ite_back ?_)))
  rw [e1]
  refine ⟨s, d, ok, dk, rfl, ?_⟩
  (((conv => whnf); try refine ite_back ?_); repeat (refine ⟨by first | rfl | exact ⟨rfl, rfl⟩ | exact ⟨fun z => DL.D.noConfusion z, fun z => DL.D.noConfusion z⟩, ?_⟩; ((conv => whnf); try refine ite_back ?_)))
  refine wpLc_map sD (fun x => .tup [sD x, .bl true]) _ rfl (fun x hx R q => by (((conv => whnf); try refine ite_back ?_); repeat (refine ⟨by first | rfl | exact ⟨rfl, rfl⟩ | exact ⟨fun z => DL.D.noConfusion z, fun z => DL.D.noConfusion z⟩, ?_⟩; ((conv => whnf); try refine ite_back ?_))); exact q) ?_
  (((conv => whnf); try refine ite_back ?_); repeat (refine ⟨by first | rfl | exact ⟨rfl, rfl⟩ | exact ⟨fun z => DL.D.noConfusion z, fun z => DL.D.noConfusion z⟩, ?_⟩; ((conv => whnf); try refine ite_back ?_)))
  refine dict_S (stands_nd s d) ?_
  (((conv => whnf); try refine ite_back ?_); repeat (refine ⟨by first | rfl | exact ⟨rfl, rfl⟩ | exact ⟨fun z => DL.D.noConfusion z, fun z => DL.D.noConfusion z⟩, ?_⟩; ((conv => whnf); try refine ite_back ?_)))
  refine ⟨(stands s d).length + 2, wpW_ix (fun m ρ => ∃ L R n a, Fr a ∧ At s d L R ∧ ((∃ y ys f, okData (.lst (y :: ys)) = true ∧ L.length < f ∧ rounds s d f L n R = ranksOf s d ∧ m = L.length + 1 ∧ ρ = ⟨[.dat (stD s), .dat (dD d), .dat (.lst (y :: ys)), .dat (dctS L fun _ => .bl true), .od (rkD R), .dat (.int n), a], k⟩) ∨ (ranksOf s d = (R, L) ∧ m = 0 ∧ ρ = ⟨[.dat (stD s), .dat (dD d), .dat (.lst []), .dat (dctS L fun _ => .bl true), .od (rkD R), .dat (.int n), a], k⟩))) ?step ((stands s d).length + 2) ((stands s d).length + 1) _ ?start (Nat.lt_succ_self _)⟩
  case start =>
    exact ⟨stands s d, [], 0, .any, fr_any, ⟨fun x hx => mem_stands.mp hx, stands_nd s d, fun x _ z => (nomatch z), by have := stands_len ok dk; simpa using this⟩, .inl ⟨.non, [], (stands s d).length + 1, rfl, Nat.lt_succ_self _, rfl, rfl, rfl⟩⟩
  case step =>
    rintro m ρ ⟨L, R, n, a, fa, A, ⟨y, ys, f, hy, hf, hrd, rfl, rfl⟩ | ⟨hrd, rfl, rfl⟩⟩ T hT
    · (((conv => whnf); try refine ite_back ?_); repeat (refine ⟨by first | rfl | exact ⟨rfl, rfl⟩ | exact ⟨fun z => DL.D.noConfusion z, fun z => DL.D.noConfusion z⟩, ?_⟩; ((conv => whnf); try refine ite_back ?_)))
      refine ⟨⟨hy, rfl⟩, ?_⟩
      have e0 : (!eqD (.lst (y :: ys)) (.lst [])) = true := by simp [eqD, D.py, D.pys, PyData.eqv, PyData.eqvAll]
      rw [e0]
      (((conv => whnf); try refine ite_back ?_); repeat (refine ⟨by first | rfl | exact ⟨rfl, rfl⟩ | exact ⟨fun z => DL.D.noConfusion z, fun z => DL.D.noConfusion z⟩, ?_⟩; ((conv => whnf); try refine ite_back ?_)))
      rw [keys_S]
      refine wpLc_filter sD (fun x => (logsIn s d x L).isNone) sD L (by (first | rfl | (simp only [ownOk, noOdl, Ev.get, Ev.set, getS, setS, List.all_cons, List.all_nil, odl_any, odl_dat, odl_ol, odl_od, own_any, own_dat, Fr.od, Fr.ow, Bool.not_false, Bool.and_true, Bool.true_and, *]; done))) (fun x hx RT RF h1 h2 => ?_) ?_
      · (((conv => whnf); try refine ite_back ?_); repeat (refine ⟨by first | rfl | exact ⟨rfl, rfl⟩ | exact ⟨fun z => DL.D.noConfusion z, fun z => DL.D.noConfusion z⟩, ?_⟩; ((conv => whnf); try refine ite_back ?_)))
        rw [e2]
        refine ⟨s, d, x, L, _, ok, dk, A.sub x hx, rfl, ?_⟩
        cases c : logsIn s d x L with
        | none => rw [c] at h1; exact h1 rfl
        | some i => rw [c] at h2; exact h2 rfl
      · (((conv => whnf); try refine ite_back ?_); repeat (refine ⟨by first | rfl | exact ⟨rfl, rfl⟩ | exact ⟨fun z => DL.D.noConfusion z, fun z => DL.D.noConfusion z⟩, ?_⟩; ((conv => whnf); try refine ite_back ?_)))
        have hlo : ∀ x ∈ lostOf s d L, x ∈ L := fun x hx => (List.mem_filter.mp hx).1
        have hoff : ∀ x ∈ lostOf s d L, x ∉ R.map (·.1) := fun x hx => A.off x (hlo x hx)
        have hlen := A.len
        have hll : (lostOf s d L).length ≤ L.length := List.length_filter_le ..
        refine wpL_of sD (fun done ρ => ∃ a, Fr a ∧ ρ = ⟨[.dat (stD s), .dat (dD d), .dat (.lst ((lostOf s d L).map sD)), .dat (dctS L fun _ => .bl true), .od (rkD (R ++ done.map fun x => (x, n + 1))), .dat (.int (n + 1)), a], k⟩) (lostOf s d L) ⟨a, fa, by rw [List.map_nil, List.append_nil]; rfl⟩ ?_ ?_
        · rintro done x rest hall ρ ⟨a, fa, rfl⟩ T2 hT2
          have hx : x ∈ lostOf s d L := by rw [hall]; simp
          have hnd := lost_nd A
          rw [hall] at hnd
          have hnx : x ∉ done := fun hm => by
            rw [List.nodup_append] at hnd
            exact hnd.2.2 x hm x (List.mem_cons_self ..) rfl
          have hk : x ∉ (R ++ done.map fun x => (x, n + 1)).map (·.1) := by
            rw [List.map_append, List.map_map, List.mem_append]
            rintro (q | q)
            · exact hoff x hx q
            · obtain ⟨y, hy, rfl⟩ := List.mem_map.mp q
              exact hnx hy
          have hdl : done.length ≤ (lostOf s d L).length := by rw [hall]; simp
          ((conv => whnf); try refine ite_back ?_)
          refine ⟨⟨kOk_R _ x, ?_⟩, ?_⟩
          · unfold rkD
            rw [List.length_map, List.length_append, List.length_map, sizeLine_eq]
            omega
          · (((conv => whnf); try refine ite_back ?_); repeat (refine ⟨by first | rfl | exact ⟨rfl, rfl⟩ | exact ⟨fun z => DL.D.noConfusion z, fun z => DL.D.noConfusion z⟩, ?_⟩; ((conv => whnf); try refine ite_back ?_)))
            rw [putR_new _ x _ hk]
            refine hT2 _ ⟨.dat (sD x), fr_dat, ?_⟩
            rw [List.map_append, List.map_cons, List.map_nil, List.append_assoc]
            rfl
        · rintro ρ ⟨a, fa, rfl⟩
          (((conv => whnf); try refine ite_back ?_); repeat (refine ⟨by first | rfl | exact ⟨rfl, rfl⟩ | exact ⟨fun z => DL.D.noConfusion z, fun z => DL.D.noConfusion z⟩, ?_⟩; ((conv => whnf); try refine ite_back ?_)))
          rw [keys_S]
          refine wpLc_filter sD (fun x => decide (x ∉ lostOf s d L)) (fun x => .tup [sD x, .bl true]) L (by (first | rfl | (simp only [ownOk, noOdl, Ev.get, Ev.set, getS, setS, List.all_cons, List.all_nil, odl_any, odl_dat, odl_ol, odl_od, own_any, own_dat, Fr.od, Fr.ow, Bool.not_false, Bool.and_true, Bool.true_and, *]; done))) (fun x hx RT RF h1 h2 => ?_) ?_
          · ((conv => whnf); try refine ite_back ?_)
            refine ⟨kOk_R _ x, ?_⟩
            rw [look_R_some]
            have e3 : (!decide (x ∈ (R ++ (lostOf s d L).map fun x => (x, n + 1)).map (·.1))) = decide (x ∉ lostOf s d L) := by
              rw [List.map_append, List.map_map]
              have h4 := A.off x hx
              by_cases c : x ∈ lostOf s d L
              · simp [c]
              · simp [c, h4]
            rw [e3]
            cases c : decide (x ∉ lostOf s d L) with
            | true => exact h1 c
            | false => exact h2 c
          · (((conv => whnf); try refine ite_back ?_); repeat (refine ⟨by first | rfl | exact ⟨rfl, rfl⟩ | exact ⟨fun z => DL.D.noConfusion z, fun z => DL.D.noConfusion z⟩, ?_⟩; ((conv => whnf); try refine ite_back ?_)))
            refine dict_S (A.nd.filter _) ?_
            (((conv => whnf); try refine ite_back ?_); repeat (refine ⟨by first | rfl | exact ⟨rfl, rfl⟩ | exact ⟨fun z => DL.D.noConfusion z, fun z => DL.D.noConfusion z⟩, ?_⟩; ((conv => whnf); try refine ite_back ?_)))
            have f0 : ∃ f', f = f' + 1 := ⟨f - 1, by omega⟩
            obtain ⟨f, rfl⟩ := f0
            have A2 : At s d (keepOf s d L) (R ++ (lostOf s d L).map fun x => (x, n + 1)) := by
              refine ⟨fun x hx => A.sub x (List.mem_filter.mp hx).1, A.nd.filter _, fun x hx => ?_, ?_⟩
              · have h5 := List.mem_filter.mp hx
                rw [List.map_append, List.map_map, List.mem_append]
                rintro (q | q)
                · exact A.off x h5.1 q
                · obtain ⟨y, hy, rfl⟩ := List.mem_map.mp q
                  exact (of_decide_eq_true h5.2) hy
              · rw [List.length_append, List.length_map]
                have h6 : (lostOf s d L).length + (keepOf s d L).length = L.length := by
                  rw [keepOf_eq]
                  exact len_split _ L
                omega
            by_cases c : lostOf s d L = []
            · rw [rounds, if_pos c] at hrd
              have hk : keepOf s d L = L := by
                unfold keepOf
                rw [List.filter_eq_self]
                intro x hx
                rw [c]; simp
              have hR : (R ++ (lostOf s d L).map fun x => (x, n + 1)) = R := by rw [c]; simp
              rw [hk] at A2
              refine hT 0 _ ⟨L, _, n + 1, a, fa, A2, .inr ⟨?_, rfl, ?_⟩⟩ (Nat.succ_pos _)
              · rw [hR]; exact hrd.symm
              · show Ev.mk _ _ = Ev.mk _ _
                have hk' : L.filter (fun x => decide (x ∉ lostOf s d L)) = L := hk
                rw [hk', c]
                rfl
            · rw [rounds, if_neg c] at hrd
              have hkl := keep_len c
              obtain ⟨z, zs, hz⟩ := List.exists_cons_of_ne_nil c
              refine hT ((keepOf s d L).length + 1) _ ⟨keepOf s d L, _, n + 1, a, fa, A2, .inl ⟨sD z, zs.map sD, f, ?_, by omega, hrd, rfl, ?_⟩⟩ (by omega)
              · exact okData_flat (n := 2) (flats_map (n := 1) (f := sD) flat_sD (z :: zs)) (by omega)
              · show Ev.mk _ _ = Ev.mk _ _
                rw [← List.map_cons, ← hz]
                rfl
    · (((conv => whnf); try refine ite_back ?_); repeat (refine ⟨by first | rfl | exact ⟨rfl, rfl⟩ | exact ⟨fun z => DL.D.noConfusion z, fun z => DL.D.noConfusion z⟩, ?_⟩; ((conv => whnf); try refine ite_back ?_)))
      rw [hrd] at h
      exact h
end Lw
namespace Lw
open PySem PySem.Spec PyProof.Rows L2 DL
variable {Γ : Nat → FSpec}
instance (x y : Sd) : Decidable (ltS x y) := by unfold ltS; infer_instance
theorem lt_sD (x y : Sd) : ltD (sD x) (sD y) = decide (ltS x y) := by
  obtain ⟨a, b, c⟩ := x
  obtain ⟨a', b', c'⟩ := y
  have e : ∀ (p q : Int) (l m : List (Int ⊕ List Nat)), PyProof.Rows.lexLt itemOrd (.inl p :: l) (.inl q :: m) = if p = q then PyProof.Rows.lexLt itemOrd l m else decide (p < q) := fun p q l m => by
    by_cases h : p = q
    · subst h; rw [if_pos rfl]; exact lex_self (O := itemOrd) _ _ _
    · rw [if_neg h]; exact lex_diff (O := itemOrd) fun z => h (Sum.inl.inj z)
  show PyProof.Rows.lexLt itemOrd [Sum.inl 1, Sum.inl a, Sum.inl 1, Sum.inl b, Sum.inl 1, Sum.inl c, Sum.inl 0] [Sum.inl 1, Sum.inl a', Sum.inl 1, Sum.inl b', Sum.inl 1, Sum.inl c', Sum.inl 0] = _
  simp only [e, if_true]
  unfold ltS
  by_cases h1 : a = a'
  · subst h1
    by_cases h2 : b = b'
    · subst h2
      by_cases h3 : c = c'
      · subst h3
        simp
        rfl
      · simp [h3]
    · simp [h2]
  · simp [h1]
theorem le_sD (x y : Sd) : leD (sD x) (sD y) = !decide (ltS y x) := by
  rw [← lt_sD]
  rfl
end Lw
namespace Lw
open PySem PySem.Spec PyProof.Rows L2 DL
variable {Γ : Nat → FSpec}
/-! sorting what is sorted -/
theorem sort_S {L : List Sd} (h : L.Pairwise ltS) : (L.map sD).mergeSort leD = L.map sD := by
  refine List.mergeSort_of_pairwise ?_
  rw [List.pairwise_map]
  refine h.imp fun {x y} h => ?_
  rw [le_sD]
  have : ¬ ltS y x := fun z => by
    unfold ltS at h z
    omega
  simp [this]
theorem sortable_S (L : List Sd) : sortable (L.map sD) := by
  refine ⟨fun a ha b hb => ?_, .inl fun a ha => ?_, fun a ha => ?_⟩
  · rw [List.map_map] at ha hb
    obtain ⟨x, _, rfl⟩ := List.mem_map.mp ha
    obtain ⟨y, _, rfl⟩ := List.mem_map.mp hb
    rfl
  · rw [List.map_map] at ha
    obtain ⟨x, _, rfl⟩ := List.mem_map.mp ha
    exact ⟨_, _, rfl⟩
  · obtain ⟨x, _, rfl⟩ := List.mem_map.mp ha
    exact ⟨rfl, by show (1 : Nat) ≤ 60; omega⟩
theorem sorted_S {L : List Sd} {Q : D → Prop} (h : L.Pairwise ltS) (q : Q (.lst (L.map sD))) : SortS (L.map sD) Q :=
  ⟨sortable_S L, by rw [sort_S h]; exact q⟩
/-! what the rounds end in -/
structure Fin (s : Stv) (d : List Hr) (R : List (Sd × Int)) (L : List Sd) : Prop where
  at_ : At s d L R
  lt : L.Pairwise ltS
  all : ∀ x, In s d x ↔ x ∈ L ∨ x ∈ R.map (·.1)
  rnd : (R.map (·.1)).Nodup
theorem fin_step {s : Stv} {d : List Hr} {L : List Sd} {R : List (Sd × Int)} {n : Int} (F : Fin s d R L) : Fin s d (R ++ (lostOf s d L).map fun x => (x, n)) (keepOf s d L) := by
  have hlo : ∀ x ∈ lostOf s d L, x ∈ L := fun x hx => (List.mem_filter.mp hx).1
  have hk : ∀ x, x ∈ (R ++ (lostOf s d L).map fun x => (x, n)).map (·.1) ↔ x ∈ R.map (·.1) ∨ x ∈ lostOf s d L := fun x => by
    rw [List.map_append, List.map_map, List.mem_append]
    have : (lostOf s d L).map ((·.1) ∘ fun x => (x, n)) = lostOf s d L := by
      rw [show ((fun p : Sd × Int => p.1) ∘ fun x : Sd => (x, n)) = id from rfl, List.map_id]
    rw [this]
  refine ⟨⟨fun x hx => F.at_.sub x (List.mem_filter.mp hx).1, F.at_.nd.filter _, fun x hx => ?_, ?_⟩, F.lt.filter _, fun x => ?_, ?_⟩
  · have h5 := List.mem_filter.mp hx
    rw [hk]
    rintro (q | q)
    · exact F.at_.off x h5.1 q
    · exact (of_decide_eq_true h5.2) q
  · rw [List.length_append, List.length_map]
    have h6 : (lostOf s d L).length + (keepOf s d L).length = L.length := by
      rw [keepOf_eq]
      exact len_split _ L
    have := F.at_.len
    omega
  · rw [F.all, hk]
    have e : x ∈ L ↔ x ∈ keepOf s d L ∨ x ∈ lostOf s d L := by
      unfold keepOf
      rw [List.mem_filter, decide_eq_true_eq]
      by_cases c : x ∈ lostOf s d L
      · simp [c, hlo x c]
      · simp [c]
    rw [e]
    exact ⟨fun h => h.elim (fun h => h.elim .inl fun h => .inr (.inr h)) fun h => .inr (.inl h), fun h => h.elim (fun h => .inl (.inl h)) fun h => h.elim .inr fun h => .inl (.inr h)⟩
  · rw [List.map_append, List.map_map]
    have : (lostOf s d L).map ((·.1) ∘ fun x => (x, n)) = lostOf s d L := by
      rw [show ((fun p : Sd × Int => p.1) ∘ fun x : Sd => (x, n)) = id from rfl, List.map_id]
    rw [this, List.nodup_append]
    refine ⟨F.rnd, F.at_.nd.filter _, fun x hx y hy e => ?_⟩
    subst e
    exact F.at_.off x (hlo x hy) hx
theorem fin_rounds (s : Stv) (d : List Hr) : ∀ (f : Nat) (L : List Sd) (n : Int) (R : List (Sd × Int)), Fin s d R L → L.length < f → Fin s d (rounds s d f L n R).1 (rounds s d f L n R).2 ∧ lostOf s d (rounds s d f L n R).2 = []
  | 0, _, _, _, _, h => absurd h (Nat.not_lt_zero _)
  | f + 1, L, n, R, F, h => by
    rw [rounds]
    by_cases c : lostOf s d L = []
    · rw [if_pos c]; exact ⟨F, c⟩
    · rw [if_neg c]
      exact fin_rounds s d f _ _ _ (fin_step F) (by have := keep_len c; omega)
theorem fin_start {s : Stv} {d : List Hr} (ok : s.Ok) (dk : DyOk d) : Fin s d [] (stands s d) :=
  ⟨⟨fun x hx => mem_stands.mp hx, stands_nd s d, fun x _ z => (nomatch z), by have := stands_len ok dk; simpa using this⟩, stands_lt s d, fun x => by rw [mem_stands]; simp, by simp⟩
def kept (s : Stv) (d : List Hr) : List Sd := (ranksOf s d).2
def lostR (s : Stv) (d : List Hr) : List (Sd × Int) := (ranksOf s d).1
theorem fin {s : Stv} {d : List Hr} (ok : s.Ok) (dk : DyOk d) : Fin s d (lostR s d) (kept s d) := (fin_rounds s d _ _ _ _ (fin_start ok dk) (Nat.lt_succ_self _)).1
theorem fin_fix {s : Stv} {d : List Hr} (ok : s.Ok) (dk : DyOk d) : lostOf s d (kept s d) = [] := (fin_rounds s d _ _ _ _ (fin_start ok dk) (Nat.lt_succ_self _)).2
/-! the paper -/
def S_is_kept_at : FSpec := fun ds k Q => ∃ (s : Stv) (d : List Hr) (x : Sd), s.Ok ∧ DyOk d ∧ ds = [stD s, dD d, sD x] ∧ Q (.bl (decide (x ∈ kept s d))) k
theorem w_is_kept_at (e : Γ i_ranks_of = S_ranks_of) : Wok Γ S_is_kept_at p_is_kept_at 3 3 := by
  rintro _ k Q ⟨s, d, x, ok, dk, rfl, h⟩
  refine ⟨rfl, ?_⟩
  unfold p_is_kept_at
  (((conv => whnf); try refine ite_back ?_); repeat (refine ⟨by first | rfl | exact ⟨rfl, rfl⟩ | exact ⟨fun z => DL.D.noConfusion z, fun z => DL.D.noConfusion z⟩, ?_⟩; ((conv => whnf); try refine ite_back ?_)))
  rw [e]
  refine ⟨s, d, ok, dk, rfl, ?_⟩
  ((conv => whnf); try refine ite_back ?_)
  refine ⟨kOk_S _ _ x, ?_⟩
  rw [look_S]
  have e2 : (if x ∈ (ranksOf s d).2 then some (D.bl true) else none).isSome = decide (x ∈ kept s d) := by
    unfold kept
    by_cases c : x ∈ (ranksOf s d).2 <;> simp [c]
  rw [e2]
  exact h
def bookD (s : Stv) (d : List Hr) (L : List Sd) : D := .tup (L.map fun x => .tup [sD x, oD (logsIn s d x L)])
def S_book_of : FSpec := fun ds k Q => ∃ (s : Stv) (d : List Hr) (L : List Sd) (g : Sd → D), s.Ok ∧ DyOk d ∧ (∀ x ∈ L, In s d x) ∧ L.Pairwise ltS ∧ ds = [stD s, dD d, dctS L g] ∧ Q (bookD s d L) k
theorem w_book_of (e : Γ i_logs_within = S_logs_within) : Wok Γ S_book_of p_book_of 4 3 := by
  rintro _ k Q ⟨s, d, L, g, ok, dk, hL, hs, rfl, h⟩
  refine ⟨rfl, ?_⟩
  unfold p_book_of
  (((conv => whnf); try refine ite_back ?_); repeat (refine ⟨by first | rfl | exact ⟨rfl, rfl⟩ | exact ⟨fun z => DL.D.noConfusion z, fun z => DL.D.noConfusion z⟩, ?_⟩; ((conv => whnf); try refine ite_back ?_)))
  rw [keys_S]
  refine sorted_S hs ?_
  (((conv => whnf); try refine ite_back ?_); repeat (refine ⟨by first | rfl | exact ⟨rfl, rfl⟩ | exact ⟨fun z => DL.D.noConfusion z, fun z => DL.D.noConfusion z⟩, ?_⟩; ((conv => whnf); try refine ite_back ?_)))
  refine wpLc_map sD (fun x => .tup [sD x, oD (logsIn s d x L)]) _ rfl (fun x hx R q => ?_) ?_
  · (((conv => whnf); try refine ite_back ?_); repeat (refine ⟨by first | rfl | exact ⟨rfl, rfl⟩ | exact ⟨fun z => DL.D.noConfusion z, fun z => DL.D.noConfusion z⟩, ?_⟩; ((conv => whnf); try refine ite_back ?_)))
    rw [e]
    exact ⟨s, d, x, L, g, ok, dk, hL x hx, rfl, q⟩
  · (((conv => whnf); try refine ite_back ?_); repeat (refine ⟨by first | rfl | exact ⟨rfl, rfl⟩ | exact ⟨fun z => DL.D.noConfusion z, fun z => DL.D.noConfusion z⟩, ?_⟩; ((conv => whnf); try refine ite_back ?_)))
    exact h
def S_always : FSpec := fun ds k Q => ∃ (s : Stv) (d : List Hr), s.Ok ∧ DyOk d ∧ ds = [stD s, dD d] ∧ Q (.tup ((kept s d).map sD)) k
theorem w_always (e1 : Γ i_check_day = S_check_day) (e2 : Γ i_ranks_of = S_ranks_of) : Wok Γ S_always p_always 2 2 := by
  rintro _ k Q ⟨s, d, ok, dk, rfl, h⟩
  refine ⟨rfl, ?_⟩
  unfold p_always
  (((conv => whnf); try refine ite_back ?_); repeat (refine ⟨by first | rfl | exact ⟨rfl, rfl⟩ | exact ⟨fun z => DL.D.noConfusion z, fun z => DL.D.noConfusion z⟩, ?_⟩; ((conv => whnf); try refine ite_back ?_)))
  rw [e1]
  refine ⟨s, d, ok, dk, rfl, ?_⟩
  (((conv => whnf); try refine ite_back ?_); repeat (refine ⟨by first | rfl | exact ⟨rfl, rfl⟩ | exact ⟨fun z => DL.D.noConfusion z, fun z => DL.D.noConfusion z⟩, ?_⟩; ((conv => whnf); try refine ite_back ?_)))
  rw [e2]
  refine ⟨s, d, ok, dk, rfl, ?_⟩
  (((conv => whnf); try refine ite_back ?_); repeat (refine ⟨by first | rfl | exact ⟨rfl, rfl⟩ | exact ⟨fun z => DL.D.noConfusion z, fun z => DL.D.noConfusion z⟩, ?_⟩; ((conv => whnf); try refine ite_back ?_)))
  rw [keys_S]
  refine sorted_S (fin ok dk).lt ?_
  (((conv => whnf); try refine ite_back ?_); repeat (refine ⟨by first | rfl | exact ⟨rfl, rfl⟩ | exact ⟨fun z => DL.D.noConfusion z, fun z => DL.D.noConfusion z⟩, ?_⟩; ((conv => whnf); try refine ite_back ?_)))
  exact h
def S_firing : FSpec := fun ds k Q => ∃ (s : Stv) (d : List Hr), s.Ok ∧ DyOk d ∧ ds = [stD s, dD d] ∧ Q (bookD s d (kept s d)) k
theorem w_firing (e1 : Γ i_check_day = S_check_day) (e2 : Γ i_ranks_of = S_ranks_of) (e3 : Γ i_book_of = S_book_of) : Wok Γ S_firing p_firing 2 2 := by
  rintro _ k Q ⟨s, d, ok, dk, rfl, h⟩
  refine ⟨rfl, ?_⟩
  unfold p_firing
  (((conv => whnf); try refine ite_back ?_); repeat (refine ⟨by first | rfl | exact ⟨rfl, rfl⟩ | exact ⟨fun z => DL.D.noConfusion z, fun z => DL.D.noConfusion z⟩, ?_⟩; ((conv => whnf); try refine ite_back ?_)))
  rw [e1]
  refine ⟨s, d, ok, dk, rfl, ?_⟩
  (((conv => whnf); try refine ite_back ?_); repeat (refine ⟨by first | rfl | exact ⟨rfl, rfl⟩ | exact ⟨fun z => DL.D.noConfusion z, fun z => DL.D.noConfusion z⟩, ?_⟩; ((conv => whnf); try refine ite_back ?_)))
  rw [e2]
  refine ⟨s, d, ok, dk, rfl, ?_⟩
  (((conv => whnf); try refine ite_back ?_); repeat (refine ⟨by first | rfl | exact ⟨rfl, rfl⟩ | exact ⟨fun z => DL.D.noConfusion z, fun z => DL.D.noConfusion z⟩, ?_⟩; ((conv => whnf); try refine ite_back ?_)))
  rw [e3]
  exact ⟨s, d, _, _, ok, dk, (fin ok dk).at_.sub, (fin ok dk).lt, rfl, h⟩
/-- the round in which x is lost -/
def rankAt (s : Stv) (d : List Hr) (x : Sd) : Option Int := ((lostR s d).find? fun p => decide (p.1 = x)).map (·.2)
theorem look_R (R : List (Sd × Int)) (x : Sd) : (lookD (rkD R) (sD x)).getD .non = oD ((R.find? fun p => decide (p.1 = x)).map (·.2)) := by
  unfold lookD rkD
  induction R with
  | nil => rfl
  | cons p R ih =>
    rw [List.map_cons, List.find?_cons, List.find?_cons, eqK_sD]
    by_cases c : p.1 = x
    · simp [c, oD]
    · simpa [c] using ih
def S_lost_by : FSpec := fun ds k Q => ∃ (s : Stv) (d : List Hr) (x : Sd), s.Ok ∧ DyOk d ∧ In s d x ∧ ds = [stD s, dD d, sD x] ∧ Q (oD (rankAt s d x)) k
theorem w_lost_by (e1 : Γ i_check_stand = S_check_stand) (e2 : Γ i_ranks_of = S_ranks_of) : Wok Γ S_lost_by p_lost_by 3 3 := by
  rintro _ k Q ⟨s, d, x, ok, dk, hx, rfl, h⟩
  refine ⟨rfl, ?_⟩
  unfold p_lost_by
  (((conv => whnf); try refine ite_back ?_); repeat (refine ⟨by first | rfl | exact ⟨rfl, rfl⟩ | exact ⟨fun z => DL.D.noConfusion z, fun z => DL.D.noConfusion z⟩, ?_⟩; ((conv => whnf); try refine ite_back ?_)))
  rw [e1]
  refine ⟨s, d, x, ok, dk, inDay_iff.mpr hx, rfl, ?_⟩
  (((conv => whnf); try refine ite_back ?_); repeat (refine ⟨by first | rfl | exact ⟨rfl, rfl⟩ | exact ⟨fun z => DL.D.noConfusion z, fun z => DL.D.noConfusion z⟩, ?_⟩; ((conv => whnf); try refine ite_back ?_)))
  rw [e2]
  refine ⟨s, d, ok, dk, rfl, ?_⟩
  ((conv => whnf); try refine ite_back ?_)
  refine ⟨rfl, ?_⟩
  ((conv => whnf); try refine ite_back ?_)
  refine ⟨kOk_R _ x, ?_⟩
  rw [look_R]
  exact h
end Lw
namespace Lw
open PySem PySem.Spec PyProof.Rows L2 DL
variable {Γ : Nat → FSpec}
/-- a row of a paper -/
def rD (p : Sd × Int) : D := .tup [sD p.1, .int p.2]
theorem flat_rD (p : Sd × Int) : flat 2 (rD p) = true := rfl
theorem zipD_mapf {α β : Type} (f : α → D) (g : β → D) : ∀ (xs : List α) (ys : List β), zipD (xs.map f) (ys.map g) = (xs.zip ys).map fun p => .tup [f p.1, g p.2]
  | [], _ => rfl
  | x :: xs, [] => rfl
  | x :: xs, y :: ys => congrArg _ (zipD_mapf f g xs ys)
/-- rows that stand in order -/
structure Rows (s : Stv) (d : List Hr) (V : List (Sd × Int)) : Prop where
  in_ : ∀ p ∈ V, In s d p.1
  lt : (V.map (·.1)).Pairwise ltS
  len : V.length ≤ 1200
theorem zip_lt {V : List (Sd × Int)} (h : (V.map (·.1)).Pairwise ltS) : ∀ p ∈ V.zip (V.drop 1), ltS p.1.1 p.2.1 := by
  intro p hp
  obtain ⟨i, hi, rfl⟩ := List.getElem_of_mem hp
  rw [List.pairwise_map] at h
  rw [List.getElem_zip, List.getElem_drop]
  rw [List.length_zip, List.length_drop] at hi
  have := List.pairwise_iff_getElem.mp h i (1 + i) (by omega) (by omega) (by omega)
  exact this
def S_are_rows : FSpec := fun ds k Q => ∃ (s : Stv) (d : List Hr) (V : List (Sd × Int)), Rows s d V ∧ ds = [stD s, dD d, .tup (V.map rD)] ∧ Q (.bl true) k
theorem w_are_rows (e : Γ i_is_stand_of = S_is_stand_of) : Wok Γ S_are_rows p_are_rows 8 3 := by
  rintro _ k Q ⟨s, d, V, hV, rfl, h⟩
  refine ⟨rfl, ?_⟩
  unfold p_are_rows
  (((conv => whnf); try refine ite_back ?_); repeat (refine ⟨by first | rfl | exact ⟨rfl, rfl⟩ | exact ⟨fun z => DL.D.noConfusion z, fun z => DL.D.noConfusion z⟩, ?_⟩; ((conv => whnf); try refine ite_back ?_)))
  refine wpLc_map rD (fun _ => .bl true) V rfl (fun x hx R q => by (((conv => whnf); try refine ite_back ?_); repeat (refine ⟨by first | rfl | exact ⟨rfl, rfl⟩ | exact ⟨fun z => DL.D.noConfusion z, fun z => DL.D.noConfusion z⟩, ?_⟩; ((conv => whnf); try refine ite_back ?_))); exact q) ?_
  (((conv => whnf); try refine ite_back ?_); repeat (refine ⟨by first | rfl | exact ⟨rfl, rfl⟩ | exact ⟨fun z => DL.D.noConfusion z, fun z => DL.D.noConfusion z⟩, ?_⟩; ((conv => whnf); try refine ite_back ?_)))
  refine ⟨allB_map _ _, ?_⟩
  rw [allT_map, allT_true]
  (((conv => whnf); try refine ite_back ?_); repeat (refine ⟨by first | rfl | exact ⟨rfl, rfl⟩ | exact ⟨fun z => DL.D.noConfusion z, fun z => DL.D.noConfusion z⟩, ?_⟩; ((conv => whnf); try refine ite_back ?_)))
  refine wpLc_map rD (fun _ => .bl true) V rfl (fun x hx R q => ?_) ?_
  · (((conv => whnf); try refine ite_back ?_); repeat (refine ⟨by first | rfl | exact ⟨rfl, rfl⟩ | exact ⟨fun z => DL.D.noConfusion z, fun z => DL.D.noConfusion z⟩, ?_⟩; ((conv => whnf); try refine ite_back ?_)))
    rw [e]
    refine ⟨s, d, x.1, rfl, ?_⟩
    rw [inDay_iff.mpr (hV.in_ x hx)]
    exact q
  · (((conv => whnf); try refine ite_back ?_); repeat (refine ⟨by first | rfl | exact ⟨rfl, rfl⟩ | exact ⟨fun z => DL.D.noConfusion z, fun z => DL.D.noConfusion z⟩, ?_⟩; ((conv => whnf); try refine ite_back ?_)))
    refine ⟨allB_map _ _, ?_⟩
    rw [allT_map, allT_true]
    (((conv => whnf); try refine ite_back ?_); repeat (refine ⟨by first | rfl | exact ⟨rfl, rfl⟩ | exact ⟨fun z => DL.D.noConfusion z, fun z => DL.D.noConfusion z⟩, ?_⟩; ((conv => whnf); try refine ite_back ?_)))
    have hl := hV.len
    refine ⟨by rw [List.length_map, sizeLine_eq]; omega, ?_⟩
    (((conv => whnf); try refine ite_back ?_); repeat (refine ⟨by first | rfl | exact ⟨rfl, rfl⟩ | exact ⟨fun z => DL.D.noConfusion z, fun z => DL.D.noConfusion z⟩, ?_⟩; ((conv => whnf); try refine ite_back ?_)))
    rw [cutD_map, zipD_mapf]
    refine wpLc_map _ (fun _ => .bl true) _ rfl (fun x hx R q => ?_) ?_
    · (((conv => whnf); try refine ite_back ?_); repeat (refine ⟨by first | rfl | exact ⟨rfl, rfl⟩ | exact ⟨fun z => DL.D.noConfusion z, fun z => DL.D.noConfusion z⟩, ?_⟩; ((conv => whnf); try refine ite_back ?_)))
      refine ⟨⟨rfl, rfl, rfl, fun z => PyData.noConfusion z⟩, ?_⟩
      rw [lt_sD, decide_eq_true (zip_lt hV.lt x hx)]
      exact q
    · (((conv => whnf); try refine ite_back ?_); repeat (refine ⟨by first | rfl | exact ⟨rfl, rfl⟩ | exact ⟨fun z => DL.D.noConfusion z, fun z => DL.D.noConfusion z⟩, ?_⟩; ((conv => whnf); try refine ite_back ?_)))
      refine ⟨allB_map _ _, ?_⟩
      rw [allT_map, allT_true]
      exact h
/-! a paper's dict -/
theorem pairs_R (V : List (Sd × Int)) : pairsD (V.map rD) = some (rkD V) := by
  induction V with
  | nil => rfl
  | cons x L ih => rw [List.map_cons, rD, pairsD, ih]; rfl
theorem putAll_R : ∀ (L M : List (Sd × Int)), ((M ++ L).map (·.1)).Nodup → putAll (rkD M) (rkD L) = rkD (M ++ L)
  | [], M, _ => by rw [List.append_nil]; rfl
  | x :: L, M, h => by
    have hx : x.1 ∉ M.map (·.1) := fun hm => by
      rw [List.map_append, List.nodup_append] at h
      exact h.2.2 x.1 hm x.1 (by simp) rfl
    show putAll (putD (rkD M) (sD x.1) (.int x.2)) (rkD L) = _
    rw [putR_new _ _ _ hx, putAll_R L (M ++ [x]) (by rw [List.append_assoc]; exact h), List.append_assoc]
    rfl
theorem dict_R {V : List (Sd × Int)} {Q : D → Prop} (hn : (V.map (·.1)).Nodup) (h : Q (.dct (rkD V))) : DictS (V.map rD) Q := by
  refine ⟨?_⟩
  simp only [pairs_R]
  refine ⟨?_, ?_⟩
  · unfold keysOk rkD
    rw [List.all_map]
    simp [Function.comp_def, tk_sD]
  · have := putAll_R V [] hn
    rw [List.nil_append] at this
    have e : putAll [] (rkD V) = rkD V := this
    rw [e]
    exact h
def gR (V : List (Sd × Int)) (x : Sd) : D := oD ((V.find? fun p => decide (p.1 = x)).map (·.2))
theorem find_R {V : List (Sd × Int)} (hn : (V.map (·.1)).Nodup) {p : Sd × Int} (hp : p ∈ V) : (V.find? fun q => decide (q.1 = p.1)) = some p := by
  induction V with
  | nil => cases hp
  | cons q V ih =>
    rw [List.find?_cons]
    rw [List.map_cons, List.nodup_cons] at hn
    rcases List.mem_cons.mp hp with rfl | hp
    · simp
    · have : q.1 ≠ p.1 := fun z => hn.1 (by rw [z]; exact List.mem_map.mpr ⟨p, hp, rfl⟩)
      simp only [this, decide_false]
      exact ih hn.2 hp
theorem dct_R {V : List (Sd × Int)} (hn : (V.map (·.1)).Nodup) : D.dct (rkD V) = dctS (V.map (·.1)) (gR V) := by
  unfold dctS rkD
  rw [List.map_map]
  congr 1
  refine List.map_congr_left fun p hp => ?_
  show (sD p.1, D.int p.2) = (sD p.1, gR V p.1)
  unfold gR
  rw [find_R hn hp]
  rfl
theorem any_int (xs : List Int) (i : Int) : ((xs.map iD).any fun z => eqD z (.int i)) = decide (i ∈ xs) := by
  rw [List.any_map]
  induction xs with
  | nil => simp
  | cons x xs ih =>
    rw [List.any_cons, ih]
    have e : eqD (iD x) (.int i) = decide (x = i) := by simp [eqD, iD, D.py, PyData.eqv]; exact Bool.eq_iff_iff.mpr (by simp)
    simp only [Function.comp_apply, e]
    by_cases h : x = i
    · subst h; simp
    · simp [h, Ne.symm h]
structure Book (s : Stv) (d : List Hr) (V : List (Sd × Int)) : Prop where
  rows : Rows s d V
  fit : ∀ p ∈ V, p.2 ∈ logsBy s p.1.2.1 ∧ leads s d p.1 p.2 (V.map (·.1)) = true
theorem nd_of_lt {L : List Sd} (h : L.Pairwise ltS) : L.Nodup := h.imp ltS_ne
def S_is_book : FSpec := fun ds k Q => ∃ (s : Stv) (d : List Hr) (V : List (Sd × Int)), s.Ok ∧ DyOk d ∧ Book s d V ∧ ds = [stD s, dD d, .tup (V.map rD)] ∧ Q (.bl true) k
theorem w_is_book (e1 : Γ i_are_rows = S_are_rows) (e2 : Γ i_is_between = S_is_between) (e3 : Γ i_logs_by = S_logs_by) (e4 : Γ i_does_lead = S_does_lead) : Wok Γ S_is_book p_is_book 6 3 := by
  rintro _ k Q ⟨s, d, V, ok, dk, hV, rfl, h⟩
  refine ⟨rfl, ?_⟩
  unfold p_is_book
  (((conv => whnf); try refine ite_back ?_); repeat (refine ⟨by first | rfl | exact ⟨rfl, rfl⟩ | exact ⟨fun z => DL.D.noConfusion z, fun z => DL.D.noConfusion z⟩, ?_⟩; ((conv => whnf); try refine ite_back ?_)))
  rw [e1]
  refine ⟨s, d, V, hV.rows, rfl, ?_⟩
  (((conv => whnf); try refine ite_back ?_); repeat (refine ⟨by first | rfl | exact ⟨rfl, rfl⟩ | exact ⟨fun z => DL.D.noConfusion z, fun z => DL.D.noConfusion z⟩, ?_⟩; ((conv => whnf); try refine ite_back ?_)))
  have m4 := ok.m2
  have hnd := nd_of_lt hV.rows.lt
  refine wpLc_map rD (fun _ => .bl true) V rfl (fun x hx R q => ?_) ?_
  · (((conv => whnf); try refine ite_back ?_); repeat (refine ⟨by first | rfl | exact ⟨rfl, rfl⟩ | exact ⟨fun z => DL.D.noConfusion z, fun z => DL.D.noConfusion z⟩, ?_⟩; ((conv => whnf); try refine ite_back ?_)))
    rw [e2]
    obtain ⟨⟨a, b⟩, _⟩ := mem_logsBy.mp (hV.fit x hx).1
    exact call_btw1 a (by omega) q
  · (((conv => whnf); try refine ite_back ?_); repeat (refine ⟨by first | rfl | exact ⟨rfl, rfl⟩ | exact ⟨fun z => DL.D.noConfusion z, fun z => DL.D.noConfusion z⟩, ?_⟩; ((conv => whnf); try refine ite_back ?_)))
    refine ⟨allB_map _ _, ?_⟩
    rw [allT_map, allT_true]
    (((conv => whnf); try refine ite_back ?_); repeat (refine ⟨by first | rfl | exact ⟨rfl, rfl⟩ | exact ⟨fun z => DL.D.noConfusion z, fun z => DL.D.noConfusion z⟩, ?_⟩; ((conv => whnf); try refine ite_back ?_)))
    refine dict_R hnd ?_
    (((conv => whnf); try refine ite_back ?_); repeat (refine ⟨by first | rfl | exact ⟨rfl, rfl⟩ | exact ⟨fun z => DL.D.noConfusion z, fun z => DL.D.noConfusion z⟩, ?_⟩; ((conv => whnf); try refine ite_back ?_)))
    refine wpL_of rD (fun done ρ => ∃ a b, ρ = ⟨[.dat (stD s), .dat (dD d), .dat (.tup (V.map rD)), .dat (.dct (rkD V)), a, b], k⟩) V ⟨_, _, rfl⟩ ?_ ?_
    · rintro done p rest hall ρ ⟨a, b, rfl⟩ T hT
      have hp : p ∈ V := by rw [hall]; simp
      obtain ⟨f1, f2⟩ := hV.fit p hp
      (((conv => whnf); try refine ite_back ?_); repeat (refine ⟨by first | rfl | exact ⟨rfl, rfl⟩ | exact ⟨fun z => DL.D.noConfusion z, fun z => DL.D.noConfusion z⟩, ?_⟩; ((conv => whnf); try refine ite_back ?_)))
      rw [e3]
      refine ⟨s, p.1.2.1, ok, rfl, ?_⟩
      (((conv => whnf); try refine ite_back ?_); repeat (refine ⟨by first | rfl | exact ⟨rfl, rfl⟩ | exact ⟨fun z => DL.D.noConfusion z, fun z => DL.D.noConfusion z⟩, ?_⟩; ((conv => whnf); try refine ite_back ?_)))
      refine ⟨⟨rfl, okData_flat (n := 2) (flats_map (n := 1) (f := iD) (fun _ => rfl) _) (by omega)⟩, ?_⟩
      rw [any_int, decide_eq_true f1]
      (((conv => whnf); try refine ite_back ?_); repeat (refine ⟨by first | rfl | exact ⟨rfl, rfl⟩ | exact ⟨fun z => DL.D.noConfusion z, fun z => DL.D.noConfusion z⟩, ?_⟩; ((conv => whnf); try refine ite_back ?_)))
      rw [e4]
      obtain ⟨⟨g1, _⟩, g2⟩ := mem_logsBy.mp f1
      rw [dct_R hnd]
      refine ⟨s, d, p.1, p.2, _, _, ok, dk, hV.rows.in_ p hp, ⟨g1, g2⟩, rfl, ?_⟩
      rw [f2]
      (((conv => whnf); try refine ite_back ?_); repeat (refine ⟨by first | rfl | exact ⟨rfl, rfl⟩ | exact ⟨fun z => DL.D.noConfusion z, fun z => DL.D.noConfusion z⟩, ?_⟩; ((conv => whnf); try refine ite_back ?_)))
      exact hT _ ⟨_, _, by rw [← dct_R hnd]; rfl⟩
    · rintro ρ ⟨a, b, rfl⟩
      (((conv => whnf); try refine ite_back ?_); repeat (refine ⟨by first | rfl | exact ⟨rfl, rfl⟩ | exact ⟨fun z => DL.D.noConfusion z, fun z => DL.D.noConfusion z⟩, ?_⟩; ((conv => whnf); try refine ite_back ?_)))
      exact h
end Lw
namespace Lw
open PySem PySem.Spec PyProof.Rows L2 DL
variable {Γ : Nat → FSpec}
/-- there is worse than number -/
def worse (s : Stv) (d : List Hr) (V : List (Sd × Int)) (y : Sd) (n : Int) : Bool := !inDay s d y || (match (V.find? fun p => decide (p.1 = y)) with | some p => decide (p.2 < n) | none => false)
def S_is_worse : FSpec := fun ds k Q => ∃ (s : Stv) (d : List Hr) (V : List (Sd × Int)) (y : Sd) (n : Int), ds = [stD s, dD d, .dct (rkD V), sD y, .int n] ∧ Q (.bl (worse s d V y n)) k
theorem find_rk (V : List (Sd × Int)) (y : Sd) : lookD (rkD V) (sD y) = ((V.find? fun p => decide (p.1 = y)).map fun p => .int p.2) := by
  unfold lookD rkD
  induction V with
  | nil => rfl
  | cons p R ih =>
    rw [List.map_cons, List.find?_cons, List.find?_cons, eqK_sD]
    by_cases c : p.1 = y
    · simp [c]
    · simpa [c] using ih
theorem w_is_worse (e : Γ i_is_stand_of = S_is_stand_of) : Wok Γ S_is_worse p_is_worse 5 5 := by
  rintro _ k Q ⟨s, d, V, y, n, rfl, h⟩
  refine ⟨rfl, ?_⟩
  unfold p_is_worse
  (((conv => whnf); try refine ite_back ?_); repeat (refine ⟨by first | rfl | exact ⟨rfl, rfl⟩ | exact ⟨fun z => DL.D.noConfusion z, fun z => DL.D.noConfusion z⟩, ?_⟩; ((conv => whnf); try refine ite_back ?_)))
  rw [e]
  refine ⟨s, d, y, rfl, ?_⟩
  unfold worse at h
  cases c : inDay s d y with
  | false => rw [c] at h; (((conv => whnf); try refine ite_back ?_); repeat (refine ⟨by first | rfl | exact ⟨rfl, rfl⟩ | exact ⟨fun z => DL.D.noConfusion z, fun z => DL.D.noConfusion z⟩, ?_⟩; ((conv => whnf); try refine ite_back ?_))); exact h
  | true =>
    rw [c] at h
    ((conv => whnf); try refine ite_back ?_)
    refine ⟨kOk_R _ y, ?_⟩
    rw [find_rk]
    cases c2 : (V.find? fun p => decide (p.1 = y)) with
    | none => rw [c2] at h; (((conv => whnf); try refine ite_back ?_); repeat (refine ⟨by first | rfl | exact ⟨rfl, rfl⟩ | exact ⟨fun z => DL.D.noConfusion z, fun z => DL.D.noConfusion z⟩, ?_⟩; ((conv => whnf); try refine ite_back ?_))); exact h
    | some p =>
      rw [c2] at h
      ((conv => whnf); try refine ite_back ?_)
      refine ⟨kOk_R _ y, ?_⟩
      rw [find_rk, c2]
      (((conv => whnf); try refine ite_back ?_); repeat (refine ⟨by first | rfl | exact ⟨rfl, rfl⟩ | exact ⟨fun z => DL.D.noConfusion z, fun z => DL.D.noConfusion z⟩, ?_⟩; ((conv => whnf); try refine ite_back ?_)))
      exact h
structure Ranks (s : Stv) (d : List Hr) (V : List (Sd × Int)) : Prop where
  rws : Rows s d V
  one : ∀ p ∈ V, 1 ≤ p.2
  fit : ∀ p ∈ V, ∀ l ∈ logsBy s p.1.2.1, ∃ y ∈ rows s d p.1 l, worse s d V y p.2 = true
theorem any_map_isT {α : Type} (f : α → Bool) (xs : List α) : (xs.map fun x => D.bl (f x)).any isT = xs.any f := by
  rw [List.any_map]; rfl
def S_are_ranks : FSpec := fun ds k Q => ∃ (s : Stv) (d : List Hr) (V : List (Sd × Int)), s.Ok ∧ DyOk d ∧ Ranks s d V ∧ ds = [stD s, dD d, .tup (V.map rD)] ∧ Q (.bl true) k
theorem w_are_ranks (e1 : Γ i_are_rows = S_are_rows) (e2 : Γ i_is_integer = S_is_integer) (e3 : Γ i_logs_by = S_logs_by) (e4 : Γ i_rows_behind = S_rows_behind) (e5 : Γ i_is_worse = S_is_worse) : Wok Γ S_are_ranks p_are_ranks 8 3 := by
  rintro _ k Q ⟨s, d, V, ok, dk, hV, rfl, h⟩
  refine ⟨rfl, ?_⟩
  unfold p_are_ranks
  (((conv => whnf); try refine ite_back ?_); repeat (refine ⟨by first | rfl | exact ⟨rfl, rfl⟩ | exact ⟨fun z => DL.D.noConfusion z, fun z => DL.D.noConfusion z⟩, ?_⟩; ((conv => whnf); try refine ite_back ?_)))
  rw [e1]
  refine ⟨s, d, V, hV.rws, rfl, ?_⟩
  (((conv => whnf); try refine ite_back ?_); repeat (refine ⟨by first | rfl | exact ⟨rfl, rfl⟩ | exact ⟨fun z => DL.D.noConfusion z, fun z => DL.D.noConfusion z⟩, ?_⟩; ((conv => whnf); try refine ite_back ?_)))
  have hnd := nd_of_lt hV.rws.lt
  refine wpLc_map rD (fun _ => .bl true) V rfl (fun x hx R q => ?_) ?_
  · (((conv => whnf); try refine ite_back ?_); repeat (refine ⟨by first | rfl | exact ⟨rfl, rfl⟩ | exact ⟨fun z => DL.D.noConfusion z, fun z => DL.D.noConfusion z⟩, ?_⟩; ((conv => whnf); try refine ite_back ?_)))
    rw [e2]
    refine ⟨_, rfl, rfl, ?_⟩
    (((conv => whnf); try refine ite_back ?_); repeat (refine ⟨by first | rfl | exact ⟨rfl, rfl⟩ | exact ⟨fun z => DL.D.noConfusion z, fun z => DL.D.noConfusion z⟩, ?_⟩; ((conv => whnf); try refine ite_back ?_)))
    rw [decide_eq_true (hV.one x hx)]
    (((conv => whnf); try refine ite_back ?_); repeat (refine ⟨by first | rfl | exact ⟨rfl, rfl⟩ | exact ⟨fun z => DL.D.noConfusion z, fun z => DL.D.noConfusion z⟩, ?_⟩; ((conv => whnf); try refine ite_back ?_)))
    exact q
  · (((conv => whnf); try refine ite_back ?_); repeat (refine ⟨by first | rfl | exact ⟨rfl, rfl⟩ | exact ⟨fun z => DL.D.noConfusion z, fun z => DL.D.noConfusion z⟩, ?_⟩; ((conv => whnf); try refine ite_back ?_)))
    refine ⟨allB_map _ _, ?_⟩
    rw [allT_map, allT_true]
    (((conv => whnf); try refine ite_back ?_); repeat (refine ⟨by first | rfl | exact ⟨rfl, rfl⟩ | exact ⟨fun z => DL.D.noConfusion z, fun z => DL.D.noConfusion z⟩, ?_⟩; ((conv => whnf); try refine ite_back ?_)))
    refine dict_R hnd ?_
    (((conv => whnf); try refine ite_back ?_); repeat (refine ⟨by first | rfl | exact ⟨rfl, rfl⟩ | exact ⟨fun z => DL.D.noConfusion z, fun z => DL.D.noConfusion z⟩, ?_⟩; ((conv => whnf); try refine ite_back ?_)))
    refine wpL_of rD (fun done ρ => ∃ a b c e, (Fr a ∧ Fr b ∧ Fr c ∧ Fr e) ∧ ρ = ⟨[.dat (stD s), .dat (dD d), .dat (.tup (V.map rD)), .dat (.dct (rkD V)), a, b, c, e], k⟩) V ⟨_, _, _, _, ⟨fr_any, fr_any, fr_any, fr_any⟩, rfl⟩ ?_ ?_
    · rintro done p rest hall ρ ⟨a, b, c, e, ⟨fa, fb, fc, fe⟩, rfl⟩ T hT
      have hp : p ∈ V := by rw [hall]; simp
      have hin := hV.rws.in_ p hp
      (((conv => whnf); try refine ite_back ?_); repeat (refine ⟨by first | rfl | exact ⟨rfl, rfl⟩ | exact ⟨fun z => DL.D.noConfusion z, fun z => DL.D.noConfusion z⟩, ?_⟩; ((conv => whnf); try refine ite_back ?_)))
      rw [e3]
      refine ⟨s, p.1.2.1, ok, rfl, ?_⟩
      (((conv => whnf); try refine ite_back ?_); repeat (refine ⟨by first | rfl | exact ⟨rfl, rfl⟩ | exact ⟨fun z => DL.D.noConfusion z, fun z => DL.D.noConfusion z⟩, ?_⟩; ((conv => whnf); try refine ite_back ?_)))
      refine wpL_of iD (fun done ρ => ∃ c e, (Fr c ∧ Fr e) ∧ ρ = ⟨[.dat (stD s), .dat (dD d), .dat (.tup (V.map rD)), .dat (.dct (rkD V)), .dat (sD p.1), .dat (.int p.2), c, e], k⟩) _ ⟨_, _, ⟨fc, fe⟩, rfl⟩ ?_ ?_
      · rintro dn l rst hal ρ ⟨c, e, ⟨fc, fe⟩, rfl⟩ T2 hT2
        have hl : l ∈ logsBy s p.1.2.1 := by rw [hal]; simp
        obtain ⟨⟨g1, _⟩, g2⟩ := mem_logsBy.mp hl
        (((conv => whnf); try refine ite_back ?_); repeat (refine ⟨by first | rfl | exact ⟨rfl, rfl⟩ | exact ⟨fun z => DL.D.noConfusion z, fun z => DL.D.noConfusion z⟩, ?_⟩; ((conv => whnf); try refine ite_back ?_)))
        rw [e4]
        refine ⟨s, d, p.1, l, ok, dk, hin, ⟨g1, g2⟩, rfl, ?_⟩
        (((conv => whnf); try refine ite_back ?_); repeat (refine ⟨by first | rfl | exact ⟨rfl, rfl⟩ | exact ⟨fun z => DL.D.noConfusion z, fun z => DL.D.noConfusion z⟩, ?_⟩; ((conv => whnf); try refine ite_back ?_)))
        refine wpLc_map sD (fun y => .bl (worse s d V y p.2)) _ (by (first | rfl | (simp only [ownOk, noOdl, Ev.get, Ev.set, getS, setS, List.all_cons, List.all_nil, odl_any, odl_dat, odl_ol, odl_od, own_any, own_dat, Fr.od, Fr.ow, Bool.not_false, Bool.and_true, Bool.true_and, *]; done))) (fun y hy R q => ?_) ?_
        · (((conv => whnf); try refine ite_back ?_); repeat (refine ⟨by first | rfl | exact ⟨rfl, rfl⟩ | exact ⟨fun z => DL.D.noConfusion z, fun z => DL.D.noConfusion z⟩, ?_⟩; ((conv => whnf); try refine ite_back ?_)))
          rw [e5]
          exact ⟨s, d, V, y, p.2, rfl, q⟩
        · (((conv => whnf); try refine ite_back ?_); repeat (refine ⟨by first | rfl | exact ⟨rfl, rfl⟩ | exact ⟨fun z => DL.D.noConfusion z, fun z => DL.D.noConfusion z⟩, ?_⟩; ((conv => whnf); try refine ite_back ?_)))
          refine ⟨allB_map _ _, ?_⟩
          obtain ⟨y, hy, hw⟩ := hV.fit p hp l hl
          rw [any_map_isT, List.any_eq_true.mpr ⟨y, hy, hw⟩]
          (((conv => whnf); try refine ite_back ?_); repeat (refine ⟨by first | rfl | exact ⟨rfl, rfl⟩ | exact ⟨fun z => DL.D.noConfusion z, fun z => DL.D.noConfusion z⟩, ?_⟩; ((conv => whnf); try refine ite_back ?_)))
          exact hT2 _ ⟨.dat (iD l), e, ⟨fr_dat, fe⟩, rfl⟩
      · rintro ρ ⟨c, e, ⟨fc, fe⟩, rfl⟩
        (((conv => whnf); try refine ite_back ?_); repeat (refine ⟨by first | rfl | exact ⟨rfl, rfl⟩ | exact ⟨fun z => DL.D.noConfusion z, fun z => DL.D.noConfusion z⟩, ?_⟩; ((conv => whnf); try refine ite_back ?_)))
        exact hT _ ⟨.dat (sD p.1), .dat (.int p.2), c, e, ⟨fr_dat, fr_dat, fc, fe⟩, rfl⟩
    · rintro ρ ⟨a, b, c, e, _, rfl⟩
      (((conv => whnf); try refine ite_back ?_); repeat (refine ⟨by first | rfl | exact ⟨rfl, rfl⟩ | exact ⟨fun z => DL.D.noConfusion z, fun z => DL.D.noConfusion z⟩, ?_⟩; ((conv => whnf); try refine ite_back ?_)))
      exact h
/-! sorted items -/
theorem any_sD (L : List Sd) (x : Sd) : ((L.map sD).any fun z => eqD z (sD x)) = decide (x ∈ L) := by
  rw [List.any_map]
  induction L with
  | nil => simp
  | cons y L ih =>
    rw [List.any_cons, ih]
    have e : eqD (sD y) (sD x) = decide (y = x) := by
      obtain ⟨a, b, c⟩ := x
      obtain ⟨a', b', c'⟩ := y
      have e1 : eqD (sD (a', b', c')) (sD (a, b, c)) = ((a' == a) && ((b' == b) && ((c' == c) && true))) := by
        simp only [eqD, sD, D.py, D.pys, PyData.eqv, PyData.eqvAll]
      rw [e1]
      refine Bool.eq_iff_iff.mpr ?_
      simp
    simp only [Function.comp_apply, e]
    by_cases h : y = x
    · subst h; simp
    · simp [h, Ne.symm h]
def S_shows_kept : FSpec := fun ds k Q => ∃ (s : Stv) (d : List Hr) (x : Sd) (V : List (Sd × Int)), s.Ok ∧ DyOk d ∧ In s d x ∧ ((Book s d V ∧ ds = [stD s, dD d, sD x, .tup [.str "kept", .tup (V.map rD)]]) ∨ (Ranks s d V ∧ ds = [stD s, dD d, sD x, .tup [.str "lost", .tup (V.map rD)]])) ∧ Q (.bl (decide (x ∈ V.map (·.1)))) k
theorem w_shows_kept (e1 : Γ i_check_stand = S_check_stand) (e2 : Γ i_is_book = S_is_book) (e3 : Γ i_are_ranks = S_are_ranks) : Wok Γ S_shows_kept p_shows_kept 5 4 := by
  rintro _ k Q ⟨s, d, x, V, ok, dk, hx, ⟨hV, rfl⟩ | ⟨hV, rfl⟩, h⟩
  · refine ⟨rfl, ?_⟩
    unfold p_shows_kept
    (((conv => whnf); try refine ite_back ?_); repeat (refine ⟨by first | rfl | exact ⟨rfl, rfl⟩ | exact ⟨fun z => DL.D.noConfusion z, fun z => DL.D.noConfusion z⟩, ?_⟩; ((conv => whnf); try refine ite_back ?_)))
    rw [e1]
    refine ⟨s, d, x, ok, dk, inDay_iff.mpr hx, rfl, ?_⟩
    (((conv => whnf); try refine ite_back ?_); repeat (refine ⟨by first | rfl | exact ⟨rfl, rfl⟩ | exact ⟨fun z => DL.D.noConfusion z, fun z => DL.D.noConfusion z⟩, ?_⟩; ((conv => whnf); try refine ite_back ?_)))
    rw [e2]
    refine ⟨s, d, V, ok, dk, hV, rfl, ?_⟩
    (((conv => whnf); try refine ite_back ?_); repeat (refine ⟨by first | rfl | exact ⟨rfl, rfl⟩ | exact ⟨fun z => DL.D.noConfusion z, fun z => DL.D.noConfusion z⟩, ?_⟩; ((conv => whnf); try refine ite_back ?_)))
    refine wpLc_map rD (fun p => sD p.1) V rfl (fun p hp R q => by (((conv => whnf); try refine ite_back ?_); repeat (refine ⟨by first | rfl | exact ⟨rfl, rfl⟩ | exact ⟨fun z => DL.D.noConfusion z, fun z => DL.D.noConfusion z⟩, ?_⟩; ((conv => whnf); try refine ite_back ?_))); exact q) ?_
    (((conv => whnf); try refine ite_back ?_); repeat (refine ⟨by first | rfl | exact ⟨rfl, rfl⟩ | exact ⟨fun z => DL.D.noConfusion z, fun z => DL.D.noConfusion z⟩, ?_⟩; ((conv => whnf); try refine ite_back ?_)))
    have e : V.map (fun p => sD p.1) = (V.map (·.1)).map sD := by rw [List.map_map]; rfl
    rw [e]
    refine ⟨⟨rfl, okData_flat (n := 2) (flats_map (n := 1) (f := sD) flat_sD _) (by omega)⟩, ?_⟩
    rw [any_sD]
    (((conv => whnf); try refine ite_back ?_); repeat (refine ⟨by first | rfl | exact ⟨rfl, rfl⟩ | exact ⟨fun z => DL.D.noConfusion z, fun z => DL.D.noConfusion z⟩, ?_⟩; ((conv => whnf); try refine ite_back ?_)))
    exact h
  · refine ⟨rfl, ?_⟩
    unfold p_shows_kept
    (((conv => whnf); try refine ite_back ?_); repeat (refine ⟨by first | rfl | exact ⟨rfl, rfl⟩ | exact ⟨fun z => DL.D.noConfusion z, fun z => DL.D.noConfusion z⟩, ?_⟩; ((conv => whnf); try refine ite_back ?_)))
    rw [e1]
    refine ⟨s, d, x, ok, dk, inDay_iff.mpr hx, rfl, ?_⟩
    (((conv => whnf); try refine ite_back ?_); repeat (refine ⟨by first | rfl | exact ⟨rfl, rfl⟩ | exact ⟨fun z => DL.D.noConfusion z, fun z => DL.D.noConfusion z⟩, ?_⟩; ((conv => whnf); try refine ite_back ?_)))
    rw [e3]
    refine ⟨s, d, V, ok, dk, hV, rfl, ?_⟩
    (((conv => whnf); try refine ite_back ?_); repeat (refine ⟨by first | rfl | exact ⟨rfl, rfl⟩ | exact ⟨fun z => DL.D.noConfusion z, fun z => DL.D.noConfusion z⟩, ?_⟩; ((conv => whnf); try refine ite_back ?_)))
    refine wpLc_map rD (fun p => sD p.1) V rfl (fun p hp R q => by (((conv => whnf); try refine ite_back ?_); repeat (refine ⟨by first | rfl | exact ⟨rfl, rfl⟩ | exact ⟨fun z => DL.D.noConfusion z, fun z => DL.D.noConfusion z⟩, ?_⟩; ((conv => whnf); try refine ite_back ?_))); exact q) ?_
    (((conv => whnf); try refine ite_back ?_); repeat (refine ⟨by first | rfl | exact ⟨rfl, rfl⟩ | exact ⟨fun z => DL.D.noConfusion z, fun z => DL.D.noConfusion z⟩, ?_⟩; ((conv => whnf); try refine ite_back ?_)))
    have e : V.map (fun p => sD p.1) = (V.map (·.1)).map sD := by rw [List.map_map]; rfl
    rw [e]
    refine ⟨⟨rfl, okData_flat (n := 2) (flats_map (n := 1) (f := sD) flat_sD _) (by omega)⟩, ?_⟩
    rw [any_sD]
    (((conv => whnf); try refine ite_back ?_); repeat (refine ⟨by first | rfl | exact ⟨rfl, rfl⟩ | exact ⟨fun z => DL.D.noConfusion z, fun z => DL.D.noConfusion z⟩, ?_⟩; ((conv => whnf); try refine ite_back ?_)))
    exact h
end Lw
namespace Lw
open PySem PySem.Spec PyProof.Rows L2 DL
variable {Γ : Nat → FSpec}
def lostS (s : Stv) (d : List Hr) : List (Sd × Int) := (lostR s d).mergeSort fun p q => leD (rD p) (rD q)
theorem sort_R (R : List (Sd × Int)) : (R.map rD).mergeSort leD = (R.mergeSort fun p q => leD (rD p) (rD q)).map rD := by
  rw [List.map_mergeSort]
  exact fun _ _ _ _ => rfl
theorem sortable_R (L : List (Sd × Int)) : sortable (L.map rD) := by
  refine ⟨fun a ha b hb => ?_, .inl fun a ha => ?_, fun a ha => ?_⟩
  · rw [List.map_map] at ha hb
    obtain ⟨x, _, rfl⟩ := List.mem_map.mp ha
    obtain ⟨y, _, rfl⟩ := List.mem_map.mp hb
    rfl
  · rw [List.map_map] at ha
    obtain ⟨x, _, rfl⟩ := List.mem_map.mp ha
    exact ⟨_, _, rfl⟩
  · obtain ⟨x, _, rfl⟩ := List.mem_map.mp ha
    exact ⟨rfl, by show (2 : Nat) ≤ 60; omega⟩
theorem items_R (R : List (Sd × Int)) : (rkD R).map (fun p => D.tup [p.1, p.2]) = R.map rD := by
  unfold rkD
  rw [List.map_map]; rfl
def S_kept_told : FSpec := fun ds k Q => ∃ (s : Stv) (d : List Hr) (x : Sd), s.Ok ∧ DyOk d ∧ In s d x ∧ ds = [stD s, dD d, sD x] ∧ (if x ∈ kept s d then Q (.tup [.str "kept", bookD s d (kept s d)]) k else Q (.tup [.str "lost", .tup ((lostS s d).map rD)]) k)
theorem w_kept_told (e1 : Γ i_check_stand = S_check_stand) (e2 : Γ i_ranks_of = S_ranks_of) (e3 : Γ i_book_of = S_book_of) : Wok Γ S_kept_told p_kept_told 5 3 := by
  rintro _ k Q ⟨s, d, x, ok, dk, hx, rfl, h⟩
  refine ⟨rfl, ?_⟩
  unfold p_kept_told
  (((conv => whnf); try refine ite_back ?_); repeat (refine ⟨by first | rfl | exact ⟨rfl, rfl⟩ | exact ⟨fun z => DL.D.noConfusion z, fun z => DL.D.noConfusion z⟩, ?_⟩; ((conv => whnf); try refine ite_back ?_)))
  rw [e1]
  refine ⟨s, d, x, ok, dk, inDay_iff.mpr hx, rfl, ?_⟩
  (((conv => whnf); try refine ite_back ?_); repeat (refine ⟨by first | rfl | exact ⟨rfl, rfl⟩ | exact ⟨fun z => DL.D.noConfusion z, fun z => DL.D.noConfusion z⟩, ?_⟩; ((conv => whnf); try refine ite_back ?_)))
  rw [e2]
  refine ⟨s, d, ok, dk, rfl, ?_⟩
  ((conv => whnf); try refine ite_back ?_)
  refine ⟨kOk_S _ _ x, ?_⟩
  rw [look_S]
  by_cases c : x ∈ kept s d
  · have c' : x ∈ (ranksOf s d).2 := c
    rw [if_pos c'] ; rw [if_pos c] at h
    (((conv => whnf); try refine ite_back ?_); repeat (refine ⟨by first | rfl | exact ⟨rfl, rfl⟩ | exact ⟨fun z => DL.D.noConfusion z, fun z => DL.D.noConfusion z⟩, ?_⟩; ((conv => whnf); try refine ite_back ?_)))
    rw [e3]
    exact ⟨s, d, _, _, ok, dk, (fin ok dk).at_.sub, (fin ok dk).lt, rfl, h⟩
  · have c' : ¬ x ∈ (ranksOf s d).2 := c
    rw [if_neg c'] ; rw [if_neg c] at h
    (((conv => whnf); try refine ite_back ?_); repeat (refine ⟨by first | rfl | exact ⟨rfl, rfl⟩ | exact ⟨fun z => DL.D.noConfusion z, fun z => DL.D.noConfusion z⟩, ?_⟩; ((conv => whnf); try refine ite_back ?_)))
    rw [items_R]
    refine ⟨sortable_R _, ?_⟩
    rw [sort_R]
    (((conv => whnf); try refine ite_back ?_); repeat (refine ⟨by first | rfl | exact ⟨rfl, rfl⟩ | exact ⟨fun z => DL.D.noConfusion z, fun z => DL.D.noConfusion z⟩, ?_⟩; ((conv => whnf); try refine ite_back ?_)))
    exact h
/-! the least -/
def withMost (s : Stv) (m : Int) : Stv := { s with most := m }
def withHeat (s : Stv) (m : Int) : Stv := { s with heat := m }
theorem ok_most {s : Stv} (ok : s.Ok) {m : Int} (h1 : 0 ≤ m) (h2 : m ≤ 4) : (withMost s m).Ok := ⟨ok.h1, ok.h2, ok.len, ok.rise, ok.le, ok.rng, ok.t1, ok.t2, h1, h2⟩
theorem ok_heat {s : Stv} (ok : s.Ok) {m : Int} (h1 : 1 ≤ m) (h2 : m ≤ 5) : (withHeat s m).Ok := ⟨ok.h1, ok.h2, ok.len, ok.rise, ok.le, ok.rng, h1, h2, ok.m1, ok.m2⟩
def leastMost (s : Stv) (d : List Hr) (x : Sd) : Option Int := (rngI 0 5).find? fun m => decide (x ∈ kept (withMost s m) d)
def leastHeat (s : Stv) (d : List Hr) (x : Sd) : Option Int := (rngI 1 5).find? fun m => decide (x ∈ kept (withHeat s m) d)
/-- a search that goes on while nothing is found -/
theorem find_mid {xs dn rest : List Int} {l : Int} {c : Int → Bool} (hall : xs = dn ++ l :: rest) (hd : ∀ y ∈ dn, c y = false) (h : c l = true) : xs.find? c = some l := by
  rw [hall, List.find?_append, List.find?_eq_none.mpr fun y hy => by rw [hd y hy]; exact fun z => nomatch z]
  simp [h]
theorem find_end {xs : List Int} {c : Int → Bool} (hd : ∀ y ∈ xs, c y = false) : xs.find? c = none := List.find?_eq_none.mpr fun y hy => by rw [hd y hy]; exact fun z => nomatch z
theorem hd_snoc {dn : List Int} {l : Int} {c : Int → Bool} (hd : ∀ y ∈ dn, c y = false) (h : c l = false) : ∀ y ∈ dn ++ [l], c y = false := fun y hy => by
  rcases List.mem_append.mp hy with hy | hy
  · exact hd y hy
  · rw [List.mem_singleton.mp hy]; exact h
def S_least_most : FSpec := fun ds k Q => ∃ (s : Stv) (d : List Hr) (x : Sd), s.Ok ∧ DyOk d ∧ In s d x ∧ ds = [stD s, dD d, sD x] ∧ Q (oD (leastMost s d x)) k
theorem w_least_most (e1 : Γ i_check_stand = S_check_stand) (e2 : Γ i_is_kept_at = S_is_kept_at) : Wok Γ S_least_most p_least_most 4 3 := by
  rintro _ k Q ⟨s, d, x, ok, dk, hx, rfl, h⟩
  refine ⟨rfl, ?_⟩
  unfold p_least_most
  (((conv => whnf); try refine ite_back ?_); repeat (refine ⟨by first | rfl | exact ⟨rfl, rfl⟩ | exact ⟨fun z => DL.D.noConfusion z, fun z => DL.D.noConfusion z⟩, ?_⟩; ((conv => whnf); try refine ite_back ?_)))
  rw [e1]
  refine ⟨s, d, x, ok, dk, inDay_iff.mpr hx, rfl, ?_⟩
  (((conv => whnf); try refine ite_back ?_); repeat (refine ⟨by first | rfl | exact ⟨rfl, rfl⟩ | exact ⟨fun z => DL.D.noConfusion z, fun z => DL.D.noConfusion z⟩, ?_⟩; ((conv => whnf); try refine ite_back ?_)))
  refine rng_ok (by omega) (by omega) (by omega) (by omega) ?_
  (((conv => whnf); try refine ite_back ?_); repeat (refine ⟨by first | rfl | exact ⟨rfl, rfl⟩ | exact ⟨fun z => DL.D.noConfusion z, fun z => DL.D.noConfusion z⟩, ?_⟩; ((conv => whnf); try refine ite_back ?_)))
  refine wpL_of iD (fun done ρ => ∃ a, ρ = ⟨[.dat (stD s), .dat (dD d), .dat (sD x), a], k⟩ ∧ ∀ m ∈ done, decide (x ∈ kept (withMost s m) d) = false) (rngI 0 5) ⟨_, rfl, fun _ h => nomatch h⟩ ?_ ?_
  · rintro done m rest hall ρ ⟨a, rfl, hd⟩ R hR
    have hm : m ∈ rngI 0 5 := by rw [hall]; simp
    rw [mem_rngI] at hm
    (((conv => whnf); try refine ite_back ?_); repeat (refine ⟨by first | rfl | exact ⟨rfl, rfl⟩ | exact ⟨fun z => DL.D.noConfusion z, fun z => DL.D.noConfusion z⟩, ?_⟩; ((conv => whnf); try refine ite_back ?_)))
    refine ⟨by show 4 ≤ sizeLine; rw [sizeLine_eq]; omega, ?_⟩
    (((conv => whnf); try refine ite_back ?_); repeat (refine ⟨by first | rfl | exact ⟨rfl, rfl⟩ | exact ⟨fun z => DL.D.noConfusion z, fun z => DL.D.noConfusion z⟩, ?_⟩; ((conv => whnf); try refine ite_back ?_)))
    rw [e2]
    refine ⟨withMost s m, d, x, ok_most ok (by omega) (by omega), dk, rfl, ?_⟩
    cases c : decide (x ∈ kept (withMost s m) d) with
    | true =>
      (((conv => whnf); try refine ite_back ?_); repeat (refine ⟨by first | rfl | exact ⟨rfl, rfl⟩ | exact ⟨fun z => DL.D.noConfusion z, fun z => DL.D.noConfusion z⟩, ?_⟩; ((conv => whnf); try refine ite_back ?_)))
      rw [show leastMost s d x = some m from find_mid hall hd c] at h
      exact h
    | false =>
      (((conv => whnf); try refine ite_back ?_); repeat (refine ⟨by first | rfl | exact ⟨rfl, rfl⟩ | exact ⟨fun z => DL.D.noConfusion z, fun z => DL.D.noConfusion z⟩, ?_⟩; ((conv => whnf); try refine ite_back ?_)))
      exact hR _ ⟨_, rfl, hd_snoc hd c⟩
  · rintro ρ ⟨a, rfl, hd⟩
    (((conv => whnf); try refine ite_back ?_); repeat (refine ⟨by first | rfl | exact ⟨rfl, rfl⟩ | exact ⟨fun z => DL.D.noConfusion z, fun z => DL.D.noConfusion z⟩, ?_⟩; ((conv => whnf); try refine ite_back ?_)))
    rw [show leastMost s d x = none from find_end hd] at h
    exact h
def S_least_heat : FSpec := fun ds k Q => ∃ (s : Stv) (d : List Hr) (x : Sd), s.Ok ∧ DyOk d ∧ In s d x ∧ ds = [stD s, dD d, sD x] ∧ Q (oD (leastHeat s d x)) k
theorem w_least_heat (e1 : Γ i_check_stand = S_check_stand) (e2 : Γ i_is_kept_at = S_is_kept_at) : Wok Γ S_least_heat p_least_heat 4 3 := by
  rintro _ k Q ⟨s, d, x, ok, dk, hx, rfl, h⟩
  refine ⟨rfl, ?_⟩
  unfold p_least_heat
  (((conv => whnf); try refine ite_back ?_); repeat (refine ⟨by first | rfl | exact ⟨rfl, rfl⟩ | exact ⟨fun z => DL.D.noConfusion z, fun z => DL.D.noConfusion z⟩, ?_⟩; ((conv => whnf); try refine ite_back ?_)))
  rw [e1]
  refine ⟨s, d, x, ok, dk, inDay_iff.mpr hx, rfl, ?_⟩
  (((conv => whnf); try refine ite_back ?_); repeat (refine ⟨by first | rfl | exact ⟨rfl, rfl⟩ | exact ⟨fun z => DL.D.noConfusion z, fun z => DL.D.noConfusion z⟩, ?_⟩; ((conv => whnf); try refine ite_back ?_)))
  refine rng_ok (by omega) (by omega) (by omega) (by omega) ?_
  (((conv => whnf); try refine ite_back ?_); repeat (refine ⟨by first | rfl | exact ⟨rfl, rfl⟩ | exact ⟨fun z => DL.D.noConfusion z, fun z => DL.D.noConfusion z⟩, ?_⟩; ((conv => whnf); try refine ite_back ?_)))
  refine wpL_of iD (fun done ρ => ∃ a, ρ = ⟨[.dat (stD s), .dat (dD d), .dat (sD x), a], k⟩ ∧ ∀ m ∈ done, decide (x ∈ kept (withHeat s m) d) = false) (rngI 1 5) ⟨_, rfl, fun _ h => nomatch h⟩ ?_ ?_
  · rintro done m rest hall ρ ⟨a, rfl, hd⟩ R hR
    have hm : m ∈ rngI 1 5 := by rw [hall]; simp
    rw [mem_rngI] at hm
    (((conv => whnf); try refine ite_back ?_); repeat (refine ⟨by first | rfl | exact ⟨rfl, rfl⟩ | exact ⟨fun z => DL.D.noConfusion z, fun z => DL.D.noConfusion z⟩, ?_⟩; ((conv => whnf); try refine ite_back ?_)))
    refine ⟨by show 4 ≤ sizeLine; rw [sizeLine_eq]; omega, ?_⟩
    (((conv => whnf); try refine ite_back ?_); repeat (refine ⟨by first | rfl | exact ⟨rfl, rfl⟩ | exact ⟨fun z => DL.D.noConfusion z, fun z => DL.D.noConfusion z⟩, ?_⟩; ((conv => whnf); try refine ite_back ?_)))
    rw [e2]
    refine ⟨withHeat s m, d, x, ok_heat ok (by omega) (by omega), dk, rfl, ?_⟩
    cases c : decide (x ∈ kept (withHeat s m) d) with
    | true =>
      (((conv => whnf); try refine ite_back ?_); repeat (refine ⟨by first | rfl | exact ⟨rfl, rfl⟩ | exact ⟨fun z => DL.D.noConfusion z, fun z => DL.D.noConfusion z⟩, ?_⟩; ((conv => whnf); try refine ite_back ?_)))
      rw [show leastHeat s d x = some m from find_mid hall hd c] at h
      exact h
    | false =>
      (((conv => whnf); try refine ite_back ?_); repeat (refine ⟨by first | rfl | exact ⟨rfl, rfl⟩ | exact ⟨fun z => DL.D.noConfusion z, fun z => DL.D.noConfusion z⟩, ?_⟩; ((conv => whnf); try refine ite_back ?_)))
      exact hR _ ⟨_, rfl, hd_snoc hd c⟩
  · rintro ρ ⟨a, rfl, hd⟩
    (((conv => whnf); try refine ite_back ?_); repeat (refine ⟨by first | rfl | exact ⟨rfl, rfl⟩ | exact ⟨fun z => DL.D.noConfusion z, fun z => DL.D.noConfusion z⟩, ?_⟩; ((conv => whnf); try refine ite_back ?_)))
    rw [show leastHeat s d x = none from find_end hd] at h
    exact h
end Lw
namespace Lw
open PySem PySem.Spec PyProof.Rows L2 DL
variable {Γ : Nat → FSpec}
def colderH (m : Int) (h : Hr) : Hr := (h.1, (h.2.1, if h.2.2 + m < 8 then h.2.2 + m else 8))
def colder (d : List Hr) (m : Int) : List Hr := d.map (colderH m)
theorem colder_ok {d : List Hr} (dk : DyOk d) {m : Int} (h0 : 0 ≤ m) : DyOk (colder d m) := by
  refine ⟨by unfold colder; rw [List.length_map]; exact dk.l1, by unfold colder; rw [List.length_map]; exact dk.l2, fun h hh => ?_⟩
  obtain ⟨o, ho, rfl⟩ := List.mem_map.mp hh
  have k := dk.ok o ho
  have k1 := k.e; have k2 := k.f; have k3 := k.d
  refine ⟨k.a, k.b, k.c, k.d, ?_, ?_⟩
  · show o.2.1 ≤ if o.2.2 + m < 8 then o.2.2 + m else 8
    split <;> omega
  · show (if o.2.2 + m < 8 then o.2.2 + m else 8) ≤ 8
    split <;> omega
def S_colder : FSpec := fun ds k Q => ∃ (d : List Hr) (m : Int), ds = [dD d, .int m] ∧ Q (dD (colder d m)) k
theorem w_colder : Wok Γ S_colder p_colder 5 2 := by
  rintro _ k Q ⟨d, m, rfl, h⟩
  refine ⟨rfl, ?_⟩
  unfold p_colder
  (((conv => whnf); try refine ite_back ?_); repeat (refine ⟨by first | rfl | exact ⟨rfl, rfl⟩ | exact ⟨fun z => DL.D.noConfusion z, fun z => DL.D.noConfusion z⟩, ?_⟩; ((conv => whnf); try refine ite_back ?_)))
  refine wpLc_map hD (fun o => hD (colderH m o)) d rfl (fun o ho R q => by (((conv => whnf); try refine ite_back ?_); repeat (refine ⟨by first | rfl | exact ⟨rfl, rfl⟩ | exact ⟨fun z => DL.D.noConfusion z, fun z => DL.D.noConfusion z⟩, ?_⟩; ((conv => whnf); try refine ite_back ?_))); exact q) ?_
  (((conv => whnf); try refine ite_back ?_); repeat (refine ⟨by first | rfl | exact ⟨rfl, rfl⟩ | exact ⟨fun z => DL.D.noConfusion z, fun z => DL.D.noConfusion z⟩, ?_⟩; ((conv => whnf); try refine ite_back ?_)))
  have e : d.map (fun o => hD (colderH m o)) = (colder d m).map hD := by unfold colder; rw [List.map_map]; rfl
  rw [e]
  exact h
def coldestF (s : Stv) (d : List Hr) (x : Sd) (ms : List Int) : Option Int := ms.foldl (fun f m => if x ∈ kept s (colder d m) then some m else f) none
def coldest (s : Stv) (d : List Hr) (x : Sd) : Option Int := coldestF s d x (rngI 0 13)
def S_coldest : FSpec := fun ds k Q => ∃ (s : Stv) (d : List Hr) (x : Sd), s.Ok ∧ DyOk d ∧ In s d x ∧ ds = [stD s, dD d, sD x] ∧ Q (oD (coldest s d x)) k
theorem w_coldest (e1 : Γ i_check_stand = S_check_stand) (e2 : Γ i_is_kept_at = S_is_kept_at) (e3 : Γ i_colder = S_colder) : Wok Γ S_coldest p_coldest 5 3 := by
  rintro _ k Q ⟨s, d, x, ok, dk, hx, rfl, h⟩
  refine ⟨rfl, ?_⟩
  unfold p_coldest
  (((conv => whnf); try refine ite_back ?_); repeat (refine ⟨by first | rfl | exact ⟨rfl, rfl⟩ | exact ⟨fun z => DL.D.noConfusion z, fun z => DL.D.noConfusion z⟩, ?_⟩; ((conv => whnf); try refine ite_back ?_)))
  rw [e1]
  refine ⟨s, d, x, ok, dk, inDay_iff.mpr hx, rfl, ?_⟩
  (((conv => whnf); try refine ite_back ?_); repeat (refine ⟨by first | rfl | exact ⟨rfl, rfl⟩ | exact ⟨fun z => DL.D.noConfusion z, fun z => DL.D.noConfusion z⟩, ?_⟩; ((conv => whnf); try refine ite_back ?_)))
  refine rng_ok (by omega) (by omega) (by omega) (by omega) ?_
  (((conv => whnf); try refine ite_back ?_); repeat (refine ⟨by first | rfl | exact ⟨rfl, rfl⟩ | exact ⟨fun z => DL.D.noConfusion z, fun z => DL.D.noConfusion z⟩, ?_⟩; ((conv => whnf); try refine ite_back ?_)))
  refine wpL_of iD (fun done ρ => ∃ a, ρ = ⟨[.dat (stD s), .dat (dD d), .dat (sD x), .dat (oD (coldestF s d x done)), a], k⟩) (rngI 0 13) ⟨_, rfl⟩ ?_ ?_
  · rintro done m rest hall ρ ⟨a, rfl⟩ R hR
    have hm : m ∈ rngI 0 13 := by rw [hall]; simp
    rw [mem_rngI] at hm
    (((conv => whnf); try refine ite_back ?_); repeat (refine ⟨by first | rfl | exact ⟨rfl, rfl⟩ | exact ⟨fun z => DL.D.noConfusion z, fun z => DL.D.noConfusion z⟩, ?_⟩; ((conv => whnf); try refine ite_back ?_)))
    rw [e3]
    refine ⟨d, m, rfl, ?_⟩
    (((conv => whnf); try refine ite_back ?_); repeat (refine ⟨by first | rfl | exact ⟨rfl, rfl⟩ | exact ⟨fun z => DL.D.noConfusion z, fun z => DL.D.noConfusion z⟩, ?_⟩; ((conv => whnf); try refine ite_back ?_)))
    rw [e2]
    refine ⟨s, colder d m, x, ok, colder_ok dk (by omega), rfl, ?_⟩
    have e : coldestF s d x (done ++ [m]) = if x ∈ kept s (colder d m) then some m else coldestF s d x done := by
      unfold coldestF
      rw [List.foldl_append]; rfl
    by_cases c : x ∈ kept s (colder d m)
    · rw [decide_eq_true c]
      (((conv => whnf); try refine ite_back ?_); repeat (refine ⟨by first | rfl | exact ⟨rfl, rfl⟩ | exact ⟨fun z => DL.D.noConfusion z, fun z => DL.D.noConfusion z⟩, ?_⟩; ((conv => whnf); try refine ite_back ?_)))
      refine hR _ ⟨.dat (iD m), ?_⟩
      rw [e, if_pos c]
      rfl
    · rw [decide_eq_false c]
      (((conv => whnf); try refine ite_back ?_); repeat (refine ⟨by first | rfl | exact ⟨rfl, rfl⟩ | exact ⟨fun z => DL.D.noConfusion z, fun z => DL.D.noConfusion z⟩, ?_⟩; ((conv => whnf); try refine ite_back ?_)))
      refine hR _ ⟨.dat (iD m), ?_⟩
      rw [e, if_neg c]
      rfl
  · rintro ρ ⟨a, rfl⟩
    (((conv => whnf); try refine ite_back ?_); repeat (refine ⟨by first | rfl | exact ⟨rfl, rfl⟩ | exact ⟨fun z => DL.D.noConfusion z, fun z => DL.D.noConfusion z⟩, ?_⟩; ((conv => whnf); try refine ite_back ?_)))
    exact h
end Lw
namespace Lw
open PySem PySem.Spec PyProof.Rows L2 DL
variable {Γ : Nat → FSpec}
def S__law_logs : FSpec := fun ds k Q => ∃ (s : Stv) (x : Sd), s.Ok ∧ ds = [stD s, sD x] ∧ Q (.lst ((logsBy s x.2.1).map iD)) k
theorem w__law_logs : Wok Γ S__law_logs p__law_logs 3 2 := by
  rintro _ k Q ⟨s, x, ok, rfl, h⟩
  refine ⟨rfl, ?_⟩
  unfold p__law_logs
  have a1 := ok.m1; have a2 := ok.m2; have a3 := ok.t1; have a4 := ok.t2
  (((conv => whnf); try refine ite_back ?_); repeat (refine ⟨by first | rfl | exact ⟨rfl, rfl⟩ | exact ⟨fun z => DL.D.noConfusion z, fun z => DL.D.noConfusion z⟩, ?_⟩; ((conv => whnf); try refine ite_back ?_)))
  refine rng_ok (by omega) (by omega) (by omega) (by omega) ?_
  refine wpLc_filter iD (fun l => decide (x.2.1 + s.heat * l ≤ s.holds)) iD _ rfl (fun l hl RT RF h1 h2 => ?_) ?_
  · ((conv => whnf); try refine ite_back ?_)
    refine ⟨.inl ⟨by omega, by omega⟩, ?_⟩
    ((conv => whnf); try refine ite_back ?_)
    by_cases c : x.2.1 + s.heat * l ≤ s.holds
    · rw [if_pos (decide_eq_true c)]
      exact h1 (decide_eq_true c)
    · rw [if_neg (by simpa using c)]
      exact h2 (decide_eq_false c)
  · simpa only [logsBy, Int.sub_zero] using h
def S__law_colder : FSpec := fun ds k Q => ∃ (d : List Hr) (m : Int), DyOk d ∧ 0 ≤ m ∧ ds = [dD d, .int m] ∧ Q (dD (colder d m)) k
theorem w__law_colder : Wok Γ S__law_colder p__law_colder 4 2 := by
  rintro _ k Q ⟨d, m, dk, hm, rfl, h⟩
  refine ⟨rfl, ?_⟩
  unfold p__law_colder
  (((conv => whnf); try refine ite_back ?_); repeat (refine ⟨by first | rfl | exact ⟨rfl, rfl⟩ | exact ⟨fun z => DL.D.noConfusion z, fun z => DL.D.noConfusion z⟩, ?_⟩; ((conv => whnf); try refine ite_back ?_)))
  refine wpLc_map hD (fun o => hD (colderH m o)) d rfl (fun o ho R q => ?_) ?_
  · (((conv => whnf); try refine ite_back ?_); repeat (refine ⟨by first | rfl | exact ⟨rfl, rfl⟩ | exact ⟨fun z => DL.D.noConfusion z, fun z => DL.D.noConfusion z⟩, ?_⟩; ((conv => whnf); try refine ite_back ?_)))
    have f := (dk.ok o ho).f
    have e : (if (if o.2.2 + m < 8 then o.2.2 + m else 8) > o.2.2 then (if o.2.2 + m < 8 then o.2.2 + m else 8) else o.2.2) = (if o.2.2 + m < 8 then o.2.2 + m else 8) := by
      split <;> split <;> omega
    have q' : R (.tup [.tup [.int o.1.1, .int o.1.2], .tup [.int o.2.1, .int (if (if o.2.2 + m < 8 then o.2.2 + m else 8) > o.2.2 then (if o.2.2 + m < 8 then o.2.2 + m else 8) else o.2.2)]]) ⟨slots0 4 [dD d, .int m], k⟩ := by
      rw [e]; exact q
    exact q'
  · (((conv => whnf); try refine ite_back ?_); repeat (refine ⟨by first | rfl | exact ⟨rfl, rfl⟩ | exact ⟨fun z => DL.D.noConfusion z, fun z => DL.D.noConfusion z⟩, ?_⟩; ((conv => whnf); try refine ite_back ?_)))
    have e : d.map (fun o => hD (colderH m o)) = (colder d m).map hD := by unfold colder; rw [List.map_map]; rfl
    rw [e]
    exact h
theorem zipIdx_rng (d : List Hr) : (d.zipIdx.map fun p => ((p.2 : Nat), p.1)) = (List.range d.length).map fun i => (i, hrAt d (i : Nat)) := by
  refine List.ext_getElem (by simp) fun i h1 h2 => ?_
  simp only [List.length_map, List.length_zipIdx] at h1
  simp only [List.getElem_map, List.getElem_zipIdx, List.getElem_range, Nat.zero_add]
  unfold hrAt
  have e : ((i : Nat) : Int).toNat = i := rfl
  rw [e, getD_lt _ _ h1]
theorem stands_rng (s : Stv) (d : List Hr) : stands s d = ((rngI 0 d.length).map fun i => standsAt s i (hrAt d i)).flatten := by
  unfold stands
  congr 1
  have e1 : d.zipIdx.map (fun p => standsAt s (p.2 : Nat) p.1) = (d.zipIdx.map fun p => ((p.2 : Nat), p.1)).map fun q => standsAt s ((q.1 : Nat) : Int) q.2 := by rw [List.map_map]; rfl
  rw [e1, zipIdx_rng, List.map_map]
  unfold rngI
  rw [List.map_map]
  refine List.map_congr_left fun i _ => ?_
  show standsAt s ((i : Nat) : Int) (hrAt d (i : Nat)) = standsAt s (0 + (i : Nat)) (hrAt d (0 + (i : Nat)))
  rw [Int.zero_add]
def fits (s : Stv) (d : List Hr) (x : Sd) (l : Int) : Bool := !(decide (x.2.2 + gv s (warm s x.2.1 l) - (hrAt d x.1).2.2 < (hrAt d ((x.1 + 1) % (d.length : Int))).1.1) || decide ((hrAt d ((x.1 + 1) % (d.length : Int))).1.2 < x.2.2 + gv s (warm s x.2.1 l) - (hrAt d x.1).2.1))
def rowsUp (s : Stv) (d : List Hr) (x : Sd) (l : Int) : List Sd := (weathers d x.1).map fun w => behind s d x l w
def S__law_behind : FSpec := fun ds k Q => ∃ (s : Stv) (d : List Hr) (x : Sd) (l : Int), s.Ok ∧ DyOk d ∧ In s d x ∧ (0 ≤ l ∧ warm s x.2.1 l ≤ s.holds) ∧ ds = [stD s, dD d, sD x, .int l] ∧ Q (if fits s d x l = true then .lst ((rowsUp s d x l).map sD) else .non) k
theorem w__law_behind : Wok Γ S__law_behind p__law_behind 12 4 := by
  rintro _ k Q ⟨s, d, x, l, ok, dk, hx, ⟨h1, h2⟩, rfl, h⟩
  refine ⟨rfl, ?_⟩
  unfold p__law_behind
  have a3 := ok.t1; have a4 := ok.t2; have l1 := dk.l1
  have n0 : (0 : Int) ≤ (x.1 + 1) % (d.length : Int) := Int.emod_nonneg _ (by omega)
  have n1 : (x.1 + 1) % (d.length : Int) < d.length := Int.emod_lt_of_pos _ (by omega)
  (((conv => whnf); try refine ite_back ?_); repeat (refine ⟨by first | rfl | exact ⟨rfl, rfl⟩ | exact ⟨fun z => DL.D.noConfusion z, fun z => DL.D.noConfusion z⟩, ?_⟩; ((conv => whnf); try refine ite_back ?_)))
  refine ⟨by rw [List.length_map]; omega, ?_⟩
  (((conv => whnf); try refine ite_back ?_); repeat (refine ⟨by first | rfl | exact ⟨rfl, rfl⟩ | exact ⟨fun z => DL.D.noConfusion z, fun z => DL.D.noConfusion z⟩, ?_⟩; ((conv => whnf); try refine ite_back ?_)))
  refine ⟨.inl ⟨by omega, by omega⟩, ?_⟩
  (((conv => whnf); try refine ite_back ?_); repeat (refine ⟨by first | rfl | exact ⟨rfl, rfl⟩ | exact ⟨fun z => DL.D.noConfusion z, fun z => DL.D.noConfusion z⟩, ?_⟩; ((conv => whnf); try refine ite_back ?_)))
  rw [atD_gives (w := x.2.1 + s.heat * l) ok (warm_nn ok hx.t0 h1) h2]
  (((conv => whnf); try refine ite_back ?_); repeat (refine ⟨by first | rfl | exact ⟨rfl, rfl⟩ | exact ⟨fun z => DL.D.noConfusion z, fun z => DL.D.noConfusion z⟩, ?_⟩; ((conv => whnf); try refine ite_back ?_)))
  rw [atD_day hx.a0 hx.a1]
  (((conv => whnf); try refine ite_back ?_); repeat (refine ⟨by first | rfl | exact ⟨rfl, rfl⟩ | exact ⟨fun z => DL.D.noConfusion z, fun z => DL.D.noConfusion z⟩, ?_⟩; ((conv => whnf); try refine ite_back ?_)))
  rw [List.length_map, atD_day n0 n1]
  (((conv => whnf); try refine ite_back ?_); repeat (refine ⟨by first | rfl | exact ⟨rfl, rfl⟩ | exact ⟨fun z => DL.D.noConfusion z, fun z => DL.D.noConfusion z⟩, ?_⟩; ((conv => whnf); try refine ite_back ?_)))
  have hw : warm s x.2.1 l = x.2.1 + s.heat * l := rfl
  unfold fits at h
  rw [hw] at h
  cases c1 : decide (x.2.2 + gv s (x.2.1 + s.heat * l) - (hrAt d x.1).2.2 < (hrAt d ((x.1 + 1) % (d.length : Int))).1.1) with
  | true =>
    rw [c1] at h
    (((conv => whnf); try refine ite_back ?_); repeat (refine ⟨by first | rfl | exact ⟨rfl, rfl⟩ | exact ⟨fun z => DL.D.noConfusion z, fun z => DL.D.noConfusion z⟩, ?_⟩; ((conv => whnf); try refine ite_back ?_)))
    exact h
  | false =>
    rw [c1] at h
    (((conv => whnf); try refine ite_back ?_); repeat (refine ⟨by first | rfl | exact ⟨rfl, rfl⟩ | exact ⟨fun z => DL.D.noConfusion z, fun z => DL.D.noConfusion z⟩, ?_⟩; ((conv => whnf); try refine ite_back ?_)))
    cases c2 : decide ((hrAt d ((x.1 + 1) % (d.length : Int))).1.2 < x.2.2 + gv s (x.2.1 + s.heat * l) - (hrAt d x.1).2.1) with
    | true =>
      rw [c2] at h
      (((conv => whnf); try refine ite_back ?_); repeat (refine ⟨by first | rfl | exact ⟨rfl, rfl⟩ | exact ⟨fun z => DL.D.noConfusion z, fun z => DL.D.noConfusion z⟩, ?_⟩; ((conv => whnf); try refine ite_back ?_)))
      exact h
    | false =>
      rw [c2] at h
      (((conv => whnf); try refine ite_back ?_); repeat (refine ⟨by first | rfl | exact ⟨rfl, rfl⟩ | exact ⟨fun z => DL.D.noConfusion z, fun z => DL.D.noConfusion z⟩, ?_⟩; ((conv => whnf); try refine ite_back ?_)))
      have o := dk.ok _ (hrAt_mem hx.a0 hx.a1)
      have o1 := o.d; have o2 := o.e; have o3 := o.f
      refine rng_ok (by omega) (by omega) (by omega) (by omega) ?_
      ((conv => whnf); try refine ite_back ?_)
      (conv => arg 6; dsimp only [Ev.set, setS, backE, wipeE, List.foldr, getS, Ev.get, slots0, List.map_cons, List.map_nil, List.length_cons, List.length_nil, Nat.reduceAdd, Nat.reduceSub, List.replicate, List.cons_append, List.nil_append])
      refine wpLc_map iD (fun w => .tup [.int ((x.1 + 1) % (d.length : Int)), .int (x.2.1 + s.heat * l - gv s (x.2.1 + s.heat * l)), .int (x.2.2 + gv s (x.2.1 + s.heat * l) - w)]) _ rfl (fun w hm R q => by (((conv => whnf); try refine ite_back ?_); repeat (refine ⟨by first | rfl | exact ⟨rfl, rfl⟩ | exact ⟨fun z => DL.D.noConfusion z, fun z => DL.D.noConfusion z⟩, ?_⟩; ((conv => whnf); try refine ite_back ?_))); exact q) ?_
      (((conv => whnf); try refine ite_back ?_); repeat (refine ⟨by first | rfl | exact ⟨rfl, rfl⟩ | exact ⟨fun z => DL.D.noConfusion z, fun z => DL.D.noConfusion z⟩, ?_⟩; ((conv => whnf); try refine ite_back ?_)))
      have e : (rngI (hrAt d x.1).2.1 ((hrAt d x.1).2.2 + 1 - (hrAt d x.1).2.1).toNat).map (fun w => D.tup [.int ((x.1 + 1) % (d.length : Int)), .int (x.2.1 + s.heat * l - gv s (x.2.1 + s.heat * l)), .int (x.2.2 + gv s (x.2.1 + s.heat * l) - w)]) = (rowsUp s d x l).map sD := by
        unfold rowsUp weathers; rw [List.map_map]; rfl
      rw [e]
      exact h
end Lw
namespace Lw
open PySem PySem.Spec PyProof.Rows L2 DL
variable {Γ : Nat → FSpec}
def fineB (s : Stv) (d : List Hr) (K : List Sd) (x : Sd) (l : Int) : Bool := fits s d x l && !((rowsUp s d x l).any fun y => decide (y ∈ K))
def fineOf (s : Stv) (d : List Hr) (K : List Sd) (x : Sd) : List Int := (logsBy s x.2.1).filter (fineB s d K x)
theorem logsBy_len {s : Stv} (ok : s.Ok) (t : Int) : (logsBy s t).length ≤ 5 := by
  have h := List.length_filter_le (fun l => decide (t + s.heat * l ≤ s.holds)) (rngI 0 (s.most + 1).toNat)
  rw [rngI_len] at h
  have := ok.m2
  unfold logsBy
  omega
def S__law_fine : FSpec := fun ds k Q => ∃ (s : Stv) (d : List Hr) (V : List (Sd × Int)) (x : Sd), s.Ok ∧ DyOk d ∧ In s d x ∧ ds = [stD s, dD d, .dct (rkD V), sD x] ∧ Q (.lst ((fineOf s d (V.map (·.1)) x).map iD)) k
theorem w__law_fine (e1 : Γ i__law_logs = S__law_logs) (e2 : Γ i__law_behind = S__law_behind) : Wok Γ S__law_fine p__law_fine 8 4 := by
  rintro _ k Q ⟨s, d, V, x, ok, dk, hx, rfl, h⟩
  refine ⟨rfl, ?_⟩
  unfold p__law_fine
  (((conv => whnf); try refine ite_back ?_); repeat (refine ⟨by first | rfl | exact ⟨rfl, rfl⟩ | exact ⟨fun z => DL.D.noConfusion z, fun z => DL.D.noConfusion z⟩, ?_⟩; ((conv => whnf); try refine ite_back ?_)))
  rw [e1]
  refine ⟨s, x, ok, rfl, ?_⟩
  (((conv => whnf); try refine ite_back ?_); repeat (refine ⟨by first | rfl | exact ⟨rfl, rfl⟩ | exact ⟨fun z => DL.D.noConfusion z, fun z => DL.D.noConfusion z⟩, ?_⟩; ((conv => whnf); try refine ite_back ?_)))
  have hlen := logsBy_len ok x.2.1
  refine wpL_of iD (fun done ρ => ∃ a b c, (Fr a ∧ Fr b ∧ Fr c) ∧ ρ = ⟨[.dat (stD s), .dat (dD d), .dat (.dct (rkD V)), .dat (sD x), .ol ((done.filter (fineB s d (V.map (·.1)) x)).map iD), a, b, c], k⟩) (logsBy s x.2.1) ⟨_, _, _, ⟨fr_any, fr_any, fr_any⟩, rfl⟩ ?_ ?_
  · rintro done l rest hall ρ ⟨a, b, c, ⟨fa, fb, fc⟩, rfl⟩ R hR
    have hl : l ∈ logsBy s x.2.1 := by rw [hall]; simp
    obtain ⟨⟨g1, _⟩, g2⟩ := mem_logsBy.mp hl
    have hdl : (done.filter (fineB s d (V.map (·.1)) x)).length ≤ done.length := List.length_filter_le ..
    have hdn : done.length ≤ 5 := by
      have := congrArg List.length hall
      rw [List.length_append] at this
      omega
    have snoc : fineB s d (V.map (·.1)) x l = true → (done ++ [l]).filter (fineB s d (V.map (·.1)) x) = done.filter (fineB s d (V.map (·.1)) x) ++ [l] := fun e => by rw [List.filter_append]; simp [e]
    have snof : fineB s d (V.map (·.1)) x l = false → (done ++ [l]).filter (fineB s d (V.map (·.1)) x) = done.filter (fineB s d (V.map (·.1)) x) := fun e => by rw [List.filter_append]; simp [e]
    (((conv => whnf); try refine ite_back ?_); repeat (refine ⟨by first | rfl | exact ⟨rfl, rfl⟩ | exact ⟨fun z => DL.D.noConfusion z, fun z => DL.D.noConfusion z⟩, ?_⟩; ((conv => whnf); try refine ite_back ?_)))
    rw [e2]
    refine ⟨s, d, x, l, ok, dk, hx, ⟨g1, g2⟩, rfl, ?_⟩
    cases cf : fits s d x l with
    | false =>
      rw [if_neg (fun z => nomatch z)]
      (((conv => whnf); try refine ite_back ?_); repeat (refine ⟨by first | rfl | exact ⟨rfl, rfl⟩ | exact ⟨fun z => DL.D.noConfusion z, fun z => DL.D.noConfusion z⟩, ?_⟩; ((conv => whnf); try refine ite_back ?_)))
      refine hR _ ⟨.dat (iD l), .dat .non, c, ⟨fr_dat, fr_dat, fc⟩, ?_⟩
      rw [snof (by unfold fineB; rw [cf]; rfl)]
      rfl
    | true =>
      rw [if_pos rfl]
      (((conv => whnf); try refine ite_back ?_); repeat (refine ⟨by first | rfl | exact ⟨rfl, rfl⟩ | exact ⟨fun z => DL.D.noConfusion z, fun z => DL.D.noConfusion z⟩, ?_⟩; ((conv => whnf); try refine ite_back ?_)))
      refine wpLc_map sD (fun y => .bl (decide (y ∈ V.map (·.1)))) _ (by (first | rfl | (simp only [ownOk, noOdl, Ev.get, Ev.set, getS, setS, List.all_cons, List.all_nil, odl_any, odl_dat, odl_ol, odl_od, own_any, own_dat, Fr.od, Fr.ow, Bool.not_false, Bool.and_true, Bool.true_and, *]; done))) (fun y hy T q => ?_) ?_
      · ((conv => whnf); try refine ite_back ?_)
        refine ⟨kOk_R _ y, ?_⟩
        rw [look_R_some]
        exact q
      · (((conv => whnf); try refine ite_back ?_); repeat (refine ⟨by first | rfl | exact ⟨rfl, rfl⟩ | exact ⟨fun z => DL.D.noConfusion z, fun z => DL.D.noConfusion z⟩, ?_⟩; ((conv => whnf); try refine ite_back ?_)))
        refine ⟨allB_map _ _, ?_⟩
        rw [any_map_isT]
        cases ca : (rowsUp s d x l).any (fun y => decide (y ∈ V.map (·.1))) with
        | true =>
          (((conv => whnf); try refine ite_back ?_); repeat (refine ⟨by first | rfl | exact ⟨rfl, rfl⟩ | exact ⟨fun z => DL.D.noConfusion z, fun z => DL.D.noConfusion z⟩, ?_⟩; ((conv => whnf); try refine ite_back ?_)))
          refine hR _ ⟨.dat (iD l), .dat (.lst ((rowsUp s d x l).map sD)), c, ⟨fr_dat, fr_dat, fc⟩, ?_⟩
          rw [snof (by unfold fineB; rw [cf, ca]; rfl)]
          try rfl
        | false =>
          (((conv => whnf); try refine ite_back ?_); repeat (refine ⟨by first | rfl | exact ⟨rfl, rfl⟩ | exact ⟨fun z => DL.D.noConfusion z, fun z => DL.D.noConfusion z⟩, ?_⟩; ((conv => whnf); try refine ite_back ?_)))
          refine ⟨by rw [List.length_map, sizeLine_eq]; omega, ?_⟩
          (((conv => whnf); try refine ite_back ?_); repeat (refine ⟨by first | rfl | exact ⟨rfl, rfl⟩ | exact ⟨fun z => DL.D.noConfusion z, fun z => DL.D.noConfusion z⟩, ?_⟩; ((conv => whnf); try refine ite_back ?_)))
          refine hR _ ⟨.dat (iD l), .dat (.lst ((rowsUp s d x l).map sD)), c, ⟨fr_dat, fr_dat, fc⟩, ?_⟩
          rw [snoc (by unfold fineB; rw [cf, ca]; rfl), List.map_append]
          rfl
  · rintro ρ ⟨a, b, c, _, rfl⟩
    (((conv => whnf); try refine ite_back ?_); repeat (refine ⟨by first | rfl | exact ⟨rfl, rfl⟩ | exact ⟨fun z => DL.D.noConfusion z, fun z => DL.D.noConfusion z⟩, ?_⟩; ((conv => whnf); try refine ite_back ?_)))
    exact h
end Lw
namespace Lw
open PySem PySem.Spec PyProof.Rows L2 DL
variable {Γ : Nat → FSpec}
theorem standsAt_len {s : Stv} {i : Int} {o : Hr} (h : HOk o) (h2 : s.holds ≤ 10) : (standsAt s i o).length ≤ 143 := by
  have o1 := h.a; have o2 := h.b; have o3 := h.c
  have n1 := flatten_len 13 ((rngI 0 (s.holds + 1)).map fun t => (rngI o.1.1 (o.1.2 + 1 - o.1.1).toNat).map fun r => ((i, t, r) : Sd)) fun xs hx => by
    obtain ⟨t, _, rfl⟩ := List.mem_map.mp hx
    rw [List.length_map, rngI_len]; omega
  rw [List.length_map, rngI_len] at n1
  have n2 : (standsAt s i o).length ≤ (s.holds + 1) * 13 := n1
  omega
def S__law_stands : FSpec := S_stands_of
theorem w__law_stands : Wok Γ S__law_stands p__law_stands 8 2 := by
  rintro _ k Q ⟨s, d, ok, dk, rfl, h⟩
  refine ⟨rfl, ?_⟩
  unfold p__law_stands
  have l2 := dk.l2; have s1 := ok.h1; have s2 := ok.h2
  (((conv => whnf); try refine ite_back ?_); repeat (refine ⟨by first | rfl | exact ⟨rfl, rfl⟩ | exact ⟨fun z => DL.D.noConfusion z, fun z => DL.D.noConfusion z⟩, ?_⟩; ((conv => whnf); try refine ite_back ?_)))
  rw [List.length_map]
  refine rng_ok (by omega) (by omega) (by omega) (by omega) ?_
  (((conv => whnf); try refine ite_back ?_); repeat (refine ⟨by first | rfl | exact ⟨rfl, rfl⟩ | exact ⟨fun z => DL.D.noConfusion z, fun z => DL.D.noConfusion z⟩, ?_⟩; ((conv => whnf); try refine ite_back ?_)))
  rw [Int.sub_zero, Int.toNat_natCast]
  refine wpL_of iD (fun done ρ => ∃ a b c e f, (Fr a ∧ Fr b ∧ Fr c ∧ Fr e ∧ Fr f) ∧ ρ = ⟨[.dat (stD s), .dat (dD d), .ol (((done.map fun i => standsAt s i (hrAt d i)).flatten).map sD), a, b, c, e, f], k⟩ ∧ ((done.map fun i => standsAt s i (hrAt d i)).flatten).length ≤ done.length * 143) (rngI 0 d.length) ⟨_, _, _, _, _, ⟨fr_any, fr_any, fr_any, fr_any, fr_any⟩, rfl, by simp⟩ ?_ ?_
  · rintro done i rest hall ρ ⟨a, b, c, e, f, ⟨fa, fb, fc, fe, ff⟩, rfl, hn⟩ R hR
    have hlen : done.length + 1 ≤ 6 := by
      have := congrArg List.length hall
      rw [rngI_len] at this
      simp at this; omega
    have hi : i ∈ rngI 0 d.length := by rw [hall]; simp
    rw [mem_rngI] at hi
    have hok := dk.ok _ (hrAt_mem hi.1 (by omega))
    have o1 := hok.a; have o2 := hok.b; have o3 := hok.c
    (((conv => whnf); try refine ite_back ?_); repeat (refine ⟨by first | rfl | exact ⟨rfl, rfl⟩ | exact ⟨fun z => DL.D.noConfusion z, fun z => DL.D.noConfusion z⟩, ?_⟩; ((conv => whnf); try refine ite_back ?_)))
    rw [atD_day hi.1 (by omega)]
    (((conv => whnf); try refine ite_back ?_); repeat (refine ⟨by first | rfl | exact ⟨rfl, rfl⟩ | exact ⟨fun z => DL.D.noConfusion z, fun z => DL.D.noConfusion z⟩, ?_⟩; ((conv => whnf); try refine ite_back ?_)))
    generalize hO : hrAt d i = o at *
    generalize hB : ((done.map fun i => standsAt s i (hrAt d i)).flatten) = base at *
    refine rng_ok (by omega) (by omega) (by omega) (by omega) ?_
    (((conv => whnf); try refine ite_back ?_); repeat (refine ⟨by first | rfl | exact ⟨rfl, rfl⟩ | exact ⟨fun z => DL.D.noConfusion z, fun z => DL.D.noConfusion z⟩, ?_⟩; ((conv => whnf); try refine ite_back ?_)))
    have e0 : ((s.holds : Int) + 1 - 0).toNat = s.holds + 1 := by omega
    rw [e0]
    refine wpL_of iD (fun dn ρ => ∃ b f, (Fr b ∧ Fr f) ∧ dn.length ≤ 11 ∧ ρ = ⟨[.dat (stD s), .dat (dD d), .ol ((base ++ (dn.map fun t => (rngI o.1.1 (o.1.2 + 1 - o.1.1).toNat).map fun r => ((i, t, r) : Sd)).flatten).map sD), .dat (.int i), b, .dat (.int o.1.1), .dat (.int o.1.2), f], k⟩) (rngI 0 (s.holds + 1)) ⟨_, _, ⟨fb, ff⟩, by simp, by rw [List.map_nil, List.flatten_nil, List.append_nil]; rfl⟩ ?_ ?_
    · rintro dn t rst hal ρ ⟨b, f, ⟨fb, ff⟩, hl2, rfl⟩ R2 hR2
      have hl3 : dn.length + 1 ≤ 11 := by
        have := congrArg List.length hal
        rw [rngI_len] at this; simp at this; omega
      (((conv => whnf); try refine ite_back ?_); repeat (refine ⟨by first | rfl | exact ⟨rfl, rfl⟩ | exact ⟨fun z => DL.D.noConfusion z, fun z => DL.D.noConfusion z⟩, ?_⟩; ((conv => whnf); try refine ite_back ?_)))
      refine rng_ok (by omega) (by omega) (by omega) (by omega) ?_
      (((conv => whnf); try refine ite_back ?_); repeat (refine ⟨by first | rfl | exact ⟨rfl, rfl⟩ | exact ⟨fun z => DL.D.noConfusion z, fun z => DL.D.noConfusion z⟩, ?_⟩; ((conv => whnf); try refine ite_back ?_)))
      refine wpLc_map iD (fun r => sD (i, t, r)) _ (by (first | rfl | (simp only [ownOk, noOdl, Ev.get, Ev.set, getS, setS, List.all_cons, List.all_nil, odl_any, odl_dat, odl_ol, odl_od, own_any, own_dat, Fr.od, Fr.ow, Bool.not_false, Bool.and_true, Bool.true_and, *]; done))) (fun r hr T q => by (((conv => whnf); try refine ite_back ?_); repeat (refine ⟨by first | rfl | exact ⟨rfl, rfl⟩ | exact ⟨fun z => DL.D.noConfusion z, fun z => DL.D.noConfusion z⟩, ?_⟩; ((conv => whnf); try refine ite_back ?_))); exact q) ?_
      (((conv => whnf); try refine ite_back ?_); repeat (refine ⟨by first | rfl | exact ⟨rfl, rfl⟩ | exact ⟨fun z => DL.D.noConfusion z, fun z => DL.D.noConfusion z⟩, ?_⟩; ((conv => whnf); try refine ite_back ?_)))
      have n1 := flatten_len 13 (dn.map fun t => (rngI o.1.1 (o.1.2 + 1 - o.1.1).toNat).map fun r => ((i, t, r) : Sd)) fun xs hx => by
        obtain ⟨t, _, rfl⟩ := List.mem_map.mp hx
        rw [List.length_map, rngI_len]; omega
      rw [List.length_map] at n1
      refine ⟨?_, ?_⟩
      · rw [List.length_map, List.length_map, List.length_append, rngI_len, sizeLine_eq]
        omega
      · (((conv => whnf); try refine ite_back ?_); repeat (refine ⟨by first | rfl | exact ⟨rfl, rfl⟩ | exact ⟨fun z => DL.D.noConfusion z, fun z => DL.D.noConfusion z⟩, ?_⟩; ((conv => whnf); try refine ite_back ?_)))
        refine hR2 _ ⟨.dat (iD t), f, ⟨fr_dat, ff⟩, by simpa using hl3, ?_⟩
        simp only [List.map_append, List.map_cons, List.map_nil, List.flatten_append, List.flatten_cons, List.flatten_nil, List.append_nil, List.append_assoc, List.map_map]
        rfl
    · rintro ρ ⟨b, f, ⟨fb, ff⟩, _, rfl⟩
      (((conv => whnf); try refine ite_back ?_); repeat (refine ⟨by first | rfl | exact ⟨rfl, rfl⟩ | exact ⟨fun z => DL.D.noConfusion z, fun z => DL.D.noConfusion z⟩, ?_⟩; ((conv => whnf); try refine ite_back ?_)))
      refine hR _ ⟨.dat (.int i), b, .dat (.int o.1.1), .dat (.int o.1.2), f, ⟨fr_dat, fb, fr_dat, fr_dat, ff⟩, ?_, ?_⟩
      · rw [fl_snoc, hB, hO]
        simp only [List.map_append]
        try rfl
      · rw [fl_snoc, hB, hO, List.length_append, List.length_append, List.length_cons, List.length_nil]
        have := standsAt_len (s := s) (i := i) hok s2
        omega
  · rintro ρ ⟨a, b, c, e, f, _, rfl, _⟩
    (((conv => whnf); try refine ite_back ?_); repeat (refine ⟨by first | rfl | exact ⟨rfl, rfl⟩ | exact ⟨fun z => DL.D.noConfusion z, fun z => DL.D.noConfusion z⟩, ?_⟩; ((conv => whnf); try refine ite_back ?_)))
    rw [← stands_rng]
    exact h
end Lw
namespace Lw
open PySem PySem.Spec PyProof.Rows L2 DL
variable {Γ : Nat → FSpec}
/-! draws -/
def S__law_take : FSpec := fun ds k Q => ∃ n : Int, ds = [.pot, .int n] ∧ (1 ≤ n ∧ n ≤ 1000000) ∧ k < 1000 ∧ ∀ r, 0 ≤ r → r < n → Q (.int r) (k + 1)
def S__law_of : FSpec := fun ds k Q => ∃ xs : List D, ds = [.pot, .lst xs] ∧ (1 ≤ xs.length ∧ xs.length ≤ 1000000) ∧ k < 1000 ∧ ∀ d ∈ xs, Q d (k + 1)
theorem atD_mem {xs : List D} {i : Int} (h0 : 0 ≤ i) (h : i < xs.length) : ∃ d ∈ xs, atD xs i = some d := by
  have e := atD_map id xs i h0 h
  rw [List.map_id] at e
  exact ⟨_, List.getElem_mem _, e⟩
theorem w__law_of (e : Γ i__law_take = S__law_take) : Wok Γ S__law_of p__law_of 2 2 := by
  rintro _ k Q ⟨xs, rfl, ⟨h1, h2⟩, hk, h⟩
  refine ⟨rfl, ?_⟩
  unfold p__law_of
  (((conv => whnf); try refine ite_back ?_); repeat (refine ⟨by first | rfl | exact ⟨rfl, rfl⟩ | exact ⟨fun z => DL.D.noConfusion z, fun z => DL.D.noConfusion z⟩, ?_⟩; ((conv => whnf); try refine ite_back ?_)))
  rw [e]
  refine ⟨_, rfl, ⟨by omega, by omega⟩, hk, fun r h0 hr => ?_⟩
  (((conv => whnf); try refine ite_back ?_); repeat (refine ⟨by first | rfl | exact ⟨rfl, rfl⟩ | exact ⟨fun z => DL.D.noConfusion z, fun z => DL.D.noConfusion z⟩, ?_⟩; ((conv => whnf); try refine ite_back ?_)))
  obtain ⟨d, hd, ed⟩ := atD_mem (xs := xs) h0 hr
  rw [ed]
  (((conv => whnf); try refine ite_back ?_); repeat (refine ⟨by first | rfl | exact ⟨rfl, rfl⟩ | exact ⟨fun z => DL.D.noConfusion z, fun z => DL.D.noConfusion z⟩, ?_⟩; ((conv => whnf); try refine ite_back ?_)))
  exact h d hd
end Lw
namespace Lw
open PySem PySem.Spec PyProof.Rows L2 DL
variable {Γ : Nat → FSpec}
structure GOk (g : List Int) : Prop where
  rise : ∀ i (h : i + 1 < g.length), g[i + 1] - g[i] = 0 ∨ g[i + 1] - g[i] = 1
  le : ∀ i (h : i < g.length), g[i] ≤ (i : Nat)
  nn : ∀ x ∈ g, 0 ≤ x
theorem g_zero : GOk [0] := ⟨fun i h => absurd h (by simp), fun i h => by
  have : i = 0 := by simpa using h
  subst this; simp, fun x hx => by rw [List.mem_singleton.mp hx]; omega⟩
theorem g_snoc {g : List Int} {y v : Int} (G : GOk (g ++ [y])) (h : v - y = 0 ∨ v - y = 1) (hl : v ≤ ((g.length + 1 : Nat) : Int)) : GOk (g ++ [y] ++ [v]) := by
  refine ⟨fun i hi => ?_, fun i hi => ?_, fun x hx => ?_⟩
  · rw [List.length_append, List.length_append, List.length_singleton, List.length_singleton] at hi
    by_cases c : i + 1 < (g ++ [y]).length
    · have c' : i < (g ++ [y]).length := by omega
      rw [List.getElem_append_left c, List.getElem_append_left c']
      exact G.rise i c
    · rw [List.length_append, List.length_singleton] at c
      have e : i = g.length := by omega
      subst e
      simpa [List.getElem_append] using h
  · rw [List.length_append, List.length_append, List.length_singleton, List.length_singleton] at hi
    by_cases c : i < (g ++ [y]).length
    · rw [List.getElem_append_left c]
      exact G.le i c
    · rw [List.length_append, List.length_singleton] at c
      have e : i = g.length + 1 := by omega
      subst e
      simpa [List.getElem_append] using hl
  · rcases List.mem_append.mp hx with hx | hx
    · exact G.nn x hx
    · rw [List.mem_singleton.mp hx]
      have := G.nn y (by simp)
      omega
theorem atD_last (g : List Int) (y : Int) : atD ((g ++ [y]).map iD) (-1) = some (.int y) := by
  unfold atD ixD
  rw [if_neg (by omega), if_pos (by simp; omega)]
  show ((g ++ [y]).map iD)[(-1 + (((g ++ [y]).map iD).length : Int)).toNat]? = _
  have e : (-1 + (((g ++ [y]).map iD).length : Int)).toNat = g.length := by simp; omega
  rw [e, List.getElem?_map, List.getElem?_append_right (Nat.le_refl _)]
  simp [iD]
theorem rng_mid {lo w : Int} {n : Nat} {dn rest : List Int} (h : rngI lo n = dn ++ w :: rest) : w = lo + (dn.length : Nat) := by
  have h1 : (rngI lo n)[dn.length]? = some w := by rw [h, List.getElem?_append_right (Nat.le_refl _)]; simp
  unfold rngI at h1
  rw [List.getElem?_map] at h1
  cases h2 : (List.range n)[dn.length]? with
  | none => rw [h2] at h1; cases h1
  | some j =>
    rw [h2] at h1
    have h3 := List.getElem?_eq_some_iff.mp h2
    obtain ⟨h4, h5⟩ := h3
    rw [List.getElem_range] at h5
    have h6 := Option.some.inj h1
    rw [← h6, ← h5]
def S__law_stove : FSpec := fun ds k Q => ds = [.pot, .int 10] ∧ k < 900 ∧ ∀ s : Stv, s.Ok → ∀ k', k' ≤ k + 20 → Q (stD s) k'
theorem w__law_stove (e1 : Γ i__law_take = S__law_take) (e2 : Γ i__law_of = S__law_of) : Wok Γ S__law_stove p__law_stove 6 2 := by
  rintro _ k Q ⟨rfl, hk, h⟩
  refine ⟨rfl, ?_⟩
  unfold p__law_stove
  (((conv => whnf); try refine ite_back ?_); repeat (refine ⟨by first | rfl | exact ⟨rfl, rfl⟩ | exact ⟨fun z => DL.D.noConfusion z, fun z => DL.D.noConfusion z⟩, ?_⟩; ((conv => whnf); try refine ite_back ?_)))
  (rw [e1]; try conv => arg 2; dsimp only [Ev.set, wipeE, backE])
  refine ⟨_, rfl, ⟨by omega, by omega⟩, by omega, fun r h0 hr => ?_⟩
  (((conv => whnf); try refine ite_back ?_); repeat (refine ⟨by first | rfl | exact ⟨rfl, rfl⟩ | exact ⟨fun z => DL.D.noConfusion z, fun z => DL.D.noConfusion z⟩, ?_⟩; ((conv => whnf); try refine ite_back ?_)))
  refine rng_ok (by omega) (by omega) (by omega) (by omega) ?_
  (((conv => whnf); try refine ite_back ?_); repeat (refine ⟨by first | rfl | exact ⟨rfl, rfl⟩ | exact ⟨fun z => DL.D.noConfusion z, fun z => DL.D.noConfusion z⟩, ?_⟩; ((conv => whnf); try refine ite_back ?_)))
  refine wpL_of iD (fun done ρ => ∃ a g y k', Fr a ∧ GOk (g ++ [y]) ∧ g.length = done.length ∧ k' ≤ k + 1 + done.length ∧ ρ = ⟨[.dat .pot, .dat (.int 10), a, .dat (.int (6 + r)), .ol ((g ++ [y]).map iD), .any], k'⟩) _ ⟨_, [], 0, _, fr_any, g_zero, rfl, Nat.le_refl _, rfl⟩ ?_ ?_
  · rintro done w rest hall ρ ⟨a, g, y, k', fa, G, hg, hk', rfl⟩ R hR
    (((conv => whnf); try refine ite_back ?_); repeat (refine ⟨by first | rfl | exact ⟨rfl, rfl⟩ | exact ⟨fun z => DL.D.noConfusion z, fun z => DL.D.noConfusion z⟩, ?_⟩; ((conv => whnf); try refine ite_back ?_)))
    rw [atD_last]
    (((conv => whnf); try refine ite_back ?_); repeat (refine ⟨by first | rfl | exact ⟨rfl, rfl⟩ | exact ⟨fun z => DL.D.noConfusion z, fun z => DL.D.noConfusion z⟩, ?_⟩; ((conv => whnf); try refine ite_back ?_)))
    (rw [e1]; try conv => arg 2; dsimp only [Ev.set, wipeE, backE])
    have hdl : done.length ≤ 10 := by
      have := congrArg List.length hall
      rw [rngI_len] at this
      simp at this; omega
    refine ⟨3, rfl, ⟨by omega, by omega⟩, by omega, fun u hu0 hu => ?_⟩
    ((conv => whnf); try refine ite_back ?_)
    refine ⟨by omega, ?_⟩
    ((conv => whnf); try refine ite_back ?_)
    have hw := rng_mid hall
    refine ⟨by rw [List.length_map, List.length_append, List.length_singleton, sizeLine_eq]; omega, ?_⟩
    ((conv => whnf); try refine ite_back ?_)
    have hy : y ≤ (g.length : Nat) := by
      have := G.le g.length (by simp)
      simpa using this
    refine hR _ ⟨.dat (iD w), g ++ [y], if y + (if decide (u < 1 + w % 2) = true then 1 else 0) < w then y + (if decide (u < 1 + w % 2) = true then 1 else 0) else w, k' + 1, fr_dat, g_snoc G ?_ ?_, by simp [hg], by simp; omega, ?_⟩
    · split <;> split <;> omega
    · split <;> split <;> omega
    · rw [List.map_append (l₁ := g ++ [y])]
      rfl
  · rintro ρ ⟨a, g, y, k', fa, G, hg, hk', rfl⟩
    (((conv => whnf); try refine ite_back ?_); repeat (refine ⟨by first | rfl | exact ⟨rfl, rfl⟩ | exact ⟨fun z => DL.D.noConfusion z, fun z => DL.D.noConfusion z⟩, ?_⟩; ((conv => whnf); try refine ite_back ?_)))
    rw [rngI_len] at hg hk'
    refine wpLc_map iD iD (g ++ [y]) (by (first | rfl | (simp only [ownOk, noOdl, Ev.get, Ev.set, getS, setS, List.all_cons, List.all_nil, odl_any, odl_dat, odl_ol, odl_od, own_any, own_dat, Fr.od, Fr.ow, Bool.not_false, Bool.and_true, Bool.true_and, *]; done))) (fun x hx R q => by (((conv => whnf); try refine ite_back ?_); repeat (refine ⟨by first | rfl | exact ⟨rfl, rfl⟩ | exact ⟨fun z => DL.D.noConfusion z, fun z => DL.D.noConfusion z⟩, ?_⟩; ((conv => whnf); try refine ite_back ?_))); exact q) ?_
    (((conv => whnf); try refine ite_back ?_); repeat (refine ⟨by first | rfl | exact ⟨rfl, rfl⟩ | exact ⟨fun z => DL.D.noConfusion z, fun z => DL.D.noConfusion z⟩, ?_⟩; ((conv => whnf); try refine ite_back ?_)))
    (rw [e1]; try conv => arg 2; dsimp only [Ev.set, wipeE, backE])
    refine ⟨5, rfl, ⟨by omega, by omega⟩, by omega, fun t ht0 ht => ?_⟩
    (((conv => whnf); try refine ite_back ?_); repeat (refine ⟨by first | rfl | exact ⟨rfl, rfl⟩ | exact ⟨fun z => DL.D.noConfusion z, fun z => DL.D.noConfusion z⟩, ?_⟩; ((conv => whnf); try refine ite_back ?_)))
    (rw [e2]; try conv => arg 2; dsimp only [Ev.set, wipeE, backE])
    refine ⟨_, rfl, ⟨by simp, by simp⟩, by omega, fun m hm => ?_⟩
    have hm2 : ∃ j : Int, m = .int j ∧ 0 ≤ j ∧ j ≤ 4 := by
      simp only [List.mem_cons, List.not_mem_nil, or_false] at hm
      rcases hm with rfl | rfl | rfl | rfl | rfl | rfl <;> exact ⟨_, rfl, by omega, by omega⟩
    obtain ⟨j, rfl, hj0, hj4⟩ := hm2
    (((conv => whnf); try refine ite_back ?_); repeat (refine ⟨by first | rfl | exact ⟨rfl, rfl⟩ | exact ⟨fun z => DL.D.noConfusion z, fun z => DL.D.noConfusion z⟩, ?_⟩; ((conv => whnf); try refine ite_back ?_)))
    have hlen : (g ++ [y]).length = (6 + r).toNat + 1 := by
      rw [List.length_append, List.length_singleton]; omega
    have q := h ⟨(6 + r).toNat, g ++ [y], 1 + t, j⟩ ⟨by show 1 ≤ (6 + r).toNat; omega, by show (6 + r).toNat ≤ 10; omega, hlen, G.rise, G.le, fun x hx => ⟨G.nn x hx, ?_⟩, by show 1 ≤ 1 + t; omega, by show 1 + t ≤ 5; omega, hj0, hj4⟩ (k' + 1 + 1) (by omega)
    · have e6 : (((6 + r).toNat : Nat) : Int) = 6 + r := by omega
      unfold stD at q
      rw [e6] at q
      exact q
    · have hx' : x ∈ g ++ [y] := hx
      obtain ⟨i, hi, hi2⟩ := List.getElem_of_mem hx'
      have := G.le i hi
      omega
end Lw
namespace Lw
open PySem PySem.Spec PyProof.Rows L2 DL
variable {Γ : Nat → FSpec}
def S__law_day : FSpec := fun ds k Q => ∃ m : Int, ds = [.pot, .int m] ∧ (1 ≤ m ∧ m ≤ 6) ∧ k < 900 ∧ ∀ d : List Hr, DyOk d → ∀ k', k' ≤ k + 60 → Q (dD d) k'
theorem w__law_day (e1 : Γ i__law_take = S__law_take) (e2 : Γ i__law_of = S__law_of) : Wok Γ S__law_day p__law_day 7 2 := by
  rintro _ k Q ⟨m, rfl, ⟨hm1, hm6⟩, hk, h⟩
  refine ⟨rfl, ?_⟩
  unfold p__law_day
  (((conv => whnf); try refine ite_back ?_); repeat (refine ⟨by first | rfl | exact ⟨rfl, rfl⟩ | exact ⟨fun z => DL.D.noConfusion z, fun z => DL.D.noConfusion z⟩, ?_⟩; ((conv => whnf); try refine ite_back ?_)))
  (rw [e1]; try conv => arg 2; dsimp only [Ev.set, wipeE, backE])
  refine ⟨5, rfl, ⟨by omega, by omega⟩, by omega, fun b hb0 hb => ?_⟩
  (((conv => whnf); try refine ite_back ?_); repeat (refine ⟨by first | rfl | exact ⟨rfl, rfl⟩ | exact ⟨fun z => DL.D.noConfusion z, fun z => DL.D.noConfusion z⟩, ?_⟩; ((conv => whnf); try refine ite_back ?_)))
  (rw [e1]; try conv => arg 2; dsimp only [Ev.set, wipeE, backE])
  refine ⟨m, rfl, ⟨by omega, by omega⟩, by omega, fun n hn0 hn => ?_⟩
  (((conv => whnf); try refine ite_back ?_); repeat (refine ⟨by first | rfl | exact ⟨rfl, rfl⟩ | exact ⟨fun z => DL.D.noConfusion z, fun z => DL.D.noConfusion z⟩, ?_⟩; ((conv => whnf); try refine ite_back ?_)))
  refine rng_ok (by omega) (by omega) (by omega) (by omega) ?_
  (((conv => whnf); try refine ite_back ?_); repeat (refine ⟨by first | rfl | exact ⟨rfl, rfl⟩ | exact ⟨fun z => DL.D.noConfusion z, fun z => DL.D.noConfusion z⟩, ?_⟩; ((conv => whnf); try refine ite_back ?_)))
  refine wpL_of iD (fun done ρ => ∃ a c e d k', (Fr a ∧ Fr c ∧ Fr e) ∧ d.length = done.length ∧ (∀ h ∈ d, HOk h) ∧ k' ≤ k + 2 + 6 * done.length ∧ ρ = ⟨[.dat .pot, .dat (.int m), a, .ol (d.map hD), .dat (.int b), c, e], k'⟩) _ ⟨_, _, _, [], _, ⟨fr_any, fr_any, fr_any⟩, rfl, fun _ z => (nomatch z), Nat.le_refl _, rfl⟩ ?_ ?_
  · rintro done w rest hall ρ ⟨a, c, e, d, k', ⟨fa, fc, fe⟩, hd, hok, hk', rfl⟩ R hR
    have hdl : done.length + 1 ≤ 6 := by
      have := congrArg List.length hall
      rw [rngI_len] at this
      simp at this; omega
    (((conv => whnf); try refine ite_back ?_); repeat (refine ⟨by first | rfl | exact ⟨rfl, rfl⟩ | exact ⟨fun z => DL.D.noConfusion z, fun z => DL.D.noConfusion z⟩, ?_⟩; ((conv => whnf); try refine ite_back ?_)))
    (rw [e1]; try conv => arg 2; dsimp only [Ev.set, wipeE, backE])
    refine ⟨2, rfl, ⟨by omega, by omega⟩, by omega, fun u hu0 hu => ?_⟩
    (((conv => whnf); try refine ite_back ?_); repeat (refine ⟨by first | rfl | exact ⟨rfl, rfl⟩ | exact ⟨fun z => DL.D.noConfusion z, fun z => DL.D.noConfusion z⟩, ?_⟩; ((conv => whnf); try refine ite_back ?_)))
    (rw [e2]; try conv => arg 2; dsimp only [Ev.set, wipeE, backE])
    refine ⟨_, rfl, ⟨by simp, by simp⟩, by omega, fun q hq => ?_⟩
    have hq2 : ∃ j : Int, q = .int j ∧ -4 ≤ j ∧ j ≤ 2 := by
      simp only [List.mem_cons, List.not_mem_nil, or_false] at hq
      rcases hq with rfl | rfl | rfl | rfl | rfl | rfl | rfl <;> exact ⟨_, rfl, by omega, by omega⟩
    obtain ⟨j, rfl, hj0, hj2⟩ := hq2
    ((conv => whnf); try refine ite_back ?_)
    refine ⟨by (first | rfl | (simp only [ownOk, noOdl, Ev.get, Ev.set, getS, setS, List.all_cons, List.all_nil, odl_any, odl_dat, odl_ol, odl_od, own_any, own_dat, Fr.od, Fr.ow, Bool.not_false, Bool.and_true, Bool.true_and, *]; done)), ?_⟩
    (((conv => whnf); try refine ite_back ?_); repeat (refine ⟨by first | rfl | exact ⟨rfl, rfl⟩ | exact ⟨fun z => DL.D.noConfusion z, fun z => DL.D.noConfusion z⟩, ?_⟩; ((conv => whnf); try refine ite_back ?_)))
    (rw [e1]; try conv => arg 2; dsimp only [Ev.set, wipeE, backE])
    refine ⟨6, rfl, ⟨by omega, by omega⟩, by omega, fun v hv0 hv => ?_⟩
    ((conv => whnf); try refine ite_back ?_)
    refine ⟨.inl ⟨by omega, by omega⟩, ?_⟩
    (((conv => whnf); try refine ite_back ?_); repeat (refine ⟨by first | rfl | exact ⟨rfl, rfl⟩ | exact ⟨fun z => DL.D.noConfusion z, fun z => DL.D.noConfusion z⟩, ?_⟩; ((conv => whnf); try refine ite_back ?_)))
    (rw [e2]; try conv => arg 2; dsimp only [Ev.set, wipeE, backE])
    refine ⟨_, rfl, ⟨by simp, by simp⟩, by omega, fun q hq => ?_⟩
    have hq2 : ∃ i : Int, q = .int i ∧ 0 ≤ i ∧ (i ≤ 2 ∨ (i ≤ 6 ∧ j = -4)) := by
      simp only [List.mem_cons, List.not_mem_nil, or_false] at hq
      rcases hq with rfl | rfl | rfl | rfl | rfl | rfl | rfl
      · exact ⟨_, rfl, by omega, by omega⟩
      · exact ⟨_, rfl, by omega, by omega⟩
      · exact ⟨_, rfl, by omega, by omega⟩
      · exact ⟨_, rfl, by omega, by omega⟩
      · exact ⟨_, rfl, by omega, by omega⟩
      · exact ⟨_, rfl, by omega, by omega⟩
      · refine ⟨_, rfl, ?_, ?_⟩
        · split <;> omega
        · by_cases c : j = -4
          · rw [if_pos (by simpa using c)]; omega
          · rw [if_neg (by simpa using c)]; omega
    obtain ⟨i, rfl, hi0, hi2⟩ := hq2
    ((conv => whnf); try refine ite_back ?_)
    refine ⟨by rw [List.length_map, sizeLine_eq]; omega, ?_⟩
    ((conv => whnf); try refine ite_back ?_)
    refine hR _ ⟨.dat (iD w), .dat (.int (b + u)), .dat (.int j), d ++ [((b + u, if b + u + 3 + v < 12 then b + u + 3 + v else 12), (j, j + i))], k' + 1 + 1 + 1 + 1, ⟨fr_dat, fr_dat, fr_dat⟩, by simp [hd], fun o ho => ?_, ?_, by rw [List.map_append]; rfl⟩
    · rcases List.mem_append.mp ho with ho | ho
      · exact hok o ho
      · rw [List.mem_singleton.mp ho]
        refine ⟨by show 0 ≤ b + u; omega, ?_, ?_, by show -4 ≤ j; omega, by show j ≤ j + i; omega, by show j + i ≤ 8; omega⟩
        · show b + u ≤ if b + u + 3 + v < 12 then b + u + 3 + v else 12
          split <;> omega
        · show (if b + u + 3 + v < 12 then b + u + 3 + v else 12) ≤ 12
          split <;> omega
    · rw [List.length_append, List.length_singleton]; omega
  · rintro ρ ⟨a, c, e, d, k', ⟨fa, fc, fe⟩, hd, hok, hk', rfl⟩
    rw [rngI_len] at hd hk'
    (((conv => whnf); try refine ite_back ?_); repeat (refine ⟨by first | rfl | exact ⟨rfl, rfl⟩ | exact ⟨fun z => DL.D.noConfusion z, fun z => DL.D.noConfusion z⟩, ?_⟩; ((conv => whnf); try refine ite_back ?_)))
    exact h d ⟨by omega, by omega, hok⟩ k' (by omega)
end Lw
namespace Lw
open PySem PySem.Spec PyProof.Rows L2 DL
variable {Γ : Nat → FSpec}
theorem prime_at (p0 p1 p2 p3 p4 : Int) (m : Int) (h : 0 < p0 ∧ 0 < p1 ∧ 0 < p2 ∧ 0 < p3 ∧ 0 < p4) (g : p0 < 2 ^ 31 ∧ p1 < 2 ^ 31 ∧ p2 < 2 ^ 31 ∧ p3 < 2 ^ 31 ∧ p4 < 2 ^ 31) : ∃ p : Int, (0 < p ∧ p < 2 ^ 31) ∧ atD [.int p0, .int p1, .int p2, .int p3, .int p4] (m % 5) = some (.int p) := by
  have h0 : 0 ≤ m % 5 := Int.emod_nonneg _ (by omega)
  have h5 : m % 5 < 5 := Int.emod_lt_of_pos _ (by omega)
  have : m % 5 = 0 ∨ m % 5 = 1 ∨ m % 5 = 2 ∨ m % 5 = 3 ∨ m % 5 = 4 := by omega
  rcases this with e | e | e | e | e <;> rw [e]
  · exact ⟨p0, ⟨h.1, g.1⟩, rfl⟩
  · exact ⟨p1, ⟨h.2.1, g.2.1⟩, rfl⟩
  · exact ⟨p2, ⟨h.2.2.1, g.2.2.1⟩, rfl⟩
  · exact ⟨p3, ⟨h.2.2.2.1, g.2.2.2.1⟩, rfl⟩
  · exact ⟨p4, ⟨h.2.2.2.2, g.2.2.2.2⟩, rfl⟩
theorem cpw3 {i : Int} (h0 : 0 ≤ i) (h : i < 2 ^ 64) : CPw i 3 := ⟨by omega, bits_mul_le (by omega) (by omega) (by omega)⟩
theorem sq_le {b d : Int} (h0 : 0 ≤ b) (h1 : b ≤ 1001) (h2 : 0 ≤ d) (h3 : d ≤ 1001) {c : Int} (hc : 0 ≤ c) (hc2 : c ≤ 100000) : 0 ≤ c * b * d ∧ c * b * d ≤ 100000 * 1001 * 1001 := by
  have e1 : 0 ≤ c * b := Int.mul_nonneg hc h0
  have e2 : c * b ≤ 100000 * 1001 := Int.mul_le_mul hc2 h1 h0 (by omega)
  exact ⟨Int.mul_nonneg e1 h2, Int.mul_le_mul e2 h3 h2 (by omega)⟩
theorem w__law_take : Wok Γ S__law_take p__law_take 5 2 := by
  rintro _ k Q ⟨n, rfl, ⟨h1, h2⟩, hk, h⟩
  refine ⟨rfl, ?_⟩
  unfold p__law_take
  ((conv => whnf); try refine ite_back ?_)
  intro a ha
  ((conv => whnf); try refine ite_back ?_)
  cases c : decide (0 < a) with
  | true =>
    ((conv => whnf); try refine ite_back ?_)
    intro b hb
    ((conv => whnf); try refine ite_back ?_)
    refine ⟨by omega, ?_⟩
    ((conv => whnf); try refine ite_back ?_)
    intro d hd
    ((conv => whnf); try refine ite_back ?_)
    refine ⟨wide_div (b := 20) (by omega) (by omega) (by omega) (by omega), ?_⟩
    ((conv => whnf); try refine ite_back ?_)
    have hd' : 0 ≤ d := hd
    refine ⟨Int.ediv_nonneg hd' (by omega), ?_⟩
    ((conv => whnf); try refine ite_back ?_)
    exact h _ (Int.emod_nonneg _ (by omega)) (Int.emod_lt_of_pos _ (by omega))
  | false =>
    ((conv => whnf); try refine ite_back ?_)
    intro b hb
    ((conv => whnf); try refine ite_back ?_)
    have hb0 : 0 ≤ b := hb.1
    have hb1 : b ≤ (k : Int) := hb.2
    refine ⟨⟨by omega, ?_⟩, ?_⟩
    · show b + 1 ≤ ((k + 1 : Nat) : Int); omega
    ((conv => whnf); try refine ite_back ?_)
    intro c hc
    ((conv => whnf); try refine ite_back ?_)
    refine ⟨by omega, ?_⟩
    ((conv => whnf); try refine ite_back ?_)
    obtain ⟨p, ⟨hp0, hp1⟩, ep⟩ := prime_at 2147483647 2147483629 2147483587 2147483579 2147483563 c (by omega) (by omega)
    rw [ep]
    ((conv => whnf); try refine ite_back ?_)
    intro u hu
    ((conv => whnf); try refine ite_back ?_)
    intro v hv
    ((conv => whnf); try refine ite_back ?_)
    refine ⟨.inl ⟨by omega, by omega⟩, ?_⟩
    ((conv => whnf); try refine ite_back ?_)
    intro w hw
    have hv0 : 0 ≤ v := hv.1
    have hv1 : v ≤ ((k + 1 : Nat) : Int) := hv.2
    have hw0 : 0 ≤ w := hw.1
    have hw1 : w ≤ ((k + 1 : Nat) : Int) := hw.2
    have hu0 : 0 ≤ u := hu.1
    have hu1 : u < 2305843009213693921 := hu.2
    ((conv => whnf); try refine ite_back ?_)
    refine ⟨.inr (.inl ⟨by omega, by omega⟩), ?_⟩
    ((conv => whnf); try refine ite_back ?_)
    refine ⟨?_, ?_⟩
    · refine cpw3 ?_ ?_
      · have := (sq_le (b := v) (d := w) hv0 (by omega) hw0 (by omega) (c := 52489) (by omega) (by omega)).1
        omega
      · have := (sq_le (b := v) (d := w) hv0 (by omega) hw0 (by omega) (c := 52489) (by omega) (by omega)).2
        omega
    ((conv => whnf); try refine ite_back ?_)
    refine ⟨hp0, ?_⟩
    ((conv => whnf); try refine ite_back ?_)
    refine ⟨by omega, ?_⟩
    ((conv => whnf); try refine ite_back ?_)
    intro x hx
    have hx0 : 0 ≤ x := hx.1
    have hx1 : x ≤ ((k + 1 : Nat) : Int) := hx.2
    ((conv => whnf); try refine ite_back ?_)
    refine ⟨.inl ⟨by omega, by omega⟩, ?_⟩
    ((conv => whnf); try refine ite_back ?_)
    refine ⟨.inl ⟨?_, ?_⟩, ?_⟩
    · exact Int.lt_of_lt_of_le (by omega) (Int.emod_nonneg _ (by omega))
    · exact Int.lt_trans (Int.emod_lt_of_pos _ hp0) (by omega)
    ((conv => whnf); try refine ite_back ?_)
    refine ⟨by omega, ?_⟩
    ((conv => whnf); try refine ite_back ?_)
    refine ⟨wide_div (b := 20) (by omega) (by omega) (by omega) (by omega), ?_⟩
    ((conv => whnf); try refine ite_back ?_)
    refine ⟨by omega, ?_⟩
    ((conv => whnf); try refine ite_back ?_)
    exact h _ (Int.emod_nonneg _ (by omega)) (Int.emod_lt_of_pos _ (by omega))
def S__law_pot : FSpec := fun ds k Q => ∃ (ns : List Int) (p : Int), ds = [.scr ns, .int p] ∧ (0 ≤ p ∧ p ≤ 100) ∧ ns.length ≤ 63 ∧ Q .pot k
theorem cutD_one (ns : List Int) : ∃ ms : List Int, DL.cutD (ns.map D.int) none (some 1) = ms.map D.int := by
  unfold DL.cutD
  rw [← List.map_drop, ← List.map_take]
  exact ⟨_, rfl⟩
theorem w__law_pot : Wok Γ S__law_pot p__law_pot 5 2 := by
  rintro _ k Q ⟨ns, p, rfl, ⟨hp0, hp1⟩, hl, h⟩
  refine ⟨rfl, ?_⟩
  unfold p__law_pot
  ((conv => whnf); try refine ite_back ?_)
  have go : ∀ cell : Int, wpS Γ (.seq (.set 3 (.bin .mul (.bin .mod (.blt .int (.cons (.blt .abs (.cons (.var 2) (.nil))) (.nil))) (.bin .pow (.bin .pow (.lit (.int 10)) (.lit (.int 60))) (.lit (.int 5)))) (.blt .int (.cons (.cmp .ge (.blt .abs (.cons (.var 2) (.nil))) (.bin .pow (.lit (.int 10)) (.lit (.int 18)))) (.nil))))) (.seq (.set 4 (.bin .mod (.blt .int (.cons (.var 2) (.nil))) (.lit (.int 2305843009213693951)))) (.seq (.ret (.opv potNew (.cons (.var 3) (.cons (.bin .mod (.blt .int (.cons (.bin .add (.bin .add (.bin .mul (.var 4) (.lit (.int 41407))) (.bin .mul (.bin .mul (.lit (.int 9349)) (.var 1)) (.var 1))) (.lit (.int 2129))) (.nil))) (.lit (.int 2305843009213693921))) (.cons (.lit (.int 0)) (.nil)))))) (.skip)))) ⟨[.dat (.scr ns), .dat (.int p), .dat (.int cell), .any, .any], k⟩ { nx := fun ρ => Q .non ρ.k, rt := Q } := by
    intro cell
    ((conv => whnf); try refine ite_back ?_)
    refine ⟨?_, ?_⟩
    · exact ⟨by omega, by decide⟩
    ((conv => whnf); try refine ite_back ?_)
    refine ⟨?_, ?_⟩
    · exact ⟨by omega, by decide⟩
    ((conv => whnf); try refine ite_back ?_)
    refine ⟨by decide, ?_⟩
    ((conv => whnf); try refine ite_back ?_)
    refine ⟨?_, ?_⟩
    · exact ⟨by omega, by decide⟩
    ((conv => whnf); try refine ite_back ?_)
    refine ⟨.inr (.inl ?_), ?_⟩
    · split <;> omega
    ((conv => whnf); try refine ite_back ?_)
    refine ⟨by omega, ?_⟩
    ((conv => whnf); try refine ite_back ?_)
    refine ⟨.inr (.inl ⟨by omega, by omega⟩), ?_⟩
    ((conv => whnf); try refine ite_back ?_)
    refine ⟨.inl ⟨by omega, by omega⟩, ?_⟩
    ((conv => whnf); try refine ite_back ?_)
    refine ⟨.inr (.inl ⟨by omega, by omega⟩), ?_⟩
    ((conv => whnf); try refine ite_back ?_)
    refine ⟨by omega, ?_⟩
    ((conv => whnf); try refine ite_back ?_)
    refine ⟨⟨?_, ⟨Int.emod_nonneg _ (by omega), Int.emod_lt_of_pos _ (by omega)⟩, rfl⟩, ?_⟩
    · refine Int.mul_nonneg (Int.emod_nonneg _ (by decide)) ?_
      split <;> omega
    ((conv => whnf); try refine ite_back ?_)
    exact h
  cases c : decide (p < ((ns.length : Nat) : Int)) with
  | true =>
    ((conv => whnf); try refine ite_back ?_)
    have hi : p < (ns.length : Int) := of_decide_eq_true c
    have e : ((ixD ns.length p).bind fun j => ns[j]?) = some (ns[p.toNat]'(by omega)) := by
      unfold ixD
      rw [if_pos hp0, if_pos hi]
      show ns[p.toNat]? = _
      rw [List.getElem?_eq_getElem]
    rw [e]
    exact go _
  | false =>
    ((conv => whnf); try refine ite_back ?_)
    obtain ⟨ms, em⟩ := cutD_one ns
    rw [em]
    refine ⟨rfl, ?_⟩
    ((conv => whnf); try refine ite_back ?_)
    refine ⟨by rw [List.all_map]; simp [DL.isInt], ?_⟩
    ((conv => whnf); try refine ite_back ?_)
    refine ⟨by omega, ?_⟩
    ((conv => whnf); try refine ite_back ?_)
    refine ⟨.inl ⟨by omega, by omega⟩, ?_⟩
    exact go _
end Lw
namespace Lw
open PySem PySem.Spec PyProof.Rows L2 DL
variable {Γ : Nat → FSpec}
/-! the law's own rounds: counters of ways -/
theorem enc_S : Enc sD := ⟨tk_sD, eqK_sD⟩
theorem rD_inj {x y : Sd × Int} (h : (rD x).nk = (rD y).nk) : x = y := by
  obtain ⟨⟨a, b, c⟩, l⟩ := x
  obtain ⟨⟨a', b', c'⟩, l'⟩ := y
  simp only [rD, sD, D.nk, D.nks, Option.map_some] at h
  injection h with h; injection h with h; injection h with h h2; injection h with h
  injection h with h3 h4; injection h3 with h3; injection h4 with h4 h5; injection h4 with h4; injection h5 with h5; injection h5 with h5
  injection h2 with h2; injection h2 with h2
  subst h3 h4 h5 h2; rfl
theorem eqK_rD (x y : Sd × Int) : eqK (rD x) (rD y) = decide (x = y) := by
  unfold eqK
  exact decide_eq_decide.mpr ⟨rD_inj, fun e => by rw [e]⟩
theorem enc_R : Enc rD := ⟨fun _ => rfl, eqK_rD⟩
/-- the logs that lead from x into the wishes -/
def vlogs (s : Stv) (d : List Hr) (x : Sd) : List Int := (logsBy s x.2.1).filter (fits s d x)
abbrev Evt := Sd × (Sd × Int)
def evAt (s : Stv) (d : List Hr) (x : Sd) (l : Int) : List Evt := (rowsUp s d x l).map fun y => (y, (x, l))
def evOf (s : Stv) (d : List Hr) (x : Sd) (ls : List Int) : List Evt := ((ls.filter (fits s d x)).map fun l => evAt s d x l).flatten
def evs (s : Stv) (d : List Hr) (L : List Sd) : List Evt := (L.map fun x => evOf s d x (logsBy s x.2.1)).flatten
def waysTo (E : List Evt) (y : Sd) : List (Sd × Int) := (E.filter fun e => decide (e.1 = y)).map (·.2)
theorem waysTo_append (E E2 : List Evt) (y : Sd) : waysTo (E ++ E2) y = waysTo E y ++ waysTo E2 y := by unfold waysTo; rw [List.filter_append, List.map_append]
theorem waysTo_len (E : List Evt) (y : Sd) : (waysTo E y).length ≤ E.length := by unfold waysTo; rw [List.length_map]; exact List.length_filter_le ..
/-- what stands in the dict of ways behind these events -/
structure AOk (A : List (D × List D)) (E : List Evt) : Prop where
  tk : (A.all fun p => isTK p.1) = true
  look : ∀ z, lookL A (sD z) = (waysTo E z).map rD
  len : A.length ≤ E.length
theorem aok_nil : AOk [] [] := ⟨rfl, fun _ => rfl, Nat.le_refl _⟩
theorem aok_snoc {A : List (D × List D)} {E : List Evt} (h : AOk A E) (y : Sd) (w : Sd × Int) : AOk (addL (addK A (sD y)) (sD y) (rD w)) (E ++ [(y, w)]) := by
  rw [addL_addK]
  refine ⟨addL_all A _ rfl h.tk, fun z => ?_, ?_⟩
  · rw [addL_look A _ _ _ fun p _ c => eqK_trans c, waysTo_append, eqK_sD, h.look]
    unfold waysTo
    by_cases c : y = z
    · simp [c]
    · simp [c]
  · have := addL_len A (sD y) (rD w)
    have := h.len
    rw [List.length_append]; simp; omega
theorem evAt_len {s : Stv} {d : List Hr} (dk : DyOk d) {x : Sd} (hx : In s d x) (l : Int) : (evAt s d x l).length ≤ 13 := by
  unfold evAt rowsUp weathers
  rw [List.length_map, List.length_map, rngI_len]
  have o := dk.ok _ (hrAt_mem hx.a0 hx.a1)
  have := o.d; have := o.f
  omega
theorem evOf_len {s : Stv} {d : List Hr} (dk : DyOk d) {x : Sd} (hx : In s d x) (ls : List Int) : (evOf s d x ls).length ≤ ls.length * 13 := by
  unfold evOf
  refine Nat.le_trans (flatten_len 13 _ fun xs hxs => ?_) ?_
  · obtain ⟨l, _, rfl⟩ := List.mem_map.mp hxs
    exact evAt_len dk hx l
  · rw [List.length_map]
    exact Nat.mul_le_mul_right _ (List.length_filter_le ..)
theorem evs_len {s : Stv} {d : List Hr} (ok : s.Ok) (dk : DyOk d) {L : List Sd} (hL : ∀ x ∈ L, In s d x) : (evs s d L).length ≤ L.length * 65 := by
  unfold evs
  refine Nat.le_trans (flatten_len 65 _ fun xs hxs => ?_) ?_
  · obtain ⟨x, hx, rfl⟩ := List.mem_map.mp hxs
    have h1 := evOf_len dk (hL x hx) (logsBy s x.2.1)
    have h2 := logsBy_len ok x.2.1
    omega
  · rw [List.length_map]; exact Nat.le_refl _
/-- the dict of counters -/
def cD (L : List Sd) (c : Sd → Int) : List (D × D) := dcE sD iD (L.map fun x => (x, c x))
theorem asc_fun {L : List Sd} {c : Sd → Int} {x : Sd} (h : x ∈ L) : asc (L.map fun x => (x, c x)) x = some (c x) := by
  unfold asc
  induction L with
  | nil => cases h
  | cons y L ih =>
    rw [List.map_cons, List.find?_cons]
    by_cases e : y = x
    · simp [e]
    · simp only [e, decide_false]
      exact ih ((List.mem_cons.mp h).resolve_left fun z => e z.symm)
theorem ins_fun {L : List Sd} {c : Sd → Int} {x : Sd} (h : x ∈ L) (v : Int) : ins (L.map fun x => (x, c x)) x v = L.map fun y => (y, if y = x then v else c y) := by
  have e : (L.map fun x => (x, c x)).map (·.1) = L := by rw [List.map_map]; exact List.map_id L
  unfold ins
  rw [if_pos (by rw [e]; exact h), List.map_map]
  refine List.map_congr_left fun y _ => ?_
  simp only [Function.comp_apply]
  by_cases c : y = x <;> simp [c]
theorem cD_look {L : List Sd} {c : Sd → Int} {x : Sd} (h : x ∈ L) : lookD (cD L c) (sD x) = some (.int (c x)) := by
  unfold cD
  rw [dcE_look enc_S, asc_fun h]; rfl
theorem cD_put {L : List Sd} {c : Sd → Int} {x : Sd} (h : x ∈ L) (v : Int) : putD (cD L c) (sD x) (.int v) = cD L (fun y => if y = x then v else c y) := by
  unfold cD
  rw [show D.int v = iD v from rfl, dcE_put enc_S, ins_fun h]
theorem cD_new {L : List Sd} {c : Sd → Int} {x : Sd} (h : x ∉ L) (v : Int) : putD (cD L c) (sD x) (.int v) = cD (L ++ [x]) (fun y => if y = x then v else c y) := by
  unfold cD
  have e : (L.map fun x => (x, c x)).map (·.1) = L := by rw [List.map_map]; exact List.map_id L
  rw [show D.int v = iD v from rfl, dcE_put enc_S, ins_new (by rw [e]; exact h), List.map_append]
  congr 1
  simp only [List.map_cons, List.map_nil, if_pos]
  congr 1
  refine List.map_congr_left fun y hy => ?_
  have : y ≠ x := fun z => h (by rw [← z]; exact hy)
  simp [this]
theorem cD_kOk (L : List Sd) (c : Sd → Int) (x : Sd) : kOk (cD L c) (sD x) = true := dcE_kOk enc_S _ _
theorem cD_len (L : List Sd) (c : Sd → Int) : (cD L c).length = L.length := by unfold cD; rw [dcE_len, List.length_map]
theorem cD_keys (L : List Sd) (c : Sd → Int) : (cD L c).map (·.1) = L.map sD := by
  unfold cD
  have e : (L.map fun x => (x, c x)).map (·.1) = L := by rw [List.map_map]; exact List.map_id L
  rw [dcE_keys, e]
theorem cD_congr {L : List Sd} {c c' : Sd → Int} (h : ∀ x ∈ L, c x = c' x) : cD L c = cD L c' := by
  unfold cD
  congr 1
  exact List.map_congr_left fun x hx => by rw [h x hx]
/-- ways that are gone -/
def gD (G : List (Sd × Int)) : List (D × D) := dcE rD D.bl (G.map fun w => (w, true))
theorem gD_in (G : List (Sd × Int)) (w : Sd × Int) : (lookD (gD G) (rD w)).isSome = decide (w ∈ G) := by
  unfold gD
  rw [dcE_look enc_R, Option.isSome_map, asc_isSome]
  have e : (G.map fun w => (w, true)).map (·.1) = G := by rw [List.map_map]; exact List.map_id G
  exact decide_eq_decide.mpr (by rw [e])
theorem gD_put {G : List (Sd × Int)} {w : Sd × Int} (h : w ∉ G) : putD (gD G) (rD w) (.bl true) = gD (G ++ [w]) := by
  unfold gD
  have e : (G.map fun w => (w, true)).map (·.1) = G := by rw [List.map_map]; exact List.map_id G
  rw [show D.bl true = (D.bl : Bool → D) true from rfl, dcE_put enc_R, ins_new (by rw [e]; exact h), List.map_append]
  rfl
theorem gD_len (G : List (Sd × Int)) : (gD G).length = G.length := by unfold gD; rw [dcE_len, List.length_map]
end Lw
namespace Lw
open PySem PySem.Spec PyProof.Rows L2 DL
/-! plain: rounds by counters -/
theorem nd_map {α β : Type} {f : α → β} : ∀ {L : List α}, (∀ a ∈ L, ∀ b ∈ L, f a = f b → a = b) → L.Nodup → (L.map f).Nodup
  | [], _, _ => by simp
  | x :: L, h, n => by
    rw [List.nodup_cons] at n
    rw [List.map_cons, List.nodup_cons]
    refine ⟨fun m => ?_, nd_map (fun a ha b hb => h a (List.mem_cons_of_mem _ ha) b (List.mem_cons_of_mem _ hb)) n.2⟩
    obtain ⟨y, hy, e⟩ := List.mem_map.mp m
    rw [h x List.mem_cons_self y (List.mem_cons_of_mem _ hy) e.symm] at n
    exact n.1 hy
theorem gv_le {s : Stv} (ok : s.Ok) {w : Int} (h0 : 0 ≤ w) (h : w ≤ s.holds) : 0 ≤ gv s w ∧ gv s w ≤ w := by
  have l := ok.len
  unfold gv
  rw [getD_lt _ _ (by omega)]
  refine ⟨(ok.rng _ (List.getElem_mem _)).1, ?_⟩
  have := ok.le w.toNat (by omega)
  omega
theorem mem_weathers {d : List Hr} {i w : Int} : w ∈ weathers d i ↔ (hrAt d i).2.1 ≤ w ∧ w ≤ (hrAt d i).2.2 := by
  unfold weathers
  rw [mem_rngI]
  omega
theorem mem_rowsUp {s : Stv} {d : List Hr} {x y : Sd} {l : Int} : y ∈ rowsUp s d x l ↔ ∃ w, ((hrAt d x.1).2.1 ≤ w ∧ w ≤ (hrAt d x.1).2.2) ∧ y = behind s d x l w := by
  unfold rowsUp
  rw [List.mem_map]
  exact ⟨fun ⟨w, h, e⟩ => ⟨w, mem_weathers.mp h, e.symm⟩, fun ⟨w, h, e⟩ => ⟨w, mem_weathers.mpr h, e.symm⟩⟩
theorem mem_rows {s : Stv} {d : List Hr} {x y : Sd} {l : Int} : y ∈ rows s d x l ↔ y ∈ rowsUp s d x l := by
  unfold rows rowsUp
  rw [List.mem_map, List.mem_map]
  simp only [List.mem_reverse]
theorem next_in {d : List Hr} (dk : DyOk d) (i : Int) : 0 ≤ (i + 1) % (d.length : Int) ∧ (i + 1) % (d.length : Int) < d.length := by
  have := dk.l1
  exact ⟨Int.emod_nonneg _ (by omega), Int.emod_lt_of_pos _ (by omega)⟩
/-- all that is behind an hour is as wished just where the coldest and the mildest are -/
theorem fits_iff {s : Stv} {d : List Hr} (ok : s.Ok) (dk : DyOk d) {x : Sd} (hx : In s d x) {l : Int} (h0 : 0 ≤ l) (hl : warm s x.2.1 l ≤ s.holds) : fits s d x l = true ↔ ∀ y ∈ rowsUp s d x l, In s d y := by
  have o := dk.ok _ (hrAt_mem hx.a0 hx.a1)
  have oe := o.e
  have hn := next_in dk x.1
  have hw0 := warm_nn ok hx.t0 h0
  have hg := gv_le ok hw0 hl
  unfold fits
  constructor
  · intro h y hy
    obtain ⟨w, hw, rfl⟩ := mem_rowsUp.mp hy
    simp only [Bool.not_eq_true', Bool.or_eq_false_iff, decide_eq_false_iff_not] at h
    refine ⟨hn.1, hn.2, by show 0 ≤ warm s x.2.1 l - gv s _; omega, by show warm s x.2.1 l - gv s _ ≤ _; omega, ?_, ?_⟩
    · show (hrAt d ((x.1 + 1) % (d.length : Int))).1.1 ≤ x.2.2 + gv s (warm s x.2.1 l) - w
      omega
    · show x.2.2 + gv s (warm s x.2.1 l) - w ≤ (hrAt d ((x.1 + 1) % (d.length : Int))).1.2
      omega
  · intro h
    have h1 := h (behind s d x l (hrAt d x.1).2.2) (mem_rowsUp.mpr ⟨_, ⟨oe, Int.le_refl _⟩, rfl⟩)
    have h2 := h (behind s d x l (hrAt d x.1).2.1) (mem_rowsUp.mpr ⟨_, ⟨Int.le_refl _, oe⟩, rfl⟩)
    have h3 : (hrAt d ((x.1 + 1) % (d.length : Int))).1.1 ≤ x.2.2 + gv s (warm s x.2.1 l) - (hrAt d x.1).2.2 := h1.r0
    have h4 : x.2.2 + gv s (warm s x.2.1 l) - (hrAt d x.1).2.1 ≤ (hrAt d ((x.1 + 1) % (d.length : Int))).1.2 := h2.r1
    simp only [Bool.not_eq_true', Bool.or_eq_false_iff, decide_eq_false_iff_not]
    omega
/-- a valid way -/
def Val (s : Stv) (d : List Hr) (w : Sd × Int) : Prop := In s d w.1 ∧ w.2 ∈ vlogs s d w.1
theorem mem_vlogs {s : Stv} {d : List Hr} {x : Sd} {l : Int} : l ∈ vlogs s d x ↔ l ∈ logsBy s x.2.1 ∧ fits s d x l = true := by unfold vlogs; rw [List.mem_filter]
theorem leads_iff {s : Stv} {d : List Hr} (ok : s.Ok) (dk : DyOk d) {x : Sd} (hx : In s d x) {l : Int} (hl : l ∈ logsBy s x.2.1) {L K : List Sd} (hL : ∀ y, y ∈ L ↔ In s d y ∧ y ∉ K) : leads s d x l L = true ↔ fits s d x l = true ∧ ∀ y ∈ rowsUp s d x l, y ∉ K := by
  obtain ⟨⟨g1, _⟩, g2⟩ := mem_logsBy.mp hl
  unfold leads
  rw [List.all_eq_true, fits_iff ok dk hx g1 g2]
  constructor
  · intro h
    exact ⟨fun y hy => ((hL y).mp (of_decide_eq_true (h y (mem_rows.mpr hy)))).1, fun y hy => ((hL y).mp (of_decide_eq_true (h y (mem_rows.mpr hy)))).2⟩
  · rintro ⟨h1, h2⟩ y hy
    exact decide_eq_true ((hL y).mpr ⟨h1 y (mem_rows.mp hy), h2 y (mem_rows.mp hy)⟩)
theorem lost_iff {s : Stv} {d : List Hr} (ok : s.Ok) (dk : DyOk d) {L K : List Sd} (hL : ∀ y, y ∈ L ↔ In s d y ∧ y ∉ K) (x : Sd) : x ∈ lostOf s d L ↔ (In s d x ∧ x ∉ K) ∧ ∀ l ∈ vlogs s d x, ∃ y ∈ rowsUp s d x l, y ∈ K := by
  unfold lostOf
  rw [List.mem_filter, hL, Option.isNone_iff_eq_none]
  unfold logsIn
  rw [List.find?_eq_none]
  constructor
  · rintro ⟨h1, h2⟩
    refine ⟨h1, fun l hl => ?_⟩
    obtain ⟨g1, g2⟩ := mem_vlogs.mp hl
    have h3 := h2 l g1
    rw [leads_iff ok dk h1.1 g1 hL] at h3
    refine Classical.byContradiction fun c => h3 ⟨g2, fun y hy hk => c ⟨y, hy, hk⟩⟩
  · rintro ⟨h1, h2⟩
    refine ⟨h1, fun l hl c => ?_⟩
    rw [leads_iff ok dk h1.1 hl hL] at c
    obtain ⟨y, hy, hk⟩ := h2 l (mem_vlogs.mpr ⟨hl, c.1⟩)
    exact c.2 y hy hk
theorem mem_evs {s : Stv} {d : List Hr} {L : List Sd} {e : Evt} : e ∈ evs s d L ↔ (e.2.1 ∈ L ∧ e.2.2 ∈ vlogs s d e.2.1) ∧ e.1 ∈ rowsUp s d e.2.1 e.2.2 := by
  unfold evs evOf evAt vlogs
  simp only [List.mem_flatten, List.mem_map]
  constructor
  · rintro ⟨xs, ⟨x, hx, rfl⟩, hxs⟩
    obtain ⟨zs, hzs, hz⟩ := List.mem_flatten.mp hxs
    obtain ⟨l, hl, rfl⟩ := List.mem_map.mp hzs
    obtain ⟨y, hy, rfl⟩ := List.mem_map.mp hz
    exact ⟨⟨hx, hl⟩, hy⟩
  · rintro ⟨⟨h1, h2⟩, h3⟩
    refine ⟨_, ⟨e.2.1, h1, rfl⟩, ?_⟩
    rw [List.mem_flatten]
    exact ⟨_, List.mem_map.mpr ⟨e.2.2, h2, rfl⟩, List.mem_map.mpr ⟨e.1, h3, rfl⟩⟩
theorem mem_waysTo {s : Stv} {d : List Hr} {L : List Sd} {y : Sd} {w : Sd × Int} : w ∈ waysTo (evs s d L) y ↔ (w.1 ∈ L ∧ w.2 ∈ vlogs s d w.1) ∧ y ∈ rowsUp s d w.1 w.2 := by
  unfold waysTo
  rw [List.mem_map]
  constructor
  · rintro ⟨e, he, rfl⟩
    obtain ⟨h1, h2⟩ := List.mem_filter.mp he
    have := mem_evs.mp h1
    rw [of_decide_eq_true h2] at this
    exact this
  · rintro h
    exact ⟨(y, w), List.mem_filter.mpr ⟨mem_evs.mpr h, decide_eq_true rfl⟩, rfl⟩
theorem rngI_nd (lo : Int) (n : Nat) : (rngI lo n).Nodup := (rngI_lt lo n).imp fun h => by omega
theorem logsBy_nd (s : Stv) (t : Int) : (logsBy s t).Nodup := (rngI_nd _ _).filter _
theorem rowsUp_nd (s : Stv) (d : List Hr) (x : Sd) (l : Int) : (rowsUp s d x l).Nodup := by
  unfold rowsUp weathers
  refine nd_map (fun w _ v _ e => ?_) (rngI_nd _ _) 
  have := congrArg (fun p : Sd => p.2.2) e
  simp only [behind] at this
  omega
theorem nd_flatten {α β : Type} (g : α → List β) : ∀ (L : List α), L.Nodup → (∀ x ∈ L, (g x).Nodup) → (∀ x ∈ L, ∀ y ∈ L, x ≠ y → ∀ b ∈ g x, b ∉ g y) → (L.map g).flatten.Nodup
  | [], _, _, _ => by simp
  | x :: L, h1, h2, h3 => by
    rw [List.nodup_cons] at h1
    rw [List.map_cons, List.flatten_cons, List.nodup_append]
    refine ⟨h2 x List.mem_cons_self, nd_flatten g L h1.2 (fun y hy => h2 y (List.mem_cons_of_mem _ hy)) (fun y hy z hz => h3 y (List.mem_cons_of_mem _ hy) z (List.mem_cons_of_mem _ hz)), fun a ha b hb e => ?_⟩
    subst e
    obtain ⟨zs, hz, hb⟩ := List.mem_flatten.mp hb
    obtain ⟨y, hy, rfl⟩ := List.mem_map.mp hz
    exact h3 x List.mem_cons_self y (List.mem_cons_of_mem _ hy) (fun z => h1.1 (by rw [z]; exact hy)) a ha hb
theorem evs_nd (s : Stv) (d : List Hr) {L : List Sd} (h : L.Nodup) : (evs s d L).Nodup := by
  unfold evs
  have at_ : ∀ x l, ∀ e ∈ evAt s d x l, e.2 = (x, l) := fun x l e he => by
    unfold evAt at he
    obtain ⟨y, _, rfl⟩ := List.mem_map.mp he
    rfl
  have of_ : ∀ x ls, ∀ e ∈ evOf s d x ls, e.2.1 = x := fun x ls e he => by
    unfold evOf at he
    obtain ⟨zs, hz, hb⟩ := List.mem_flatten.mp he
    obtain ⟨l, hl, rfl⟩ := List.mem_map.mp hz
    rw [at_ x l e hb]
  refine nd_flatten _ L h (fun x hx => ?_) (fun x hx y hy hxy e h1 h2 => hxy ((of_ x _ e h1).symm.trans (of_ y _ e h2)))
  unfold evOf
  refine nd_flatten _ _ ((logsBy_nd s _).filter _) (fun l _ => ?_) (fun l _ m _ hlm e h1 h2 => hlm ?_)
  · unfold evAt
    exact nd_map (fun a _ b _ e => congrArg Prod.fst e) (rowsUp_nd s d x l)
  · have h3 := at_ x l e h1
    have h4 := at_ x m e h2
    rw [h3] at h4
    exact congrArg Prod.snd h4
theorem waysTo_nd {E : List Evt} (h : E.Nodup) (y : Sd) : (waysTo E y).Nodup := by
  unfold waysTo
  refine nd_map (fun a ha b hb e => ?_) (h.filter _)
  have h1 := of_decide_eq_true (List.mem_filter.mp ha).2
  have h2 := of_decide_eq_true (List.mem_filter.mp hb).2
  exact Prod.ext (h1.trans h2.symm) e
end Lw
namespace Lw
open PySem PySem.Spec PyProof.Rows L2 DL
def cnt0 (s : Stv) (d : List Hr) (G : List (Sd × Int)) (x : Sd) : Nat := ((vlogs s d x).filter fun l => decide ((x, l) ∉ G)).length
structure Cst (s : Stv) (d : List Hr) (G : List (Sd × Int)) (c : Sd → Int) (Z : List Sd) : Prop where
  gv : ∀ w ∈ G, Val s d w
  gn : G.Nodup
  cc : ∀ x, In s d x → c x = (cnt0 s d G x : Nat)
  zn : Z.Nodup
  zm : ∀ x, x ∈ Z ↔ In s d x ∧ c x = 0
theorem vlogs_nd (s : Stv) (d : List Hr) (x : Sd) : (vlogs s d x).Nodup := (logsBy_nd s _).filter _
theorem cst_start {s : Stv} {d : List Hr} {c : Sd → Int} (h : ∀ x, In s d x → c x = (vlogs s d x).length) : Cst s d [] c ((stands s d).filter fun x => decide (c x = 0)) := by
  refine ⟨fun w hw => (nomatch hw), by simp, fun x hx => ?_, (stands_nd s d).filter _, fun x => ?_⟩
  · rw [h x hx]
    unfold cnt0
    rw [List.filter_eq_self.mpr fun l _ => by simp]
  · rw [List.mem_filter, mem_stands]; simp
theorem filt_one {l : Int} {p q : Int → Bool} : ∀ {L : List Int}, L.Nodup → l ∈ L → p l = true → (∀ m ∈ L, q m = (p m && decide (m ≠ l))) → (L.filter p).length = (L.filter q).length + 1
  | [], _, h, _, _ => nomatch h
  | m :: L, n, h, hp, hq => by
    rw [List.nodup_cons] at n
    rw [List.filter_cons, List.filter_cons]
    have hqm := hq m List.mem_cons_self
    rcases List.mem_cons.mp h with e | h
    · subst e
      rw [hp, hqm]
      have e : L.filter q = L.filter p := List.filter_congr fun z hz => by
        rw [hq z (List.mem_cons_of_mem _ hz)]
        have : z ≠ l := fun y => n.1 (by rw [← y]; exact hz)
        simp [this]
      simp [e]
    · have hm : m ≠ l := fun y => n.1 (by rw [y]; exact h)
      have ih := filt_one n.2 h hp fun z hz => hq z (List.mem_cons_of_mem _ hz)
      rw [hqm]
      cases p m with
      | true => simp [hm, ih]
      | false => simp [ih]
theorem cst_step {s : Stv} {d : List Hr} {G : List (Sd × Int)} {c : Sd → Int} {Z : List Sd} (h : Cst s d G c Z) {w : Sd × Int} (hw : Val s d w) (hn : w ∉ G) :
    Cst s d (G ++ [w]) (fun y => if y = w.1 then c w.1 - 1 else c y) (if c w.1 - 1 = 0 then Z ++ [w.1] else Z) := by
  have hpos : 1 ≤ cnt0 s d G w.1 ∧ cnt0 s d G w.1 = cnt0 s d (G ++ [w]) w.1 + 1 := by
    have e : cnt0 s d G w.1 = cnt0 s d (G ++ [w]) w.1 + 1 := by
      unfold cnt0
      refine filt_one (l := w.2) (vlogs_nd s d w.1) hw.2 (decide_eq_true hn) fun m _ => ?_
      have : ((w.1, m) ∉ G ++ [w]) ↔ ((w.1, m) ∉ G ∧ m ≠ w.2) := by
        rw [List.mem_append, List.mem_singleton, not_or]
        exact ⟨fun ⟨a, b⟩ => ⟨a, fun z => b (by rw [z])⟩, fun ⟨a, b⟩ => ⟨a, fun z => b (congrArg Prod.snd z)⟩⟩
      rw [← Bool.decide_and]
      exact decide_eq_decide.mpr this
    exact ⟨by omega, e⟩
  have hcw := h.cc w.1 hw.1
  have other : ∀ y, y ≠ w.1 → cnt0 s d (G ++ [w]) y = cnt0 s d G y := fun y hy => by
    unfold cnt0
    congr 1
    refine List.filter_congr fun m _ => decide_eq_decide.mpr ?_
    rw [List.mem_append, List.mem_singleton, not_or]
    exact ⟨fun h => h.1, fun h => ⟨h, fun z => hy (congrArg Prod.fst z)⟩⟩
  have hzw : w.1 ∉ Z := fun z => by
    have := ((h.zm w.1).mp z).2
    omega
  refine ⟨fun v hv => ?_, ?_, fun x hx => ?_, ?_, fun x => ?_⟩
  · rcases List.mem_append.mp hv with hv | hv
    · exact h.gv v hv
    · rw [List.mem_singleton.mp hv]; exact hw
  · rw [List.nodup_append]
    exact ⟨h.gn, by simp, fun a ha b hb e => hn (by rw [List.mem_singleton.mp hb] at e; rw [← e]; exact ha)⟩
  · by_cases e : x = w.1
    · subst e; rw [if_pos rfl]; omega
    · rw [if_neg e, other x e]; exact h.cc x hx
  · split
    · rw [List.nodup_append]
      exact ⟨h.zn, by simp, fun a ha b hb e => hzw (by rw [List.mem_singleton.mp hb] at e; rw [← e]; exact ha)⟩
    · exact h.zn
  · have hx : ∀ x, x ≠ w.1 → (x ∈ Z ↔ In s d x ∧ (if x = w.1 then c w.1 - 1 else c x) = 0) := fun x e => by rw [if_neg e]; exact h.zm x
    by_cases e : x = w.1
    · subst e
      rw [if_pos rfl]
      by_cases c0 : c w.1 - 1 = 0
      · rw [if_pos c0]; simp [c0, hw.1]
      · rw [if_neg c0]; simp [c0, hzw]
    · by_cases c0 : c w.1 - 1 = 0
      · rw [if_pos c0, List.mem_append, List.mem_singleton, hx x e]
        simp [e]
      · rw [if_neg c0]; exact hx x e
/-- what is gone, by the stands that are ranked -/
def GM (s : Stv) (d : List Hr) (G : List (Sd × Int)) (K : List Sd) : Prop := ∀ w, w ∈ G ↔ Val s d w ∧ ∃ y ∈ rowsUp s d w.1 w.2, y ∈ K
theorem gm_nil (s : Stv) (d : List Hr) : GM s d [] [] := fun w => ⟨fun h => (nomatch h), fun ⟨_, _, _, h⟩ => (nomatch h)⟩
theorem gm_next {s : Stv} {d : List Hr} {G : List (Sd × Int)} {K : List Sd} (h : GM s d G K) (x : Sd) : GM s d (G ++ (waysTo (evs s d (stands s d)) x).filter fun w => decide (w ∉ G)) (K ++ [x]) := fun w => by
  rw [List.mem_append, List.mem_filter, mem_waysTo, decide_eq_true_eq, mem_stands]
  constructor
  · rintro (hw | ⟨⟨h1, h2⟩, h3⟩)
    · obtain ⟨a, y, b, e⟩ := (h w).mp hw
      exact ⟨a, y, b, List.mem_append_left _ e⟩
    · exact ⟨h1, x, h2, List.mem_append_right _ (List.mem_singleton.mpr rfl)⟩
  · rintro ⟨h1, y, h2, h3⟩
    by_cases c : w ∈ G
    · exact .inl c
    · refine .inr ⟨⟨h1, ?_⟩, c⟩
      rcases List.mem_append.mp h3 with h3 | h3
      · exact (c ((h w).mpr ⟨h1, y, h2, h3⟩)).elim
      · rw [← List.mem_singleton.mp h3]; exact h2
structure Lap (s : Stv) (d : List Hr) (n : Int) (R : List (Sd × Int)) (lost : List Sd) (G : List (Sd × Int)) (c : Sd → Int) : Prop where
  go : ∃ f Lp Rp, Fin s d Rp Lp ∧ Lp.length < f ∧ R.Perm Rp ∧ (rounds s d f Lp n Rp).1 = lostR s d
  cst : Cst s d G c (R.map (·.1) ++ lost)
  gm : GM s d G (R.map (·.1))
theorem lap_lost {s : Stv} {d : List Hr} (ok : s.Ok) (dk : DyOk d) {R Rp : List (Sd × Int)} {Lp lost : List Sd} {G : List (Sd × Int)} {c : Sd → Int} (F : Fin s d Rp Lp) (P : R.Perm Rp) (C : Cst s d G c (R.map (·.1) ++ lost)) (gm : GM s d G (R.map (·.1))) : lost.Perm (lostOf s d Lp) := by
  have hK : ∀ y, y ∈ R.map (·.1) ↔ y ∈ Rp.map (·.1) := fun y => (P.map _).mem_iff
  have hL : ∀ y, y ∈ Lp ↔ In s d y ∧ y ∉ R.map (·.1) := fun y => by
    rw [hK, F.all]
    constructor
    · intro h; exact ⟨.inl h, F.at_.off y h⟩
    · rintro ⟨h | h, h2⟩
      · exact h
      · exact (h2 h).elim
  have nd := List.nodup_append.mp C.zn
  rw [List.perm_ext_iff_of_nodup nd.2.1 (lost_nd F.at_)]
  intro x
  rw [lost_iff ok dk hL]
  have z := C.zm x
  rw [List.mem_append] at z
  have c0 : In s d x → (c x = 0 ↔ ∀ l ∈ vlogs s d x, ∃ y ∈ rowsUp s d x l, y ∈ R.map (·.1)) := fun hx => by
    rw [C.cc x hx]
    unfold cnt0
    constructor
    · intro h l hl
      have h1 : ((vlogs s d x).filter fun l => decide ((x, l) ∉ G)) = [] := List.length_eq_zero_iff.mp (by omega)
      rw [List.filter_eq_nil_iff] at h1
      have h2 := h1 l hl
      have h3 : (x, l) ∈ G := by simpa using h2
      exact ((gm (x, l)).mp h3).2
    · intro h
      have h1 : ((vlogs s d x).filter fun l => decide ((x, l) ∉ G)) = [] := by
        rw [List.filter_eq_nil_iff]
        intro l hl
        have : (x, l) ∈ G := (gm (x, l)).mpr ⟨⟨hx, hl⟩, h l hl⟩
        simpa using this
      rw [h1]; rfl
  constructor
  · intro hx
    obtain ⟨h1, h2⟩ := z.mp (.inr hx)
    exact ⟨⟨h1, fun m => nd.2.2 x m x hx rfl⟩, (c0 h1).mp h2⟩
  · rintro ⟨⟨h1, h2⟩, h3⟩
    exact (z.mpr ⟨h1, (c0 h1).mpr h3⟩).resolve_left h2
theorem lap_done {s : Stv} {d : List Hr} (ok : s.Ok) (dk : DyOk d) {n : Int} {R : List (Sd × Int)} {G : List (Sd × Int)} {c : Sd → Int} (L : Lap s d n R [] G c) : R.Perm (lostR s d) := by
  obtain ⟨f, Lp, Rp, F, hf, P, e⟩ := L.go
  have h := lap_lost ok dk F P L.cst L.gm
  have h2 : lostOf s d Lp = [] := List.nil_perm.mp h
  cases f with
  | zero => omega
  | succ f =>
    rw [rounds, if_pos h2] at e
    rw [← e]; exact P
theorem lap_next {s : Stv} {d : List Hr} (ok : s.Ok) (dk : DyOk d) {n : Int} {R : List (Sd × Int)} {lost later : List Sd} {G G' : List (Sd × Int)} {c c' : Sd → Int} (L : Lap s d n R lost G c) (hl : lost ≠ []) (C : Cst s d G' c' ((R.map (·.1) ++ lost) ++ later)) (gm : GM s d G' (R.map (·.1) ++ lost)) :
    Lap s d (n + 1) (R ++ lost.map fun x => (x, n + 1)) later G' c' := by
  obtain ⟨f, Lp, Rp, F, hf, P, e⟩ := L.go
  have h := lap_lost ok dk F P L.cst L.gm
  have h2 : lostOf s d Lp ≠ [] := fun z => by rw [z] at h; exact hl (List.perm_nil.mp h)
  have ek : (R ++ lost.map fun x => (x, n + 1)).map (·.1) = R.map (·.1) ++ lost := by
    rw [List.map_append, List.map_map]
    congr 1
    exact List.map_id lost
  cases f with
  | zero => omega
  | succ f =>
    rw [rounds, if_neg h2] at e
    refine ⟨⟨f, keepOf s d Lp, _, fin_step (n := n + 1) F, by have := keep_len h2; omega, P.append (h.map _), e⟩, by rw [ek]; exact C, by rw [ek]; exact gm⟩
theorem lap_start {s : Stv} {d : List Hr} (ok : s.Ok) (dk : DyOk d) {c : Sd → Int} (h : ∀ x, In s d x → c x = (vlogs s d x).length) : Lap s d 0 [] ((stands s d).filter fun x => decide (c x = 0)) [] c :=
  ⟨⟨_, _, _, fin_start ok dk, Nat.lt_succ_self _, List.Perm.refl _, rfl⟩, cst_start h, gm_nil s d⟩
end Lw
namespace Lw
open PySem PySem.Spec PyProof.Rows L2 DL
variable {Γ : Nat → FSpec}
theorem evs_snoc (s : Stv) (d : List Hr) (L : List Sd) (x : Sd) : evs s d (L ++ [x]) = evs s d L ++ evOf s d x (logsBy s x.2.1) := fl_snoc _ L x
theorem evOf_snoc (s : Stv) (d : List Hr) (x : Sd) (ls : List Int) (l : Int) : evOf s d x (ls ++ [l]) = evOf s d x ls ++ if fits s d x l = true then evAt s d x l else [] := by
  unfold evOf
  rw [List.filter_append]
  by_cases c : fits s d x l = true
  · have e : [l].filter (fits s d x) = [l] := by simp [c]
    rw [if_pos c, e, fl_snoc]
  · have e : [l].filter (fits s d x) = [] := by simp [c]
    rw [if_neg c, e, List.append_nil, List.append_nil]
theorem eqD_nil {α : Type} (f : α → D) (L : List α) : eqD (.lst (L.map f)) (.lst []) = decide (L = []) := by
  cases L with
  | nil => rfl
  | cons x L => rfl
theorem nd_len {α : Type} [DecidableEq α] : ∀ {L M : List α}, L.Nodup → (∀ x ∈ L, x ∈ M) → L.length ≤ M.length
  | [], _, _, _ => Nat.zero_le _
  | x :: L, M, n, h => by
    rw [List.nodup_cons] at n
    have hx := h x List.mem_cons_self
    have := nd_len (M := M.erase x) n.2 fun y hy => (List.mem_erase_of_ne fun z => n.1 (by rw [← z]; exact hy)).mpr (h y (List.mem_cons_of_mem _ hy))
    rw [List.length_erase_of_mem hx] at this
    have : 0 < M.length := List.length_pos_of_mem hx
    rw [List.length_cons]; omega
theorem ways_len {s : Stv} {d : List Hr} (ok : s.Ok) (dk : DyOk d) {G : List (Sd × Int)} {c : Sd → Int} {Z : List Sd} (C : Cst s d G c Z) : G.length ≤ 6000 := by
  have h := nd_len (M := ((stands s d).map fun x => (logsBy s x.2.1).map fun l => (x, l)).flatten) C.gn fun w hw => by
    obtain ⟨h1, h2⟩ := C.gv w hw
    rw [List.mem_flatten]
    exact ⟨_, List.mem_map.mpr ⟨w.1, mem_stands.mpr h1, rfl⟩, List.mem_map.mpr ⟨w.2, (mem_vlogs.mp h2).1, rfl⟩⟩
  have h2 := flatten_len 5 ((stands s d).map fun x => (logsBy s x.2.1).map fun l => ((x, l) : Sd × Int)) fun xs hxs => by
    obtain ⟨x, _, rfl⟩ := List.mem_map.mp hxs
    rw [List.length_map]
    exact logsBy_len ok _
  rw [List.length_map] at h2
  have := stands_len ok dk
  omega
def S__law_lost : FSpec := fun ds k Q => ∃ (s : Stv) (d : List Hr), s.Ok ∧ DyOk d ∧ ds = [stD s, dD d] ∧ ∀ R : List (Sd × Int), R.Perm (lostR s d) → Q (.dct (rkD R)) k
set_option maxHeartbeats 1000000 in
theorem w__law_lost (e1 : Γ i__law_stands = S__law_stands) (e2 : Γ i__law_logs = S__law_logs) (e3 : Γ i__law_behind = S__law_behind) : Wok Γ S__law_lost p__law_lost 16 2 := by
  rintro _ k Q ⟨s, d, ok, dk, rfl, h⟩
  refine ⟨rfl, ?_⟩
  unfold p__law_lost
  (((conv => whnf); try refine ite_back ?_); repeat (refine ⟨by first | rfl | exact ⟨rfl, rfl⟩ | exact ⟨fun z => DL.D.noConfusion z, fun z => DL.D.noConfusion z⟩, ?_⟩; ((conv => whnf); try refine ite_back ?_)))
  rw [e1]
  refine ⟨s, d, ok, dk, rfl, ?_⟩
  have hsl := stands_len ok dk
  ((conv => whnf); try refine ite_back ?_)
  refine wpL_of sD (fun done ρ => ∃ a2 a10 a12 a14 A c, (Fr a2 ∧ Fr a10 ∧ Fr a12 ∧ Fr a14) ∧ AOk A (evs s d done) ∧ (∀ y ∈ done, c y = ((vlogs s d y).length : Int)) ∧ ρ = ⟨[.dat (stD s), .dat (dD d), a2, .any, .any, .od (cD done c), .odl A, .od [], .od [], .dat (.int 1), a10, .any, a12, .any, a14, .any], k⟩) _ ⟨_, _, _, _, [], fun _ => 0, ⟨fr_any, fr_any, fr_any, fr_any⟩, aok_nil, (fun y hy => nomatch hy), rfl⟩ ?_ ?_
  · rintro done x rest hall ρ ⟨a2, a10, a12, a14, A, c, ⟨f2, f10, f12, f14⟩, hA, hc, rfl⟩ R hR
    have hxm : x ∈ stands s d := by rw [hall]; simp
    have hx : In s d x := mem_stands.mp hxm
    have hdn : done.length < 1200 := by
      have := congrArg List.length hall
      rw [List.length_append, List.length_cons] at this; omega
    have hxd : x ∉ done := by
      have := stands_nd s d
      rw [hall, List.nodup_append] at this
      exact fun m => this.2.2 x m x List.mem_cons_self rfl
    have hdin : ∀ y ∈ done, In s d y := fun y hy => mem_stands.mp (by rw [hall]; exact List.mem_append_left _ hy)
    have hE0 := evs_len ok dk hdin
    ((conv => whnf); try refine ite_back ?_)
    refine ⟨⟨cD_kOk _ _ _, by rw [cD_len, sizeLine_eq]; omega⟩, ?_⟩
    rw [cD_new hxd]
    ((conv => whnf); try refine ite_back ?_)
    rw [e2]
    refine ⟨s, x, ok, rfl, ?_⟩
    ((conv => whnf); try refine ite_back ?_)
    have hll := logsBy_len ok x.2.1
    refine wpL_of iD (fun dn ρ => ∃ a10 a12 a14 A c, (Fr a10 ∧ Fr a12 ∧ Fr a14) ∧ AOk A (evs s d done ++ evOf s d x dn) ∧ (∀ y ∈ done, c y = ((vlogs s d y).length : Int)) ∧ c x = ((dn.filter (fits s d x)).length : Int) ∧ ρ = ⟨[.dat (stD s), .dat (dD d), .dat (sD x), .any, .any, .od (cD (done ++ [x]) c), .odl A, .od [], .od [], .dat (.int 1), a10, .any, a12, .any, a14, .any], k⟩) _ ⟨_, _, _, A, fun y => if y = x then 0 else c y, ⟨f10, f12, f14⟩, by rw [show evOf s d x [] = [] from rfl, List.append_nil]; exact hA, fun y hy => (if_neg (fun z => hxd (by rw [← z]; exact hy))).trans (hc y hy), if_pos rfl, rfl⟩ ?_ ?_
    · rintro dn l rst hal ρ ⟨a10, a12, a14, A, c, ⟨f10, f12, f14⟩, hA, hc, hcx, rfl⟩ R2 hR2
      have hl : l ∈ logsBy s x.2.1 := by rw [hal]; simp
      obtain ⟨⟨g1, _⟩, g2⟩ := mem_logsBy.mp hl
      have hdl : dn.length < 5 := by
        have := congrArg List.length hal
        rw [List.length_append, List.length_cons] at this; omega
      have hE1 := evOf_len dk hx dn
      ((conv => whnf); try refine ite_back ?_)
      rw [e3]
      refine ⟨s, d, x, l, ok, dk, hx, ⟨g1, g2⟩, rfl, ?_⟩
      cases cf : fits s d x l with
      | false =>
        rw [if_neg (by decide)]
        ((conv => whnf); try refine ite_back ?_)
        refine hR2 _ ⟨_, _, a14, A, c, ⟨fr_dat, fr_dat, f14⟩, ?_, hc, ?_, rfl⟩
        · rw [evOf_snoc, cf, if_neg (by decide), List.append_nil]; exact hA
        · rw [List.filter_append, show [l].filter (fits s d x) = [] by simp [cf], List.append_nil]; exact hcx
      | true =>
        rw [if_pos rfl]
        have hxm2 : x ∈ done ++ [x] := by simp
        ((conv => whnf); try refine ite_back ?_)
        refine ⟨cD_kOk _ _ _, ?_⟩
        rw [cD_look hxm2]
        ((conv => whnf); try refine ite_back ?_)
        refine ⟨⟨cD_kOk _ _ _, by rw [cD_len, List.length_append, sizeLine_eq]; simp; omega⟩, ?_⟩
        rw [cD_put hxm2]
        ((conv => whnf); try refine ite_back ?_)
        have hrl : (evAt s d x l).length ≤ 13 := evAt_len dk hx l
        refine wpL_of sD (fun dy ρ => ∃ a14 A, Fr a14 ∧ AOk A ((evs s d done ++ evOf s d x dn) ++ dy.map fun y => (y, (x, l))) ∧ ρ = ⟨[.dat (stD s), .dat (dD d), .dat (sD x), .any, .any, .od (cD (done ++ [x]) (fun y => if y = x then c x + 1 else c y)), .odl A, .od [], .od [], .dat (.int 1), .dat (iD l), .any, .dat (.lst ((rowsUp s d x l).map sD)), .any, a14, .any], k⟩) _ ⟨_, A, f14, by rw [List.map_nil, List.append_nil]; exact hA, rfl⟩ ?_ ?_
        · rintro dy y rsy hay ρ ⟨a14, A, f14, hA, rfl⟩ R3 hR3
          have hdy : dy.length ≤ 13 := by
            have := congrArg List.length hay
            have e : (evAt s d x l).length = (rowsUp s d x l).length := by unfold evAt; rw [List.length_map]
            rw [List.length_append, List.length_cons] at this; omega
          have hEl : ((evs s d done ++ evOf s d x dn) ++ dy.map fun y => ((y, (x, l)) : Evt)).length ≤ 80000 := by
            rw [List.length_append, List.length_append, List.length_map]; omega
          have hl1 := hA.len
          have hl2 : (lookL A (sD y)).length ≤ 80000 := by rw [hA.look, List.length_map]; exact Nat.le_trans (waysTo_len _ _) hEl
          ((conv => whnf); try refine ite_back ?_)
          refine ⟨⟨rfl, ?_⟩, ?_⟩
          · rw [Bool.and_eq_true, Bool.and_eq_true, Bool.and_eq_true]
            refine ⟨⟨⟨?_, rfl⟩, decide_eq_true (by rw [sizeLine_eq]; omega)⟩, decide_eq_true (by rw [sizeLine_eq]; omega)⟩
            simp only [onlyOdl]
            (first | rfl | (simp only [ownOk, noOdl, Ev.get, Ev.set, getS, setS, List.all_cons, List.all_nil, odl_any, odl_dat, odl_ol, odl_od, own_any, own_dat, Fr.od, Fr.ow, Bool.not_false, Bool.and_true, Bool.true_and, *]; done))
          ((conv => whnf); try refine ite_back ?_)
          refine ⟨⟨rfl, ?_⟩, ?_⟩
          · simp only [onlyOdl]
            (first | rfl | (simp only [ownOk, noOdl, Ev.get, Ev.set, getS, setS, List.all_cons, List.all_nil, odl_any, odl_dat, odl_ol, odl_od, own_any, own_dat, Fr.od, Fr.ow, Bool.not_false, Bool.and_true, Bool.true_and, *]; done))
          refine hR3 _ ⟨_, _, fr_dat, ?_, rfl⟩
          rw [List.map_append, ← List.append_assoc]
          exact aok_snoc hA y (x, l)
        · rintro ρ ⟨a14, A, f14, hA, rfl⟩
          ((conv => whnf); try refine ite_back ?_)
          refine hR2 _ ⟨_, _, a14, A, _, ⟨fr_dat, fr_dat, f14⟩, ?_, fun y hy => ?_, ?_, rfl⟩
          · rw [evOf_snoc, cf, if_pos rfl, ← List.append_assoc]; exact hA
          · show (if y = x then c x + 1 else c y) = _
            rw [if_neg (fun z => hxd (by rw [← z]; exact hy))]; exact hc y hy
          · show (if x = x then c x + 1 else c x) = _
            rw [if_pos rfl, List.filter_append, show [l].filter (fits s d x) = [l] by simp [cf], List.length_append, hcx]; simp
    · rintro ρ ⟨a10, a12, a14, A, c, ⟨f10, f12, f14⟩, hA, hc, hcx, rfl⟩
      refine hR _ ⟨_, a10, a12, a14, A, c, ⟨fr_dat, f10, f12, f14⟩, by rw [evs_snoc]; exact hA, fun y hy => ?_, rfl⟩
      rcases List.mem_append.mp hy with hy | hy
      · exact hc y hy
      · rw [List.mem_singleton.mp hy]; exact hcx
  · rintro ρ ⟨a2, a10, a12, a14, A, c, ⟨f2, f10, f12, f14⟩, hA, hc, rfl⟩
    ((conv => whnf); try refine ite_back ?_)
    refine ⟨by simp only [onlyOdl]; (first | rfl | (simp only [ownOk, noOdl, Ev.get, Ev.set, getS, setS, List.all_cons, List.all_nil, odl_any, odl_dat, odl_ol, odl_od, own_any, own_dat, Fr.od, Fr.ow, Bool.not_false, Bool.and_true, Bool.true_and, *]; done)), ?_⟩
    ((conv => whnf); try refine ite_back ?_)
    rw [cD_keys]
    refine wpLc_filter sD (fun x => decide (c x = 0)) sD _ (by (first | rfl | (simp only [ownOk, noOdl, Ev.get, Ev.set, getS, setS, List.all_cons, List.all_nil, odl_any, odl_dat, odl_ol, odl_od, own_any, own_dat, Fr.od, Fr.ow, Bool.not_false, Bool.and_true, Bool.true_and, *]; done))) (fun x hx RT RF h1 h2 => ?_) ?_
    · ((conv => whnf); try refine ite_back ?_)
      refine ⟨cD_kOk _ _ _, ?_⟩
      rw [cD_look hx]
      ((conv => whnf); try refine ite_back ?_)
      cases cz : decide (c x = 0) with
      | true => ((conv => whnf); try refine ite_back ?_); exact h1 cz
      | false => ((conv => whnf); try refine ite_back ?_); exact h2 cz
    ((conv => whnf); try refine ite_back ?_)
    rw [cD_len]
    refine rng_ok (by omega) (by omega) (by omega) (by omega) ?_
    have L0 := lap_start ok dk (c := c) fun x hx => hc x (mem_stands.mpr hx)
    refine wpL_of iD (fun dl ρ => ∃ a2 a4 a11 a13 n R lost G c, (Fr a2 ∧ Fr a4 ∧ Fr a11 ∧ Fr a13) ∧ Lap s d n R lost G c ∧ dl.length ≤ R.length ∧ (lost = [] → dl = []) ∧ ρ = ⟨[.dat (stD s), .dat (dD d), a2, .dat (.lst (lost.map sD)), a4, .od (cD (stands s d) c), .dat (.dct (A.map fun p => (p.1, .lst p.2))), .od (gD G), .od (rkD R), .dat (.int (n + 1)), a10, a11, a12, a13, a14, .any], k⟩) _ ⟨_, _, _, _, 0, [], _, [], c, ⟨f2, fr_any, fr_any, fr_any⟩, L0, Nat.le_refl _, fun _ => rfl, rfl⟩ ?_ ?_
    · rintro dl lap rest hall ρ ⟨a2, a4, a11, a13, n, R, lost, G, c, ⟨f2, f4, f11, f13⟩, L, hdl, hle, rfl⟩ R1 hR1
      have hZ : ∀ {G' : List (Sd × Int)} {c' : Sd → Int} {Z : List Sd}, Cst s d G' c' Z → Z.length ≤ 1200 := fun C => Nat.le_trans (nd_len C.zn fun z hz => mem_stands.mpr ((C.zm z).mp hz).1) hsl
      ((conv => whnf); try refine ite_back ?_)
      refine wpL_of sD (fun dn ρ => ∃ a2 a13 G' c' lt, (Fr a2 ∧ Fr a13) ∧ Cst s d G' c' ((R.map (·.1) ++ lost) ++ lt) ∧ GM s d G' (R.map (·.1) ++ dn) ∧ (dn = [] → lt = []) ∧ ρ = ⟨[.dat (stD s), .dat (dD d), a2, .dat (.lst (lost.map sD)), .dat (iD lap), .od (cD (stands s d) c'), .dat (.dct (A.map fun p => (p.1, .lst p.2))), .od (gD G'), .od (rkD (R ++ dn.map fun x => (x, n + 1))), .dat (.int (n + 1)), a10, .ol (lt.map sD), a12, a13, a14, .any], k⟩) _ ⟨_, _, G, c, [], ⟨f2, f13⟩, by rw [List.append_nil]; exact L.cst, by rw [List.append_nil]; exact L.gm, fun _ => rfl, by rw [List.map_nil, List.append_nil]; rfl⟩ ?_ ?_
      · rintro dn x rst hal ρ ⟨a2, a13, G', c', lt, ⟨f2, f13⟩, C, gm, hlt, rfl⟩ R2 hR2
        have hz1 := hZ C
        have hxk : x ∉ (R ++ dn.map fun x => (x, n + 1)).map (·.1) := by
          have e : (R ++ dn.map fun x => (x, n + 1)).map (·.1) = R.map (·.1) ++ dn := by
            rw [List.map_append, List.map_map]; congr 1; exact List.map_id dn
          rw [e]
          have z := C.zn
          rw [hal, List.append_assoc, ← List.append_assoc, ← List.append_assoc, List.append_assoc, List.append_assoc] at z
          have z2 := List.nodup_append.mp (show ((R.map (·.1) ++ dn) ++ ((x :: rst) ++ lt)).Nodup by simpa [List.append_assoc] using z)
          exact fun m => z2.2.2 x m x (by simp) rfl
        have hRl : (rkD (R ++ dn.map fun x => (x, n + 1))).length ≤ 1200 := by
          have hd := congrArg List.length hal
          simp only [List.length_append, List.length_map, List.length_cons] at hz1 hd
          unfold rkD
          rw [List.length_map, List.length_append, List.length_map]
          omega
        ((conv => whnf); try refine ite_back ?_)
        refine ⟨⟨kOk_R _ _, by rw [sizeLine_eq]; omega⟩, ?_⟩
        rw [putR_new _ _ _ hxk]
        ((conv => whnf); try refine ite_back ?_)
        refine ⟨rfl, ?_⟩
        ((conv => whnf); try refine ite_back ?_)
        refine ⟨?_, ?_⟩
        · unfold kOk
          rw [List.all_map]
          simp only [Function.comp_def]
          rw [hA.tk]; rfl
        rw [lookD_kvL, hA.look]
        ((conv => whnf); try refine ite_back ?_)
        refine wpLc_filter rD (fun w => decide (w ∉ G')) rD _ (by (first | rfl | (simp only [ownOk, noOdl, Ev.get, Ev.set, getS, setS, List.all_cons, List.all_nil, odl_any, odl_dat, odl_ol, odl_od, own_any, own_dat, Fr.od, Fr.ow, Bool.not_false, Bool.and_true, Bool.true_and, *]; done))) (fun w hw RT RF h1 h2 => ?_) ?_
        · ((conv => whnf); try refine ite_back ?_)
          refine ⟨dcE_kOk enc_R _ _, ?_⟩
          rw [gD_in]
          by_cases cz : w ∈ G'
          · rw [decide_eq_true cz]
            ((conv => whnf); try refine ite_back ?_)
            exact h2 (by simp [cz])
          · rw [decide_eq_false cz]
            ((conv => whnf); try refine ite_back ?_)
            exact h1 (by simp [cz])
        ((conv => whnf); try refine ite_back ?_)
        have hwn := waysTo_nd (evs_nd s d (stands_nd s d)) x
        refine wpL_of rD (fun dw ρ => ∃ a13 c2 lt2, Fr a13 ∧ Cst s d (G' ++ dw) c2 ((R.map (·.1) ++ lost) ++ lt2) ∧ ρ = ⟨[.dat (stD s), .dat (dD d), .dat (sD x), .dat (.lst (lost.map sD)), .dat (iD lap), .od (cD (stands s d) c2), .dat (.dct (A.map fun p => (p.1, .lst p.2))), .od (gD (G' ++ dw)), .od (rkD ((R ++ dn.map fun x => (x, n + 1)) ++ [(x, n + 1)])), .dat (.int (n + 1)), a10, .ol (lt2.map sD), a12, a13, a14, .any], k⟩) ((waysTo (evs s d (stands s d)) x).filter fun w => decide (w ∉ G')) ⟨_, c', lt, f13, by rw [List.append_nil]; exact C, by rw [List.append_nil]; rfl⟩ ?_ ?_
        · rintro dw w rsw haw ρ ⟨a13, c2, lt2, f13, C2, rfl⟩ R3 hR3
          have hwm : w ∈ (waysTo (evs s d (stands s d)) x).filter fun w => decide (w ∉ G') := by rw [haw]; simp
          obtain ⟨hw1, hw2⟩ := List.mem_filter.mp hwm
          have hw3 : w ∉ G' := of_decide_eq_true hw2
          obtain ⟨⟨hw4, hw5⟩, hw6⟩ := mem_waysTo.mp hw1
          have hw7 : w ∉ G' ++ dw := fun m => by
            rcases List.mem_append.mp m with m | m
            · exact hw3 m
            · have nd := hwn.filter fun w => decide (w ∉ G')
              rw [haw] at nd
              have nd := List.nodup_append.mp nd
              exact nd.2.2 w m w List.mem_cons_self rfl
          have hGl := ways_len ok dk C2
          have hzl := hZ C2
          have cs := cst_step C2 ⟨mem_stands.mp hw4, hw5⟩ hw7
          ((conv => whnf); try refine ite_back ?_)
          refine ⟨⟨dcE_kOk enc_R _ _, by rw [gD_len, sizeLine_eq]; omega⟩, ?_⟩
          rw [gD_put hw7]
          ((conv => whnf); try refine ite_back ?_)
          refine ⟨cD_kOk _ _ _, ?_⟩
          rw [cD_look hw4]
          ((conv => whnf); try refine ite_back ?_)
          refine ⟨⟨cD_kOk _ _ _, by rw [cD_len, sizeLine_eq]; omega⟩, ?_⟩
          rw [cD_put hw4]
          ((conv => whnf); try refine ite_back ?_)
          refine ⟨cD_kOk _ _ _, ?_⟩
          rw [cD_look hw4, show (if w.1 = w.1 then c2 w.1 - 1 else c2 w.1) = c2 w.1 - 1 from if_pos rfl]
          ((conv => whnf); try refine ite_back ?_)
          by_cases cz : c2 w.1 - 1 = 0
          · rw [decide_eq_true cz]
            ((conv => whnf); try refine ite_back ?_)
            rw [if_pos cz] at cs
            refine ⟨by rw [List.length_map, sizeLine_eq]; simp only [List.length_append] at hzl; omega, ?_⟩
            ((conv => whnf); try refine ite_back ?_)
            refine hR3 _ ⟨.dat (rD w), _, lt2 ++ [w.1], fr_dat, by rw [← List.append_assoc, ← List.append_assoc (bs := lt2)]; exact cs, ?_⟩
            rw [List.map_append, List.append_assoc G' dw [w]]
            rfl
          · rw [decide_eq_false cz]
            ((conv => whnf); try refine ite_back ?_)
            rw [if_neg cz] at cs
            refine hR3 _ ⟨.dat (rD w), _, lt2, fr_dat, by rw [← List.append_assoc]; exact cs, ?_⟩
            rw [List.append_assoc G' dw [w]]
            rfl
        · rintro ρ ⟨a13, c2, lt2, f13, C2, rfl⟩
          ((conv => whnf); try refine ite_back ?_)
          refine hR2 _ ⟨.dat (sD x), a13, _, c2, lt2, ⟨fr_dat, f13⟩, C2, ?_, fun z => by simp at z, ?_⟩
          · rw [← List.append_assoc]; exact gm_next gm x
          · rw [List.map_append, ← List.append_assoc]; rfl
      · rintro ρ ⟨a2, a13, G', c', lt, ⟨f2, f13⟩, C, gm, hlt, rfl⟩
        have ek : (R ++ lost.map fun x => (x, n + 1)).map (·.1) = R.map (·.1) ++ lost := by
          rw [List.map_append, List.map_map]; congr 1; exact List.map_id lost
        have hl0 : lost = [] → lt = [] := hlt
        have hzl := hZ C
        have hflat : ∀ L : List Sd, okData (.lst (L.map sD)) = true := fun L => okData_flat (n := 2) (by show flats 1 (L.map sD) = true; exact flats_map flat_sD L) (by omega)
        ((conv => whnf); try refine ite_back ?_)
        refine ⟨⟨hflat lt, hflat []⟩, ?_⟩
        rw [eqD_nil]
        by_cases cz : lt = []
        · subst cz
          rw [decide_eq_true rfl]
          ((conv => whnf); try refine ite_back ?_)
          refine h _ ?_
          by_cases cl : lost = []
          · subst cl
            rw [List.map_nil, List.append_nil]
            exact lap_done ok dk L
          · exact lap_done ok dk (lap_next ok dk L cl C gm)
        · rw [decide_eq_false cz]
          ((conv => whnf); try refine ite_back ?_)
          have cl : lost ≠ [] := fun z => cz (hl0 z)
          refine ⟨by (first | rfl | (simp only [ownOk, noOdl, Ev.get, Ev.set, getS, setS, List.all_cons, List.all_nil, odl_any, odl_dat, odl_ol, odl_od, own_any, own_dat, Fr.od, Fr.ow, Bool.not_false, Bool.and_true, Bool.true_and, *]; done)), ?_⟩
          ((conv => whnf); try refine ite_back ?_)
          have hll : 0 < lost.length := List.length_pos_iff.mpr cl
          refine hR1 _ ⟨_, _, _, _, n + 1, _, lt, G', c', ⟨f2, fr_dat, fr_dat, f13⟩, lap_next ok dk L cl C gm, ?_, fun z => (cz z).elim, rfl⟩
          rw [List.length_append, List.length_append, List.length_map, List.length_singleton]; omega
    · rintro ρ ⟨a2, a4, a11, a13, n, R, lost, G, c, ⟨f2, f4, f11, f13⟩, L, hdl, hle, rfl⟩
      ((conv => whnf); try refine ite_back ?_)
      have hz : lost = [] := by
        refine Classical.byContradiction fun cl => ?_
        have hll : 0 < lost.length := List.length_pos_iff.mpr cl
        have h1 := nd_len (M := stands s d) L.cst.zn fun z hz => mem_stands.mpr ((L.cst.zm z).mp hz).1
        rw [List.length_append, List.length_map] at h1
        rw [rngI_len] at hdl
        omega
      subst hz
      exact h _ (lap_done ok dk L)
end Lw
namespace Lw
open PySem PySem.Spec PyProof.Rows L2 DL
/-! plain: what is kept -/
theorem ltS_asymm {x y : Sd} (h : ltS x y) (h2 : ltS y x) : False := by
  unfold ltS at *
  omega
theorem sorted_eq : ∀ {L M : List Sd}, L.Pairwise ltS → M.Pairwise ltS → (∀ x, x ∈ L ↔ x ∈ M) → L = M
  | [], [], _, _, _ => rfl
  | [], y :: M, _, _, h => nomatch (h y).mpr List.mem_cons_self
  | x :: L, [], _, _, h => nomatch (h x).mp List.mem_cons_self
  | x :: L, y :: M, h1, h2, h => by
    rw [List.pairwise_cons] at h1 h2
    have e : x = y := by
      rcases List.mem_cons.mp ((h x).mp List.mem_cons_self) with e | m
      · exact e
      · rcases List.mem_cons.mp ((h y).mpr List.mem_cons_self) with e | m2
        · exact e.symm
        · exact (ltS_asymm (h2.1 x m) (h1.1 y m2)).elim
    subst e
    congr 1
    refine sorted_eq h1.2 h2.2 fun z => ?_
    constructor
    · intro hz
      rcases List.mem_cons.mp ((h z).mp (List.mem_cons_of_mem _ hz)) with e | m
      · subst e; exact (ltS_asymm (h1.1 z hz) (h1.1 z hz)).elim
      · exact m
    · intro hz
      rcases List.mem_cons.mp ((h z).mpr (List.mem_cons_of_mem _ hz)) with e | m
      · subst e; exact (ltS_asymm (h2.1 z hz) (h2.1 z hz)).elim
      · exact m
section
variable {s : Stv} {d : List Hr}
theorem kept_iff (ok : s.Ok) (dk : DyOk d) {R : List (Sd × Int)} (P : R.Perm (lostR s d)) (x : Sd) : x ∈ kept s d ↔ In s d x ∧ x ∉ R.map (·.1) := by
  have F := fin ok dk
  rw [(P.map (·.1)).mem_iff, F.all]
  constructor
  · intro h; exact ⟨.inl h, F.at_.off x h⟩
  · rintro ⟨h | h, h2⟩
    · exact h
    · exact (h2 h).elim
theorem kept_filter (ok : s.Ok) (dk : DyOk d) {R : List (Sd × Int)} (P : R.Perm (lostR s d)) : ((stands s d).filter fun x => decide (x ∉ R.map (·.1))) = kept s d := by
  refine sorted_eq ((stands_lt s d).filter _) (fin ok dk).lt fun x => ?_
  rw [List.mem_filter, mem_stands, kept_iff ok dk P]
  simp
theorem kept_len (ok : s.Ok) (dk : DyOk d) : (kept s d).length ≤ 1200 := by have := (fin ok dk).at_.len; omega
theorem lostR_len (ok : s.Ok) (dk : DyOk d) : (lostR s d).length ≤ 1200 := by have := (fin ok dk).at_.len; omega
/-- closed rows of stands are kept -/
def Clo (s : Stv) (d : List Hr) (C : Sd → Prop) : Prop := ∀ x, C x → In s d x ∧ ∃ l ∈ logsBy s x.2.1, ∀ y ∈ rows s d x l, C y
theorem clo_rounds {C : Sd → Prop} (h : Clo s d C) : ∀ (f : Nat) (L : List Sd) (n : Int) (R : List (Sd × Int)), (∀ x, C x → x ∈ L) → ∀ x, C x → x ∈ (rounds s d f L n R).2
  | 0, L, n, R, hL, x, hx => hL x hx
  | f + 1, L, n, R, hL, x, hx => by
    rw [rounds]
    split
    · exact hL x hx
    · refine clo_rounds h f _ _ _ (fun z hz => ?_) x hx
      rw [keepOf_eq, List.mem_filter]
      refine ⟨hL z hz, ?_⟩
      obtain ⟨_, l, hl, hr⟩ := h z hz
      cases c : logsIn s d z L with
      | some _ => rfl
      | none =>
        unfold logsIn at c
        rw [List.find?_eq_none] at c
        exact (c l hl (by unfold leads; rw [List.all_eq_true]; exact fun y hy => decide_eq_true (hL y (hr y hy)))).elim
theorem clo_kept {C : Sd → Prop} (h : Clo s d C) {x : Sd} (hx : C x) : x ∈ kept s d := clo_rounds h _ _ _ _ (fun z hz => mem_stands.mpr (h z hz).1) x hx
theorem kept_logs (ok : s.Ok) (dk : DyOk d) {x : Sd} (hx : x ∈ kept s d) : ∃ l, logsIn s d x (kept s d) = some l := by
  have h := fin_fix ok dk
  cases c : logsIn s d x (kept s d) with
  | some l => exact ⟨l, rfl⟩
  | none =>
    have : x ∈ lostOf s d (kept s d) := List.mem_filter.mpr ⟨hx, by rw [c]; rfl⟩
    rw [h] at this; cases this
theorem logsIn_some {x : Sd} {L : List Sd} {l : Int} (h : logsIn s d x L = some l) : l ∈ logsBy s x.2.1 ∧ leads s d x l L = true := by
  have h2 : (logsBy s x.2.1).find? (fun l => leads s d x l L) = some l := h
  exact ⟨List.mem_of_find?_eq_some h2, List.find?_some (p := fun l => leads s d x l L) h2⟩
theorem kept_clo (ok : s.Ok) (dk : DyOk d) : Clo s d fun x => x ∈ kept s d := fun x hx => by
  refine ⟨(fin ok dk).at_.sub x hx, ?_⟩
  obtain ⟨l, hl⟩ := kept_logs ok dk hx
  obtain ⟨h1, h2⟩ := logsIn_some hl
  refine ⟨l, h1, fun y hy => ?_⟩
  unfold leads at h2
  exact of_decide_eq_true (List.all_eq_true.mp h2 y hy)
/-- the law's fine logs are those that lead to what is kept -/
theorem fine_eq (ok : s.Ok) (dk : DyOk d) {R : List (Sd × Int)} (P : R.Perm (lostR s d)) {x : Sd} (hx : In s d x) : fineOf s d (R.map (·.1)) x = (logsBy s x.2.1).filter fun l => leads s d x l (kept s d) := by
  unfold fineOf
  refine List.filter_congr fun l hl => ?_
  rw [Bool.eq_iff_iff, leads_iff ok dk hx hl (kept_iff ok dk P)]
  unfold fineB
  rw [Bool.and_eq_true, Bool.not_eq_true', List.any_eq_false]
  simp
theorem fine_head (ok : s.Ok) (dk : DyOk d) {R : List (Sd × Int)} (P : R.Perm (lostR s d)) {x : Sd} (hx : x ∈ kept s d) : ∃ l r, fineOf s d (R.map (·.1)) x = l :: r ∧ logsIn s d x (kept s d) = some l := by
  obtain ⟨l, hl⟩ := kept_logs ok dk hx
  have h := fine_eq ok dk P ((fin ok dk).at_.sub x hx)
  have h2 : ((logsBy s x.2.1).filter fun l => leads s d x l (kept s d)).head? = some l := by
    rw [List.head?_filter]; exact hl
  rw [← h] at h2
  cases c : fineOf s d (R.map (·.1)) x with
  | nil => rw [c] at h2; cases h2
  | cons a r =>
    rw [c] at h2
    have e : a = l := Option.some.inj h2
    subst e
    exact ⟨a, r, rfl, hl⟩
/-- a book of logs that lead -/
theorem book_of (ok : s.Ok) (dk : DyOk d) (g : Sd → Int) (hg : ∀ x ∈ kept s d, g x ∈ logsBy s x.2.1 ∧ leads s d x (g x) (kept s d) = true) : Book s d ((kept s d).map fun x => (x, g x)) := by
  have F := fin ok dk
  have e : ((kept s d).map fun x => (x, g x)).map (·.1) = kept s d := by rw [List.map_map]; exact List.map_id _
  refine ⟨⟨fun p hp => ?_, by rw [e]; exact F.lt, by rw [List.length_map]; exact kept_len ok dk⟩, fun p hp => ?_⟩
  · obtain ⟨x, hx, rfl⟩ := List.mem_map.mp hp
    exact F.at_.sub x hx
  · obtain ⟨x, hx, rfl⟩ := List.mem_map.mp hp
    rw [e]
    exact hg x hx
/-- what the rounds tell of each that is lost -/
def RInv (s : Stv) (d : List Hr) (n : Int) (R : List (Sd × Int)) : Prop := ∀ p ∈ R, (1 ≤ p.2 ∧ p.2 ≤ n) ∧ ∀ l ∈ logsBy s p.1.2.1, ∃ y ∈ rows s d p.1 l, ¬ In s d y ∨ ∃ m, m < p.2 ∧ (y, m) ∈ R
theorem rinv_step {n : Int} {R : List (Sd × Int)} {L : List Sd} (hn : 0 ≤ n) (F : Fin s d R L) (h : RInv s d n R) : RInv s d (n + 1) (R ++ (lostOf s d L).map fun x => (x, n + 1)) := fun p hp => by
  rcases List.mem_append.mp hp with hp | hp
  · obtain ⟨h1, h2⟩ := h p hp
    refine ⟨by omega, fun l hl => ?_⟩
    obtain ⟨y, hy, h3⟩ := h2 l hl
    exact ⟨y, hy, h3.imp id fun ⟨m, a, b⟩ => ⟨m, a, List.mem_append_left _ b⟩⟩
  · obtain ⟨x, hx, rfl⟩ := List.mem_map.mp hp
    refine ⟨⟨by show 1 ≤ n + 1; omega, Int.le_refl _⟩, fun l hl => ?_⟩
    obtain ⟨hxL, hnone⟩ := List.mem_filter.mp hx
    have h4 : logsIn s d x L = none := by simpa using hnone
    unfold logsIn at h4
    rw [List.find?_eq_none] at h4
    have h5 := h4 l hl
    have h6 : ¬ ∀ y ∈ rows s d x l, y ∈ L := fun c => h5 (by unfold leads; rw [List.all_eq_true]; exact fun y hy => decide_eq_true (c y hy))
    refine Classical.byContradiction fun c => h6 fun y hy => ?_
    refine Classical.byContradiction fun hyL => c ⟨y, hy, ?_⟩
    by_cases hin : In s d y
    · right
      rcases (F.all y).mp hin with q | q
      · exact (hyL q).elim
      · obtain ⟨q, hq, e⟩ := List.mem_map.mp q
        obtain ⟨⟨_, h7⟩, _⟩ := h q hq
        refine ⟨q.2, by show q.2 < n + 1; omega, List.mem_append_left _ ?_⟩
        rw [← e]; exact hq
    · exact .inl hin
theorem rinv_rounds : ∀ (f : Nat) (L : List Sd) (n : Int) (R : List (Sd × Int)), 0 ≤ n → n ≤ R.length → Fin s d R L → RInv s d n R → ∃ m : Int, m ≤ ((rounds s d f L n R).1.length : Int) ∧ RInv s d m (rounds s d f L n R).1
  | 0, _, n, _, _, hl, _, h => ⟨n, hl, h⟩
  | f + 1, L, n, R, hn, hl, F, h => by
    rw [rounds]
    split
    · exact ⟨n, hl, h⟩
    · rename_i c
      refine rinv_rounds f _ _ _ (by omega) ?_ (fin_step F) (rinv_step hn F h)
      have : 0 < (lostOf s d L).length := List.length_pos_iff.mpr c
      rw [List.length_append, List.length_map]; omega
theorem rinv (ok : s.Ok) (dk : DyOk d) : ∃ m : Int, m ≤ ((lostR s d).length : Int) ∧ RInv s d m (lostR s d) := rinv_rounds _ _ _ _ (Int.le_refl _) (Int.le_refl _) (fin_start ok dk) fun p hp => (nomatch hp)
end
end Lw
namespace Lw
open PySem PySem.Spec PyProof.Rows L2 DL
def ltR (p q : Sd × Int) : Prop := ltS p.1 q.1 ∨ (p.1 = q.1 ∧ p.2 < q.2)
instance (x y : Sd × Int) : Decidable (ltR x y) := by unfold ltR; infer_instance
theorem lt_rD (p q : Sd × Int) : ltD (rD p) (rD q) = decide (ltR p q) := by
  obtain ⟨⟨a, b, c⟩, n⟩ := p
  obtain ⟨⟨a', b', c'⟩, n'⟩ := q
  have e : ∀ (p q : Int) (l m : List (Int ⊕ List Nat)), PyProof.Rows.lexLt itemOrd (.inl p :: l) (.inl q :: m) = if p = q then PyProof.Rows.lexLt itemOrd l m else decide (p < q) := fun p q l m => by
    by_cases h : p = q
    · subst h; rw [if_pos rfl]; exact lex_self (O := itemOrd) _ _ _
    · rw [if_neg h]; exact lex_diff (O := itemOrd) fun z => h (Sum.inl.inj z)
  show PyProof.Rows.lexLt itemOrd [Sum.inl 1, Sum.inl 1, Sum.inl a, Sum.inl 1, Sum.inl b, Sum.inl 1, Sum.inl c, Sum.inl 0, Sum.inl 1, Sum.inl n, Sum.inl 0] [Sum.inl 1, Sum.inl 1, Sum.inl a', Sum.inl 1, Sum.inl b', Sum.inl 1, Sum.inl c', Sum.inl 0, Sum.inl 1, Sum.inl n', Sum.inl 0] = _
  simp only [e, if_true]
  unfold ltR ltS
  by_cases h1 : a = a'
  · subst h1
    by_cases h2 : b = b'
    · subst h2
      by_cases h3 : c = c'
      · subst h3
        by_cases h4 : n = n'
        · subst h4; simp; rfl
        · simp [h4]
      · simp [h3]
    · simp [h2]
  · simp [h1]
theorem le_rD (x y : Sd × Int) : leD (rD x) (rD y) = !decide (ltR y x) := by
  rw [← lt_rD]
  rfl
theorem ltS_tri (x y : Sd) : ltS x y ∨ x = y ∨ ltS y x := by
  obtain ⟨a, b, c⟩ := x
  obtain ⟨a', b', c'⟩ := y
  rcases Int.lt_trichotomy a a' with t | t | t
  · exact .inl (.inl t)
  · subst t
    rcases Int.lt_trichotomy b b' with t | t | t
    · exact .inl (.inr ⟨rfl, .inl t⟩)
    · subst t
      rcases Int.lt_trichotomy c c' with t | t | t
      · exact .inl (.inr ⟨rfl, .inr ⟨rfl, t⟩⟩)
      · subst t; exact .inr (.inl rfl)
      · exact .inr (.inr (.inr ⟨rfl, .inr ⟨rfl, t⟩⟩))
    · exact .inr (.inr (.inr ⟨rfl, .inl t⟩))
  · exact .inr (.inr (.inl t))
theorem ltS_trans {x y z : Sd} (h : ltS x y) (h2 : ltS y z) : ltS x z := by
  unfold ltS at *
  omega
theorem leR_trans (a b c : Sd × Int) (h1 : leD (rD a) (rD b) = true) (h2 : leD (rD b) (rD c) = true) : leD (rD a) (rD c) = true := by
  rw [le_rD, Bool.not_eq_true', decide_eq_false_iff_not] at *
  intro h
  unfold ltR at *
  rcases ltS_tri a.1 b.1 with t | t | t
  · rcases ltS_tri b.1 c.1 with u | u | u
    · rcases h with h | ⟨h, _⟩
      · exact ltS_asymm (ltS_trans t u) h
      · rw [h] at u; exact ltS_asymm t u
    · rcases h with h | ⟨h, _⟩
      · rw [u] at t; exact ltS_asymm t h
      · rw [u, h] at t; exact ltS_asymm t t
    · exact h2 (.inl u)
  · rcases ltS_tri b.1 c.1 with u | u | u
    · rcases h with h | ⟨h, _⟩
      · rw [t] at h; exact ltS_asymm u h
      · rw [h, t] at u; exact ltS_asymm u u
    · rcases h with h | ⟨h, h3⟩
      · rw [t, u] at h; exact ltS_asymm h h
      · have h4 : ¬ b.2 < a.2 := fun z => h1 (.inr ⟨t.symm, z⟩)
        have h5 : ¬ c.2 < b.2 := fun z => h2 (.inr ⟨u.symm, z⟩)
        omega
    · exact h2 (.inl u)
  · exact h1 (.inl t)
theorem leR_total (a b : Sd × Int) : (leD (rD a) (rD b) || leD (rD b) (rD a)) = true := by
  rw [le_rD, le_rD, Bool.or_eq_true, Bool.not_eq_true', Bool.not_eq_true', decide_eq_false_iff_not, decide_eq_false_iff_not]
  refine Classical.byContradiction fun c => ?_
  rw [not_or, Classical.not_not, Classical.not_not] at c
  obtain ⟨h1, h2⟩ := c
  unfold ltR at *
  rcases h1 with h1 | ⟨h1, h1'⟩
  · rcases h2 with h2 | ⟨h2, h2'⟩
    · exact ltS_asymm h1 h2
    · rw [h2] at h1; exact ltS_asymm h1 h1
  · rcases h2 with h2 | ⟨h2, h2'⟩
    · rw [h1] at h2; exact ltS_asymm h2 h2
    · omega
def sortR (R : List (Sd × Int)) : List (Sd × Int) := R.mergeSort fun p q => leD (rD p) (rD q)
theorem sortR_perm (R : List (Sd × Int)) : (sortR R).Perm R := List.mergeSort_perm _ _
theorem sortR_lt {R : List (Sd × Int)} (hn : (R.map (·.1)).Nodup) : ((sortR R).map (·.1)).Pairwise ltS := by
  have h1 : (sortR R).Pairwise fun p q => leD (rD p) (rD q) = true := List.pairwise_mergeSort leR_trans leR_total R
  have h2 : ((sortR R).map (·.1)).Nodup := ((sortR_perm R).map _).nodup_iff.mpr hn
  rw [List.pairwise_map]
  have h3 : (sortR R).Pairwise fun p q => p.1 ≠ q.1 := List.pairwise_map.mp h2
  refine List.Pairwise.imp₂ ?_ h1 h3
  intro p q a b
  rw [le_rD, Bool.not_eq_true', decide_eq_false_iff_not] at a
  rcases ltS_tri p.1 q.1 with t | t | t
  · exact t
  · exact (b t).elim
  · exact (a (.inl t)).elim
theorem nd_perm {R R' : List (Sd × Int)} (P : R.Perm R') (h : (R'.map (·.1)).Nodup) : (R.map (·.1)).Nodup := (P.map _).nodup_iff.mpr h
theorem keyed_eq : ∀ {L M : List (Sd × Int)}, (L.map (·.1)).Pairwise ltS → (M.map (·.1)).Pairwise ltS → (∀ x, x ∈ L ↔ x ∈ M) → L = M
  | [], [], _, _, _ => rfl
  | [], y :: M, _, _, h => nomatch (h y).mpr List.mem_cons_self
  | x :: L, [], _, _, h => nomatch (h x).mp List.mem_cons_self
  | x :: L, y :: M, h1, h2, h => by
    rw [List.map_cons, List.pairwise_cons] at h1 h2
    have a1 : ∀ z ∈ L, ltS x.1 z.1 := fun z hz => h1.1 z.1 (List.mem_map.mpr ⟨z, hz, rfl⟩)
    have a2 : ∀ z ∈ M, ltS y.1 z.1 := fun z hz => h2.1 z.1 (List.mem_map.mpr ⟨z, hz, rfl⟩)
    have e : x = y := by
      rcases List.mem_cons.mp ((h x).mp List.mem_cons_self) with e | m
      · exact e
      · rcases List.mem_cons.mp ((h y).mpr List.mem_cons_self) with e | m2
        · exact e.symm
        · exact (ltS_asymm (a2 x m) (a1 y m2)).elim
    subst e
    congr 1
    refine keyed_eq h1.2 h2.2 fun z => ?_
    constructor
    · intro hz
      rcases List.mem_cons.mp ((h z).mp (List.mem_cons_of_mem _ hz)) with e | m
      · subst e; exact (ltS_asymm (a1 z hz) (a1 z hz)).elim
      · exact m
    · intro hz
      rcases List.mem_cons.mp ((h z).mpr (List.mem_cons_of_mem _ hz)) with e | m
      · subst e; exact (ltS_asymm (a2 z hz) (a2 z hz)).elim
      · exact m
section
variable {s : Stv} {d : List Hr}
theorem sortR_eq (ok : s.Ok) (dk : DyOk d) {R : List (Sd × Int)} (P : R.Perm (lostR s d)) : sortR R = lostS s d := by
  have hn := (fin ok dk).rnd
  refine keyed_eq (sortR_lt (nd_perm P hn)) (sortR_lt hn) fun x => ?_
  rw [(sortR_perm R).mem_iff, P.mem_iff]
  exact (sortR_perm (lostR s d)).mem_iff.symm
theorem mem_lostS {p : Sd × Int} : p ∈ lostS s d ↔ p ∈ lostR s d := (sortR_perm (lostR s d)).mem_iff
/-- ranks, with so much added to all numbers -/
theorem ranks_of (ok : s.Ok) (dk : DyOk d) {j : Int} (hj : 0 ≤ j) : Ranks s d ((lostS s d).map fun p => (p.1, p.2 + j)) := by
  obtain ⟨m, _, h⟩ := rinv ok dk
  have F := fin ok dk
  have e : ((lostS s d).map fun p => (p.1, p.2 + j)).map (·.1) = (lostS s d).map (·.1) := by rw [List.map_map]; rfl
  have hlt : ((lostS s d).map (·.1)).Pairwise ltS := sortR_lt F.rnd
  have hnd : (((lostS s d).map fun p => (p.1, p.2 + j)).map (·.1)).Nodup := by rw [e]; exact nd_of_lt hlt
  refine ⟨⟨fun p hp => ?_, by rw [e]; exact hlt, ?_⟩, fun p hp => ?_, fun p hp l hl => ?_⟩
  · obtain ⟨q, hq, rfl⟩ := List.mem_map.mp hp
    exact (F.all q.1).mpr (.inr (List.mem_map.mpr ⟨q, mem_lostS.mp hq, rfl⟩))
  · rw [List.length_map, show (lostS s d).length = (lostR s d).length from (sortR_perm _).length_eq]
    exact lostR_len ok dk
  · obtain ⟨q, hq, rfl⟩ := List.mem_map.mp hp
    have := (h q (mem_lostS.mp hq)).1.1
    show 1 ≤ q.2 + j
    omega
  · obtain ⟨q, hq, rfl⟩ := List.mem_map.mp hp
    obtain ⟨y, hy, h3⟩ := (h q (mem_lostS.mp hq)).2 l hl
    refine ⟨y, hy, ?_⟩
    unfold worse
    rcases h3 with h3 | ⟨k, hk, hmem⟩
    · have : inDay s d y = false := by
        cases c : inDay s d y with
        | false => rfl
        | true => exact (h3 (inDay_iff.mp c)).elim
      rw [this]; rfl
    · have h4 : (y, k + j) ∈ (lostS s d).map fun p => (p.1, p.2 + j) := List.mem_map.mpr ⟨(y, k), mem_lostS.mpr hmem, rfl⟩
      have h5 := find_R hnd h4
      rw [h5]
      have h6 : decide (k + j < q.2 + j) = true := decide_eq_true (by omega)
      show (!inDay s d y || decide (k + j < q.2 + j)) = true
      rw [h6, Bool.or_true]
theorem lostS_map0 : (lostS s d).map (fun p => (p.1, p.2 + 0)) = lostS s d := by
  conv => rhs; rw [← List.map_id (lostS s d)]
  refine List.map_congr_left fun p _ => ?_
  rw [Int.add_zero]; rfl
/-! what is kept grows with the most logs, shrinks with the cold -/
theorem in_most {m : Int} {x : Sd} : In (withMost s m) d x ↔ In s d x := ⟨fun h => ⟨h.a0, h.a1, h.t0, h.t1, h.r0, h.r1⟩, fun h => ⟨h.a0, h.a1, h.t0, h.t1, h.r0, h.r1⟩⟩
theorem in_heat {m : Int} {x : Sd} : In (withHeat s m) d x ↔ In s d x := ⟨fun h => ⟨h.a0, h.a1, h.t0, h.t1, h.r0, h.r1⟩, fun h => ⟨h.a0, h.a1, h.t0, h.t1, h.r0, h.r1⟩⟩
theorem kept_most (ok : s.Ok) (dk : DyOk d) {m m' : Int} (h0 : 0 ≤ m) (h1 : m ≤ m') (h4 : m' ≤ 4) {x : Sd} (h : x ∈ kept (withMost s m) d) : x ∈ kept (withMost s m') d := by
  refine clo_kept (C := fun x => x ∈ kept (withMost s m) d) (fun y hy => ?_) h
  obtain ⟨a, l, hl, hr⟩ := kept_clo (ok_most ok h0 (by omega)) dk y hy
  refine ⟨in_most.mpr (in_most.mp a), l, ?_, hr⟩
  rw [mem_logsBy] at hl ⊢
  obtain ⟨⟨g1, g2⟩, g3⟩ := hl
  have g2' : l ≤ m := g2
  exact ⟨⟨g1, by show l ≤ m'; omega⟩, g3⟩
theorem colder_len (m : Int) : (colder d m).length = d.length := by unfold colder; rw [List.length_map]
theorem colder_at {m i : Int} (h0 : 0 ≤ i) (h : i < d.length) : hrAt (colder d m) i = colderH m (hrAt d i) := by
  unfold hrAt colder
  rw [getD_lt _ _ (by rw [List.length_map]; omega), getD_lt _ _ (by omega), List.getElem_map]
theorem in_colder {m : Int} {x : Sd} : In s (colder d m) x ↔ In s d x := by
  constructor
  · intro h
    have h1 := h.a1
    rw [colder_len] at h1
    have e := colder_at (m := m) h.a0 h1
    have r0 := h.r0; have r1 := h.r1
    rw [e] at r0 r1
    exact ⟨h.a0, h1, h.t0, h.t1, r0, r1⟩
  · intro h
    have e := colder_at (m := m) h.a0 h.a1
    exact ⟨h.a0, by rw [colder_len]; exact h.a1, h.t0, h.t1, by rw [e]; exact h.r0, by rw [e]; exact h.r1⟩
theorem kept_colder (ok : s.Ok) (dk : DyOk d) {m m' : Int} (h0 : 0 ≤ m) (h1 : m ≤ m') {x : Sd} (h : x ∈ kept s (colder d m')) : x ∈ kept s (colder d m) := by
  refine clo_kept (C := fun x => x ∈ kept s (colder d m')) (fun y hy => ?_) h
  obtain ⟨a, l, hl, hr⟩ := kept_clo ok (colder_ok dk (by omega)) y hy
  have a' := in_colder.mp a
  refine ⟨in_colder.mpr a', l, hl, fun z hz => hr z ?_⟩
  rw [mem_rows, mem_rowsUp] at hz ⊢
  obtain ⟨w, ⟨w1, w2⟩, rfl⟩ := hz
  rw [colder_at a'.a0 a'.a1] at w1 w2
  refine ⟨w, ?_, ?_⟩
  · rw [colder_at a'.a0 a'.a1]
    refine ⟨w1, ?_⟩
    have w3 : w ≤ if (hrAt d y.1).2.2 + m < 8 then (hrAt d y.1).2.2 + m else 8 := w2
    show w ≤ if (hrAt d y.1).2.2 + m' < 8 then (hrAt d y.1).2.2 + m' else 8
    split at w3 <;> split <;> omega
  · unfold behind
    rw [colder_len, colder_len]
theorem colder_zero (dk : DyOk d) : colder d 0 = d := by
  unfold colder
  conv => rhs; rw [← List.map_id d]
  refine List.map_congr_left fun h hh => ?_
  have := (dk.ok h hh).f
  unfold colderH
  rw [Int.add_zero]
  have e : (if h.2.2 < 8 then h.2.2 else 8) = h.2.2 := by split <;> omega
  rw [e]; rfl
end
end Lw
namespace Lw
open PySem PySem.Spec PyProof.Rows L2 DL
variable {Γ : Nat → FSpec}
theorem eqD_bl (a b : Bool) : eqD (.bl a) (.bl b) = decide (a = b) := by cases a <;> cases b <;> rfl
theorem eqD_self_str (x : Str) : eqD (.str x) (.str x) = true := by
  unfold eqD
  simp only [D.py, PyData.eqv]
  simp
theorem fold_last (P : Int → Prop) [DecidablePred P] : ∀ (ms : List Int) (f0 : Option Int), ms.Pairwise (· < ·) →
    ((∀ m ∈ ms, ¬ P m) ∧ ms.foldl (fun f m => if P m then some m else f) f0 = f0) ∨ ∃ m ∈ ms, ms.foldl (fun f m => if P m then some m else f) f0 = some m ∧ P m ∧ ∀ m' ∈ ms, m < m' → ¬ P m'
  | [], f0, _ => .inl ⟨(fun _ h => nomatch h), rfl⟩
  | a :: ms, f0, h => by
    rw [List.pairwise_cons] at h
    rw [List.foldl_cons]
    rcases fold_last P ms (if P a then some a else f0) h.2 with ⟨h1, h2⟩ | ⟨m, hm, h2, h3, h4⟩
    · by_cases c : P a
      · rw [if_pos c] at h2 ⊢
        refine .inr ⟨a, List.mem_cons_self, h2, c, fun m' hm' hl => ?_⟩
        rcases List.mem_cons.mp hm' with e | hm'
        · subst e; exact absurd hl (Int.lt_irrefl _)
        · exact h1 m' hm'
      · rw [if_neg c] at h2 ⊢
        refine .inl ⟨fun m hm => ?_, h2⟩
        rcases List.mem_cons.mp hm with e | hm
        · subst e; exact c
        · exact h1 m hm
    · refine .inr ⟨m, List.mem_cons_of_mem _ hm, h2, h3, fun m' hm' hl => ?_⟩
      rcases List.mem_cons.mp hm' with e | hm'
      · subst e; exact absurd (Int.lt_trans (h.1 m hm) hl) (Int.lt_irrefl _)
      · exact h4 m' hm' hl
theorem coldest_spec (s : Stv) (d : List Hr) (x : Sd) : (coldest s d x = none ∧ ∀ m, 0 ≤ m → m ≤ 12 → x ∉ kept s (colder d m)) ∨ ∃ m, coldest s d x = some m ∧ (0 ≤ m ∧ m ≤ 12) ∧ x ∈ kept s (colder d m) ∧ ∀ m', m < m' → m' ≤ 12 → x ∉ kept s (colder d m') := by
  rcases fold_last (fun m => x ∈ kept s (colder d m)) (rngI 0 13) none (rngI_lt _ _) with ⟨h1, h2⟩ | ⟨m, hm, h2, h3, h4⟩
  · exact .inl ⟨h2, fun m a b => h1 m (mem_rngI.mpr ⟨a, by omega⟩)⟩
  · have := mem_rngI.mp hm
    exact .inr ⟨m, h2, ⟨this.1, by omega⟩, h3, fun m' a b => h4 m' (mem_rngI.mpr ⟨by omega, by omega⟩) a⟩
theorem most_spec {s : Stv} {d : List Hr} (ok : s.Ok) (dk : DyOk d) (x : Sd) {i : Int} (h0 : 0 ≤ i) (h4 : i ≤ 4) : (match leastMost s d x with | some m => decide (m ≤ i) | none => false) = decide (x ∈ kept (withMost s i) d) := by
  cases c : leastMost s d x with
  | none =>
    unfold leastMost at c
    rw [List.find?_eq_none] at c
    have := c i (mem_rngI.mpr ⟨h0, by omega⟩)
    simp only [decide_eq_true_eq] at this
    simp [this]
  | some m =>
    have c' : (rngI 0 5).find? (fun m => decide (x ∈ kept (withMost s m) d)) = some m := c
    have h1 := of_decide_eq_true (List.find?_some (p := fun m => decide (x ∈ kept (withMost s m) d)) c')
    have h2 := mem_rngI.mp (List.mem_of_find?_eq_some c')
    show decide (m ≤ i) = _
    by_cases h : m ≤ i
    · rw [decide_eq_true h, decide_eq_true (kept_most ok dk h2.1 h h4 h1)]
    · rw [decide_eq_false h]
      refine (decide_eq_false fun hk => ?_).symm
      -- the first one would be no later
      rw [List.find?_eq_some_iff_append] at c'
      obtain ⟨_, as, bs, e, hn⟩ := c'
      have hi : i ∈ as := by
        have hm : i ∈ rngI 0 5 := mem_rngI.mpr ⟨h0, by omega⟩
        have hp := rngI_lt 0 5
        rw [e] at hm hp
        rcases List.mem_append.mp hm with hm | hm
        · exact hm
        · exfalso
          rw [List.pairwise_append] at hp
          rcases List.mem_cons.mp hm with z | hm
          · omega
          · have := (List.pairwise_cons.mp hp.2.1).1 i hm
            omega
      have := hn i hi
      simp [hk] at this
def S__law_others_right : FSpec := fun ds k Q => ∃ (s : Stv) (d : List Hr) (x : Sd), s.Ok ∧ DyOk d ∧ In s d x ∧ ds = [stD s, dD d, sD x, .bl (decide (x ∈ kept s d))] ∧ Q (.bl true) k
theorem rp_o {o : Option Int} (h : ∀ i, o = some i → 0 ≤ i ∧ i ≤ 1000000) : Rp 0 13 (oD o) := by
  cases o with
  | none => exact Rp.non
  | some i => exact Rp.int (by have := h i rfl; omega)
theorem least_rng {s : Stv} {d : List Hr} {x : Sd} {i : Int} (h : leastMost s d x = some i) : 0 ≤ i ∧ i ≤ 4 := by
  have := mem_rngI.mp (List.mem_of_find?_eq_some (show (rngI 0 5).find? (fun m => decide (x ∈ kept (withMost s m) d)) = some i from h))
  omega
theorem heat_rng {s : Stv} {d : List Hr} {x : Sd} {i : Int} (h : leastHeat s d x = some i) : 0 ≤ i ∧ i ≤ 6 := by
  have := mem_rngI.mp (List.mem_of_find?_eq_some (show (rngI 1 5).find? (fun m => decide (x ∈ kept (withHeat s m) d)) = some i from h))
  omega
theorem notin_kept {s : Stv} {d : List Hr} (ok : s.Ok) (dk : DyOk d) {R : List (Sd × Int)} (P : R.Perm (lostR s d)) {x : Sd} (hx : In s d x) : decide (x ∈ R.map (·.1)) = !decide (x ∈ kept s d) := by
  have := kept_iff ok dk P x
  by_cases c : x ∈ R.map (·.1) <;> simp [c, this, hx]
theorem ite_no {α : Type} [DecidableEq α] {A B : α} (h : A = B) {X Y : Prop} (y : Y) : if (!decide (A = B)) = true then X else Y := by
  rw [decide_eq_true h, if_neg (by decide)]; exact y
theorem ok_small : ∀ m ∈ rngI 0 13, okData (.str (D.int m).py.shown) = true := by decide +kernel
theorem ok_smalls : okData (.lst ((rngI 0 13).map fun i => D.str (D.int i).py.shown)) = true := by decide +kernel
theorem atD_cons0 (x : D) (xs : List D) : atD (x :: xs) 0 = some x := by
  unfold atD ixD
  rw [if_pos (Int.le_refl _), if_pos (by simp)]
  rfl
theorem w__law_others_right (e1 : Γ i_least_most = S_least_most) (e2 : Γ i_least_heat = S_least_heat) (e3 : Γ i_coldest = S_coldest) (e4 : Γ i__law_lost = S__law_lost) (e5 : Γ i__law_colder = S__law_colder) : Wok Γ S__law_others_right p__law_others_right 10 4 := by
  rintro _ k Q ⟨s, d, x, ok, dk, hx, rfl, h⟩
  refine ⟨rfl, ?_⟩
  unfold p__law_others_right
  (((conv => whnf); try refine ite_back ?_); repeat (refine ⟨by first | rfl | exact ⟨rfl, rfl⟩ | exact ⟨fun z => DL.D.noConfusion z, fun z => DL.D.noConfusion z⟩, ?_⟩; ((conv => whnf); try refine ite_back ?_)))
  rw [e1]
  refine ⟨s, d, x, ok, dk, hx, rfl, ?_⟩
  (((conv => whnf); try refine ite_back ?_); repeat (refine ⟨by first | rfl | exact ⟨rfl, rfl⟩ | exact ⟨fun z => DL.D.noConfusion z, fun z => DL.D.noConfusion z⟩, ?_⟩; ((conv => whnf); try refine ite_back ?_)))
  rw [e2]
  refine ⟨s, d, x, ok, dk, hx, rfl, ?_⟩
  (((conv => whnf); try refine ite_back ?_); repeat (refine ⟨by first | rfl | exact ⟨rfl, rfl⟩ | exact ⟨fun z => DL.D.noConfusion z, fun z => DL.D.noConfusion z⟩, ?_⟩; ((conv => whnf); try refine ite_back ?_)))
  rw [e3]
  refine ⟨s, d, x, ok, dk, hx, rfl, ?_⟩
  (((conv => whnf); try refine ite_back ?_); repeat (refine ⟨by first | rfl | exact ⟨rfl, rfl⟩ | exact ⟨fun z => DL.D.noConfusion z, fun z => DL.D.noConfusion z⟩, ?_⟩; ((conv => whnf); try refine ite_back ?_)))
  refine rng_ok (by omega) (by omega) (by omega) (by omega) ?_
  refine wpL_of iD (fun done ρ => ∃ a4 a9, (Fr a4 ∧ Fr a9) ∧ ρ = ⟨[.dat (stD s), .dat (dD d), .dat (sD x), .dat (.bl (decide (x ∈ kept s d))), a4, .any, .dat (oD (leastMost s d x)), .dat (oD (leastHeat s d x)), .dat (oD (coldest s d x)), a9], k⟩) (rngI 0 5) ⟨_, _, ⟨fr_any, fr_any⟩, rfl⟩ ?_ ?_
  · rintro done i rest hall ρ ⟨a4, a9, ⟨f4, f9⟩, rfl⟩ R1 hR1
    have hi := mem_rngI.mp (show i ∈ rngI 0 5 by rw [hall]; simp)
    ((conv => whnf); try refine ite_back ?_)
    refine ⟨by show 4 ≤ sizeLine; rw [sizeLine_eq]; omega, ?_⟩
    ((conv => whnf); try refine ite_back ?_)
    rw [e4]
    refine ⟨withMost s i, d, ok_most ok (by omega) (by omega), dk, rfl, fun R P => ?_⟩
    have sp := most_spec ok dk x (i := i) hi.1 (by omega)
    ((conv => whnf); try refine ite_back ?_)
    refine ⟨kOk_R _ _, ?_⟩
    rw [look_R_some, notin_kept (ok_most ok (by omega) (by omega)) dk P (in_most.mpr hx), Bool.not_not, ← sp]
    cases c : leastMost s d x with
    | none =>
      rw [c] at hR1
      (((conv => whnf); try refine ite_back ?_); repeat (refine ⟨by first | rfl | exact ⟨rfl, rfl⟩ | exact ⟨fun z => DL.D.noConfusion z, fun z => DL.D.noConfusion z⟩, ?_⟩; ((conv => whnf); try refine ite_back ?_)))
      exact hR1 _ ⟨_, _, ⟨fr_dat, fr_dat⟩, rfl⟩
    | some m =>
      rw [c] at hR1
      (((conv => whnf); try refine ite_back ?_); repeat (refine ⟨by first | rfl | exact ⟨rfl, rfl⟩ | exact ⟨fun z => DL.D.noConfusion z, fun z => DL.D.noConfusion z⟩, ?_⟩; ((conv => whnf); try refine ite_back ?_)))
      rw [eqD_bl, decide_eq_true rfl]
      (((conv => whnf); try refine ite_back ?_); repeat (refine ⟨by first | rfl | exact ⟨rfl, rfl⟩ | exact ⟨fun z => DL.D.noConfusion z, fun z => DL.D.noConfusion z⟩, ?_⟩; ((conv => whnf); try refine ite_back ?_)))
      exact hR1 _ ⟨_, _, ⟨fr_dat, fr_dat⟩, rfl⟩
  · rintro ρ ⟨a4, a9, ⟨f4, f9⟩, rfl⟩
    (((conv => whnf); try refine ite_back ?_); repeat (refine ⟨by first | rfl | exact ⟨rfl, rfl⟩ | exact ⟨fun z => DL.D.noConfusion z, fun z => DL.D.noConfusion z⟩, ?_⟩; ((conv => whnf); try refine ite_back ?_)))
    refine rng_ok (by omega) (by omega) (by omega) (by omega) ?_
    refine wpLc_filter iD (fun i => decide (x ∈ kept (withHeat s i) d)) iD (rngI 1 5) (by (first | rfl | (simp only [ownOk, noOdl, Ev.get, Ev.set, getS, setS, List.all_cons, List.all_nil, odl_any, odl_dat, odl_ol, odl_od, own_any, own_dat, Fr.od, Fr.ow, Bool.not_false, Bool.and_true, Bool.true_and, *]; done))) (fun i hi RT RF h1 h2 => ?_) ?_
    · have hi := mem_rngI.mp hi
      ((conv => whnf); try refine ite_back ?_)
      refine ⟨by show 4 ≤ sizeLine; rw [sizeLine_eq]; omega, ?_⟩
      ((conv => whnf); try refine ite_back ?_)
      rw [e4]
      refine ⟨withHeat s i, d, ok_heat ok (by omega) (by omega), dk, rfl, fun R P => ?_⟩
      ((conv => whnf); try refine ite_back ?_)
      refine ⟨kOk_R _ _, ?_⟩
      rw [look_R_some, notin_kept (ok_heat ok (by omega) (by omega)) dk P (in_heat.mpr hx), Bool.not_not]
      cases c : decide (x ∈ kept (withHeat s i) d) with
      | true => ((conv => whnf); try refine ite_back ?_); exact h1 c
      | false => ((conv => whnf); try refine ite_back ?_); exact h2 c
    have hlh : leastHeat s d x = ((rngI 1 5).filter fun i => decide (x ∈ kept (withHeat s i) d)).head? := by rw [List.head?_filter]; rfl
    have rp1 : Rp 1 40 (.tup [oD (leastHeat s d x), oD (leastMost s d x)]) := (Rp.tup (k := 0) (n := 13) fun z hz => by
      rcases List.mem_cons.mp hz with e | hz
      · rw [e]; exact rp_o fun i hi => by have := heat_rng hi; omega
      · rw [List.mem_singleton.mp hz]; exact rp_o fun i hi => by have := least_rng hi; omega).mono (by omega) (by simp)
    have hflat : ∀ L : List Int, okData (.lst (L.map iD)) = true := fun L => okData_flat (n := 2) (by show flats 1 (L.map iD) = true; exact flats_map (fun _ => rfl) L) (by omega)
    have rest : ∀ a4 a5 a9, Fr a4 → Fr a5 → Fr a9 → wpS Γ p__law_others_right_4 ⟨[.dat (stD s), .dat (dD d), .dat (sD x), .dat (.bl (decide (x ∈ kept s d))), a4, a5, .dat (oD (leastMost s d x)), .dat (oD (leastHeat s d x)), .dat (oD (coldest s d x)), a9], k⟩ { nx := fun ρ => Q .non ρ.k, rt := Q } := by
      intro a4 a5 a9 f4 f5 f9
      rcases coldest_spec s d x with ⟨hc, hall⟩ | ⟨m, hc, ⟨m0, m12⟩, hk, hl⟩
      · have hnk : x ∉ kept s d := by have := hall 0 (by omega) (by omega); rwa [colder_zero dk] at this
        rw [hc, decide_eq_false hnk]
        (((conv => whnf); try refine ite_back ?_); repeat (refine ⟨by first | rfl | exact ⟨rfl, rfl⟩ | exact ⟨fun z => DL.D.noConfusion z, fun z => DL.D.noConfusion z⟩, ?_⟩; ((conv => whnf); try refine ite_back ?_)))
        exact h
      · have hkk : x ∈ kept s d := by
          have := kept_colder ok dk (m := 0) (m' := m) (by omega) m0 hk
          rwa [colder_zero dk] at this
        rw [hc, decide_eq_true hkk]
        (((conv => whnf); try refine ite_back ?_); repeat (refine ⟨by first | rfl | exact ⟨rfl, rfl⟩ | exact ⟨fun z => DL.D.noConfusion z, fun z => DL.D.noConfusion z⟩, ?_⟩; ((conv => whnf); try refine ite_back ?_)))
        have rpm : Rp 0 13 (D.int m) := Rp.int (by omega)
        refine ⟨rpm.ok (by omega) (by omega), ?_⟩
        ((conv => whnf); try refine ite_back ?_)
        refine rng_ok (by omega) (by omega) (by omega) (by omega) ?_
        refine wpLc_map iD (fun i => .str (D.int i).py.shown) (rngI 0 13) (by (first | rfl | (simp only [ownOk, noOdl, Ev.get, Ev.set, getS, setS, List.all_cons, List.all_nil, odl_any, odl_dat, odl_ol, odl_od, own_any, own_dat, Fr.od, Fr.ow, Bool.not_false, Bool.and_true, Bool.true_and, *]; done))) (fun i hi R q => ?_) ?_
        · have hi := mem_rngI.mp hi
          ((conv => whnf); try refine ite_back ?_)
          exact ⟨(Rp.int (i := i) (by omega)).ok (by omega) (by omega), q⟩
        ((conv => whnf); try refine ite_back ?_)
        refine ⟨⟨ok_small m (mem_rngI.mpr ⟨m0, by omega⟩), ok_smalls⟩, ?_⟩
        have hin : (((rngI 0 13).map fun i => D.str (D.int i).py.shown).any fun z => eqD z (.str (oD (some m)).py.shown)) = true := by
          rw [List.any_eq_true]
          exact ⟨_, List.mem_map.mpr ⟨m, mem_rngI.mpr ⟨m0, by omega⟩, rfl⟩, eqD_self_str _⟩
        rw [hin]
        ((conv => whnf); try refine ite_back ?_)
        rw [e5]
        refine ⟨d, m, dk, m0, rfl, ?_⟩
        ((conv => whnf); try refine ite_back ?_)
        rw [e4]
        refine ⟨s, colder d m, ok, colder_ok dk m0, rfl, fun R P => ?_⟩
        ((conv => whnf); try refine ite_back ?_)
        refine ⟨kOk_R _ _, ?_⟩
        rw [look_R_some, notin_kept ok (colder_ok dk m0) P (in_colder.mpr hx), decide_eq_true hk]
        (((conv => whnf); try refine ite_back ?_); repeat (refine ⟨by first | rfl | exact ⟨rfl, rfl⟩ | exact ⟨fun z => DL.D.noConfusion z, fun z => DL.D.noConfusion z⟩, ?_⟩; ((conv => whnf); try refine ite_back ?_)))
        cases c12 : decide (m = 12) with
        | true => (((conv => whnf); try refine ite_back ?_); repeat (refine ⟨by first | rfl | exact ⟨rfl, rfl⟩ | exact ⟨fun z => DL.D.noConfusion z, fun z => DL.D.noConfusion z⟩, ?_⟩; ((conv => whnf); try refine ite_back ?_))); exact h
        | false =>
          ((conv => whnf); try refine ite_back ?_)
          rw [e5]
          refine ⟨d, m + 1, dk, by omega, rfl, ?_⟩
          ((conv => whnf); try refine ite_back ?_)
          rw [e4]
          refine ⟨s, colder d (m + 1), ok, colder_ok dk (by omega), rfl, fun R2 P2 => ?_⟩
          ((conv => whnf); try refine ite_back ?_)
          have hne : m ≠ 12 := of_decide_eq_false c12
          refine ⟨kOk_R _ _, ?_⟩
          rw [look_R_some, notin_kept ok (colder_ok dk (by omega)) P2 (in_colder.mpr hx), decide_eq_false (hl (m + 1) (by omega) (by omega))]
          exact ⟨rfl, h⟩
    ((conv => whnf); try refine ite_back ?_)
    refine ⟨rp1.ok (by omega) (by omega), ?_⟩
    ((conv => whnf); try refine ite_back ?_)
    refine ⟨⟨hflat _, hflat []⟩, ?_⟩
    rw [eqD_nil]
    cases hF : ((rngI 1 5).filter fun i => decide (x ∈ kept (withHeat s i) d)) with
    | nil =>
      rw [hF] at hlh
      have hlh' : leastHeat s d x = none := hlh
      rw [decide_eq_true rfl, hlh']
      rw [hlh'] at rp1 rest
      cases c : leastMost s d x with
      | none =>
        rw [c] at rp1 rest
        ((conv => whnf); try refine ite_back ?_)
        refine ⟨rp1.ok (by omega) (by omega), ?_⟩
        exact rest _ _ _ f4 fr_dat f9
      | some m =>
        rw [c] at rp1 rest
        ((conv => whnf); try refine ite_back ?_)
        refine ⟨rp1.ok (by omega) (by omega), ?_⟩
        ((conv => whnf); try refine ite_back ?_)
        refine ite_no rfl ?_
        exact rest _ _ _ f4 fr_dat f9
    | cons a r =>
      rw [hF] at hlh
      have hlh' : leastHeat s d x = some a := hlh
      rw [decide_eq_false (List.cons_ne_nil a r), hlh']
      rw [hlh'] at rp1 rest
      cases c : leastMost s d x with
      | none =>
        rw [c] at rp1 rest
        ((conv => whnf); try refine ite_back ?_)
        rw [List.map_cons, atD_cons0]
        ((conv => whnf); try refine ite_back ?_)
        refine ⟨rp1.ok (by omega) (by omega), ?_⟩
        ((conv => whnf); try refine ite_back ?_)
        refine ite_no rfl ?_
        exact rest _ _ _ f4 fr_dat f9
      | some m =>
        rw [c] at rp1 rest
        ((conv => whnf); try refine ite_back ?_)
        rw [List.map_cons, atD_cons0]
        ((conv => whnf); try refine ite_back ?_)
        refine ⟨rp1.ok (by omega) (by omega), ?_⟩
        ((conv => whnf); try refine ite_back ?_)
        refine ite_no rfl ?_
        exact rest _ _ _ f4 fr_dat f9
end Lw
namespace Lw
open PySem PySem.Spec PyProof.Rows L2 DL
variable {Γ : Nat → FSpec}
theorem rp_int {i : Int} (h0 : -1000000 ≤ i) (h1 : i ≤ 1000000) : Rp 0 13 (.int i) := Rp.int (by omega)
theorem rp_sD {s : Stv} {d : List Hr} (ok : s.Ok) (dk : DyOk d) {x : Sd} (hx : In s d x) : Rp 1 50 (sD x) := by
  have o := dk.ok _ (hrAt_mem hx.a0 hx.a1)
  have a0 := hx.a0; have a1 := hx.a1; have t0 := hx.t0; have t1 := hx.t1; have r0 := hx.r0; have r1 := hx.r1
  have o1 := o.a; have o2 := o.c; have l2 := dk.l2; have h2 := ok.h2
  refine (Rp.tup (k := 0) (n := 13) fun z hz => ?_).mono (by omega) (by simp)
  rcases List.mem_cons.mp hz with e | hz
  · rw [e]; exact rp_int (by omega) (by omega)
  · rcases List.mem_cons.mp hz with e | hz
    · rw [e]; exact rp_int (by omega) (by omega)
    · rw [List.mem_singleton.mp hz]; exact rp_int (by omega) (by omega)
theorem rp_rD {s : Stv} {d : List Hr} (ok : s.Ok) (dk : DyOk d) {p : Sd × Int} (hx : In s d p.1) (h0 : -1000000 ≤ p.2) (h1 : p.2 ≤ 1000000) : Rp 2 120 (rD p) := by
  refine (Rp.tup (k := 1) (n := 50) fun z hz => ?_).mono (by omega) (by simp)
  rcases List.mem_cons.mp hz with e | hz
  · rw [e]; exact rp_sD ok dk hx
  · rw [List.mem_singleton.mp hz]; exact (rp_int h0 h1).mono (by omega) (by omega)
/-- the least logs that lead to what is kept; the most -/
def lg (s : Stv) (d : List Hr) (x : Sd) : Int := (logsIn s d x (kept s d)).getD 0
def lgm (s : Stv) (d : List Hr) (K : List Sd) (x : Sd) : Int := ((fineOf s d K x).getLast?).getD 0
theorem lg_some {s : Stv} {d : List Hr} (ok : s.Ok) (dk : DyOk d) {x : Sd} (hx : x ∈ kept s d) : logsIn s d x (kept s d) = some (lg s d x) := by
  obtain ⟨l, hl⟩ := kept_logs ok dk hx
  unfold lg
  rw [hl]; rfl
theorem bookD_eq {s : Stv} {d : List Hr} (ok : s.Ok) (dk : DyOk d) : bookD s d (kept s d) = .tup (((kept s d).map fun x => (x, lg s d x)).map rD) := by
  unfold bookD
  rw [List.map_map]
  congr 1
  refine List.map_congr_left fun x hx => ?_
  rw [lg_some ok dk hx]; rfl
theorem lgm_mem {s : Stv} {d : List Hr} (ok : s.Ok) (dk : DyOk d) {R : List (Sd × Int)} (P : R.Perm (lostR s d)) {x : Sd} (hx : x ∈ kept s d) : ∃ g, fineOf s d (R.map (·.1)) x = g ++ [lgm s d (R.map (·.1)) x] := by
  obtain ⟨l, r, e, _⟩ := fine_head ok dk P hx
  have hne : fineOf s d (R.map (·.1)) x ≠ [] := by rw [e]; exact List.cons_ne_nil l r
  refine ⟨(fineOf s d (R.map (·.1)) x).dropLast, ?_⟩
  unfold lgm
  rw [List.getLast?_eq_some_getLast hne]
  exact (List.dropLast_concat_getLast hne).symm
theorem book_lg {s : Stv} {d : List Hr} (ok : s.Ok) (dk : DyOk d) : Book s d ((kept s d).map fun x => (x, lg s d x)) := book_of ok dk _ fun x hx => logsIn_some (lg_some ok dk hx)
theorem book_lgm {s : Stv} {d : List Hr} (ok : s.Ok) (dk : DyOk d) {R : List (Sd × Int)} (P : R.Perm (lostR s d)) : Book s d ((kept s d).map fun x => (x, lgm s d (R.map (·.1)) x)) := book_of ok dk _ fun x hx => by
  obtain ⟨g, e⟩ := lgm_mem ok dk P hx
  have h : lgm s d (R.map (·.1)) x ∈ fineOf s d (R.map (·.1)) x := by rw [e]; simp
  rw [fine_eq ok dk P ((fin ok dk).at_.sub x hx), List.mem_filter] at h
  exact h
theorem lg_rng {s : Stv} {d : List Hr} (ok : s.Ok) (dk : DyOk d) {x : Sd} (hx : x ∈ kept s d) : 0 ≤ lg s d x ∧ lg s d x ≤ 4 := by
  have h := mem_logsBy.mp (logsIn_some (lg_some ok dk hx)).1
  have := ok.m2
  omega
theorem keys_kept {s : Stv} {d : List Hr} (g : Sd → Int) : ((kept s d).map fun x => (x, g x)).map (·.1) = kept s d := by rw [List.map_map]; exact List.map_id _
theorem keys_lost {s : Stv} {d : List Hr} (ok : s.Ok) (dk : DyOk d) (j : Int) {x : Sd} (hx : In s d x) : decide (x ∈ ((lostS s d).map fun p => (p.1, p.2 + j)).map (·.1)) = !decide (x ∈ kept s d) := by
  have e : ((lostS s d).map fun p => (p.1, p.2 + j)).map (·.1) = (lostS s d).map (·.1) := by rw [List.map_map]; rfl
  rw [e, ← notin_kept ok dk (R := lostS s d) (sortR_perm _) hx]
theorem rank_eq {s : Stv} {d : List Hr} (ok : s.Ok) (dk : DyOk d) {R : List (Sd × Int)} (P : R.Perm (lostR s d)) (x : Sd) : ((lookD (rkD R) (sD x)).getD .non) = oD (rankAt s d x) := by
  rw [look_R]
  congr 1
  have hn := (fin ok dk).rnd
  show asc R x = asc (lostR s d) x
  cases c : asc R x with
  | none =>
    rw [asc_none, (P.map _).mem_iff] at c
    exact (asc_none.mpr c).symm
  | some n => exact ((asc_iff hn).mpr (P.mem_iff.mp (asc_some c))).symm
theorem rank_rng {s : Stv} {d : List Hr} (ok : s.Ok) (dk : DyOk d) {p : Sd × Int} (h : p ∈ lostR s d) : 0 ≤ p.2 ∧ p.2 ≤ 1200 := by
  obtain ⟨m, h1, h2⟩ := rinv ok dk
  have h3 := (h2 p h).1
  have := lostR_len ok dk
  omega
theorem rank_o {s : Stv} {d : List Hr} (ok : s.Ok) (dk : DyOk d) (x : Sd) : Rp 0 13 (oD (rankAt s d x)) := rp_o fun i hi => by
  have h : asc (lostR s d) x = some i := hi
  have := rank_rng ok dk (asc_some h)
  have h2 : (0 : Int) ≤ i ∧ i ≤ 1200 := this
  omega
theorem stands_pos {s : Stv} {d : List Hr} (ok : s.Ok) (dk : DyOk d) : 1 ≤ (stands s d).length := by
  have l1 := dk.l1
  have o := dk.ok _ (hrAt_mem (d := d) (i := 0) (by omega) (by omega))
  refine List.length_pos_of_mem (a := (0, 0, (hrAt d 0).1.1)) (mem_stands.mpr ⟨Int.le_refl _, by show (0 : Int) < _; omega, Int.le_refl _, by show (0 : Int) ≤ _; omega, Int.le_refl _, o.b⟩)
def S__law_right : FSpec := fun ds k Q => ds = [.pot] ∧ k ≤ 100 ∧ ∀ k', k' ≤ k + 300 → Q (.bl true) k'
set_option maxHeartbeats 2000000 in
theorem w__law_right (e1 : Γ i__law_stove = S__law_stove) (e2 : Γ i__law_day = S__law_day) (e3 : Γ i__law_lost = S__law_lost) (e4 : Γ i__law_stands = S__law_stands) (e5 : Γ i_always = S_always) (e6 : Γ i__law_fine = S__law_fine) (e7 : Γ i_firing = S_firing) (e8 : Γ i__law_take = S__law_take) (e9 : Γ i__law_of = S__law_of) (e10 : Γ i_kept_told = S_kept_told) (e11 : Γ i_shows_kept = S_shows_kept) (e12 : Γ i_lost_by = S_lost_by) : Wok Γ S__law_right p__law_right 16 1 := by
  rintro _ k Q ⟨rfl, hk, h⟩
  refine ⟨rfl, ?_⟩
  unfold p__law_right
  (((conv => whnf); try refine ite_back ?_); repeat (refine ⟨by first | rfl | exact ⟨rfl, rfl⟩ | exact ⟨fun z => DL.D.noConfusion z, fun z => DL.D.noConfusion z⟩, ?_⟩; ((conv => whnf); try refine ite_back ?_)))
  (rw [e1]; try conv => arg 2; dsimp only [Ev.set, wipeE, backE])
  refine ⟨rfl, by omega, fun s ok k1 hk1 => ?_⟩
  (((conv => whnf); try refine ite_back ?_); repeat (refine ⟨by first | rfl | exact ⟨rfl, rfl⟩ | exact ⟨fun z => DL.D.noConfusion z, fun z => DL.D.noConfusion z⟩, ?_⟩; ((conv => whnf); try refine ite_back ?_)))
  (rw [e2]; try conv => arg 2; dsimp only [Ev.set, wipeE, backE])
  refine ⟨6, rfl, ⟨by omega, by omega⟩, by omega, fun d dk k2 hk2 => ?_⟩
  (((conv => whnf); try refine ite_back ?_); repeat (refine ⟨by first | rfl | exact ⟨rfl, rfl⟩ | exact ⟨fun z => DL.D.noConfusion z, fun z => DL.D.noConfusion z⟩, ?_⟩; ((conv => whnf); try refine ite_back ?_)))
  rw [e3]
  refine ⟨s, d, ok, dk, rfl, fun R P => ?_⟩
  (((conv => whnf); try refine ite_back ?_); repeat (refine ⟨by first | rfl | exact ⟨rfl, rfl⟩ | exact ⟨fun z => DL.D.noConfusion z, fun z => DL.D.noConfusion z⟩, ?_⟩; ((conv => whnf); try refine ite_back ?_)))
  rw [e4]
  refine ⟨s, d, ok, dk, rfl, ?_⟩
  (((conv => whnf); try refine ite_back ?_); repeat (refine ⟨by first | rfl | exact ⟨rfl, rfl⟩ | exact ⟨fun z => DL.D.noConfusion z, fun z => DL.D.noConfusion z⟩, ?_⟩; ((conv => whnf); try refine ite_back ?_)))
  have hkl := kept_len ok dk
  have hin : ∀ x ∈ kept s d, In s d x := (fin ok dk).at_.sub
  refine wpLc_filter sD (fun x => decide (x ∉ R.map (·.1))) sD _ (by (first | rfl | (simp only [ownOk, noOdl, Ev.get, Ev.set, getS, setS, List.all_cons, List.all_nil, odl_any, odl_dat, odl_ol, odl_od, own_any, own_dat, Fr.od, Fr.ow, Bool.not_false, Bool.and_true, Bool.true_and, *]; done))) (fun x hx RT RF h1 h2 => ?_) ?_
  · ((conv => whnf); try refine ite_back ?_)
    refine ⟨kOk_R _ _, ?_⟩
    rw [look_R_some]
    by_cases c : x ∈ R.map (·.1)
    · rw [decide_eq_true c]; ((conv => whnf); try refine ite_back ?_); exact h2 (by simp [c])
    · rw [decide_eq_false c]; ((conv => whnf); try refine ite_back ?_); exact h1 (by simp [c])
  rw [kept_filter ok dk P]
  (((conv => whnf); try refine ite_back ?_); repeat (refine ⟨by first | rfl | exact ⟨rfl, rfl⟩ | exact ⟨fun z => DL.D.noConfusion z, fun z => DL.D.noConfusion z⟩, ?_⟩; ((conv => whnf); try refine ite_back ?_)))
  rw [e5]
  refine ⟨s, d, ok, dk, rfl, ?_⟩
  have rpK : Rp 2 63000 (.tup ((kept s d).map sD)) := (Rp.tup (k := 1) (n := 50) fun z hz => by
    obtain ⟨x, hx, rfl⟩ := List.mem_map.mp hz
    exact rp_sD ok dk (hin x hx)).mono (by omega) (by rw [List.length_map]; omega)
  have rpB : ∀ g : Sd → Int, (∀ x ∈ kept s d, 0 ≤ g x ∧ g x ≤ 4) → Rp 3 160000 (.tup (((kept s d).map fun x => (x, g x)).map rD)) := fun g hg => (Rp.tup (k := 2) (n := 120) fun z hz => by
    obtain ⟨p, hp, rfl⟩ := List.mem_map.mp hz
    obtain ⟨x, hx, rfl⟩ := List.mem_map.mp hp
    have := hg x hx
    exact rp_rD ok dk (hin x hx) (by show -1000000 ≤ g x; omega) (by show g x ≤ 1000000; omega)).mono (by omega) (by rw [List.length_map, List.length_map]; omega)
  ((conv => whnf); try refine ite_back ?_)
  refine ⟨rpK.ok (by omega) (by omega), ?_⟩
  (((conv => whnf); try refine ite_back ?_); repeat (refine ⟨by first | rfl | exact ⟨rfl, rfl⟩ | exact ⟨fun z => DL.D.noConfusion z, fun z => DL.D.noConfusion z⟩, ?_⟩; ((conv => whnf); try refine ite_back ?_)))
  refine ⟨rpK.ok (by omega) (by omega), ?_⟩
  ((conv => whnf); try refine ite_back ?_)
  refine ite_no rfl ?_
  ((conv => whnf); try refine ite_back ?_)
  refine wpLc_map sD (fun x => .tup [sD x, .lst ((fineOf s d (R.map (·.1)) x).map iD)]) _ (by (first | rfl | (simp only [ownOk, noOdl, Ev.get, Ev.set, getS, setS, List.all_cons, List.all_nil, odl_any, odl_dat, odl_ol, odl_od, own_any, own_dat, Fr.od, Fr.ow, Bool.not_false, Bool.and_true, Bool.true_and, *]; done))) (fun x hx RT q => ?_) ?_
  · ((conv => whnf); try refine ite_back ?_)
    rw [e6]
    exact ⟨s, d, R, x, ok, dk, hin x hx, rfl, q⟩
  (((conv => whnf); try refine ite_back ?_); repeat (refine ⟨by first | rfl | exact ⟨rfl, rfl⟩ | exact ⟨fun z => DL.D.noConfusion z, fun z => DL.D.noConfusion z⟩, ?_⟩; ((conv => whnf); try refine ite_back ?_)))
  refine dict_S (nd_of_lt (fin ok dk).lt) ?_
  ((conv => whnf); try refine ite_back ?_)
  rw [e7]
  refine ⟨s, d, ok, dk, rfl, ?_⟩
  rw [bookD_eq ok dk]
  ((conv => whnf); try refine ite_back ?_)
  refine ⟨(rpB _ fun x hx => lg_rng ok dk hx).ok (by omega) (by omega), ?_⟩
  ((conv => whnf); try refine ite_back ?_)
  refine wpLc_map sD (fun x => rD (x, lg s d x)) _ (by (first | rfl | (simp only [ownOk, noOdl, Ev.get, Ev.set, getS, setS, List.all_cons, List.all_nil, odl_any, odl_dat, odl_ol, odl_od, own_any, own_dat, Fr.od, Fr.ow, Bool.not_false, Bool.and_true, Bool.true_and, *]; done))) (fun x hx RT q => ?_) ?_
  · ((conv => whnf); try refine ite_back ?_)
    refine ⟨kOk_S _ _ _, ?_⟩
    rw [look_S, if_pos hx]
    obtain ⟨l, r, f1, f2⟩ := fine_head ok dk P hx
    ((conv => whnf); try refine ite_back ?_)
    rw [f1, List.map_cons, atD_cons0]
    rw [lg_some ok dk hx] at f2
    have f3 := Option.some.inj f2
    rw [f3] at q
    exact q
  (((conv => whnf); try refine ite_back ?_); repeat (refine ⟨by first | rfl | exact ⟨rfl, rfl⟩ | exact ⟨fun z => DL.D.noConfusion z, fun z => DL.D.noConfusion z⟩, ?_⟩; ((conv => whnf); try refine ite_back ?_)))
  refine ⟨?_, ?_⟩
  · have r := rpB (lg s d) fun x hx => lg_rng ok dk hx
    rw [List.map_map] at r
    exact r.ok (by omega) (by omega)
  ((conv => whnf); try refine ite_back ?_)
  refine ite_no (by rw [List.map_map]; rfl) ?_
  have rest : ∀ (x : Sd) (k3 : Nat), In s d x → k3 ≤ k + 300 → wpS Γ p__law_right_8 ⟨[.dat .pot, .dat (stD s), .dat (dD d), .dat (.lst ((kept s d).map sD)), .dat (dctS (kept s d) fun x => .lst ((fineOf s d (R.map (·.1)) x).map iD)), .dat (sD x), .any, .any, .any, .any, .dat (.dct (rkD R)), .dat (.lst ((stands s d).map sD)), .any, .any, .any, .any], k3⟩ { nx := fun ρ => Q .non ρ.k, rt := Q } := by
    intro x k3 hx hk3
    have hflatB : ∀ b : Bool, okData (.bl b) = true := fun b => by cases b <;> rfl
    -- what is told
    have tail : ∀ (told : DL.D), wpS Γ p__law_right_10 ⟨[.dat .pot, .dat (stD s), .dat (dD d), .dat (.lst ((kept s d).map sD)), .dat (dctS (kept s d) fun x => .lst ((fineOf s d (R.map (·.1)) x).map iD)), .dat (sD x), .any, .any, .any, .any, .dat (.dct (rkD R)), .dat (.lst ((stands s d).map sD)), .dat told, .dat (.bl (decide (x ∈ kept s d))), .any, .any], k3⟩ { nx := fun ρ => Q .non ρ.k, rt := Q } := by
      intro told
      ((conv => whnf); try refine ite_back ?_)
      refine wpLc_map sD (fun x => rD (x, lgm s d (R.map (·.1)) x)) _ (by (first | rfl | (simp only [ownOk, noOdl, Ev.get, Ev.set, getS, setS, List.all_cons, List.all_nil, odl_any, odl_dat, odl_ol, odl_od, own_any, own_dat, Fr.od, Fr.ow, Bool.not_false, Bool.and_true, Bool.true_and, *]; done))) (fun y hy RT q => ?_) ?_
      · ((conv => whnf); try refine ite_back ?_)
        refine ⟨kOk_S _ _ _, ?_⟩
        rw [look_S, if_pos hy]
        obtain ⟨g, f1⟩ := lgm_mem ok dk P hy
        ((conv => whnf); try refine ite_back ?_)
        rw [f1, atD_last]
        exact q
      (((conv => whnf); try refine ite_back ?_); repeat (refine ⟨by first | rfl | exact ⟨rfl, rfl⟩ | exact ⟨fun z => DL.D.noConfusion z, fun z => DL.D.noConfusion z⟩, ?_⟩; ((conv => whnf); try refine ite_back ?_)))
      have eb : (kept s d).map (fun x => rD (x, lgm s d (R.map (·.1)) x)) = ((kept s d).map fun x => (x, lgm s d (R.map (·.1)) x)).map rD := by rw [List.map_map]; rfl
      rw [eb]
      have hn := nd_perm P (fin ok dk).rnd
      have ek : (rkD R).map (·.1) = R.map fun p => sD p.1 := by unfold rkD; rw [List.map_map]; rfl
      rw [ek]
      refine wpLc_map (fun p : Sd × Int => sD p.1) rD R (by (first | rfl | (simp only [ownOk, noOdl, Ev.get, Ev.set, getS, setS, List.all_cons, List.all_nil, odl_any, odl_dat, odl_ol, odl_od, own_any, own_dat, Fr.od, Fr.ow, Bool.not_false, Bool.and_true, Bool.true_and, *]; done))) (fun p hp RT q => ?_) ?_
      · ((conv => whnf); try refine ite_back ?_)
        refine ⟨kOk_R _ _, ?_⟩
        rw [find_rk, find_R hn hp]
        exact q
      (((conv => whnf); try refine ite_back ?_); repeat (refine ⟨by first | rfl | exact ⟨rfl, rfl⟩ | exact ⟨fun z => DL.D.noConfusion z, fun z => DL.D.noConfusion z⟩, ?_⟩; ((conv => whnf); try refine ite_back ?_)))
      refine ⟨sortable_R _, ?_⟩
      rw [sort_R]
      have es : (R.mergeSort fun p q => leD (rD p) (rD q)) = lostS s d := sortR_eq ok dk P
      rw [es]
      (((conv => whnf); try refine ite_back ?_); repeat (refine ⟨by first | rfl | exact ⟨rfl, rfl⟩ | exact ⟨fun z => DL.D.noConfusion z, fun z => DL.D.noConfusion z⟩, ?_⟩; ((conv => whnf); try refine ite_back ?_)))
      refine wpLc_map rD (fun p => rD (p.1, p.2 + 1)) (lostS s d) (by (first | rfl | (simp only [ownOk, noOdl, Ev.get, Ev.set, getS, setS, List.all_cons, List.all_nil, odl_any, odl_dat, odl_ol, odl_od, own_any, own_dat, Fr.od, Fr.ow, Bool.not_false, Bool.and_true, Bool.true_and, *]; done))) (fun p hp RT q => ?_) ?_
      · ((conv => whnf); try refine ite_back ?_)
        exact q
      (((conv => whnf); try refine ite_back ?_); repeat (refine ⟨by first | rfl | exact ⟨rfl, rfl⟩ | exact ⟨fun z => DL.D.noConfusion z, fun z => DL.D.noConfusion z⟩, ?_⟩; ((conv => whnf); try refine ite_back ?_)))
      have el : (lostS s d).map (fun p => rD (p.1, p.2 + 1)) = ((lostS s d).map fun p => (p.1, p.2 + 1)).map rD := by rw [List.map_map]; rfl
      rw [el]
      rw [e11]
      refine ⟨s, d, x, _, ok, dk, hx, .inl ⟨book_lgm ok dk P, rfl⟩, ?_⟩
      rw [keys_kept]
      ((conv => whnf); try refine ite_back ?_)
      rw [e11]
      refine ⟨s, d, x, (lostS s d).map fun p => (p.1, p.2 + 0), ok, dk, hx, .inr ⟨ranks_of ok dk (Int.le_refl _), by rw [lostS_map0]⟩, ?_⟩
      rw [keys_lost ok dk 0 hx]
      ((conv => whnf); try refine ite_back ?_)
      rw [e11]
      refine ⟨s, d, x, (lostS s d).map fun p => (p.1, p.2 + 1), ok, dk, hx, .inr ⟨ranks_of ok dk (by omega), rfl⟩, ?_⟩
      rw [keys_lost ok dk 1 hx]
      have rpw : Rp 1 60 (.lst [.bl (decide (x ∈ kept s d)), .bl (!decide (x ∈ kept s d)), .bl (!decide (x ∈ kept s d))]) := (Rp.lst (k := 0) (n := 13) fun z hz => by
        rcases List.mem_cons.mp hz with e | hz
        · rw [e]; exact Rp.bl _
        · rcases List.mem_cons.mp hz with e | hz
          · rw [e]; exact Rp.bl _
          · rw [List.mem_singleton.mp hz]; exact Rp.bl _).mono (by omega) (by simp)
      ((conv => whnf); try refine ite_back ?_)
      refine ⟨rpw.ok (by omega) (by omega), ?_⟩
      ((conv => whnf); try refine ite_back ?_)
      refine ⟨rpw.ok (by omega) (by omega), ?_⟩
      ((conv => whnf); try refine ite_back ?_)
      rw [decide_eq_true rfl]
      exact h k3 hk3
    ((conv => whnf); try refine ite_back ?_)
    rw [e10]
    refine ⟨s, d, x, ok, dk, hx, rfl, ?_⟩
    by_cases c : x ∈ kept s d
    · rw [if_pos c]
      ((conv => whnf); try refine ite_back ?_)
      refine ⟨kOk_S _ _ _, ?_⟩
      rw [look_S, if_pos c]
      rw [decide_eq_true c] at tail
      (((conv => whnf); try refine ite_back ?_); repeat (refine ⟨by first | rfl | exact ⟨rfl, rfl⟩ | exact ⟨fun z => DL.D.noConfusion z, fun z => DL.D.noConfusion z⟩, ?_⟩; ((conv => whnf); try refine ite_back ?_)))
      rw [e11, bookD_eq ok dk]
      refine ⟨s, d, x, _, ok, dk, hx, .inl ⟨book_lg ok dk, rfl⟩, ?_⟩
      rw [keys_kept, decide_eq_true c]
      ((conv => whnf); try refine ite_back ?_)
      rw [e12]
      refine ⟨s, d, x, ok, dk, hx, rfl, ?_⟩
      ((conv => whnf); try refine ite_back ?_)
      refine ⟨(rank_o ok dk x).ok (by omega) (by omega), ?_⟩
      ((conv => whnf); try refine ite_back ?_)
      refine ⟨rfl, ?_⟩
      ((conv => whnf); try refine ite_back ?_)
      refine ⟨kOk_R _ _, ?_⟩
      rw [rank_eq ok dk P]
      ((conv => whnf); try refine ite_back ?_)
      refine ⟨(rank_o ok dk x).ok (by omega) (by omega), ?_⟩
      (((conv => whnf); try refine ite_back ?_); repeat (refine ⟨by first | rfl | exact ⟨rfl, rfl⟩ | exact ⟨fun z => DL.D.noConfusion z, fun z => DL.D.noConfusion z⟩, ?_⟩; ((conv => whnf); try refine ite_back ?_)))
      refine ite_no rfl ?_
      exact tail _
    · rw [if_neg c]
      ((conv => whnf); try refine ite_back ?_)
      refine ⟨kOk_S _ _ _, ?_⟩
      rw [look_S, if_neg c]
      rw [decide_eq_false c] at tail
      (((conv => whnf); try refine ite_back ?_); repeat (refine ⟨by first | rfl | exact ⟨rfl, rfl⟩ | exact ⟨fun z => DL.D.noConfusion z, fun z => DL.D.noConfusion z⟩, ?_⟩; ((conv => whnf); try refine ite_back ?_)))
      rw [e11]
      refine ⟨s, d, x, (lostS s d).map fun p => (p.1, p.2 + 0), ok, dk, hx, .inr ⟨ranks_of ok dk (Int.le_refl _), by rw [lostS_map0]⟩, ?_⟩
      rw [keys_lost ok dk 0 hx, decide_eq_false c]
      ((conv => whnf); try refine ite_back ?_)
      rw [e12]
      refine ⟨s, d, x, ok, dk, hx, rfl, ?_⟩
      ((conv => whnf); try refine ite_back ?_)
      refine ⟨(rank_o ok dk x).ok (by omega) (by omega), ?_⟩
      ((conv => whnf); try refine ite_back ?_)
      refine ⟨rfl, ?_⟩
      ((conv => whnf); try refine ite_back ?_)
      refine ⟨kOk_R _ _, ?_⟩
      rw [rank_eq ok dk P]
      ((conv => whnf); try refine ite_back ?_)
      refine ⟨(rank_o ok dk x).ok (by omega) (by omega), ?_⟩
      (((conv => whnf); try refine ite_back ?_); repeat (refine ⟨by first | rfl | exact ⟨rfl, rfl⟩ | exact ⟨fun z => DL.D.noConfusion z, fun z => DL.D.noConfusion z⟩, ?_⟩; ((conv => whnf); try refine ite_back ?_)))
      refine ite_no rfl ?_
      exact tail _
  ((conv => whnf); try refine ite_back ?_)
  have hflat : ∀ L : List Sd, okData (.lst (L.map sD)) = true := fun L => okData_flat (n := 2) (by show flats 1 (L.map sD) = true; exact flats_map flat_sD L) (by omega)
  refine ⟨⟨hflat _, hflat []⟩, ?_⟩
  rw [eqD_nil]
  have hsl := stands_len ok dk
  by_cases cn : kept s d = []
  · rw [decide_eq_true cn]
    ((conv => whnf); try refine ite_back ?_)
    (rw [e9]; try conv => arg 2; dsimp only [Ev.set, wipeE, backE])
    refine ⟨_, rfl, ⟨?_, by rw [List.length_map]; omega⟩, by omega, fun m hm => ?_⟩
    · rw [List.length_map]; exact stands_pos ok dk
    obtain ⟨x, hx, rfl⟩ := List.mem_map.mp hm
    exact rest x (k2 + 1) (mem_stands.mp hx) (by omega)
  · rw [decide_eq_false cn]
    have hkp : 0 < (kept s d).length := List.length_pos_iff.mpr cn
    ((conv => whnf); try refine ite_back ?_)
    (rw [e8]; try conv => arg 2; dsimp only [Ev.set, wipeE, backE])
    refine ⟨2, rfl, ⟨by omega, by omega⟩, by omega, fun r hr0 hr => ?_⟩
    (((conv => whnf); try refine ite_back ?_); repeat (refine ⟨by first | rfl | exact ⟨rfl, rfl⟩ | exact ⟨fun z => DL.D.noConfusion z, fun z => DL.D.noConfusion z⟩, ?_⟩; ((conv => whnf); try refine ite_back ?_)))
    cases cz : decide (r = 0) with
    | true =>
      ((conv => whnf); try refine ite_back ?_)
      (rw [e9]; try conv => arg 2; dsimp only [Ev.set, wipeE, backE])
      refine ⟨_, rfl, ⟨by rw [List.length_map]; omega, by rw [List.length_map]; omega⟩, by omega, fun m hm => ?_⟩
      obtain ⟨x, hx, rfl⟩ := List.mem_map.mp hm
      exact rest x (k2 + 1 + 1) (hin x hx) (by omega)
    | false =>
      ((conv => whnf); try refine ite_back ?_)
      (rw [e9]; try conv => arg 2; dsimp only [Ev.set, wipeE, backE])
      refine ⟨_, rfl, ⟨?_, by rw [List.length_map]; omega⟩, by omega, fun m hm => ?_⟩
      · rw [List.length_map]; exact stands_pos ok dk
      obtain ⟨x, hx, rfl⟩ := List.mem_map.mp hm
      exact rest x (k2 + 1 + 1) (mem_stands.mp hx) (by omega)
end Lw
namespace Lw
open PySem PySem.Spec PyProof.Rows L2 DL
variable {Γ : Nat → FSpec}
def S__law_is_other_right : FSpec := fun ds k Q => ds = [.pot] ∧ k ≤ 500 ∧ ∀ k', k' ≤ k + 300 → Q (.bl true) k'
set_option maxHeartbeats 2000000 in
theorem w__law_is_other_right (e1 : Γ i__law_stove = S__law_stove) (e2 : Γ i__law_day = S__law_day) (e3 : Γ i__law_lost = S__law_lost) (e4 : Γ i__law_stands = S__law_stands) (e8 : Γ i__law_take = S__law_take) (e9 : Γ i__law_of = S__law_of) (e10 : Γ i__law_others_right = S__law_others_right) : Wok Γ S__law_is_other_right p__law_is_other_right 7 1 := by
  rintro _ k Q ⟨rfl, hk, h⟩
  refine ⟨rfl, ?_⟩
  unfold p__law_is_other_right
  (((conv => whnf); try refine ite_back ?_); repeat (refine ⟨by first | rfl | exact ⟨rfl, rfl⟩ | exact ⟨fun z => DL.D.noConfusion z, fun z => DL.D.noConfusion z⟩, ?_⟩; ((conv => whnf); try refine ite_back ?_)))
  (rw [e1]; try conv => arg 2; dsimp only [Ev.set, wipeE, backE])
  refine ⟨rfl, by omega, fun s ok k1 hk1 => ?_⟩
  (((conv => whnf); try refine ite_back ?_); repeat (refine ⟨by first | rfl | exact ⟨rfl, rfl⟩ | exact ⟨fun z => DL.D.noConfusion z, fun z => DL.D.noConfusion z⟩, ?_⟩; ((conv => whnf); try refine ite_back ?_)))
  (rw [e2]; try conv => arg 2; dsimp only [Ev.set, wipeE, backE])
  refine ⟨2, rfl, ⟨by omega, by omega⟩, by omega, fun d dk k2 hk2 => ?_⟩
  (((conv => whnf); try refine ite_back ?_); repeat (refine ⟨by first | rfl | exact ⟨rfl, rfl⟩ | exact ⟨fun z => DL.D.noConfusion z, fun z => DL.D.noConfusion z⟩, ?_⟩; ((conv => whnf); try refine ite_back ?_)))
  rw [e3]
  refine ⟨s, d, ok, dk, rfl, fun R P => ?_⟩
  (((conv => whnf); try refine ite_back ?_); repeat (refine ⟨by first | rfl | exact ⟨rfl, rfl⟩ | exact ⟨fun z => DL.D.noConfusion z, fun z => DL.D.noConfusion z⟩, ?_⟩; ((conv => whnf); try refine ite_back ?_)))
  rw [e4]
  refine ⟨s, d, ok, dk, rfl, ?_⟩
  (((conv => whnf); try refine ite_back ?_); repeat (refine ⟨by first | rfl | exact ⟨rfl, rfl⟩ | exact ⟨fun z => DL.D.noConfusion z, fun z => DL.D.noConfusion z⟩, ?_⟩; ((conv => whnf); try refine ite_back ?_)))
  have hkl := kept_len ok dk
  have hin : ∀ x ∈ kept s d, In s d x := (fin ok dk).at_.sub
  refine wpLc_filter sD (fun x => decide (x ∉ R.map (·.1))) sD _ (by (first | rfl | (simp only [ownOk, noOdl, Ev.get, Ev.set, getS, setS, List.all_cons, List.all_nil, odl_any, odl_dat, odl_ol, odl_od, own_any, own_dat, Fr.od, Fr.ow, Bool.not_false, Bool.and_true, Bool.true_and, *]; done))) (fun x hx RT RF h1 h2 => ?_) ?_
  · ((conv => whnf); try refine ite_back ?_)
    refine ⟨kOk_R _ _, ?_⟩
    rw [look_R_some]
    by_cases c : x ∈ R.map (·.1)
    · rw [decide_eq_true c]; ((conv => whnf); try refine ite_back ?_); exact h2 (by simp [c])
    · rw [decide_eq_false c]; ((conv => whnf); try refine ite_back ?_); exact h1 (by simp [c])
  rw [kept_filter ok dk P]
  have rest : ∀ (x : Sd) (k3 : Nat), In s d x → k3 ≤ k + 300 → wpS Γ p__law_is_other_right_5 ⟨[.dat .pot, .dat (stD s), .dat (dD d), .dat (.lst ((kept s d).map sD)), .dat (sD x), .dat (.dct (rkD R)), .dat (.lst ((stands s d).map sD))], k3⟩ { nx := fun ρ => Q .non ρ.k, rt := Q } := by
    intro x k3 hx hk3
    ((conv => whnf); try refine ite_back ?_)
    refine ⟨kOk_R _ _, ?_⟩
    rw [look_R_some, notin_kept ok dk P hx, Bool.not_not]
    rw [e10]
    exact ⟨s, d, x, ok, dk, hx, rfl, h k3 hk3⟩
  ((conv => whnf); try refine ite_back ?_)
  have hflat : ∀ L : List Sd, okData (.lst (L.map sD)) = true := fun L => okData_flat (n := 2) (by show flats 1 (L.map sD) = true; exact flats_map flat_sD L) (by omega)
  refine ⟨⟨hflat _, hflat []⟩, ?_⟩
  rw [eqD_nil]
  have hsl := stands_len ok dk
  by_cases cn : kept s d = []
  · rw [decide_eq_true cn]
    ((conv => whnf); try refine ite_back ?_)
    (rw [e9]; try conv => arg 2; dsimp only [Ev.set, wipeE, backE])
    refine ⟨_, rfl, ⟨?_, by rw [List.length_map]; omega⟩, by omega, fun m hm => ?_⟩
    · rw [List.length_map]; exact stands_pos ok dk
    obtain ⟨x, hx, rfl⟩ := List.mem_map.mp hm
    exact rest x (k2 + 1) (mem_stands.mp hx) (by omega)
  · rw [decide_eq_false cn]
    have hkp : 0 < (kept s d).length := List.length_pos_iff.mpr cn
    ((conv => whnf); try refine ite_back ?_)
    (rw [e8]; try conv => arg 2; dsimp only [Ev.set, wipeE, backE])
    refine ⟨4, rfl, ⟨by omega, by omega⟩, by omega, fun r hr0 hr => ?_⟩
    (((conv => whnf); try refine ite_back ?_); repeat (refine ⟨by first | rfl | exact ⟨rfl, rfl⟩ | exact ⟨fun z => DL.D.noConfusion z, fun z => DL.D.noConfusion z⟩, ?_⟩; ((conv => whnf); try refine ite_back ?_)))
    cases cz : decide (0 < r) with
    | true =>
      ((conv => whnf); try refine ite_back ?_)
      (rw [e9]; try conv => arg 2; dsimp only [Ev.set, wipeE, backE])
      refine ⟨_, rfl, ⟨by rw [List.length_map]; omega, by rw [List.length_map]; omega⟩, by omega, fun m hm => ?_⟩
      obtain ⟨x, hx, rfl⟩ := List.mem_map.mp hm
      exact rest x (k2 + 1 + 1) (hin x hx) (by omega)
    | false =>
      ((conv => whnf); try refine ite_back ?_)
      (rw [e9]; try conv => arg 2; dsimp only [Ev.set, wipeE, backE])
      refine ⟨_, rfl, ⟨?_, by rw [List.length_map]; omega⟩, by omega, fun m hm => ?_⟩
      · rw [List.length_map]; exact stands_pos ok dk
      obtain ⟨x, hx, rfl⟩ := List.mem_map.mp hm
      exact rest x (k2 + 1 + 1) (mem_stands.mp hx) (by omega)
def S_law : FSpec := fun ds k Q => ∃ ns : List Int, ds = [.scr ns] ∧ ns.length ≤ 63 ∧ k = 0 ∧ ∀ k', Q (.bl true) k'
theorem w_law (e1 : Γ i__law_pot = S__law_pot) (e2 : Γ i__law_right = S__law_right) (e3 : Γ i__law_is_other_right = S__law_is_other_right) : Wok Γ S_law p_law 1 1 := by
  rintro _ k Q ⟨ns, rfl, hn, rfl, h⟩
  refine ⟨rfl, ?_⟩
  unfold p_law
  ((conv => whnf); try refine ite_back ?_)
  (rw [e1]; try conv => arg 2; dsimp only [Ev.set, wipeE, backE])
  refine ⟨ns, 0, rfl, ⟨by omega, by omega⟩, hn, ?_⟩
  ((conv => whnf); try refine ite_back ?_)
  (rw [e2]; try conv => arg 2; dsimp only [Ev.set, wipeE, backE])
  refine ⟨rfl, by omega, fun k1 hk1 => ?_⟩
  ((conv => whnf); try refine ite_back ?_)
  (rw [e1]; try conv => arg 2; dsimp only [Ev.set, wipeE, backE])
  refine ⟨ns, 1, rfl, ⟨by omega, by omega⟩, hn, ?_⟩
  ((conv => whnf); try refine ite_back ?_)
  (rw [e3]; try conv => arg 2; dsimp only [Ev.set, wipeE, backE])
  refine ⟨rfl, by omega, fun k2 hk2 => ?_⟩
  exact ⟨rfl, h _⟩
end Lw
set_option maxHeartbeats 0
namespace Lw
open PySem PySem.Spec PyProof.Rows L2
def d_is_integer : He.DefD := ⟨("is_integer", none), "is_integer", "is_integer", defArgs s_is_integer, defBody s_is_integer, defScope s_is_integer, [], []⟩
def d_is_between : He.DefD := ⟨("is_between", none), "is_between", "is_between", defArgs s_is_between, defBody s_is_between, defScope s_is_between, [], []⟩
def d_are_between : He.DefD := ⟨("are_between", none), "are_between", "are_between", defArgs s_are_between, defBody s_are_between, defScope s_are_between, [], []⟩
def d_does_rise : He.DefD := ⟨("does_rise", none), "does_rise", "does_rise", defArgs s_does_rise, defBody s_does_rise, defScope s_does_rise, [], []⟩
def d_is_stove : He.DefD := ⟨("is_stove", none), "is_stove", "is_stove", defArgs s_is_stove, defBody s_is_stove, defScope s_is_stove, [], []⟩
def d_check_stove : He.DefD := ⟨("check_stove", none), "check_stove", "check_stove", defArgs s_check_stove, defBody s_check_stove, defScope s_check_stove, [], []⟩
def d_logs_by : He.DefD := ⟨("logs_by", none), "logs_by", "logs_by", defArgs s_logs_by, defBody s_logs_by, defScope s_logs_by, [], []⟩
def d_fired : He.DefD := ⟨("fired", none), "fired", "fired", defArgs s_fired, defBody s_fired, defScope s_fired, [], []⟩
def d_is_span : He.DefD := ⟨("is_span", none), "is_span", "is_span", defArgs s_is_span, defBody s_is_span, defScope s_is_span, [], []⟩
def d_is_hour : He.DefD := ⟨("is_hour", none), "is_hour", "is_hour", defArgs s_is_hour, defBody s_is_hour, defScope s_is_hour, [], []⟩
def d_is_day : He.DefD := ⟨("is_day", none), "is_day", "is_day", defArgs s_is_day, defBody s_is_day, defScope s_is_day, [], []⟩
def d_check_day : He.DefD := ⟨("check_day", none), "check_day", "check_day", defArgs s_check_day, defBody s_check_day, defScope s_check_day, [], []⟩
def d_is_stand_of : He.DefD := ⟨("is_stand_of", none), "is_stand_of", "is_stand_of", defArgs s_is_stand_of, defBody s_is_stand_of, defScope s_is_stand_of, [], []⟩
def d_check_stand : He.DefD := ⟨("check_stand", none), "check_stand", "check_stand", defArgs s_check_stand, defBody s_check_stand, defScope s_check_stand, [], []⟩
def d_weathers_in : He.DefD := ⟨("weathers_in", none), "weathers_in", "weathers_in", defArgs s_weathers_in, defBody s_weathers_in, defScope s_weathers_in, [], []⟩
def d_one_behind : He.DefD := ⟨("one_behind", none), "one_behind", "one_behind", defArgs s_one_behind, defBody s_one_behind, defScope s_one_behind, [], []⟩
def d_rows_behind : He.DefD := ⟨("rows_behind", none), "rows_behind", "rows_behind", defArgs s_rows_behind, defBody s_rows_behind, defScope s_rows_behind, [], []⟩
def d_stands_of : He.DefD := ⟨("stands_of", none), "stands_of", "stands_of", defArgs s_stands_of, defBody s_stands_of, defScope s_stands_of, [], []⟩
def d_does_lead : He.DefD := ⟨("does_lead", none), "does_lead", "does_lead", defArgs s_does_lead, defBody s_does_lead, defScope s_does_lead, [], []⟩
def d_logs_within : He.DefD := ⟨("logs_within", none), "logs_within", "logs_within", defArgs s_logs_within, defBody s_logs_within, defScope s_logs_within, [], []⟩
def d_ranks_of : He.DefD := ⟨("ranks_of", none), "ranks_of", "ranks_of", defArgs s_ranks_of, defBody s_ranks_of, defScope s_ranks_of, [], []⟩
def d_is_kept_at : He.DefD := ⟨("is_kept_at", none), "is_kept_at", "is_kept_at", defArgs s_is_kept_at, defBody s_is_kept_at, defScope s_is_kept_at, [], []⟩
def d_book_of : He.DefD := ⟨("book_of", none), "book_of", "book_of", defArgs s_book_of, defBody s_book_of, defScope s_book_of, [], []⟩
def d_always : He.DefD := ⟨("always", none), "always", "always", defArgs s_always, defBody s_always, defScope s_always, [], []⟩
def d_firing : He.DefD := ⟨("firing", none), "firing", "firing", defArgs s_firing, defBody s_firing, defScope s_firing, [], []⟩
def d_lost_by : He.DefD := ⟨("lost_by", none), "lost_by", "lost_by", defArgs s_lost_by, defBody s_lost_by, defScope s_lost_by, [], []⟩
def d_kept_told : He.DefD := ⟨("kept_told", none), "kept_told", "kept_told", defArgs s_kept_told, defBody s_kept_told, defScope s_kept_told, [], []⟩
def d_are_rows : He.DefD := ⟨("are_rows", none), "are_rows", "are_rows", defArgs s_are_rows, defBody s_are_rows, defScope s_are_rows, [], []⟩
def d_is_book : He.DefD := ⟨("is_book", none), "is_book", "is_book", defArgs s_is_book, defBody s_is_book, defScope s_is_book, [], []⟩
def d_are_ranks : He.DefD := ⟨("are_ranks", none), "are_ranks", "are_ranks", defArgs s_are_ranks, defBody s_are_ranks, defScope s_are_ranks, [], []⟩
def d_is_worse : He.DefD := ⟨("is_worse", none), "is_worse", "is_worse", defArgs s_is_worse, defBody s_is_worse, defScope s_is_worse, [], []⟩
def d_shows_kept : He.DefD := ⟨("shows_kept", none), "shows_kept", "shows_kept", defArgs s_shows_kept, defBody s_shows_kept, defScope s_shows_kept, [], []⟩
def d_least_most : He.DefD := ⟨("least_most", none), "least_most", "least_most", defArgs s_least_most, defBody s_least_most, defScope s_least_most, [], []⟩
def d_least_heat : He.DefD := ⟨("least_heat", none), "least_heat", "least_heat", defArgs s_least_heat, defBody s_least_heat, defScope s_least_heat, [], []⟩
def d_colder : He.DefD := ⟨("colder", none), "colder", "colder", defArgs s_colder, defBody s_colder, defScope s_colder, [], []⟩
def d_coldest : He.DefD := ⟨("coldest", none), "coldest", "coldest", defArgs s_coldest, defBody s_coldest, defScope s_coldest, [], []⟩
def d__law_pot : He.DefD := ⟨("_law_pot", none), "_law_pot", "_law_pot", defArgs s__law_pot, defBody s__law_pot, defScope s__law_pot, [], []⟩
def d__law_take : He.DefD := ⟨("_law_take", none), "_law_take", "_law_take", defArgs s__law_take, defBody s__law_take, defScope s__law_take, [], []⟩
def d__law_of : He.DefD := ⟨("_law_of", none), "_law_of", "_law_of", defArgs s__law_of, defBody s__law_of, defScope s__law_of, [], []⟩
def d__law_stove : He.DefD := ⟨("_law_stove", none), "_law_stove", "_law_stove", defArgs s__law_stove, defBody s__law_stove, defScope s__law_stove, [], []⟩
def d__law_day : He.DefD := ⟨("_law_day", none), "_law_day", "_law_day", defArgs s__law_day, defBody s__law_day, defScope s__law_day, [], []⟩
def d__law_stands : He.DefD := ⟨("_law_stands", none), "_law_stands", "_law_stands", defArgs s__law_stands, defBody s__law_stands, defScope s__law_stands, [], []⟩
def d__law_behind : He.DefD := ⟨("_law_behind", none), "_law_behind", "_law_behind", defArgs s__law_behind, defBody s__law_behind, defScope s__law_behind, [], []⟩
def d__law_logs : He.DefD := ⟨("_law_logs", none), "_law_logs", "_law_logs", defArgs s__law_logs, defBody s__law_logs, defScope s__law_logs, [], []⟩
def d__law_lost : He.DefD := ⟨("_law_lost", none), "_law_lost", "_law_lost", defArgs s__law_lost, defBody s__law_lost, defScope s__law_lost, [], []⟩
def d__law_fine : He.DefD := ⟨("_law_fine", none), "_law_fine", "_law_fine", defArgs s__law_fine, defBody s__law_fine, defScope s__law_fine, [], []⟩
def d__law_colder : He.DefD := ⟨("_law_colder", none), "_law_colder", "_law_colder", defArgs s__law_colder, defBody s__law_colder, defScope s__law_colder, [], []⟩
def d__law_others_right : He.DefD := ⟨("_law_others_right", none), "_law_others_right", "_law_others_right", defArgs s__law_others_right, defBody s__law_others_right, defScope s__law_others_right, [], []⟩
def d__law_right : He.DefD := ⟨("_law_right", none), "_law_right", "_law_right", defArgs s__law_right, defBody s__law_right, defScope s__law_right, [], []⟩
def d__law_is_other_right : He.DefD := ⟨("_law_is_other_right", none), "_law_is_other_right", "_law_is_other_right", defArgs s__law_is_other_right, defBody s__law_is_other_right, defScope s__law_is_other_right, [], []⟩
def d_law : He.DefD := ⟨("law", none), "law", "law", defArgs s_law, defBody s_law, defScope s_law, [], []⟩
def fn : List He.DefD := [d_is_integer, d_is_between, d_are_between, d_does_rise, d_is_stove, d_check_stove, d_logs_by, d_fired, d_is_span, d_is_hour, d_is_day, d_check_day, d_is_stand_of, d_check_stand, d_weathers_in, d_one_behind, d_rows_behind, d_stands_of, d_does_lead, d_logs_within, d_ranks_of, d_is_kept_at, d_book_of, d_always, d_firing, d_lost_by, d_kept_told, d_are_rows, d_is_book, d_are_ranks, d_is_worse, d_shows_kept, d_least_most, d_least_heat, d_colder, d_coldest, d__law_pot, d__law_take, d__law_of, d__law_stove, d__law_day, d__law_stands, d__law_behind, d__law_logs, d__law_lost, d__law_fine, d__law_colder, d__law_others_right, d__law_right, d__law_is_other_right, d_law]
def fa : List He.Fa := [.glo "is_integer", .glo "is_between", .glo "are_between", .glo "does_rise", .glo "is_stove", .glo "check_stove", .glo "logs_by", .glo "fired", .glo "is_span", .glo "is_hour", .glo "is_day", .glo "check_day", .glo "is_stand_of", .glo "check_stand", .glo "weathers_in", .glo "one_behind", .glo "rows_behind", .glo "stands_of", .glo "does_lead", .glo "logs_within", .glo "ranks_of", .glo "is_kept_at", .glo "book_of", .glo "always", .glo "firing", .glo "lost_by", .glo "kept_told", .glo "are_rows", .glo "is_book", .glo "are_ranks", .glo "is_worse", .glo "shows_kept", .glo "least_most", .glo "least_heat", .glo "colder", .glo "coldest", .glo "_law_pot", .glo "_law_take", .glo "_law_of", .glo "_law_stove", .glo "_law_day", .glo "_law_stands", .glo "_law_behind", .glo "_law_logs", .glo "_law_lost", .glo "_law_fine", .glo "_law_colder", .glo "_law_others_right", .glo "_law_right", .glo "_law_is_other_right", .glo "law", .int "MOST_HOLDS" 10, .int "MOST_HEAT" 5, .int "MOST_LOGS" 4, .int "FOUR" 4, .int "MOST_HOURS" 6, .int "MOST_ROOM" 12, .int "MILDEST" (-4), .int "COLDEST" 8, .int "THREE" 3, .int "MOST_COLDER" 12, .str "KEPT" "kept", .str "LOST" "lost", .free "abs", .free "all", .free "any", .free "bool", .free "dict", .free "enumerate", .free "int", .free "isinstance", .free "len", .free "list", .free "max", .free "min", .free "range", .free "repr", .free "sorted", .free "str", .free "sum", .free "super", .free "tuple", .free "zip"]
def loose0 : List PySem.Str := ["StoveError", "BadDay", "BadStand", "BadStove", "is_integer", "is_between", "are_between", "MOST_HOLDS", "MOST_HEAT", "MOST_LOGS", "FOUR", "does_rise", "is_stove", "check_stove", "logs_by", "fired", "MOST_HOURS", "MOST_ROOM", "MILDEST", "COLDEST", "THREE", "is_span", "is_hour", "is_day", "check_day", "is_stand_of", "check_stand", "weathers_in", "one_behind", "rows_behind"]
def loose1 : List PySem.Str := ["stands_of", "KEPT", "LOST", "MOST_COLDER", "does_lead", "logs_within", "ranks_of", "is_kept_at", "book_of", "always", "firing", "lost_by", "kept_told", "are_rows", "is_book", "are_ranks", "is_worse", "shows_kept", "least_most", "least_heat", "colder", "coldest", "_law_pot", "_law_take", "_law_of", "_law_stove", "_law_day", "_law_stands", "_law_behind", "_law_logs"]
def loose2 : List PySem.Str := ["_law_lost", "_law_fine", "_law_colder", "_law_others_right", "_law_right", "_law_is_other_right"]
abbrev loose : List PySem.Str := loose0 ++ loose1 ++ loose2
abbrev R : PySem.W.OpenRow := PySem.W.OpenLaw.row PySem.Challenge.rw_warmeveryhour_k97_whole_great_stoves_and
abbrev hk : PySem.W.Hook := He.hookD 4 fa fn
def ob (s : PySem.W.SharedT) : He.AlD := He.obsDG 4 fa fn (HandSHeadRun.getT s)
theorem ob_eq (s : PySem.W.SharedT) : ob s = hk.obs s.abs := He.obsDG_eq (HandSHeadRun.getT_eq s)
theorem run (w : World) : HandSHeadRun.RunEq R (PySem.W.view R.prog [72]) hk ob 20000 loose w := by
  intro os
  kernel_rfl
end Lw
set_option maxHeartbeats 0
namespace Lw
open PySem PySem.Spec PyProof.Rows L2 DL
def Gam : Nat → FSpec
  | 0 => S_is_integer
  | 1 => S_is_between
  | 2 => S_are_between
  | 3 => S_does_rise
  | 4 => S_is_stove
  | 5 => S_check_stove
  | 6 => S_logs_by
  | 7 => S_fired
  | 8 => S_is_span
  | 9 => S_is_hour
  | 10 => S_is_day
  | 11 => S_check_day
  | 12 => S_is_stand_of
  | 13 => S_check_stand
  | 14 => S_weathers_in
  | 15 => S_one_behind
  | 16 => S_rows_behind
  | 17 => S_stands_of
  | 18 => S_does_lead
  | 19 => S_logs_within
  | 20 => S_ranks_of
  | 21 => S_is_kept_at
  | 22 => S_book_of
  | 23 => S_always
  | 24 => S_firing
  | 25 => S_lost_by
  | 26 => S_kept_told
  | 27 => S_are_rows
  | 28 => S_is_book
  | 29 => S_are_ranks
  | 30 => S_is_worse
  | 31 => S_shows_kept
  | 32 => S_least_most
  | 33 => S_least_heat
  | 34 => S_colder
  | 35 => S_coldest
  | 36 => S__law_pot
  | 37 => S__law_take
  | 38 => S__law_of
  | 39 => S__law_stove
  | 40 => S__law_day
  | 41 => S__law_stands
  | 42 => S__law_behind
  | 43 => S__law_logs
  | 44 => S__law_lost
  | 45 => S__law_fine
  | 46 => S__law_colder
  | 47 => S__law_others_right
  | 48 => S__law_right
  | 49 => S__law_is_other_right
  | 50 => S_law
  | _ => fun _ _ _ => False
theorem FnAt.mono {P : Program} {w : World} {K : PySem.W.Frag} {mg : Str → Option Value} {base : Heap} {j k : Nat} {x : Str} {n : Nat} {S : FSpec} (h : FnAt P w K mg base j x n S) (hk : j ≤ k) : FnAt P w K mg base k x n S := by
  obtain ⟨f, fd, ps, h1, h2, h3, h4, h5⟩ := h.ex
  exact ⟨f, fd, ps, h1, h2, h3, h4, h5.mono hk⟩
section
variable {P : Program} {w : World} {K : PySem.W.Frag} {mg : Str → Option Value} {base : Heap} {f : Addr} {fd : FuncData}
theorem ok_is_integer (F : FunD K "is_integer" "is_integer" (defArgs s_is_integer) (defBody s_is_integer) (defScope s_is_integer) [] [] f fd) (B : Fx mg)  : FnG P w K mg base 1 f fd a_is_integer (Gam 0) := by
  obtain ⟨oc, od, dV, kV, doc, pm, an, cdv, ct, osl, rfl, lk, hcd, _, _⟩ := F.ex
  exact fg_of (k := 0) lk hcd sc_is_integer (fun A outer s H hr hgd => t_is_integer (Γ := Gam) B  hr hgd) (by apply w_is_integer <;> rfl)
theorem ok_does_rise (F : FunD K "does_rise" "does_rise" (defArgs s_does_rise) (defBody s_does_rise) (defScope s_does_rise) [] [] f fd) (B : Fx mg)  : FnG P w K mg base 1 f fd a_does_rise (Gam 3) := by
  obtain ⟨oc, od, dV, kV, doc, pm, an, cdv, ct, osl, rfl, lk, hcd, _, _⟩ := F.ex
  exact fg_of (k := 0) lk hcd sc_does_rise (fun A outer s H hr hgd => t_does_rise (Γ := Gam) B  hr hgd) (by apply w_does_rise <;> rfl)
theorem ok_logs_by (F : FunD K "logs_by" "logs_by" (defArgs s_logs_by) (defBody s_logs_by) (defScope s_logs_by) [] [] f fd) (B : Fx mg)  : FnG P w K mg base 1 f fd a_logs_by (Gam 6) := by
  obtain ⟨oc, od, dV, kV, doc, pm, an, cdv, ct, osl, rfl, lk, hcd, _, _⟩ := F.ex
  exact fg_of (k := 0) lk hcd sc_logs_by (fun A outer s H hr hgd => t_logs_by (Γ := Gam) B  hr hgd) (by apply w_logs_by <;> rfl)
theorem ok_fired (F : FunD K "fired" "fired" (defArgs s_fired) (defBody s_fired) (defScope s_fired) [] [] f fd) (B : Fx mg)  : FnG P w K mg base 1 f fd a_fired (Gam 7) := by
  obtain ⟨oc, od, dV, kV, doc, pm, an, cdv, ct, osl, rfl, lk, hcd, _, _⟩ := F.ex
  exact fg_of (k := 0) lk hcd sc_fired (fun A outer s H hr hgd => t_fired (Γ := Gam) B  hr hgd) (by apply w_fired <;> rfl)
theorem ok_weathers_in (F : FunD K "weathers_in" "weathers_in" (defArgs s_weathers_in) (defBody s_weathers_in) (defScope s_weathers_in) [] [] f fd) (B : Fx mg)  : FnG P w K mg base 1 f fd a_weathers_in (Gam 14) := by
  obtain ⟨oc, od, dV, kV, doc, pm, an, cdv, ct, osl, rfl, lk, hcd, _, _⟩ := F.ex
  exact fg_of (k := 0) lk hcd sc_weathers_in (fun A outer s H hr hgd => t_weathers_in (Γ := Gam) B  hr hgd) (by apply w_weathers_in <;> rfl)
theorem ok_stands_of (F : FunD K "stands_of" "stands_of" (defArgs s_stands_of) (defBody s_stands_of) (defScope s_stands_of) [] [] f fd) (B : Fx mg)  : FnG P w K mg base 1 f fd a_stands_of (Gam 17) := by
  obtain ⟨oc, od, dV, kV, doc, pm, an, cdv, ct, osl, rfl, lk, hcd, _, _⟩ := F.ex
  exact fg_of (k := 0) lk hcd sc_stands_of (fun A outer s H hr hgd => t_stands_of (Γ := Gam) B  hr hgd) (by apply w_stands_of <;> rfl)
theorem ok_colder (F : FunD K "colder" "colder" (defArgs s_colder) (defBody s_colder) (defScope s_colder) [] [] f fd) (B : Fx mg)  : FnG P w K mg base 1 f fd a_colder (Gam 34) := by
  obtain ⟨oc, od, dV, kV, doc, pm, an, cdv, ct, osl, rfl, lk, hcd, _, _⟩ := F.ex
  exact fg_of (k := 0) lk hcd sc_colder (fun A outer s H hr hgd => t_colder (Γ := Gam) B  hr hgd) (by apply w_colder <;> rfl)
theorem ok__law_pot (F : FunD K "_law_pot" "_law_pot" (defArgs s__law_pot) (defBody s__law_pot) (defScope s__law_pot) [] [] f fd) (B : Fx mg)  : FnG P w K mg base 1 f fd a__law_pot (Gam 36) := by
  obtain ⟨oc, od, dV, kV, doc, pm, an, cdv, ct, osl, rfl, lk, hcd, _, _⟩ := F.ex
  exact fg_of (k := 0) lk hcd sc__law_pot (fun A outer s H hr hgd => t__law_pot (Γ := Gam) B  hr hgd) (by apply w__law_pot <;> rfl)
theorem ok__law_take (F : FunD K "_law_take" "_law_take" (defArgs s__law_take) (defBody s__law_take) (defScope s__law_take) [] [] f fd) (B : Fx mg)  : FnG P w K mg base 1 f fd a__law_take (Gam 37) := by
  obtain ⟨oc, od, dV, kV, doc, pm, an, cdv, ct, osl, rfl, lk, hcd, _, _⟩ := F.ex
  exact fg_of (k := 0) lk hcd sc__law_take (fun A outer s H hr hgd => t__law_take (Γ := Gam) B  hr hgd) (by apply w__law_take <;> rfl)
theorem ok__law_stands (F : FunD K "_law_stands" "_law_stands" (defArgs s__law_stands) (defBody s__law_stands) (defScope s__law_stands) [] [] f fd) (B : Fx mg)  : FnG P w K mg base 1 f fd a__law_stands (Gam 41) := by
  obtain ⟨oc, od, dV, kV, doc, pm, an, cdv, ct, osl, rfl, lk, hcd, _, _⟩ := F.ex
  exact fg_of (k := 0) lk hcd sc__law_stands (fun A outer s H hr hgd => t__law_stands (Γ := Gam) B  hr hgd) (by apply w__law_stands <;> rfl)
theorem ok__law_behind (F : FunD K "_law_behind" "_law_behind" (defArgs s__law_behind) (defBody s__law_behind) (defScope s__law_behind) [] [] f fd) (B : Fx mg)  : FnG P w K mg base 1 f fd a__law_behind (Gam 42) := by
  obtain ⟨oc, od, dV, kV, doc, pm, an, cdv, ct, osl, rfl, lk, hcd, _, _⟩ := F.ex
  exact fg_of (k := 0) lk hcd sc__law_behind (fun A outer s H hr hgd => t__law_behind (Γ := Gam) B  hr hgd) (by apply w__law_behind <;> rfl)
theorem ok__law_logs (F : FunD K "_law_logs" "_law_logs" (defArgs s__law_logs) (defBody s__law_logs) (defScope s__law_logs) [] [] f fd) (B : Fx mg)  : FnG P w K mg base 1 f fd a__law_logs (Gam 43) := by
  obtain ⟨oc, od, dV, kV, doc, pm, an, cdv, ct, osl, rfl, lk, hcd, _, _⟩ := F.ex
  exact fg_of (k := 0) lk hcd sc__law_logs (fun A outer s H hr hgd => t__law_logs (Γ := Gam) B  hr hgd) (by apply w__law_logs <;> rfl)
theorem ok__law_colder (F : FunD K "_law_colder" "_law_colder" (defArgs s__law_colder) (defBody s__law_colder) (defScope s__law_colder) [] [] f fd) (B : Fx mg)  : FnG P w K mg base 1 f fd a__law_colder (Gam 46) := by
  obtain ⟨oc, od, dV, kV, doc, pm, an, cdv, ct, osl, rfl, lk, hcd, _, _⟩ := F.ex
  exact fg_of (k := 0) lk hcd sc__law_colder (fun A outer s H hr hgd => t__law_colder (Γ := Gam) B  hr hgd) (by apply w__law_colder <;> rfl)
theorem ok_is_between (F : FunD K "is_between" "is_between" (defArgs s_is_between) (defBody s_is_between) (defScope s_is_between) [] [] f fd) (B : Fx mg) (c_is_integer : FnAt P w K mg base 1 "is_integer" 1 (Gam 0)) : FnG P w K mg base 2 f fd a_is_between (Gam 1) := by
  obtain ⟨oc, od, dV, kV, doc, pm, an, cdv, ct, osl, rfl, lk, hcd, _, _⟩ := F.ex
  exact fg_of (k := 1) lk hcd sc_is_between (fun A outer s H hr hgd => t_is_between (Γ := Gam) B (FnAt.mono c_is_integer (by decide)) hr hgd) (by apply w_is_between <;> rfl)
theorem ok_one_behind (F : FunD K "one_behind" "one_behind" (defArgs s_one_behind) (defBody s_one_behind) (defScope s_one_behind) [] [] f fd) (B : Fx mg) (c_fired : FnAt P w K mg base 1 "fired" 3 (Gam 7)) : FnG P w K mg base 2 f fd a_one_behind (Gam 15) := by
  obtain ⟨oc, od, dV, kV, doc, pm, an, cdv, ct, osl, rfl, lk, hcd, _, _⟩ := F.ex
  exact fg_of (k := 1) lk hcd sc_one_behind (fun A outer s H hr hgd => t_one_behind (Γ := Gam) B (FnAt.mono c_fired (by decide)) hr hgd) (by apply w_one_behind <;> rfl)
theorem ok__law_of (F : FunD K "_law_of" "_law_of" (defArgs s__law_of) (defBody s__law_of) (defScope s__law_of) [] [] f fd) (B : Fx mg) (c__law_take : FnAt P w K mg base 1 "_law_take" 2 (Gam 37)) : FnG P w K mg base 2 f fd a__law_of (Gam 38) := by
  obtain ⟨oc, od, dV, kV, doc, pm, an, cdv, ct, osl, rfl, lk, hcd, _, _⟩ := F.ex
  exact fg_of (k := 1) lk hcd sc__law_of (fun A outer s H hr hgd => t__law_of (Γ := Gam) B (FnAt.mono c__law_take (by decide)) hr hgd) (by apply w__law_of <;> rfl)
theorem ok__law_lost (F : FunD K "_law_lost" "_law_lost" (defArgs s__law_lost) (defBody s__law_lost) (defScope s__law_lost) [] [] f fd) (B : Fx mg) (c__law_stands : FnAt P w K mg base 1 "_law_stands" 2 (Gam 41)) (c__law_behind : FnAt P w K mg base 1 "_law_behind" 4 (Gam 42)) (c__law_logs : FnAt P w K mg base 1 "_law_logs" 2 (Gam 43)) : FnG P w K mg base 2 f fd a__law_lost (Gam 44) := by
  obtain ⟨oc, od, dV, kV, doc, pm, an, cdv, ct, osl, rfl, lk, hcd, _, _⟩ := F.ex
  exact fg_of (k := 1) lk hcd sc__law_lost (fun A outer s H hr hgd => t__law_lost (Γ := Gam) B (FnAt.mono c__law_stands (by decide)) (FnAt.mono c__law_behind (by decide)) (FnAt.mono c__law_logs (by decide)) hr hgd) (by apply w__law_lost <;> rfl)
theorem ok__law_fine (F : FunD K "_law_fine" "_law_fine" (defArgs s__law_fine) (defBody s__law_fine) (defScope s__law_fine) [] [] f fd) (B : Fx mg) (c__law_behind : FnAt P w K mg base 1 "_law_behind" 4 (Gam 42)) (c__law_logs : FnAt P w K mg base 1 "_law_logs" 2 (Gam 43)) : FnG P w K mg base 2 f fd a__law_fine (Gam 45) := by
  obtain ⟨oc, od, dV, kV, doc, pm, an, cdv, ct, osl, rfl, lk, hcd, _, _⟩ := F.ex
  exact fg_of (k := 1) lk hcd sc__law_fine (fun A outer s H hr hgd => t__law_fine (Γ := Gam) B (FnAt.mono c__law_behind (by decide)) (FnAt.mono c__law_logs (by decide)) hr hgd) (by apply w__law_fine <;> rfl)
theorem ok_are_between (F : FunD K "are_between" "are_between" (defArgs s_are_between) (defBody s_are_between) (defScope s_are_between) [] [] f fd) (B : Fx mg) (c_is_between : FnAt P w K mg base 2 "is_between" 3 (Gam 1)) : FnG P w K mg base 3 f fd a_are_between (Gam 2) := by
  obtain ⟨oc, od, dV, kV, doc, pm, an, cdv, ct, osl, rfl, lk, hcd, _, _⟩ := F.ex
  exact fg_of (k := 2) lk hcd sc_are_between (fun A outer s H hr hgd => t_are_between (Γ := Gam) B (FnAt.mono c_is_between (by decide)) hr hgd) (by apply w_are_between <;> rfl)
theorem ok_is_stand_of (F : FunD K "is_stand_of" "is_stand_of" (defArgs s_is_stand_of) (defBody s_is_stand_of) (defScope s_is_stand_of) [] [] f fd) (B : Fx mg) (c_is_between : FnAt P w K mg base 2 "is_between" 3 (Gam 1)) : FnG P w K mg base 3 f fd a_is_stand_of (Gam 12) := by
  obtain ⟨oc, od, dV, kV, doc, pm, an, cdv, ct, osl, rfl, lk, hcd, _, _⟩ := F.ex
  exact fg_of (k := 2) lk hcd sc_is_stand_of (fun A outer s H hr hgd => t_is_stand_of (Γ := Gam) B (FnAt.mono c_is_between (by decide)) hr hgd) (by apply w_is_stand_of <;> rfl)
theorem ok_rows_behind (F : FunD K "rows_behind" "rows_behind" (defArgs s_rows_behind) (defBody s_rows_behind) (defScope s_rows_behind) [] [] f fd) (B : Fx mg) (c_weathers_in : FnAt P w K mg base 1 "weathers_in" 2 (Gam 14)) (c_one_behind : FnAt P w K mg base 2 "one_behind" 5 (Gam 15)) : FnG P w K mg base 3 f fd a_rows_behind (Gam 16) := by
  obtain ⟨oc, od, dV, kV, doc, pm, an, cdv, ct, osl, rfl, lk, hcd, _, _⟩ := F.ex
  exact fg_of (k := 2) lk hcd sc_rows_behind (fun A outer s H hr hgd => t_rows_behind (Γ := Gam) B (FnAt.mono c_weathers_in (by decide)) (FnAt.mono c_one_behind (by decide)) hr hgd) (by apply w_rows_behind <;> rfl)
theorem ok__law_stove (F : FunD K "_law_stove" "_law_stove" (defArgs s__law_stove) (defBody s__law_stove) (defScope s__law_stove) [] [] f fd) (B : Fx mg) (c__law_take : FnAt P w K mg base 1 "_law_take" 2 (Gam 37)) (c__law_of : FnAt P w K mg base 2 "_law_of" 2 (Gam 38)) : FnG P w K mg base 3 f fd a__law_stove (Gam 39) := by
  obtain ⟨oc, od, dV, kV, doc, pm, an, cdv, ct, osl, rfl, lk, hcd, _, _⟩ := F.ex
  exact fg_of (k := 2) lk hcd sc__law_stove (fun A outer s H hr hgd => t__law_stove (Γ := Gam) B (FnAt.mono c__law_take (by decide)) (FnAt.mono c__law_of (by decide)) hr hgd) (by apply w__law_stove <;> rfl)
theorem ok__law_day (F : FunD K "_law_day" "_law_day" (defArgs s__law_day) (defBody s__law_day) (defScope s__law_day) [] [] f fd) (B : Fx mg) (c__law_take : FnAt P w K mg base 1 "_law_take" 2 (Gam 37)) (c__law_of : FnAt P w K mg base 2 "_law_of" 2 (Gam 38)) : FnG P w K mg base 3 f fd a__law_day (Gam 40) := by
  obtain ⟨oc, od, dV, kV, doc, pm, an, cdv, ct, osl, rfl, lk, hcd, _, _⟩ := F.ex
  exact fg_of (k := 2) lk hcd sc__law_day (fun A outer s H hr hgd => t__law_day (Γ := Gam) B (FnAt.mono c__law_take (by decide)) (FnAt.mono c__law_of (by decide)) hr hgd) (by apply w__law_day <;> rfl)
theorem ok_is_stove (F : FunD K "is_stove" "is_stove" (defArgs s_is_stove) (defBody s_is_stove) (defScope s_is_stove) [] [] f fd) (B : Fx mg) (c_is_between : FnAt P w K mg base 2 "is_between" 3 (Gam 1)) (c_are_between : FnAt P w K mg base 3 "are_between" 3 (Gam 2)) (c_does_rise : FnAt P w K mg base 1 "does_rise" 1 (Gam 3)) : FnG P w K mg base 4 f fd a_is_stove (Gam 4) := by
  obtain ⟨oc, od, dV, kV, doc, pm, an, cdv, ct, osl, rfl, lk, hcd, _, _⟩ := F.ex
  exact fg_of (k := 3) lk hcd sc_is_stove (fun A outer s H hr hgd => t_is_stove (Γ := Gam) B (FnAt.mono c_is_between (by decide)) (FnAt.mono c_are_between (by decide)) (FnAt.mono c_does_rise (by decide)) hr hgd) (by apply w_is_stove <;> rfl)
theorem ok_is_span (F : FunD K "is_span" "is_span" (defArgs s_is_span) (defBody s_is_span) (defScope s_is_span) [] [] f fd) (B : Fx mg) (c_are_between : FnAt P w K mg base 3 "are_between" 3 (Gam 2)) : FnG P w K mg base 4 f fd a_is_span (Gam 8) := by
  obtain ⟨oc, od, dV, kV, doc, pm, an, cdv, ct, osl, rfl, lk, hcd, _, _⟩ := F.ex
  exact fg_of (k := 3) lk hcd sc_is_span (fun A outer s H hr hgd => t_is_span (Γ := Gam) B (FnAt.mono c_are_between (by decide)) hr hgd) (by apply w_is_span <;> rfl)
theorem ok_does_lead (F : FunD K "does_lead" "does_lead" (defArgs s_does_lead) (defBody s_does_lead) (defScope s_does_lead) [] [] f fd) (B : Fx mg) (c_rows_behind : FnAt P w K mg base 3 "rows_behind" 4 (Gam 16)) : FnG P w K mg base 4 f fd a_does_lead (Gam 18) := by
  obtain ⟨oc, od, dV, kV, doc, pm, an, cdv, ct, osl, rfl, lk, hcd, _, _⟩ := F.ex
  exact fg_of (k := 3) lk hcd sc_does_lead (fun A outer s H hr hgd => t_does_lead (Γ := Gam) B (FnAt.mono c_rows_behind (by decide)) hr hgd) (by apply w_does_lead <;> rfl)
theorem ok_are_rows (F : FunD K "are_rows" "are_rows" (defArgs s_are_rows) (defBody s_are_rows) (defScope s_are_rows) [] [] f fd) (B : Fx mg) (c_is_stand_of : FnAt P w K mg base 3 "is_stand_of" 3 (Gam 12)) : FnG P w K mg base 4 f fd a_are_rows (Gam 27) := by
  obtain ⟨oc, od, dV, kV, doc, pm, an, cdv, ct, osl, rfl, lk, hcd, _, _⟩ := F.ex
  exact fg_of (k := 3) lk hcd sc_are_rows (fun A outer s H hr hgd => t_are_rows (Γ := Gam) B (FnAt.mono c_is_stand_of (by decide)) hr hgd) (by apply w_are_rows <;> rfl)
theorem ok_is_worse (F : FunD K "is_worse" "is_worse" (defArgs s_is_worse) (defBody s_is_worse) (defScope s_is_worse) [] [] f fd) (B : Fx mg) (c_is_stand_of : FnAt P w K mg base 3 "is_stand_of" 3 (Gam 12)) : FnG P w K mg base 4 f fd a_is_worse (Gam 30) := by
  obtain ⟨oc, od, dV, kV, doc, pm, an, cdv, ct, osl, rfl, lk, hcd, _, _⟩ := F.ex
  exact fg_of (k := 3) lk hcd sc_is_worse (fun A outer s H hr hgd => t_is_worse (Γ := Gam) B (FnAt.mono c_is_stand_of (by decide)) hr hgd) (by apply w_is_worse <;> rfl)
theorem ok_check_stove (F : FunD K "check_stove" "check_stove" (defArgs s_check_stove) (defBody s_check_stove) (defScope s_check_stove) [] [] f fd) (B : Fx mg) (c_is_stove : FnAt P w K mg base 4 "is_stove" 1 (Gam 4)) : FnG P w K mg base 5 f fd a_check_stove (Gam 5) := by
  obtain ⟨oc, od, dV, kV, doc, pm, an, cdv, ct, osl, rfl, lk, hcd, _, _⟩ := F.ex
  exact fg_of (k := 4) lk hcd sc_check_stove (fun A outer s H hr hgd => t_check_stove (Γ := Gam) B (FnAt.mono c_is_stove (by decide)) hr hgd) (by apply w_check_stove <;> rfl)
theorem ok_is_hour (F : FunD K "is_hour" "is_hour" (defArgs s_is_hour) (defBody s_is_hour) (defScope s_is_hour) [] [] f fd) (B : Fx mg) (c_is_span : FnAt P w K mg base 4 "is_span" 3 (Gam 8)) : FnG P w K mg base 5 f fd a_is_hour (Gam 9) := by
  obtain ⟨oc, od, dV, kV, doc, pm, an, cdv, ct, osl, rfl, lk, hcd, _, _⟩ := F.ex
  exact fg_of (k := 4) lk hcd sc_is_hour (fun A outer s H hr hgd => t_is_hour (Γ := Gam) B (FnAt.mono c_is_span (by decide)) hr hgd) (by apply w_is_hour <;> rfl)
theorem ok_logs_within (F : FunD K "logs_within" "logs_within" (defArgs s_logs_within) (defBody s_logs_within) (defScope s_logs_within) [] [] f fd) (B : Fx mg) (c_logs_by : FnAt P w K mg base 1 "logs_by" 2 (Gam 6)) (c_does_lead : FnAt P w K mg base 4 "does_lead" 5 (Gam 18)) : FnG P w K mg base 5 f fd a_logs_within (Gam 19) := by
  obtain ⟨oc, od, dV, kV, doc, pm, an, cdv, ct, osl, rfl, lk, hcd, _, _⟩ := F.ex
  exact fg_of (k := 4) lk hcd sc_logs_within (fun A outer s H hr hgd => t_logs_within (Γ := Gam) B (FnAt.mono c_logs_by (by decide)) (FnAt.mono c_does_lead (by decide)) hr hgd) (by apply w_logs_within <;> rfl)
theorem ok_is_book (F : FunD K "is_book" "is_book" (defArgs s_is_book) (defBody s_is_book) (defScope s_is_book) [] [] f fd) (B : Fx mg) (c_is_between : FnAt P w K mg base 2 "is_between" 3 (Gam 1)) (c_logs_by : FnAt P w K mg base 1 "logs_by" 2 (Gam 6)) (c_does_lead : FnAt P w K mg base 4 "does_lead" 5 (Gam 18)) (c_are_rows : FnAt P w K mg base 4 "are_rows" 3 (Gam 27)) : FnG P w K mg base 5 f fd a_is_book (Gam 28) := by
  obtain ⟨oc, od, dV, kV, doc, pm, an, cdv, ct, osl, rfl, lk, hcd, _, _⟩ := F.ex
  exact fg_of (k := 4) lk hcd sc_is_book (fun A outer s H hr hgd => t_is_book (Γ := Gam) B (FnAt.mono c_is_between (by decide)) (FnAt.mono c_logs_by (by decide)) (FnAt.mono c_does_lead (by decide)) (FnAt.mono c_are_rows (by decide)) hr hgd) (by apply w_is_book <;> rfl)
theorem ok_are_ranks (F : FunD K "are_ranks" "are_ranks" (defArgs s_are_ranks) (defBody s_are_ranks) (defScope s_are_ranks) [] [] f fd) (B : Fx mg) (c_is_integer : FnAt P w K mg base 1 "is_integer" 1 (Gam 0)) (c_logs_by : FnAt P w K mg base 1 "logs_by" 2 (Gam 6)) (c_rows_behind : FnAt P w K mg base 3 "rows_behind" 4 (Gam 16)) (c_are_rows : FnAt P w K mg base 4 "are_rows" 3 (Gam 27)) (c_is_worse : FnAt P w K mg base 4 "is_worse" 5 (Gam 30)) : FnG P w K mg base 5 f fd a_are_ranks (Gam 29) := by
  obtain ⟨oc, od, dV, kV, doc, pm, an, cdv, ct, osl, rfl, lk, hcd, _, _⟩ := F.ex
  exact fg_of (k := 4) lk hcd sc_are_ranks (fun A outer s H hr hgd => t_are_ranks (Γ := Gam) B (FnAt.mono c_is_integer (by decide)) (FnAt.mono c_logs_by (by decide)) (FnAt.mono c_rows_behind (by decide)) (FnAt.mono c_are_rows (by decide)) (FnAt.mono c_is_worse (by decide)) hr hgd) (by apply w_are_ranks <;> rfl)
theorem ok_is_day (F : FunD K "is_day" "is_day" (defArgs s_is_day) (defBody s_is_day) (defScope s_is_day) [] [] f fd) (B : Fx mg) (c_is_hour : FnAt P w K mg base 5 "is_hour" 1 (Gam 9)) : FnG P w K mg base 6 f fd a_is_day (Gam 10) := by
  obtain ⟨oc, od, dV, kV, doc, pm, an, cdv, ct, osl, rfl, lk, hcd, _, _⟩ := F.ex
  exact fg_of (k := 5) lk hcd sc_is_day (fun A outer s H hr hgd => t_is_day (Γ := Gam) B (FnAt.mono c_is_hour (by decide)) hr hgd) (by apply w_is_day <;> rfl)
theorem ok_ranks_of (F : FunD K "ranks_of" "ranks_of" (defArgs s_ranks_of) (defBody s_ranks_of) (defScope s_ranks_of) [] [] f fd) (B : Fx mg) (c_stands_of : FnAt P w K mg base 1 "stands_of" 2 (Gam 17)) (c_logs_within : FnAt P w K mg base 5 "logs_within" 4 (Gam 19)) : FnG P w K mg base 6 f fd a_ranks_of (Gam 20) := by
  obtain ⟨oc, od, dV, kV, doc, pm, an, cdv, ct, osl, rfl, lk, hcd, _, _⟩ := F.ex
  exact fg_of (k := 5) lk hcd sc_ranks_of (fun A outer s H hr hgd => t_ranks_of (Γ := Gam) B (FnAt.mono c_stands_of (by decide)) (FnAt.mono c_logs_within (by decide)) hr hgd) (by apply w_ranks_of <;> rfl)
theorem ok_book_of (F : FunD K "book_of" "book_of" (defArgs s_book_of) (defBody s_book_of) (defScope s_book_of) [] [] f fd) (B : Fx mg) (c_logs_within : FnAt P w K mg base 5 "logs_within" 4 (Gam 19)) : FnG P w K mg base 6 f fd a_book_of (Gam 22) := by
  obtain ⟨oc, od, dV, kV, doc, pm, an, cdv, ct, osl, rfl, lk, hcd, _, _⟩ := F.ex
  exact fg_of (k := 5) lk hcd sc_book_of (fun A outer s H hr hgd => t_book_of (Γ := Gam) B (FnAt.mono c_logs_within (by decide)) hr hgd) (by apply w_book_of <;> rfl)
theorem ok_check_day (F : FunD K "check_day" "check_day" (defArgs s_check_day) (defBody s_check_day) (defScope s_check_day) [] [] f fd) (B : Fx mg) (c_check_stove : FnAt P w K mg base 5 "check_stove" 1 (Gam 5)) (c_is_day : FnAt P w K mg base 6 "is_day" 1 (Gam 10)) : FnG P w K mg base 7 f fd a_check_day (Gam 11) := by
  obtain ⟨oc, od, dV, kV, doc, pm, an, cdv, ct, osl, rfl, lk, hcd, _, _⟩ := F.ex
  exact fg_of (k := 6) lk hcd sc_check_day (fun A outer s H hr hgd => t_check_day (Γ := Gam) B (FnAt.mono c_check_stove (by decide)) (FnAt.mono c_is_day (by decide)) hr hgd) (by apply w_check_day <;> rfl)
theorem ok_is_kept_at (F : FunD K "is_kept_at" "is_kept_at" (defArgs s_is_kept_at) (defBody s_is_kept_at) (defScope s_is_kept_at) [] [] f fd) (B : Fx mg) (c_ranks_of : FnAt P w K mg base 6 "ranks_of" 2 (Gam 20)) : FnG P w K mg base 7 f fd a_is_kept_at (Gam 21) := by
  obtain ⟨oc, od, dV, kV, doc, pm, an, cdv, ct, osl, rfl, lk, hcd, _, _⟩ := F.ex
  exact fg_of (k := 6) lk hcd sc_is_kept_at (fun A outer s H hr hgd => t_is_kept_at (Γ := Gam) B (FnAt.mono c_ranks_of (by decide)) hr hgd) (by apply w_is_kept_at <;> rfl)
theorem ok_check_stand (F : FunD K "check_stand" "check_stand" (defArgs s_check_stand) (defBody s_check_stand) (defScope s_check_stand) [] [] f fd) (B : Fx mg) (c_check_day : FnAt P w K mg base 7 "check_day" 2 (Gam 11)) (c_is_stand_of : FnAt P w K mg base 3 "is_stand_of" 3 (Gam 12)) : FnG P w K mg base 8 f fd a_check_stand (Gam 13) := by
  obtain ⟨oc, od, dV, kV, doc, pm, an, cdv, ct, osl, rfl, lk, hcd, _, _⟩ := F.ex
  exact fg_of (k := 7) lk hcd sc_check_stand (fun A outer s H hr hgd => t_check_stand (Γ := Gam) B (FnAt.mono c_check_day (by decide)) (FnAt.mono c_is_stand_of (by decide)) hr hgd) (by apply w_check_stand <;> rfl)
theorem ok_always (F : FunD K "always" "always" (defArgs s_always) (defBody s_always) (defScope s_always) [] [] f fd) (B : Fx mg) (c_check_day : FnAt P w K mg base 7 "check_day" 2 (Gam 11)) (c_ranks_of : FnAt P w K mg base 6 "ranks_of" 2 (Gam 20)) : FnG P w K mg base 8 f fd a_always (Gam 23) := by
  obtain ⟨oc, od, dV, kV, doc, pm, an, cdv, ct, osl, rfl, lk, hcd, _, _⟩ := F.ex
  exact fg_of (k := 7) lk hcd sc_always (fun A outer s H hr hgd => t_always (Γ := Gam) B (FnAt.mono c_check_day (by decide)) (FnAt.mono c_ranks_of (by decide)) hr hgd) (by apply w_always <;> rfl)
theorem ok_firing (F : FunD K "firing" "firing" (defArgs s_firing) (defBody s_firing) (defScope s_firing) [] [] f fd) (B : Fx mg) (c_check_day : FnAt P w K mg base 7 "check_day" 2 (Gam 11)) (c_ranks_of : FnAt P w K mg base 6 "ranks_of" 2 (Gam 20)) (c_book_of : FnAt P w K mg base 6 "book_of" 3 (Gam 22)) : FnG P w K mg base 8 f fd a_firing (Gam 24) := by
  obtain ⟨oc, od, dV, kV, doc, pm, an, cdv, ct, osl, rfl, lk, hcd, _, _⟩ := F.ex
  exact fg_of (k := 7) lk hcd sc_firing (fun A outer s H hr hgd => t_firing (Γ := Gam) B (FnAt.mono c_check_day (by decide)) (FnAt.mono c_ranks_of (by decide)) (FnAt.mono c_book_of (by decide)) hr hgd) (by apply w_firing <;> rfl)
theorem ok_lost_by (F : FunD K "lost_by" "lost_by" (defArgs s_lost_by) (defBody s_lost_by) (defScope s_lost_by) [] [] f fd) (B : Fx mg) (c_check_stand : FnAt P w K mg base 8 "check_stand" 3 (Gam 13)) (c_ranks_of : FnAt P w K mg base 6 "ranks_of" 2 (Gam 20)) : FnG P w K mg base 9 f fd a_lost_by (Gam 25) := by
  obtain ⟨oc, od, dV, kV, doc, pm, an, cdv, ct, osl, rfl, lk, hcd, _, _⟩ := F.ex
  exact fg_of (k := 8) lk hcd sc_lost_by (fun A outer s H hr hgd => t_lost_by (Γ := Gam) B (FnAt.mono c_check_stand (by decide)) (FnAt.mono c_ranks_of (by decide)) hr hgd) (by apply w_lost_by <;> rfl)
theorem ok_kept_told (F : FunD K "kept_told" "kept_told" (defArgs s_kept_told) (defBody s_kept_told) (defScope s_kept_told) [] [] f fd) (B : Fx mg) (c_check_stand : FnAt P w K mg base 8 "check_stand" 3 (Gam 13)) (c_ranks_of : FnAt P w K mg base 6 "ranks_of" 2 (Gam 20)) (c_book_of : FnAt P w K mg base 6 "book_of" 3 (Gam 22)) : FnG P w K mg base 9 f fd a_kept_told (Gam 26) := by
  obtain ⟨oc, od, dV, kV, doc, pm, an, cdv, ct, osl, rfl, lk, hcd, _, _⟩ := F.ex
  exact fg_of (k := 8) lk hcd sc_kept_told (fun A outer s H hr hgd => t_kept_told (Γ := Gam) B (FnAt.mono c_check_stand (by decide)) (FnAt.mono c_ranks_of (by decide)) (FnAt.mono c_book_of (by decide)) hr hgd) (by apply w_kept_told <;> rfl)
theorem ok_shows_kept (F : FunD K "shows_kept" "shows_kept" (defArgs s_shows_kept) (defBody s_shows_kept) (defScope s_shows_kept) [] [] f fd) (B : Fx mg) (c_check_stand : FnAt P w K mg base 8 "check_stand" 3 (Gam 13)) (c_is_book : FnAt P w K mg base 5 "is_book" 3 (Gam 28)) (c_are_ranks : FnAt P w K mg base 5 "are_ranks" 3 (Gam 29)) : FnG P w K mg base 9 f fd a_shows_kept (Gam 31) := by
  obtain ⟨oc, od, dV, kV, doc, pm, an, cdv, ct, osl, rfl, lk, hcd, _, _⟩ := F.ex
  exact fg_of (k := 8) lk hcd sc_shows_kept (fun A outer s H hr hgd => t_shows_kept (Γ := Gam) B (FnAt.mono c_check_stand (by decide)) (FnAt.mono c_is_book (by decide)) (FnAt.mono c_are_ranks (by decide)) hr hgd) (by apply w_shows_kept <;> rfl)
theorem ok_least_most (F : FunD K "least_most" "least_most" (defArgs s_least_most) (defBody s_least_most) (defScope s_least_most) [] [] f fd) (B : Fx mg) (c_check_stand : FnAt P w K mg base 8 "check_stand" 3 (Gam 13)) (c_is_kept_at : FnAt P w K mg base 7 "is_kept_at" 3 (Gam 21)) : FnG P w K mg base 9 f fd a_least_most (Gam 32) := by
  obtain ⟨oc, od, dV, kV, doc, pm, an, cdv, ct, osl, rfl, lk, hcd, _, _⟩ := F.ex
  exact fg_of (k := 8) lk hcd sc_least_most (fun A outer s H hr hgd => t_least_most (Γ := Gam) B (FnAt.mono c_check_stand (by decide)) (FnAt.mono c_is_kept_at (by decide)) hr hgd) (by apply w_least_most <;> rfl)
theorem ok_least_heat (F : FunD K "least_heat" "least_heat" (defArgs s_least_heat) (defBody s_least_heat) (defScope s_least_heat) [] [] f fd) (B : Fx mg) (c_check_stand : FnAt P w K mg base 8 "check_stand" 3 (Gam 13)) (c_is_kept_at : FnAt P w K mg base 7 "is_kept_at" 3 (Gam 21)) : FnG P w K mg base 9 f fd a_least_heat (Gam 33) := by
  obtain ⟨oc, od, dV, kV, doc, pm, an, cdv, ct, osl, rfl, lk, hcd, _, _⟩ := F.ex
  exact fg_of (k := 8) lk hcd sc_least_heat (fun A outer s H hr hgd => t_least_heat (Γ := Gam) B (FnAt.mono c_check_stand (by decide)) (FnAt.mono c_is_kept_at (by decide)) hr hgd) (by apply w_least_heat <;> rfl)
theorem ok_coldest (F : FunD K "coldest" "coldest" (defArgs s_coldest) (defBody s_coldest) (defScope s_coldest) [] [] f fd) (B : Fx mg) (c_check_stand : FnAt P w K mg base 8 "check_stand" 3 (Gam 13)) (c_is_kept_at : FnAt P w K mg base 7 "is_kept_at" 3 (Gam 21)) (c_colder : FnAt P w K mg base 1 "colder" 2 (Gam 34)) : FnG P w K mg base 9 f fd a_coldest (Gam 35) := by
  obtain ⟨oc, od, dV, kV, doc, pm, an, cdv, ct, osl, rfl, lk, hcd, _, _⟩ := F.ex
  exact fg_of (k := 8) lk hcd sc_coldest (fun A outer s H hr hgd => t_coldest (Γ := Gam) B (FnAt.mono c_check_stand (by decide)) (FnAt.mono c_is_kept_at (by decide)) (FnAt.mono c_colder (by decide)) hr hgd) (by apply w_coldest <;> rfl)
theorem ok__law_others_right (F : FunD K "_law_others_right" "_law_others_right" (defArgs s__law_others_right) (defBody s__law_others_right) (defScope s__law_others_right) [] [] f fd) (B : Fx mg) (c_least_most : FnAt P w K mg base 9 "least_most" 3 (Gam 32)) (c_least_heat : FnAt P w K mg base 9 "least_heat" 3 (Gam 33)) (c_coldest : FnAt P w K mg base 9 "coldest" 3 (Gam 35)) (c__law_lost : FnAt P w K mg base 2 "_law_lost" 2 (Gam 44)) (c__law_colder : FnAt P w K mg base 1 "_law_colder" 2 (Gam 46)) : FnG P w K mg base 10 f fd a__law_others_right (Gam 47) := by
  obtain ⟨oc, od, dV, kV, doc, pm, an, cdv, ct, osl, rfl, lk, hcd, _, _⟩ := F.ex
  exact fg_of (k := 9) lk hcd sc__law_others_right (fun A outer s H hr hgd => t__law_others_right (Γ := Gam) B (FnAt.mono c_least_most (by decide)) (FnAt.mono c_least_heat (by decide)) (FnAt.mono c_coldest (by decide)) (FnAt.mono c__law_lost (by decide)) (FnAt.mono c__law_colder (by decide)) hr hgd) (by apply w__law_others_right <;> rfl)
theorem ok__law_right (F : FunD K "_law_right" "_law_right" (defArgs s__law_right) (defBody s__law_right) (defScope s__law_right) [] [] f fd) (B : Fx mg) (c_always : FnAt P w K mg base 8 "always" 2 (Gam 23)) (c_firing : FnAt P w K mg base 8 "firing" 2 (Gam 24)) (c_lost_by : FnAt P w K mg base 9 "lost_by" 3 (Gam 25)) (c_kept_told : FnAt P w K mg base 9 "kept_told" 3 (Gam 26)) (c_shows_kept : FnAt P w K mg base 9 "shows_kept" 4 (Gam 31)) (c__law_take : FnAt P w K mg base 1 "_law_take" 2 (Gam 37)) (c__law_of : FnAt P w K mg base 2 "_law_of" 2 (Gam 38)) (c__law_stove : FnAt P w K mg base 3 "_law_stove" 2 (Gam 39)) (c__law_day : FnAt P w K mg base 3 "_law_day" 2 (Gam 40)) (c__law_stands : FnAt P w K mg base 1 "_law_stands" 2 (Gam 41)) (c__law_lost : FnAt P w K mg base 2 "_law_lost" 2 (Gam 44)) (c__law_fine : FnAt P w K mg base 2 "_law_fine" 4 (Gam 45)) : FnG P w K mg base 10 f fd a__law_right (Gam 48) := by
  obtain ⟨oc, od, dV, kV, doc, pm, an, cdv, ct, osl, rfl, lk, hcd, _, _⟩ := F.ex
  exact fg_of (k := 9) lk hcd sc__law_right (fun A outer s H hr hgd => t__law_right (Γ := Gam) B (FnAt.mono c_always (by decide)) (FnAt.mono c_firing (by decide)) (FnAt.mono c_lost_by (by decide)) (FnAt.mono c_kept_told (by decide)) (FnAt.mono c_shows_kept (by decide)) (FnAt.mono c__law_take (by decide)) (FnAt.mono c__law_of (by decide)) (FnAt.mono c__law_stove (by decide)) (FnAt.mono c__law_day (by decide)) (FnAt.mono c__law_stands (by decide)) (FnAt.mono c__law_lost (by decide)) (FnAt.mono c__law_fine (by decide)) hr hgd) (by apply w__law_right <;> rfl)
theorem ok__law_is_other_right (F : FunD K "_law_is_other_right" "_law_is_other_right" (defArgs s__law_is_other_right) (defBody s__law_is_other_right) (defScope s__law_is_other_right) [] [] f fd) (B : Fx mg) (c__law_take : FnAt P w K mg base 1 "_law_take" 2 (Gam 37)) (c__law_of : FnAt P w K mg base 2 "_law_of" 2 (Gam 38)) (c__law_stove : FnAt P w K mg base 3 "_law_stove" 2 (Gam 39)) (c__law_day : FnAt P w K mg base 3 "_law_day" 2 (Gam 40)) (c__law_stands : FnAt P w K mg base 1 "_law_stands" 2 (Gam 41)) (c__law_lost : FnAt P w K mg base 2 "_law_lost" 2 (Gam 44)) (c__law_others_right : FnAt P w K mg base 10 "_law_others_right" 4 (Gam 47)) : FnG P w K mg base 11 f fd a__law_is_other_right (Gam 49) := by
  obtain ⟨oc, od, dV, kV, doc, pm, an, cdv, ct, osl, rfl, lk, hcd, _, _⟩ := F.ex
  exact fg_of (k := 10) lk hcd sc__law_is_other_right (fun A outer s H hr hgd => t__law_is_other_right (Γ := Gam) B (FnAt.mono c__law_take (by decide)) (FnAt.mono c__law_of (by decide)) (FnAt.mono c__law_stove (by decide)) (FnAt.mono c__law_day (by decide)) (FnAt.mono c__law_stands (by decide)) (FnAt.mono c__law_lost (by decide)) (FnAt.mono c__law_others_right (by decide)) hr hgd) (by apply w__law_is_other_right <;> rfl)
theorem ok_law (F : FunD K "law" "law" (defArgs s_law) (defBody s_law) (defScope s_law) [] [] f fd) (B : Fx mg) (c__law_pot : FnAt P w K mg base 1 "_law_pot" 2 (Gam 36)) (c__law_right : FnAt P w K mg base 10 "_law_right" 1 (Gam 48)) (c__law_is_other_right : FnAt P w K mg base 11 "_law_is_other_right" 1 (Gam 49)) : FnG P w K mg base 12 f fd a_law (Gam 50) := by
  obtain ⟨oc, od, dV, kV, doc, pm, an, cdv, ct, osl, rfl, lk, hcd, _, _⟩ := F.ex
  exact fg_of (k := 11) lk hcd sc_law (fun A outer s H hr hgd => t_law (Γ := Gam) B (FnAt.mono c__law_pot (by decide)) (FnAt.mono c__law_right (by decide)) (FnAt.mono c__law_is_other_right (by decide)) hr hgd) (by apply w_law <;> rfl)
end
theorem facts {P : Program} {w : World} {K : PySem.W.Frag} {h : Heap} {mg : Str → Option Value} {f : Addr} (X : K.In h) (G : h.Ns mainGlobals mg) (hfa : mg ("law" : Str) = some (.ref f)) (c : He.SaysD fa fn K) :
    ∃ fd : FuncData, (∀ (s : Shared) (v : Value), BindsTo s fd ⟨[v], []⟩ [("script", v)]) ∧ ∀ base : Heap, K.In base → base.Ns mainGlobals mg → FnG P w K mg base 12 f fd ["script"] S_law := by
  obtain ⟨fd_is_integer, F_is_integer⟩ := c.def_ 0 (d := d_is_integer) rfl
  have g_is_integer := He.glo_ok X G (c.fact 0 (f := .glo "is_integer") rfl)
  obtain ⟨fd_does_rise, F_does_rise⟩ := c.def_ 3 (d := d_does_rise) rfl
  have g_does_rise := He.glo_ok X G (c.fact 3 (f := .glo "does_rise") rfl)
  obtain ⟨fd_logs_by, F_logs_by⟩ := c.def_ 6 (d := d_logs_by) rfl
  have g_logs_by := He.glo_ok X G (c.fact 6 (f := .glo "logs_by") rfl)
  obtain ⟨fd_fired, F_fired⟩ := c.def_ 7 (d := d_fired) rfl
  have g_fired := He.glo_ok X G (c.fact 7 (f := .glo "fired") rfl)
  obtain ⟨fd_weathers_in, F_weathers_in⟩ := c.def_ 14 (d := d_weathers_in) rfl
  have g_weathers_in := He.glo_ok X G (c.fact 14 (f := .glo "weathers_in") rfl)
  obtain ⟨fd_stands_of, F_stands_of⟩ := c.def_ 17 (d := d_stands_of) rfl
  have g_stands_of := He.glo_ok X G (c.fact 17 (f := .glo "stands_of") rfl)
  obtain ⟨fd_colder, F_colder⟩ := c.def_ 34 (d := d_colder) rfl
  have g_colder := He.glo_ok X G (c.fact 34 (f := .glo "colder") rfl)
  obtain ⟨fd__law_pot, F__law_pot⟩ := c.def_ 36 (d := d__law_pot) rfl
  have g__law_pot := He.glo_ok X G (c.fact 36 (f := .glo "_law_pot") rfl)
  obtain ⟨fd__law_take, F__law_take⟩ := c.def_ 37 (d := d__law_take) rfl
  have g__law_take := He.glo_ok X G (c.fact 37 (f := .glo "_law_take") rfl)
  obtain ⟨fd__law_stands, F__law_stands⟩ := c.def_ 41 (d := d__law_stands) rfl
  have g__law_stands := He.glo_ok X G (c.fact 41 (f := .glo "_law_stands") rfl)
  obtain ⟨fd__law_behind, F__law_behind⟩ := c.def_ 42 (d := d__law_behind) rfl
  have g__law_behind := He.glo_ok X G (c.fact 42 (f := .glo "_law_behind") rfl)
  obtain ⟨fd__law_logs, F__law_logs⟩ := c.def_ 43 (d := d__law_logs) rfl
  have g__law_logs := He.glo_ok X G (c.fact 43 (f := .glo "_law_logs") rfl)
  obtain ⟨fd__law_colder, F__law_colder⟩ := c.def_ 46 (d := d__law_colder) rfl
  have g__law_colder := He.glo_ok X G (c.fact 46 (f := .glo "_law_colder") rfl)
  obtain ⟨fd_is_between, F_is_between⟩ := c.def_ 1 (d := d_is_between) rfl
  have g_is_between := He.glo_ok X G (c.fact 1 (f := .glo "is_between") rfl)
  obtain ⟨fd_one_behind, F_one_behind⟩ := c.def_ 15 (d := d_one_behind) rfl
  have g_one_behind := He.glo_ok X G (c.fact 15 (f := .glo "one_behind") rfl)
  obtain ⟨fd__law_of, F__law_of⟩ := c.def_ 38 (d := d__law_of) rfl
  have g__law_of := He.glo_ok X G (c.fact 38 (f := .glo "_law_of") rfl)
  obtain ⟨fd__law_lost, F__law_lost⟩ := c.def_ 44 (d := d__law_lost) rfl
  have g__law_lost := He.glo_ok X G (c.fact 44 (f := .glo "_law_lost") rfl)
  obtain ⟨fd__law_fine, F__law_fine⟩ := c.def_ 45 (d := d__law_fine) rfl
  have g__law_fine := He.glo_ok X G (c.fact 45 (f := .glo "_law_fine") rfl)
  obtain ⟨fd_are_between, F_are_between⟩ := c.def_ 2 (d := d_are_between) rfl
  have g_are_between := He.glo_ok X G (c.fact 2 (f := .glo "are_between") rfl)
  obtain ⟨fd_is_stand_of, F_is_stand_of⟩ := c.def_ 12 (d := d_is_stand_of) rfl
  have g_is_stand_of := He.glo_ok X G (c.fact 12 (f := .glo "is_stand_of") rfl)
  obtain ⟨fd_rows_behind, F_rows_behind⟩ := c.def_ 16 (d := d_rows_behind) rfl
  have g_rows_behind := He.glo_ok X G (c.fact 16 (f := .glo "rows_behind") rfl)
  obtain ⟨fd__law_stove, F__law_stove⟩ := c.def_ 39 (d := d__law_stove) rfl
  have g__law_stove := He.glo_ok X G (c.fact 39 (f := .glo "_law_stove") rfl)
  obtain ⟨fd__law_day, F__law_day⟩ := c.def_ 40 (d := d__law_day) rfl
  have g__law_day := He.glo_ok X G (c.fact 40 (f := .glo "_law_day") rfl)
  obtain ⟨fd_is_stove, F_is_stove⟩ := c.def_ 4 (d := d_is_stove) rfl
  have g_is_stove := He.glo_ok X G (c.fact 4 (f := .glo "is_stove") rfl)
  obtain ⟨fd_is_span, F_is_span⟩ := c.def_ 8 (d := d_is_span) rfl
  have g_is_span := He.glo_ok X G (c.fact 8 (f := .glo "is_span") rfl)
  obtain ⟨fd_does_lead, F_does_lead⟩ := c.def_ 18 (d := d_does_lead) rfl
  have g_does_lead := He.glo_ok X G (c.fact 18 (f := .glo "does_lead") rfl)
  obtain ⟨fd_are_rows, F_are_rows⟩ := c.def_ 27 (d := d_are_rows) rfl
  have g_are_rows := He.glo_ok X G (c.fact 27 (f := .glo "are_rows") rfl)
  obtain ⟨fd_is_worse, F_is_worse⟩ := c.def_ 30 (d := d_is_worse) rfl
  have g_is_worse := He.glo_ok X G (c.fact 30 (f := .glo "is_worse") rfl)
  obtain ⟨fd_check_stove, F_check_stove⟩ := c.def_ 5 (d := d_check_stove) rfl
  have g_check_stove := He.glo_ok X G (c.fact 5 (f := .glo "check_stove") rfl)
  obtain ⟨fd_is_hour, F_is_hour⟩ := c.def_ 9 (d := d_is_hour) rfl
  have g_is_hour := He.glo_ok X G (c.fact 9 (f := .glo "is_hour") rfl)
  obtain ⟨fd_logs_within, F_logs_within⟩ := c.def_ 19 (d := d_logs_within) rfl
  have g_logs_within := He.glo_ok X G (c.fact 19 (f := .glo "logs_within") rfl)
  obtain ⟨fd_is_book, F_is_book⟩ := c.def_ 28 (d := d_is_book) rfl
  have g_is_book := He.glo_ok X G (c.fact 28 (f := .glo "is_book") rfl)
  obtain ⟨fd_are_ranks, F_are_ranks⟩ := c.def_ 29 (d := d_are_ranks) rfl
  have g_are_ranks := He.glo_ok X G (c.fact 29 (f := .glo "are_ranks") rfl)
  obtain ⟨fd_is_day, F_is_day⟩ := c.def_ 10 (d := d_is_day) rfl
  have g_is_day := He.glo_ok X G (c.fact 10 (f := .glo "is_day") rfl)
  obtain ⟨fd_ranks_of, F_ranks_of⟩ := c.def_ 20 (d := d_ranks_of) rfl
  have g_ranks_of := He.glo_ok X G (c.fact 20 (f := .glo "ranks_of") rfl)
  obtain ⟨fd_book_of, F_book_of⟩ := c.def_ 22 (d := d_book_of) rfl
  have g_book_of := He.glo_ok X G (c.fact 22 (f := .glo "book_of") rfl)
  obtain ⟨fd_check_day, F_check_day⟩ := c.def_ 11 (d := d_check_day) rfl
  have g_check_day := He.glo_ok X G (c.fact 11 (f := .glo "check_day") rfl)
  obtain ⟨fd_is_kept_at, F_is_kept_at⟩ := c.def_ 21 (d := d_is_kept_at) rfl
  have g_is_kept_at := He.glo_ok X G (c.fact 21 (f := .glo "is_kept_at") rfl)
  obtain ⟨fd_check_stand, F_check_stand⟩ := c.def_ 13 (d := d_check_stand) rfl
  have g_check_stand := He.glo_ok X G (c.fact 13 (f := .glo "check_stand") rfl)
  obtain ⟨fd_always, F_always⟩ := c.def_ 23 (d := d_always) rfl
  have g_always := He.glo_ok X G (c.fact 23 (f := .glo "always") rfl)
  obtain ⟨fd_firing, F_firing⟩ := c.def_ 24 (d := d_firing) rfl
  have g_firing := He.glo_ok X G (c.fact 24 (f := .glo "firing") rfl)
  obtain ⟨fd_lost_by, F_lost_by⟩ := c.def_ 25 (d := d_lost_by) rfl
  have g_lost_by := He.glo_ok X G (c.fact 25 (f := .glo "lost_by") rfl)
  obtain ⟨fd_kept_told, F_kept_told⟩ := c.def_ 26 (d := d_kept_told) rfl
  have g_kept_told := He.glo_ok X G (c.fact 26 (f := .glo "kept_told") rfl)
  obtain ⟨fd_shows_kept, F_shows_kept⟩ := c.def_ 31 (d := d_shows_kept) rfl
  have g_shows_kept := He.glo_ok X G (c.fact 31 (f := .glo "shows_kept") rfl)
  obtain ⟨fd_least_most, F_least_most⟩ := c.def_ 32 (d := d_least_most) rfl
  have g_least_most := He.glo_ok X G (c.fact 32 (f := .glo "least_most") rfl)
  obtain ⟨fd_least_heat, F_least_heat⟩ := c.def_ 33 (d := d_least_heat) rfl
  have g_least_heat := He.glo_ok X G (c.fact 33 (f := .glo "least_heat") rfl)
  obtain ⟨fd_coldest, F_coldest⟩ := c.def_ 35 (d := d_coldest) rfl
  have g_coldest := He.glo_ok X G (c.fact 35 (f := .glo "coldest") rfl)
  obtain ⟨fd__law_others_right, F__law_others_right⟩ := c.def_ 47 (d := d__law_others_right) rfl
  have g__law_others_right := He.glo_ok X G (c.fact 47 (f := .glo "_law_others_right") rfl)
  obtain ⟨fd__law_right, F__law_right⟩ := c.def_ 48 (d := d__law_right) rfl
  have g__law_right := He.glo_ok X G (c.fact 48 (f := .glo "_law_right") rfl)
  obtain ⟨fd__law_is_other_right, F__law_is_other_right⟩ := c.def_ 49 (d := d__law_is_other_right) rfl
  have g__law_is_other_right := He.glo_ok X G (c.fact 49 (f := .glo "_law_is_other_right") rfl)
  obtain ⟨fd_law, F_law⟩ := c.def_ 50 (d := d_law) rfl
  have g_law := He.glo_ok X G (c.fact 50 (f := .glo "law") rfl)
  have B : Fx mg := ⟨He.free_ok X G (c.fact 63 (f := .free "abs") rfl), He.free_ok X G (c.fact 64 (f := .free "all") rfl), He.free_ok X G (c.fact 65 (f := .free "any") rfl), He.free_ok X G (c.fact 66 (f := .free "bool") rfl), He.free_ok X G (c.fact 67 (f := .free "dict") rfl), He.free_ok X G (c.fact 68 (f := .free "enumerate") rfl), He.free_ok X G (c.fact 69 (f := .free "int") rfl), He.free_ok X G (c.fact 70 (f := .free "isinstance") rfl), He.free_ok X G (c.fact 71 (f := .free "len") rfl), He.free_ok X G (c.fact 72 (f := .free "list") rfl), He.free_ok X G (c.fact 73 (f := .free "max") rfl), He.free_ok X G (c.fact 74 (f := .free "min") rfl), He.free_ok X G (c.fact 75 (f := .free "range") rfl), He.free_ok X G (c.fact 76 (f := .free "repr") rfl), He.free_ok X G (c.fact 77 (f := .free "sorted") rfl), He.free_ok X G (c.fact 78 (f := .free "str") rfl), He.free_ok X G (c.fact 79 (f := .free "sum") rfl), He.free_ok X G (c.fact 80 (f := .free "super") rfl), He.free_ok X G (c.fact 81 (f := .free "tuple") rfl), He.free_ok X G (c.fact 82 (f := .free "zip") rfl), He.int_ok X G (c.fact 51 (f := .int "MOST_HOLDS" 10) rfl), He.int_ok X G (c.fact 52 (f := .int "MOST_HEAT" 5) rfl), He.int_ok X G (c.fact 53 (f := .int "MOST_LOGS" 4) rfl), He.int_ok X G (c.fact 54 (f := .int "FOUR" 4) rfl), He.int_ok X G (c.fact 55 (f := .int "MOST_HOURS" 6) rfl), He.int_ok X G (c.fact 56 (f := .int "MOST_ROOM" 12) rfl), He.int_ok X G (c.fact 57 (f := .int "MILDEST" (-4)) rfl), He.int_ok X G (c.fact 58 (f := .int "COLDEST" 8) rfl), He.int_ok X G (c.fact 59 (f := .int "THREE" 3) rfl), He.int_ok X G (c.fact 60 (f := .int "MOST_COLDER" 12) rfl), He.str_ok X G (c.fact 61 (f := .str "KEPT" "kept") rfl), He.str_ok X G (c.fact 62 (f := .str "LOST" "lost") rfl)⟩
  have e := hfa.symm.trans g_law
  cases e
  refine ⟨fd_law, fun s v => (FunD.bindsA (ps := ["script"]) F_law fun _ _ _ _ _ _ us hl => match us, hl with | [_], _ => rfl) s [v] rfl, fun base _ _ => ?_⟩
  have c_is_integer : FnAt P w K mg base 1 "is_integer" 1 (Gam 0) := ⟨_, _, a_is_integer, g_is_integer, F_is_integer.kp, F_is_integer.bindsN fun _ _ _ _ _ _ us hl => match us, hl with | [_], _ => rfl, rfl, ok_is_integer F_is_integer B ⟩
  have c_does_rise : FnAt P w K mg base 1 "does_rise" 1 (Gam 3) := ⟨_, _, a_does_rise, g_does_rise, F_does_rise.kp, F_does_rise.bindsN fun _ _ _ _ _ _ us hl => match us, hl with | [_], _ => rfl, rfl, ok_does_rise F_does_rise B ⟩
  have c_logs_by : FnAt P w K mg base 1 "logs_by" 2 (Gam 6) := ⟨_, _, a_logs_by, g_logs_by, F_logs_by.kp, F_logs_by.bindsN fun _ _ _ _ _ _ us hl => match us, hl with | [_, _], _ => rfl, rfl, ok_logs_by F_logs_by B ⟩
  have c_fired : FnAt P w K mg base 1 "fired" 3 (Gam 7) := ⟨_, _, a_fired, g_fired, F_fired.kp, F_fired.bindsN fun _ _ _ _ _ _ us hl => match us, hl with | [_, _, _], _ => rfl, rfl, ok_fired F_fired B ⟩
  have c_weathers_in : FnAt P w K mg base 1 "weathers_in" 2 (Gam 14) := ⟨_, _, a_weathers_in, g_weathers_in, F_weathers_in.kp, F_weathers_in.bindsN fun _ _ _ _ _ _ us hl => match us, hl with | [_, _], _ => rfl, rfl, ok_weathers_in F_weathers_in B ⟩
  have c_stands_of : FnAt P w K mg base 1 "stands_of" 2 (Gam 17) := ⟨_, _, a_stands_of, g_stands_of, F_stands_of.kp, F_stands_of.bindsN fun _ _ _ _ _ _ us hl => match us, hl with | [_, _], _ => rfl, rfl, ok_stands_of F_stands_of B ⟩
  have c_colder : FnAt P w K mg base 1 "colder" 2 (Gam 34) := ⟨_, _, a_colder, g_colder, F_colder.kp, F_colder.bindsN fun _ _ _ _ _ _ us hl => match us, hl with | [_, _], _ => rfl, rfl, ok_colder F_colder B ⟩
  have c__law_pot : FnAt P w K mg base 1 "_law_pot" 2 (Gam 36) := ⟨_, _, a__law_pot, g__law_pot, F__law_pot.kp, F__law_pot.bindsN fun _ _ _ _ _ _ us hl => match us, hl with | [_, _], _ => rfl, rfl, ok__law_pot F__law_pot B ⟩
  have c__law_take : FnAt P w K mg base 1 "_law_take" 2 (Gam 37) := ⟨_, _, a__law_take, g__law_take, F__law_take.kp, F__law_take.bindsN fun _ _ _ _ _ _ us hl => match us, hl with | [_, _], _ => rfl, rfl, ok__law_take F__law_take B ⟩
  have c__law_stands : FnAt P w K mg base 1 "_law_stands" 2 (Gam 41) := ⟨_, _, a__law_stands, g__law_stands, F__law_stands.kp, F__law_stands.bindsN fun _ _ _ _ _ _ us hl => match us, hl with | [_, _], _ => rfl, rfl, ok__law_stands F__law_stands B ⟩
  have c__law_behind : FnAt P w K mg base 1 "_law_behind" 4 (Gam 42) := ⟨_, _, a__law_behind, g__law_behind, F__law_behind.kp, F__law_behind.bindsN fun _ _ _ _ _ _ us hl => match us, hl with | [_, _, _, _], _ => rfl, rfl, ok__law_behind F__law_behind B ⟩
  have c__law_logs : FnAt P w K mg base 1 "_law_logs" 2 (Gam 43) := ⟨_, _, a__law_logs, g__law_logs, F__law_logs.kp, F__law_logs.bindsN fun _ _ _ _ _ _ us hl => match us, hl with | [_, _], _ => rfl, rfl, ok__law_logs F__law_logs B ⟩
  have c__law_colder : FnAt P w K mg base 1 "_law_colder" 2 (Gam 46) := ⟨_, _, a__law_colder, g__law_colder, F__law_colder.kp, F__law_colder.bindsN fun _ _ _ _ _ _ us hl => match us, hl with | [_, _], _ => rfl, rfl, ok__law_colder F__law_colder B ⟩
  have c_is_between : FnAt P w K mg base 2 "is_between" 3 (Gam 1) := ⟨_, _, a_is_between, g_is_between, F_is_between.kp, F_is_between.bindsN fun _ _ _ _ _ _ us hl => match us, hl with | [_, _, _], _ => rfl, rfl, ok_is_between F_is_between B c_is_integer⟩
  have c_one_behind : FnAt P w K mg base 2 "one_behind" 5 (Gam 15) := ⟨_, _, a_one_behind, g_one_behind, F_one_behind.kp, F_one_behind.bindsN fun _ _ _ _ _ _ us hl => match us, hl with | [_, _, _, _, _], _ => rfl, rfl, ok_one_behind F_one_behind B c_fired⟩
  have c__law_of : FnAt P w K mg base 2 "_law_of" 2 (Gam 38) := ⟨_, _, a__law_of, g__law_of, F__law_of.kp, F__law_of.bindsN fun _ _ _ _ _ _ us hl => match us, hl with | [_, _], _ => rfl, rfl, ok__law_of F__law_of B c__law_take⟩
  have c__law_lost : FnAt P w K mg base 2 "_law_lost" 2 (Gam 44) := ⟨_, _, a__law_lost, g__law_lost, F__law_lost.kp, F__law_lost.bindsN fun _ _ _ _ _ _ us hl => match us, hl with | [_, _], _ => rfl, rfl, ok__law_lost F__law_lost B c__law_stands c__law_behind c__law_logs⟩
  have c__law_fine : FnAt P w K mg base 2 "_law_fine" 4 (Gam 45) := ⟨_, _, a__law_fine, g__law_fine, F__law_fine.kp, F__law_fine.bindsN fun _ _ _ _ _ _ us hl => match us, hl with | [_, _, _, _], _ => rfl, rfl, ok__law_fine F__law_fine B c__law_behind c__law_logs⟩
  have c_are_between : FnAt P w K mg base 3 "are_between" 3 (Gam 2) := ⟨_, _, a_are_between, g_are_between, F_are_between.kp, F_are_between.bindsN fun _ _ _ _ _ _ us hl => match us, hl with | [_, _, _], _ => rfl, rfl, ok_are_between F_are_between B c_is_between⟩
  have c_is_stand_of : FnAt P w K mg base 3 "is_stand_of" 3 (Gam 12) := ⟨_, _, a_is_stand_of, g_is_stand_of, F_is_stand_of.kp, F_is_stand_of.bindsN fun _ _ _ _ _ _ us hl => match us, hl with | [_, _, _], _ => rfl, rfl, ok_is_stand_of F_is_stand_of B c_is_between⟩
  have c_rows_behind : FnAt P w K mg base 3 "rows_behind" 4 (Gam 16) := ⟨_, _, a_rows_behind, g_rows_behind, F_rows_behind.kp, F_rows_behind.bindsN fun _ _ _ _ _ _ us hl => match us, hl with | [_, _, _, _], _ => rfl, rfl, ok_rows_behind F_rows_behind B c_weathers_in c_one_behind⟩
  have c__law_stove : FnAt P w K mg base 3 "_law_stove" 2 (Gam 39) := ⟨_, _, a__law_stove, g__law_stove, F__law_stove.kp, F__law_stove.bindsN fun _ _ _ _ _ _ us hl => match us, hl with | [_, _], _ => rfl, rfl, ok__law_stove F__law_stove B c__law_take c__law_of⟩
  have c__law_day : FnAt P w K mg base 3 "_law_day" 2 (Gam 40) := ⟨_, _, a__law_day, g__law_day, F__law_day.kp, F__law_day.bindsN fun _ _ _ _ _ _ us hl => match us, hl with | [_, _], _ => rfl, rfl, ok__law_day F__law_day B c__law_take c__law_of⟩
  have c_is_stove : FnAt P w K mg base 4 "is_stove" 1 (Gam 4) := ⟨_, _, a_is_stove, g_is_stove, F_is_stove.kp, F_is_stove.bindsN fun _ _ _ _ _ _ us hl => match us, hl with | [_], _ => rfl, rfl, ok_is_stove F_is_stove B c_is_between c_are_between c_does_rise⟩
  have c_is_span : FnAt P w K mg base 4 "is_span" 3 (Gam 8) := ⟨_, _, a_is_span, g_is_span, F_is_span.kp, F_is_span.bindsN fun _ _ _ _ _ _ us hl => match us, hl with | [_, _, _], _ => rfl, rfl, ok_is_span F_is_span B c_are_between⟩
  have c_does_lead : FnAt P w K mg base 4 "does_lead" 5 (Gam 18) := ⟨_, _, a_does_lead, g_does_lead, F_does_lead.kp, F_does_lead.bindsN fun _ _ _ _ _ _ us hl => match us, hl with | [_, _, _, _, _], _ => rfl, rfl, ok_does_lead F_does_lead B c_rows_behind⟩
  have c_are_rows : FnAt P w K mg base 4 "are_rows" 3 (Gam 27) := ⟨_, _, a_are_rows, g_are_rows, F_are_rows.kp, F_are_rows.bindsN fun _ _ _ _ _ _ us hl => match us, hl with | [_, _, _], _ => rfl, rfl, ok_are_rows F_are_rows B c_is_stand_of⟩
  have c_is_worse : FnAt P w K mg base 4 "is_worse" 5 (Gam 30) := ⟨_, _, a_is_worse, g_is_worse, F_is_worse.kp, F_is_worse.bindsN fun _ _ _ _ _ _ us hl => match us, hl with | [_, _, _, _, _], _ => rfl, rfl, ok_is_worse F_is_worse B c_is_stand_of⟩
  have c_check_stove : FnAt P w K mg base 5 "check_stove" 1 (Gam 5) := ⟨_, _, a_check_stove, g_check_stove, F_check_stove.kp, F_check_stove.bindsN fun _ _ _ _ _ _ us hl => match us, hl with | [_], _ => rfl, rfl, ok_check_stove F_check_stove B c_is_stove⟩
  have c_is_hour : FnAt P w K mg base 5 "is_hour" 1 (Gam 9) := ⟨_, _, a_is_hour, g_is_hour, F_is_hour.kp, F_is_hour.bindsN fun _ _ _ _ _ _ us hl => match us, hl with | [_], _ => rfl, rfl, ok_is_hour F_is_hour B c_is_span⟩
  have c_logs_within : FnAt P w K mg base 5 "logs_within" 4 (Gam 19) := ⟨_, _, a_logs_within, g_logs_within, F_logs_within.kp, F_logs_within.bindsN fun _ _ _ _ _ _ us hl => match us, hl with | [_, _, _, _], _ => rfl, rfl, ok_logs_within F_logs_within B c_logs_by c_does_lead⟩
  have c_is_book : FnAt P w K mg base 5 "is_book" 3 (Gam 28) := ⟨_, _, a_is_book, g_is_book, F_is_book.kp, F_is_book.bindsN fun _ _ _ _ _ _ us hl => match us, hl with | [_, _, _], _ => rfl, rfl, ok_is_book F_is_book B c_is_between c_logs_by c_does_lead c_are_rows⟩
  have c_are_ranks : FnAt P w K mg base 5 "are_ranks" 3 (Gam 29) := ⟨_, _, a_are_ranks, g_are_ranks, F_are_ranks.kp, F_are_ranks.bindsN fun _ _ _ _ _ _ us hl => match us, hl with | [_, _, _], _ => rfl, rfl, ok_are_ranks F_are_ranks B c_is_integer c_logs_by c_rows_behind c_are_rows c_is_worse⟩
  have c_is_day : FnAt P w K mg base 6 "is_day" 1 (Gam 10) := ⟨_, _, a_is_day, g_is_day, F_is_day.kp, F_is_day.bindsN fun _ _ _ _ _ _ us hl => match us, hl with | [_], _ => rfl, rfl, ok_is_day F_is_day B c_is_hour⟩
  have c_ranks_of : FnAt P w K mg base 6 "ranks_of" 2 (Gam 20) := ⟨_, _, a_ranks_of, g_ranks_of, F_ranks_of.kp, F_ranks_of.bindsN fun _ _ _ _ _ _ us hl => match us, hl with | [_, _], _ => rfl, rfl, ok_ranks_of F_ranks_of B c_stands_of c_logs_within⟩
  have c_book_of : FnAt P w K mg base 6 "book_of" 3 (Gam 22) := ⟨_, _, a_book_of, g_book_of, F_book_of.kp, F_book_of.bindsN fun _ _ _ _ _ _ us hl => match us, hl with | [_, _, _], _ => rfl, rfl, ok_book_of F_book_of B c_logs_within⟩
  have c_check_day : FnAt P w K mg base 7 "check_day" 2 (Gam 11) := ⟨_, _, a_check_day, g_check_day, F_check_day.kp, F_check_day.bindsN fun _ _ _ _ _ _ us hl => match us, hl with | [_, _], _ => rfl, rfl, ok_check_day F_check_day B c_check_stove c_is_day⟩
  have c_is_kept_at : FnAt P w K mg base 7 "is_kept_at" 3 (Gam 21) := ⟨_, _, a_is_kept_at, g_is_kept_at, F_is_kept_at.kp, F_is_kept_at.bindsN fun _ _ _ _ _ _ us hl => match us, hl with | [_, _, _], _ => rfl, rfl, ok_is_kept_at F_is_kept_at B c_ranks_of⟩
  have c_check_stand : FnAt P w K mg base 8 "check_stand" 3 (Gam 13) := ⟨_, _, a_check_stand, g_check_stand, F_check_stand.kp, F_check_stand.bindsN fun _ _ _ _ _ _ us hl => match us, hl with | [_, _, _], _ => rfl, rfl, ok_check_stand F_check_stand B c_check_day c_is_stand_of⟩
  have c_always : FnAt P w K mg base 8 "always" 2 (Gam 23) := ⟨_, _, a_always, g_always, F_always.kp, F_always.bindsN fun _ _ _ _ _ _ us hl => match us, hl with | [_, _], _ => rfl, rfl, ok_always F_always B c_check_day c_ranks_of⟩
  have c_firing : FnAt P w K mg base 8 "firing" 2 (Gam 24) := ⟨_, _, a_firing, g_firing, F_firing.kp, F_firing.bindsN fun _ _ _ _ _ _ us hl => match us, hl with | [_, _], _ => rfl, rfl, ok_firing F_firing B c_check_day c_ranks_of c_book_of⟩
  have c_lost_by : FnAt P w K mg base 9 "lost_by" 3 (Gam 25) := ⟨_, _, a_lost_by, g_lost_by, F_lost_by.kp, F_lost_by.bindsN fun _ _ _ _ _ _ us hl => match us, hl with | [_, _, _], _ => rfl, rfl, ok_lost_by F_lost_by B c_check_stand c_ranks_of⟩
  have c_kept_told : FnAt P w K mg base 9 "kept_told" 3 (Gam 26) := ⟨_, _, a_kept_told, g_kept_told, F_kept_told.kp, F_kept_told.bindsN fun _ _ _ _ _ _ us hl => match us, hl with | [_, _, _], _ => rfl, rfl, ok_kept_told F_kept_told B c_check_stand c_ranks_of c_book_of⟩
  have c_shows_kept : FnAt P w K mg base 9 "shows_kept" 4 (Gam 31) := ⟨_, _, a_shows_kept, g_shows_kept, F_shows_kept.kp, F_shows_kept.bindsN fun _ _ _ _ _ _ us hl => match us, hl with | [_, _, _, _], _ => rfl, rfl, ok_shows_kept F_shows_kept B c_check_stand c_is_book c_are_ranks⟩
  have c_least_most : FnAt P w K mg base 9 "least_most" 3 (Gam 32) := ⟨_, _, a_least_most, g_least_most, F_least_most.kp, F_least_most.bindsN fun _ _ _ _ _ _ us hl => match us, hl with | [_, _, _], _ => rfl, rfl, ok_least_most F_least_most B c_check_stand c_is_kept_at⟩
  have c_least_heat : FnAt P w K mg base 9 "least_heat" 3 (Gam 33) := ⟨_, _, a_least_heat, g_least_heat, F_least_heat.kp, F_least_heat.bindsN fun _ _ _ _ _ _ us hl => match us, hl with | [_, _, _], _ => rfl, rfl, ok_least_heat F_least_heat B c_check_stand c_is_kept_at⟩
  have c_coldest : FnAt P w K mg base 9 "coldest" 3 (Gam 35) := ⟨_, _, a_coldest, g_coldest, F_coldest.kp, F_coldest.bindsN fun _ _ _ _ _ _ us hl => match us, hl with | [_, _, _], _ => rfl, rfl, ok_coldest F_coldest B c_check_stand c_is_kept_at c_colder⟩
  have c__law_others_right : FnAt P w K mg base 10 "_law_others_right" 4 (Gam 47) := ⟨_, _, a__law_others_right, g__law_others_right, F__law_others_right.kp, F__law_others_right.bindsN fun _ _ _ _ _ _ us hl => match us, hl with | [_, _, _, _], _ => rfl, rfl, ok__law_others_right F__law_others_right B c_least_most c_least_heat c_coldest c__law_lost c__law_colder⟩
  have c__law_right : FnAt P w K mg base 10 "_law_right" 1 (Gam 48) := ⟨_, _, a__law_right, g__law_right, F__law_right.kp, F__law_right.bindsN fun _ _ _ _ _ _ us hl => match us, hl with | [_], _ => rfl, rfl, ok__law_right F__law_right B c_always c_firing c_lost_by c_kept_told c_shows_kept c__law_take c__law_of c__law_stove c__law_day c__law_stands c__law_lost c__law_fine⟩
  have c__law_is_other_right : FnAt P w K mg base 11 "_law_is_other_right" 1 (Gam 49) := ⟨_, _, a__law_is_other_right, g__law_is_other_right, F__law_is_other_right.kp, F__law_is_other_right.bindsN fun _ _ _ _ _ _ us hl => match us, hl with | [_], _ => rfl, rfl, ok__law_is_other_right F__law_is_other_right B c__law_take c__law_of c__law_stove c__law_day c__law_stands c__law_lost c__law_others_right⟩
  exact ok_law F_law B c__law_pot c__law_right c__law_is_other_right
end Lw
open PySem PySem.W PySem.Calls PyProof.Rows
theorem PySem.Challenge.cw_warmeveryhour_k97_whole_great_stoves_and_holds : PySem.Challenge.rw_warmeveryhour_k97_whole_great_stoves_and.Holds := by
  w_on; o_law
  refine HandSHeadRun.head_any (r := OpenLaw.row PySem.Challenge.rw_warmeveryhour_k97_whole_great_stoves_and) (q := view (OpenLaw.row PySem.Challenge.rw_warmeveryhour_k97_whole_great_stoves_and).prog [72]) (H := Lw.hk) (ob := Lw.ob) (M := 20000) (loose := Lw.loose) (d := HandSHeadRun.topDef (OpenLaw.row PySem.Challenge.rw_warmeveryhour_k97_whole_great_stoves_and).prog 72) (kwd := []) Lw.ob_eq
    (by kernel_rfl) (fun s => by kernel_rfl) Lw.run (by kernel_rfl) (by kernel_rfl) (by kernel_rfl) (by rfl) (by first | assumption | decide +kernel) (by decide +kernel) ⟨rfl, rfl, rfl, rfl, rfl, by decide +kernel⟩ ?hw ?hc
  case hw => w_witness2
  case hc =>
    refine DL.law_end (l := PySem.Challenge.rw_warmeveryhour_k97_whole_great_stoves_and) (n := 63) (k := 12) (x := "script") rfl (by decide) (by kernel_rfl) ⟨rfl, by decide, by decide⟩ ?F
    intro w mg fa h Y G hmg0
    obtain ⟨K, KX, c⟩ := Y
    have hmg : mg ("law" : PySem.Str) = some (.ref fa) := by
      have e : (HandSHeadRun.topDef (OpenLaw.row PySem.Challenge.rw_warmeveryhour_k97_whole_great_stoves_and).prog 72).name = ("law" : PySem.Str) := by kernel_rfl
      rw [← e]
      exact hmg0
    obtain ⟨fd, hb, hF⟩ := Lw.facts (P := (PySem.Challenge.rw_warmeveryhour_k97_whole_great_stoves_and).prog) (w := w) KX G hmg c
    exact ⟨K, fd, Lw.S_law, KX, hb, fun ns hl => ⟨ns, rfl, hl, rfl, fun _ => rfl⟩, hF⟩
