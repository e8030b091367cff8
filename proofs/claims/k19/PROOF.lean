import PyProof.Rows.All
import Wide.All
import OpenK.AllK
import Wide.FinOn
import HandS.ForMost
import HandS.TupAny
import HandS.TupMul
import HandS.Deep
import HandS.IsInst
import HandS.Style
import HandS.Zip
import HandS.Exc
import HandS.ExcOwn
import HandS.ExcIs
import HandS.TryMany
import HandS.Lambda
import HandS.EndTab
import HandS.WordsExc
import KE.SortData
import KE.KDictKeyed
import KE.KeyNested
import HandS.Text
import HandS.ExcCtx
import HandS.Conv
import HandS.TupLen
import KE.KDictDisplayH
import HandS.Walk
import PyProof.Rows.SeqMore
import KE.GoesEnum
import HandS.More
import HandS.Codes
import HandS.EndBits
import PySem.Challenge.RW_sparerings_k19_whole_texts_read_back
set_option Elab.async false
set_option linter.all false
set_option maxRecDepth 100000
set_option maxHeartbeats 4000000
/-! Dicts whose keys are texts, or tuples nested: exact objects of the heap. -/
namespace Pv
open PySem L2 PySem.Spec PyProof.Rows
abbrev D := PyData
/-- the hash of a key (a text's is the World's) -/
class HashW where
  hf : NestedKey → Int
  /-- the classes of errors -/
  xc : Nat → Value
mutual
def keyD : D → Option NestedKey
  | .none => some .none
  | .bool b => some (.num (if b = true then 1 else 0))
  | .int i => some (.num i)
  | .str x => some (.text x)
  | .tuple xs => (keyDs xs).map .tup
  | .list _ => none
  | .dict _ => none
def keyDs : List D → Option (List NestedKey)
  | [] => some []
  | x :: xs => (keyD x).bind fun k => (keyDs xs).map (k :: ·)
end
/-- the object at a, exactly -/
abbrev xO (a : Addr) (o : Obj) : HO := .ext fun h => h.get? a = some o
theorem xO_ok {P : Program} {w : World} {H : Hp} {h : Heap} {a : Addr} {o : Obj} (e : h.get? a = some o) : ObjOk P w H h a (xO a o) := ⟨e, ⟨o, e⟩, fun _ _ e1 k => k _ e1⟩
theorem xO_get {P : Program} {w : World} {H : Hp} {h : Heap} {a : Addr} {o : Obj} (x : ObjOk P w H h a (xO a o)) : h.get? a = some o := x.1
theorem xO_tbl {a : Addr} {o : Obj} : ∀ ps, xO a o ≠ .tbl ps := fun ps z => by cases z
section
variable [HashW]
inductive Ent : List NestedKey → List V → List V → List DictEntry → Prop
  | nil : Ent [] [] [] []
  | cons {nk k v e nks ks vs es} : RelV k e.key → RelV v e.val → e.hash = HashW.hf nk → Ent nks ks vs es → Ent (nk :: nks) (k :: ks) (v :: vs) (e :: es)
/-- the object is a dict of these keys and values -/
structure DCt (o : Obj) (nks : List NestedKey) (ks vs : List V) : Prop where
  ex : ∃ es ep, o.ExactDict ∧ o.data = .dict es ep ∧ Ent nks ks vs es.toList
  nd : nks.Nodup
  sz : nks.length ≤ 1000000
theorem Ent.len {nks ks vs es} (h : Ent nks ks vs es) : ks.length = nks.length ∧ vs.length = nks.length ∧ es.length = nks.length := by
  induction h with
  | nil => exact ⟨rfl, rfl, rfl⟩
  | cons _ _ _ _ ih => simp [ih]
def lookV : List NestedKey → List V → NestedKey → Option V
  | k :: ks, v :: vs, nk => if k = nk then some v else lookV ks vs nk
  | _, _, _ => none
def replV : List NestedKey → List V → NestedKey → V → List V
  | k :: ks, v :: vs, nk, x => (if k = nk then x else v) :: replV ks vs nk x
  | _, _, _, _ => []
/-- each key a tuple of the heap -/
inductive Refs : List V → List Addr → Prop
  | nil : Refs [] []
  | cons {b ks bs} : Refs ks bs → Refs (.ref b :: ks) (b :: bs)
theorem sizeM : 1000000 ≤ sizeLine := by rw [sizeLine_eq]; omega
section
variable {P : Program} {w : World}
theorem Ent.keyed {nks : List NestedKey} {ks vs : List V} {es : List DictEntry} (hw : ∀ k, HashW.hf k = k.hash w) (h : Ent nks ks vs es) : ∀ {bs : List Addr}, Refs ks bs →
    ∃ xs : List (NestedKey × Addr × Value), es = xs.map (entryOfKey (nestedKind P w)) ∧ xs.map (·.1) = nks ∧ xs.map (·.2.1) = bs ∧ Vals vs (xs.map (·.2.2)) := by
  induction h with
  | nil => intro bs r; cases r; exact ⟨[], rfl, rfl, rfl, .nil⟩
  | @cons nk k v e nks ks vs es h1 h2 h3 h4 ih =>
    intro bs r
    cases r with
    | @cons b _ bs r =>
      obtain ⟨xs, q1, q2, q3, q4⟩ := ih r
      refine ⟨(nk, b, e.val) :: xs, ?_, by rw [List.map_cons, q2], by rw [List.map_cons, q3], .cons h2 q4⟩
      rw [List.map_cons, ← q1]
      congr 1
      have h1 : e.key = .ref b := h1
      obtain ⟨eh, ek, ev⟩ := e
      dsimp only at h1 h3
      rw [h1, h3, hw]
      rfl
theorem keyed_ent {xs : List (NestedKey × Addr × Value)} (hw : ∀ k, HashW.hf k = k.hash w) : ∀ {vs : List V}, Vals vs (xs.map (·.2.2)) → Ent (xs.map (·.1)) (xs.map fun x => V.ref x.2.1) vs (xs.map (entryOfKey (nestedKind P w))) := by
  induction xs with
  | nil => intro vs h; cases h; exact .nil
  | cons x xs ih =>
    intro vs h
    cases h with
    | cons h1 h2 => exact .cons rfl h1 (hw _).symm (ih h2)
theorem look_keyed {nk : NestedKey} : ∀ {xs : List (NestedKey × Addr × Value)} {vs : List V}, Vals vs (xs.map (·.2.2)) → RelO (lookV (xs.map (·.1)) vs nk) ((atKey xs nk).map (·.2))
  | [], _, h => by cases h; exact True.intro
  | x :: xs, _, h => by
    cases h with
    | @cons v u vs us h1 h2 =>
      have ih := look_keyed (nk := nk) h2
      show RelO (if x.1 = nk then some v else lookV (xs.map (·.1)) vs nk) _
      by_cases c : x.1 = nk
      · rw [if_pos c]
        have : atKey (x :: xs) nk = some x.2 := by simp [atKey, List.find?_cons, c]
        rw [this]
        exact h1
      · rw [if_neg c]
        have : atKey (x :: xs) nk = atKey xs nk := by simp [atKey, List.find?_cons, c]
        rw [this]
        exact ih
theorem repl_keyed {nk : NestedKey} {v : V} {u : Value} (r : RelV v u) : ∀ {xs : List (NestedKey × Addr × Value)} {vs : List V}, Vals vs (xs.map (·.2.2)) → Vals (replV (xs.map (·.1)) vs nk v) ((xs.map (putAt nk u)).map (·.2.2))
  | [], _, h => by cases h; exact .nil
  | x :: xs, _, h => by
    cases h with
    | @cons v0 u0 vs us h1 h2 =>
      show Vals ((if x.1 = nk then v else v0) :: replV (xs.map (·.1)) vs nk v) (_ :: _)
      refine .cons ?_ (repl_keyed r h2)
      unfold putAt
      split
      · exact r
      · exact h1
end
end
/-! dicts as data -/
def isTupD : D → Bool
  | .tuple _ => true
  | _ => false
def isStrD : D → Bool
  | .str _ => true
  | _ => false
/-- a key that is a tuple, not too deep -/
def tupKey (d : D) : Bool := isTupD d && match keyD d with
  | some k => decide (k.depth ≤ 8)
  | none => false
/-- the key that d is, where the dict has keys of its kind -/
def keyOk (kvs : List (D × D)) (d : D) : Option NestedKey :=
  if tupKey d = true then (if (kvs.all fun p => tupKey p.1) = true then keyD d else none)
  else if isStrD d = true then (if (kvs.all fun p => isStrD p.1) = true then keyD d else none) else none
def kvLook (kvs : List (D × D)) (nk : NestedKey) : Option D := (kvs.find? fun p => decide (keyD p.1 = some nk)).map (·.2)
def kvRepl (kvs : List (D × D)) (nk : NestedKey) (v : D) : List (D × D) := kvs.map fun p => if keyD p.1 = some nk then (p.1, v) else p
def dGetD (kvs : List (D × D)) (d : D) : Option D := (keyOk kvs d).bind (kvLook kvs)
def dInD (kvs : List (D × D)) (d : D) : Option Bool := (keyOk kvs d).map fun nk => (kvLook kvs nk).isSome
def dPutD (kvs : List (D × D)) (d v : D) : Option (List (D × D)) := (keyOk kvs d).bind fun nk =>
  if kvs.length < 100000 then some (if (kvLook kvs nk).isSome = true then kvRepl kvs nk v else kvs ++ [(d, v)]) else none
end Pv

/-! An evaluator of a small tree language over plain data. -/
namespace Pv
open PySem L2
/-- a slot: nothing known; data; a list that is changed in place -/
inductive Sl where
  | no | v (d : D) | own (ds : List D) | dic (kvs : List (D × D))
abbrev SS := List Sl
/-- how a call ends: a value (fr: a list made in the call), and the first argument's list behind it; or an error -/
inductive CR where
  | ok (d : D) (fr : Bool) (dk : List D) | err (c : Nat) (n : Option Int)
inductive Ty where
  | int | bool | str | list | tuple
inductive Bl where
  | len | all | any | sorted | list | tuple | int | bool | str | min2
  deriving DecidableEq
inductive Mt where
  | index | count | split | join
  deriving DecidableEq
mutual
inductive Ex where
  | var (i : Nat) | cst (d : D) | glb (g : Nat)
  | tup (es : Exs) | lst (es : Exs) | rep (es : Exs) (k : Ex)
  | bin (op : Operator) (a b : Ex) | neg (a : Ex) | not (a : Ex) | and (a b : Ex) | or (a b : Ex)
  | cmp (op : CmpOp) (a b : Ex) | chain (o1 o2 : CmpOp) (a b c : Ex) | ite (c a b : Ex)
  | idx (a i : Ex) | sl (a : Ex) (lo hi : Exo)
  | call (f : Nat) (es : Exs) | callD (f : Nat) (k : Nat) (es : Exs)
  | blt (b : Bl) (es : Exs) | isi (a : Ex) (t : Ty) | isi2 (a : Ex) (t u : Ty)
  | lc (w : Wk) (tg : List Nat) (one : Bool) (own : List Nat) (c : Exo) (e : Ex)
  | oLen (k : Nat) | oIdx (k : Nat) (i : Ex) | oIn (neg : Bool) (k : Nat) (a : Ex) | oNe (k : Nat)
  | tri (f : Nat) (es : Exs) | mth (m : Mt) (a : Ex) (es : Exs) | slr (a : Ex) | dc (w : Wk) (tg : List Nat) (one : Bool) (own : List Nat) (k v : Ex) | dct (a : Ex) | sos (a : Ex)
  | gIn (neg : Bool) (x : Str) (kvs : List (Str × Int)) (a : Ex) | gIdx (x : Str) (kvs : List (Str × Int)) (a : Ex)
  | dnew | done (k v : Ex) | dLen (k : Nat) | dIdx (k : Nat) (i : Ex) | dIn (neg : Bool) (k : Nat) (a : Ex)
inductive Exo where
  | no | e (a : Ex)
inductive Exs where
  | nil | cons (a : Ex) (r : Exs)
inductive Wk where
  | seq (a : Ex) | rng1 (a : Ex) | rng2 (a b : Ex) | rng3 (a b c : Ex) | enum (a : Ex) | zip (a b : Ex)
end

/-! ### operations on data -/
def lim : Nat := 100000
def binD : Operator → D → D → Option D
  | .Add, .int i, .int j => some (.int (i + j))
  | .Add, .str x, .str y => if x.length + y.length ≤ lim then some (.str (x ++ y)) else none
  | .Add, .tuple xs, .tuple ys => if xs.length + ys.length ≤ lim then some (.tuple (xs ++ ys)) else none
  | .Add, .list xs, .list ys => if xs.length + ys.length ≤ lim then some (.list (xs ++ ys)) else none
  | .Sub, .int i, .int j => some (.int (i - j))
  | .Mult, .int i, .int j => if -(2 ^ 64) < i ∧ i < 2 ^ 64 then some (.int (i * j)) else none
  | .Mult, .tuple xs, .int k => if 2 ≤ k ∧ k ≤ 1000 ∧ 1 ≤ xs.length ∧ xs.length ≤ 100 then some (.tuple (List.replicate k.toNat xs).flatten) else none
  | .Mod, .int i, .int j => if 0 < j then some (.int (i % j)) else none
  | .FloorDiv, .int i, .int j => if 0 < j ∧ j < 1073741824 then some (.int (i / j)) else none
  | .Pow, .int i, .int j => if 0 ≤ j ∧ j ≤ 1000 ∧ i.natAbs < 2 ^ 64 then some (.int (i ^ j.toNat)) else none
  | _, _, _ => none
/-- nothing but these -/
def scalD : D → Bool
  | .none => true | .bool _ => true | .int _ => true | .str _ => true | _ => false
def eqD (a b : D) : Option Bool :=
  match a, b with
  | .int i, .int j => some (decide (i = j))
  | .str x, .str y => some (decide (x = y))
  | .bool x, .bool y => some (decide (x = y))
  | .none, .none => some true
  | a, b => if SeqAt.shaped a = true ∧ SeqAt.shaped b = true then some (PyData.eqv a b) else none
def inD (x : D) (ys : List D) : Option Bool := if SeqAt.shaped x = true ∧ SeqAt.shaped (.list ys) = true then some (ys.any fun z => PyData.eqv z x) else none
def isNoneD : D → Bool
  | .none => true | _ => false
def cmpD : CmpOp → D → D → Option Bool
  | .Eq, a, b => eqD a b
  | .NotEq, a, b => (eqD a b).map (!·)
  | .Lt, .int i, .int j => some (decide (i < j))
  | .LtE, .int i, .int j => some (decide (i ≤ j))
  | .Gt, .int i, .int j => some (decide (j < i))
  | .GtE, .int i, .int j => some (decide (j ≤ i))
  | .Lt, .str x, .str y => some (decide (x.cps.toList < y.cps.toList))
  | .Lt, .tuple xs, .tuple ys => if (W.alike (.tuple xs) (.tuple xs) = true ∧ W.alike (.tuple ys) (.tuple ys) = true) ∧ W.alike (.tuple xs) (.tuple ys) = true ∧ PyData.depth (.tuple xs) ≤ 60 ∧ PyData.depth (.tuple ys) ≤ 60 then some (W.dataLt (.tuple xs) (.tuple ys)) else none
  | .Is, a, .none => some (isNoneD a)
  | .IsNot, a, .none => some (!isNoneD a)
  | .Is, .bool a, .bool b => some (decide (a = b))
  | .IsNot, .bool a, .bool b => some (!decide (a = b))
  | .In, x, .list ys => inD x ys
  | .In, x, .tuple ys => inD x ys
  | .NotIn, x, .list ys => (inD x ys).map (!·)
  | .NotIn, x, .tuple ys => (inD x ys).map (!·)
  | .In, x, .dict kvs => dInD kvs x
  | .NotIn, x, .dict kvs => (dInD kvs x).map (!·)
  | _, _, _ => none
def idxD : D → D → Option D
  | .tuple xs, .int i => atI xs i
  | .list xs, .int i => atI xs i
  | .dict kvs, d => dGetD kvs d
  | _, _ => none
def cutD (xs : List D) (lo hi : Option Int) : List D := (xs.drop (HT.sIx xs.length 0 lo)).take (HT.sIx xs.length xs.length hi - HT.sIx xs.length 0 lo)
def slD : D → Option Int → Option Int → Option D
  | .tuple xs, lo, hi => some (.tuple (cutD xs lo hi))
  | .list xs, lo, hi => some (.list (cutD xs lo hi))
  | _, _, _ => none
def isDictD : D → Bool
  | .dict _ => true | _ => false
@[simp] theorem isDictD_non : isDictD .none = false := rfl
@[simp] theorem isDictD_bool {b : Bool} : isDictD (.bool b) = false := rfl
@[simp] theorem isDictD_int {i : Int} : isDictD (.int i) = false := rfl
@[simp] theorem isDictD_str {x : Str} : isDictD (.str x) = false := rfl
@[simp] theorem isDictD_list {xs : List D} : isDictD (.list xs) = false := rfl
@[simp] theorem isDictD_tuple {xs : List D} : isDictD (.tuple xs) = false := rfl
def isTy : Ty → D → Bool
  | .int, .int _ => true | .int, .bool _ => true | .bool, .bool _ => true | .str, .str _ => true | .list, .list _ => true | .tuple, .tuple _ => true | _, _ => false
def boolsD : List D → Option (List Bool)
  | [] => some []
  | .bool b :: r => (boolsD r).map (b :: ·)
  | _ => none
/-- sorted in its place, behind its equals -/
def insD (x : D) : List D → List D
  | [] => [x]
  | y :: r => if W.dataLt x y = true then x :: y :: r else y :: insD x r
def sortD (xs : List D) : List D := xs.foldl (fun acc x => insD x acc) []
def allAlike (xs : List D) : Bool := xs.all fun a => xs.all fun b => W.alike a b && decide (PyData.depth a ≤ 60)
def isTupCons : D → Bool
  | .tuple _ => true | _ => false
def isIntStr : D → Bool
  | .int _ => true | .str _ => true | _ => false
def bltD : Bl → List D → Option D
  | .len, [.list xs] => some (.int xs.length)
  | .len, [.tuple xs] => some (.int xs.length)
  | .len, [.str x] => if x.length ≤ lim then some (.int x.length) else none
  | .all, [.list xs] => (boolsD xs).map fun bs => .bool (bs.all id)
  | .any, [.list xs] => (boolsD xs).map fun bs => .bool (bs.any id)
  | .sorted, [.list xs] => if xs.length ≤ lim ∧ allAlike xs = true ∧ (xs.all isTupCons = true ∨ xs.all isIntStr = true) then some (.list (sortD xs)) else none
  | .list, [.list xs] => some (.list xs)
  | .list, [.tuple xs] => some (.list xs)
  | .len, [.dict kvs] => if kvs.length ≤ lim then some (.int kvs.length) else none
  | .list, [.dict kvs] => some (.list (kvs.map (·.1)))
  | .tuple, [.list xs] => some (.tuple xs)
  | .tuple, [.tuple xs] => some (.tuple xs)
  | .int, [.int i] => some (.int i)
  | .int, [.bool b] => some (.int (if b then 1 else 0))
  | .bool, [.bool b] => some (.bool b)
  | .str, [.int i] => if i.natAbs < 2 ^ 64 then some (.str (Str.ofString (toString i))) else none
  | .min2, [.int i, .int j] => some (.int (if j < i then j else i))
  | _, _ => none

/-! ### words of errors, methods, dicts and sets made of lists -/
def exWords : List Str := ["street", "history", "home", "order", "harm", "number", "impossible", "unlike", "undo", "many", "text"].map Str.ofString
def exWord (c : Nat) : Option Str := exWords[c]?.map (· ++ Str.ofString " +")
/-- what `_law_try` tells of a call -/
def triD (st : SS) : Option CR → Option (D × SS)
  | some (.ok d _ _) => some (.tuple [.str (Str.ofString "told"), d], st)
  | some (.err c none) => (exWord c).map fun w => (.str w, st)
  | some (.err c (some i)) => (exWord c).map fun w => (.tuple [.str w, .int i], st)
  | none => none
/-- the first place of an equal one -/
def ixOf (d : D) : List D → Option Nat
  | [] => none
  | z :: r => if PyData.eqv z d = true then some 0 else (ixOf d r).map (· + 1)
def txsD : List D → Option (List Str)
  | [] => some []
  | .str x :: r => (txsD r).map (x :: ·)
  | _ => none
def Mt.nm : Mt → String
  | .index => "index" | .count => "count" | .split => "split" | .join => "join"
def mthD : Mt → D → List D → Option D
  | .index, .list xs, [d] => if SeqAt.shaped (.list xs) = true ∧ SeqAt.shaped d = true ∧ xs.length ≤ lim then (ixOf d xs).map fun i : Nat => .int (i : Int) else none
  | .split, .str a, [.str b] => if (b.length == 0) = false ∧ a.length ≤ lim then some (.list ((Txt.split a b).map .str)) else none
  | .join, .str a, [.list xs] => (txsD xs).bind fun ys => if (ys.map (·.length)).sum + ys.length * a.length ≤ lim then some (.str (Txt.join a ys)) else none
  | _, _, _ => none
def revD : D → Option D
  | .tuple xs => some (.tuple xs.reverse)
  | .list xs => some (.list xs.reverse)
  | _ => none
/-- a dict of pairs -/
def dctD : List D → List (D × D) → Option (List (D × D))
  | [], acc => some acc
  | .tuple [k, v] :: r, acc => (dPutD acc k v).bind (dctD r)
  | _, _ => none
/-- each key once -/
def dedD : List D → List D → List D
  | [], acc => acc
  | x :: r, acc => if (acc.any fun y => decide (keyD y = keyD x)) = true then dedD r acc else dedD r (acc ++ [x])
def sosD (xs : List D) : Option (List D) := if xs.length ≤ lim ∧ allAlike xs = true ∧ xs.all tupKey = true then some (sortD (dedD xs [])) else none

/-! ### slots -/
def getV (st : SS) (i : Nat) : Option D := match st[i]? with
  | some (.v d) => some d
  | _ => none
def getK (st : SS) (i : Nat) : Option (List (D × D)) := match st[i]? with
  | some (.dic kvs) => some kvs
  | _ => none
def getO (st : SS) (i : Nat) : Option (List D) := match st[i]? with
  | some (.own ds) => some ds
  | _ => none
def setV (st : SS) (i : Nat) (d : D) : Option SS := if i < st.length then some (st.set i (.v d)) else none
def setVs : List Nat → List D → SS → Option SS
  | [], [], st => some st
  | i :: is, d :: ds, st => (setV st i d).bind (setVs is ds)
  | _, _, _ => none
/-- a target: one name; a tuple of names -/
def asgT (one : Bool) (tg : List Nat) (d : D) (st : SS) : Option SS :=
  match one, tg, d with
  | true, [i], d => setV st i d
  | false, is, .tuple ds => setVs is ds st
  | _, _, _ => none
def wipeS (st : SS) : List Nat → SS
  | [] => st
  | i :: is => (wipeS st is).set i .no
def keepV : Option Sl → Sl
  | some (.v d) => .v d
  | _ => .no
/-- the own names of a block have again what they had -/
def backS (old st : SS) : List Nat → SS
  | [] => st
  | i :: is => (backS old st is).set i (keepV old[i]?)

def lcLoop (tg : List Nat) (one : Bool) (own : List Nat) (t : SS → Option (Bool × SS)) (e : SS → Option (D × SS)) : List D → SS → Option (List D × SS)
  | [], st => some ([], st)
  | x :: xs, st => (asgT one tg x st).bind fun st1 => (t st1).bind fun r =>
    match r with
    | (false, st2) => lcLoop tg one own t e xs (wipeS st2 own)
    | (true, st2) => (e st2).bind fun q => (lcLoop tg one own t e xs (wipeS q.2 own)).bind fun z => some (q.1 :: z.1, z.2)
def mLc (mw : SS → Option (List D × SS)) (tg : List Nat) (one : Bool) (own : List Nat) (mt : SS → Option (Bool × SS)) (me : SS → Option (D × SS)) : SS → Option (List D × SS) := fun st => (mw st).bind fun r => if r.1.length ≤ lim then
      (lcLoop tg one own mt me r.1 (wipeS r.2 own)).bind fun z => some (z.1, backS r.2 z.2 own) else none
/-- a key and its value, as one datum -/
def pairM (mk mv : SS → Option (D × SS)) : SS → Option (D × SS) := fun st => (mk st).bind fun x => (mv x.2).map fun y => (.tuple [x.1, y.1], y.2)
def mDc (mw : SS → Option (List D × SS)) (tg : List Nat) (one : Bool) (own : List Nat) (mk mv : SS → Option (D × SS)) : SS → Option (D × SS) := fun st => (mLc mw tg one own (fun st => some (true, st)) (pairM mk mv) st).bind fun z => (dctD z.1 []).map fun kvs => (.dict kvs, z.2)
def rngL (lo : Int) : Nat → List D
  | 0 => []
  | n + 1 => .int lo :: rngL (lo + 1) n
def rngC (lo c : Int) : Nat → List D
  | 0 => []
  | n + 1 => .int lo :: rngC (lo + c) c n
def enumL (k : Int) : List D → List D
  | [] => []
  | x :: xs => .tuple [.int k, x] :: enumL (k + 1) xs
def zipL : List D → List D → List D
  | x :: xs, y :: ys => .tuple [x, y] :: zipL xs ys
  | _, _ => []
def boolOf : D × SS → Option (Bool × SS)
  | (.bool b, st) => some (b, st)
  | _ => none
def intOf : D × SS → Option (Int × SS)
  | (.int i, st) => some (i, st)
  | _ => none
def listOf : D × SS → Option (List D × SS)
  | (.list xs, st) => some (xs, st)
  | _ => none
def strOf : D × SS → Option (Str × SS)
  | (.str x, st) => some (x, st)
  | _ => none
def okSmall (i : Int) : Bool := decide (-1000000 ≤ i) && decide (i ≤ 1000000)

section
variable (G : List D) (F : Nat → List D → Option CR)
def endCall (st : SS) : Option CR → Option (D × SS)
  | some (.ok d _ _) => some (d, st)
  | _ => none
def endCallD (st : SS) (k : Nat) : Option CR → Option (D × SS)
  | some (.ok d _ dk) => some (d, st.set k (.own dk))
  | _ => none
mutual
def den : Ex → SS → Option (D × SS)
  | .var i, st => (getV st i).map fun d => (d, st)
  | .cst d, st => some (d, st)
  | .glb g, st => G[g]?.map fun d => (d, st)
  | .tup es, st => (dens es st).bind fun r => if r.1.length ≤ lim then some (.tuple r.1, r.2) else none
  | .lst es, st => (dens es st).bind fun r => if r.1.length ≤ lim then some (.list r.1, r.2) else none
  | .rep es k, st => (dens es st).bind fun r => (den k r.2).bind fun x => (intOf x).bind fun i => if r.1.length ≤ 100 ∧ 0 ≤ i.1 ∧ i.1 ≤ 1000 then some (.list (List.replicate i.1.toNat r.1).flatten, i.2) else none
  | .bin op a b, st => (den a st).bind fun x => (den b x.2).bind fun y => (binD op x.1 y.1).map fun d => (d, y.2)
  | .neg a, st => (den a st).bind fun x => (intOf x).map fun i => (.int (-i.1), i.2)
  | .not a, st => (den a st).bind fun x => (boolOf x).map fun b => (.bool (!b.1), b.2)
  | .and a b, st => (den a st).bind fun x => (boolOf x).bind fun c => if c.1 then den b c.2 else some (.bool false, c.2)
  | .or a b, st => (den a st).bind fun x => (boolOf x).bind fun c => if c.1 then some (.bool true, c.2) else den b c.2
  | .cmp op a b, st => (den a st).bind fun x => (den b x.2).bind fun y => (cmpD op x.1 y.1).map fun c => (.bool c, y.2)
  | .chain o1 o2 a b c, st => (den a st).bind fun x => (den b x.2).bind fun y => (cmpD o1 x.1 y.1).bind fun k =>
      if k then (den c y.2).bind fun z => (cmpD o2 y.1 z.1).map fun k => (.bool k, z.2) else some (.bool false, y.2)
  | .ite c a b, st => (den c st).bind fun x => (boolOf x).bind fun c => if c.1 then den a c.2 else den b c.2
  | .idx a i, st => (den a st).bind fun x => (den i x.2).bind fun y => (idxD x.1 y.1).map fun d => (d, y.2)
  | .sl a lo hi, st => (den a st).bind fun x => (deno lo x.2).bind fun l => (deno hi l.2).bind fun h => (slD x.1 l.1 h.1).map fun d => (d, h.2)
  | .call f es, st => (dens es st).bind fun r => endCall r.2 (F f r.1)
  | .callD f k es, st => (getO st k).bind fun _ => (dens es st).bind fun r => (getO r.2 k).bind fun dk => endCallD r.2 k (F f (.list dk :: r.1))
  | .blt b es, st => (dens es st).bind fun r => (bltD b r.1).map fun d => (d, r.2)
  | .isi a t, st => (den a st).bind fun x => if isDictD x.1 = true then none else some (.bool (isTy t x.1), x.2)
  | .isi2 a t u, st => (den a st).bind fun x => if isDictD x.1 = true then none else some (.bool (isTy t x.1 || isTy u x.1), x.2)
  | .lc w tg one own c e, st => (denw w st).bind fun r => if r.1.length ≤ lim then
      (lcLoop tg one own (dent c) (den e) r.1 (wipeS r.2 own)).bind fun z => some (.list z.1, backS r.2 z.2 own) else none
  | .oLen k, st => (getO st k).map fun ds => (.int ds.length, st)
  | .oIdx k i, st => (getO st k).bind fun _ => (den i st).bind fun x => (getO x.2 k).bind fun ds => (idxD (.list ds) x.1).map fun d => (d, x.2)
  | .oIn n k a, st => (den a st).bind fun x => (getO x.2 k).bind fun ds => (inD x.1 ds).map fun c => (.bool (n != c), x.2)
  | .tri f es, st => (dens es st).bind fun r => triD r.2 (F f r.1)
  | .mth m a es, st => (den a st).bind fun x => (dens es x.2).bind fun y => (mthD m x.1 y.1).map fun d => (d, y.2)
  | .slr a, st => (den a st).bind fun x => (revD x.1).map fun d => (d, x.2)
  | .dc w tg one own k v, st => mDc (denw w) tg one own (den k) (den v) st
  | .dct a, st => (den a st).bind fun x => (listOf x).bind fun l => (dctD l.1 []).map fun kvs => (.dict kvs, l.2)
  | .sos a, st => (den a st).bind fun x => (listOf x).bind fun l => (sosD l.1).map fun ds => (.list ds, l.2)
  | .gIn n _ kvs a, st => (den a st).bind fun z => (strOf z).map fun y => (.bool (n != (kvs.lookup y.1).isSome), y.2)
  | .gIdx _ kvs a, st => (den a st).bind fun z => (strOf z).bind fun y => (kvs.lookup y.1).map fun i => (.int i, y.2)
  | .dnew, st => some (.dict [], st)
  | .done k v, st => (den k st).bind fun x => (den v x.2).bind fun y => if tupKey x.1 = true then some (.dict [(x.1, y.1)], y.2) else none
  | .dLen k, st => (getK st k).bind fun kvs => if kvs.length ≤ lim then some (.int kvs.length, st) else none
  | .dIdx k i, st => (getK st k).bind fun _ => (den i st).bind fun x => (getK x.2 k).bind fun kvs => (dGetD kvs x.1).map fun d => (d, x.2)
  | .dIn n k a, st => (den a st).bind fun x => (getK x.2 k).bind fun kvs => (dInD kvs x.1).map fun c => (.bool (n != c), x.2)
  | .oNe k, st => (getO st k).bind fun ds => if SeqAt.shaped (.list ds) = true then some (.bool (!ds.isEmpty), st) else none
def deno : Exo → SS → Option (Option Int × SS)
  | .no, st => some (none, st)
  | .e a, st => (den a st).bind fun x => (intOf x).map fun i => (some i.1, i.2)
def dent : Exo → SS → Option (Bool × SS)
  | .no, st => some (true, st)
  | .e a, st => (den a st).bind boolOf
def dens : Exs → SS → Option (List D × SS)
  | .nil, st => some ([], st)
  | .cons a r, st => (den a st).bind fun x => (dens r x.2).map fun y => (x.1 :: y.1, y.2)
def denw : Wk → SS → Option (List D × SS)
  | .seq a, st => (den a st).bind fun x => match x with
      | (.list xs, s) => some (xs, s)
      | (.tuple xs, s) => some (xs, s)
      | (.dict kvs, s) => some (kvs.map (·.1), s)
      | _ => none
  | .rng1 a, st => (den a st).bind fun x => (intOf x).bind fun i => if okSmall i.1 then some (rngL 0 i.1.toNat, i.2) else none
  | .rng2 a b, st => (den a st).bind fun x => (intOf x).bind fun i => (den b i.2).bind fun y => (intOf y).bind fun j => if okSmall i.1 && okSmall j.1 then some (rngL i.1 (j.1 - i.1).toNat, j.2) else none
  | .rng3 a b c, st => (den a st).bind fun x => (intOf x).bind fun i => (den b i.2).bind fun y => (intOf y).bind fun j => (den c j.2).bind fun z => (intOf z).bind fun k =>
      if decide (k.1 ≠ 0) && decide (k.1.natAbs < 1000) && Builtin.Range.small i.1 j.1 k.1 && decide (0 ≤ Builtin.Range.rangeSize i.1 j.1 k.1) then some (rngC i.1 k.1 (Builtin.Range.rangeSize i.1 j.1 k.1).toNat, k.2) else none
  | .enum a, st => (den a st).bind fun x => match x with
      | (.list xs, s) => some (enumL 0 xs, s)
      | (.tuple xs, s) => some (enumL 0 xs, s)
      | _ => none
  | .zip a b, st => (den a st).bind fun x => (den b x.2).bind fun y => match x.1, y.1 with
      | .list xs, .list ys => some (zipL xs ys, y.2)
      | .tuple xs, .tuple ys => some (zipL xs ys, y.2)
      | _, _ => none
end
end
end Pv

/-! Statements of the small language, and defs. -/
namespace Pv
open PySem L2
inductive Fl where
  | nx (st : SS) | rt (d : D) (fr : Bool) (st : SS) | bk (st : SS) | ct (st : SS)
mutual
inductive Sm where
  | set (i : Nat) (e : Ex) | own (i : Nat) (e : Ex) | mov (i j : Nat)
  | unp (is : List Nat) (e : Ex) | par (is : List Nat) (es : Exs) (os : List Bool)
  | augI (i : Nat) (e : Ex) | augL (i : Nat) (e : Ex) | app (i : Nat) (e : Ex) | put (i : Nat) (k e : Ex) | exp (e : Ex)
  | ife (c : Ex) (a b : Sms) | fo (w : Wk) (one : Bool) (tg : List Nat) (b : Sms) | whl (c : Ex) (b : Sms)
  | ret (e : Ex) | retF (e : Ex) | retO (i : Nat) | retN | brk | cont | pass | nev | rai (c : Nat) | raiN (c : Nat) (e : Ex)
  | parT (is : List Nat) (es : Exs) (os : List Bool) | ownD (i : Nat) (e : Ex) | putD (i : Nat) (k e : Ex) | retD (i : Nat) | putDS (i : Nat) (k : Ex) (j : Nat) (es : Exs)
inductive Sms where
  | nil | cons (s : Sm) (r : Sms) | shut (i : Nat) (r : Sms) | shutD (i : Nat) (r : Sms)
end
def isK : Ex → Bool
  | .dnew => true | .done _ _ => true | _ => false
@[simp] theorem isK_dnew : isK .dnew = true := rfl
@[simp] theorem isK_done {k v : Ex} : isK (.done k v) = true := rfl
@[simp] theorem isK_lst {es : Exs} : isK (.lst es) = false := rfl
@[simp] theorem isK_bin {op : Operator} {a b : Ex} : isK (.bin op a b) = false := rfl
@[simp] theorem isK_call {f : Nat} {es : Exs} : isK (.call f es) = false := rfl
@[simp] theorem isK_blt {b : Bl} {es : Exs} : isK (.blt b es) = false := rfl
@[simp] theorem isK_lc {w : Wk} {tg : List Nat} {one : Bool} {own : List Nat} {c : Exo} {e : Ex} : isK (.lc w tg one own c e) = false := rfl
@[simp] theorem isK_rep {es : Exs} {e : Ex} : isK (.rep es e) = false := rfl
section
variable (G : List D) (F : Nat → List D → Option CR)
/-- a list that is new -/
def denF : Ex → SS → Option (List D × SS)
  | .lst es, st => (dens G F es st).bind fun r => if r.1.length ≤ lim then some (r.1, r.2) else none
  | .lc w tg one own c e, st => mLc (denw G F w) tg one own (dent G F c) (den G F e) st
  | .bin .Add a b, st => (den G F a st).bind fun x => (listOf x).bind fun l => (den G F b l.2).bind fun y => (listOf y).bind fun r => if l.1.length + r.1.length ≤ lim then some (l.1 ++ r.1, r.2) else none
  | .rep es k, st => (dens G F es st).bind fun r => (den G F k r.2).bind fun x => (intOf x).bind fun i => if r.1.length ≤ 100 ∧ 0 ≤ i.1 ∧ i.1 ≤ 1000 then some ((List.replicate i.1.toNat r.1).flatten, i.2) else none
  | .blt .list (.cons a .nil), st => (den G F a st).bind fun x => match x with
      | (.list xs, s) => some (xs, s)
      | (.tuple xs, s) => some (xs, s)
      | _ => none
  | .call f es, st => (dens G F es st).bind fun r => match F f r.1 with
      | some (.ok (.list ds) true _) => some (ds, r.2)
      | _ => none
  | _, _ => none
/-- a dict that is new -/
def denK : Ex → SS → Option (List (D × D) × SS)
  | .dnew, st => some ([], st)
  | .done k v, st => (den G F k st).bind fun x => (den G F v x.2).bind fun y => if tupKey x.1 = true then some ([(x.1, y.1)], y.2) else none
  | _, _ => none
/-- the right side of a, b = x, y -/
def denP : Exs → List Bool → SS → Option (List Sl × SS)
  | .nil, [], st => some ([], st)
  | .cons a r, false :: os, st => (den G F a st).bind fun x => (denP r os x.2).map fun y => (.v x.1 :: y.1, y.2)
  | .cons a r, true :: os, st => if isK a = true then (denK G F a st).bind fun x => (denP r os x.2).map fun y => (.dic x.1 :: y.1, y.2) else (denF G F a st).bind fun x => (denP r os x.2).map fun y => (.own x.1 :: y.1, y.2)
  | _, _, _ => none
/-- d[k], x = a, b -/
def mPutDS (m : SS → Option (List D × SS)) (mk : SS → Option (D × SS)) (i j : Nat) (st : SS) : Option Fl := (m st).bind fun x => match x.1 with
  | [d1, d2] => (getK x.2 i).bind fun _ => (mk x.2).bind fun y => (getK y.2 i).bind fun kvs => if tupKey y.1 = true then (dPutD kvs y.1 d1).bind fun z => (setV (y.2.set i (.dic z)) j d2).map .nx else none
  | _ => none
def setP : List Nat → List Sl → SS → Option SS
  | [], [], st => some st
  | i :: is, s :: ss, st => if i < st.length then setP is ss (st.set i s) else none
  | _, _, _ => none
def forLoop (one : Bool) (tg : List Nat) (b : SS → Option Fl) : List D → SS → Option Fl
  | [], st => some (.nx st)
  | x :: xs, st => (asgT one tg x st).bind fun s1 => (b s1).bind fun f => match f with
    | .nx s2 => forLoop one tg b xs s2
    | .ct s2 => forLoop one tg b xs s2
    | .bk s2 => some (.nx s2)
    | .rt d fr s2 => some (.rt d fr s2)
def whLoop (c : SS → Option (Bool × SS)) (b : SS → Option Fl) : Nat → SS → Option Fl
  | 0, _ => none
  | n + 1, st => (c st).bind fun r => if r.1 then (b r.2).bind fun f => match f with
      | .nx s2 => whLoop c b n s2
      | .ct s2 => whLoop c b n s2
      | .bk s2 => some (.nx s2)
      | .rt d fr s2 => some (.rt d fr s2)
    else some (.nx r.2)
def wfuel : Nat := 100000
mutual
def exS : Sm → SS → Option Fl
  | .set i e, st => (den G F e st).bind fun x => (setV x.2 i x.1).map .nx
  | .own i e, st => (denF G F e st).bind fun x => if i < x.2.length then some (.nx (x.2.set i (.own x.1))) else none
  | .mov i j, st => (getO st j).bind fun ds => (setV (st.set j .no) i (.list ds)).map .nx
  | .unp is e, st => (den G F e st).bind fun x => (asgT false is x.1 x.2).map .nx
  | .par is es os, st => (denP G F es os st).bind fun x => (setP is x.1 x.2).map .nx
  | .augI i e, st => (getV st i).bind fun d => (den G F e st).bind fun x => (intOf (d, st)).bind fun a => (intOf x).bind fun b => (setV x.2 i (.int (a.1 + b.1))).map .nx
  | .augL i e, st => (getO st i).bind fun _ => (denF G F e st).bind fun x => (getO x.2 i).bind fun ds => if ds.length + x.1.length ≤ lim then some (.nx (x.2.set i (.own (ds ++ x.1)))) else none
  | .app i e, st => (getO st i).bind fun _ => (den G F e st).bind fun x => (getO x.2 i).bind fun ds => if ds.length < lim then some (.nx (x.2.set i (.own (ds ++ [x.1])))) else none
  | .put i k e, st => (den G F e st).bind fun x => (getO x.2 i).bind fun _ => (den G F k x.2).bind fun y => (intOf y).bind fun j => (getO y.2 i).bind fun ds => (ixN ds.length j.1).map fun n => .nx (y.2.set i (.own (ds.set n x.1)))
  | .exp e, st => (den G F e st).map fun x => .nx x.2
  | .ife c a b, st => ((den G F c st).bind boolOf).bind fun r => if r.1 then exSs a r.2 else exSs b r.2
  | .fo w one tg b, st => (denw G F w st).bind fun r => forLoop one tg (exSs b) r.1 r.2
  | .whl c b, st => whLoop (fun st => (den G F c st).bind boolOf) (exSs b) wfuel st
  | .ret e, st => (den G F e st).map fun x => .rt x.1 false x.2
  | .retF e, st => (denF G F e st).map fun x => .rt (.list x.1) true x.2
  | .retO i, st => (getO st i).map fun ds => .rt (.list ds) true st
  | .retN, st => some (.rt .none false st)
  | .brk, st => some (.bk st)
  | .cont, st => some (.ct st)
  | .pass, st => some (.nx st)
  | .nev, _ => none
  | .rai _, _ => none
  | .raiN _ _, _ => none
  | .parT is es os, st => (denP G F es os st).bind fun x => if x.1.length ≤ 1000 then (setP is x.1 x.2).map .nx else none
  | .ownD i e, st => (denK G F e st).bind fun x => if i < x.2.length then some (.nx (x.2.set i (.dic x.1))) else none
  | .putD i k e, st => (den G F e st).bind fun x => (getK x.2 i).bind fun _ => (den G F k x.2).bind fun y => (getK y.2 i).bind fun kvs => (dPutD kvs y.1 x.1).map fun z => .nx (y.2.set i (.dic z))
  | .putDS i k j es, st => mPutDS (dens G F es) (den G F k) i j st
  | .retD i, st => (getK st i).map fun kvs => .rt (.dict kvs) false st
def exSs : Sms → SS → Option Fl
  | .nil, st => some (.nx st)
  | .cons s r, st => (exS s st).bind fun f => match f with
    | .nx s1 => exSs r s1
    | f => some f
  | .shut i r, st => (getO st i).bind fun ds => exSs r (st.set i (.v (.list ds)))
  | .shutD i r, st => (getK st i).bind fun kvs => exSs r (st.set i (.v (.dict kvs)))
end
/-- the error of an expression that is a call -/
def erE : Ex → SS → Option (Nat × Option Int)
  | .call f (.cons a q), st => (dens G F (.cons a q) st).bind fun r => match F f r.1 with
    | some (.err c m) => some (c, m)
    | _ => none
  | _, _ => none
mutual
/-- the error of a statement that does not end well -/
def erS : Sm → SS → Option (Nat × Option Int)
  | .exp e, st => erE G F e st
  | .set _ e, st => erE G F e st
  | .ret e, st => erE G F e st
  | .ife c a b, st => ((den G F c st).bind boolOf).bind fun r => if r.1 then erSs a r.2 else erSs b r.2
  | .rai c, _ => some (c, none)
  | .raiN c e, st => (den G F e st).bind fun x => (intOf x).map fun i => (c, some i.1)
  | _, _ => none
def erSs : Sms → SS → Option (Nat × Option Int)
  | .nil, _ => none
  | .cons s r, st => match exS G F s st with
    | some (.nx s1) => erSs r s1
    | some _ => none
    | none => erS s st
  | .shut i r, st => (getO st i).bind fun ds => erSs r (st.set i (.v (.list ds)))
  | .shutD i r, st => (getK st i).bind fun kvs => erSs r (st.set i (.v (.dict kvs)))
end
end
/-- a def: its names by slots (parameters first), how many parameters, whether the first is a list that it changes, its body -/
structure Df where
  nm : Str
  N : List Str
  np : Nat
  dk : Bool
  body : Sms
def startS (n : Nat) (dk : Bool) (ds : List D) : SS :=
  match dk, ds with
  | true, .list xs :: r => .own xs :: r.map .v ++ List.replicate (n - ds.length) .no
  | _, ds => ds.map .v ++ List.replicate (n - ds.length) .no
def endF (dk : Bool) : Option Fl → Option CR
  | some (.rt d fr st) => if dk then (getO st 0).map fun xs => .ok d fr xs else some (.ok d fr [])
  | some (.nx st) => if dk then (getO st 0).map fun xs => .ok .none false xs else some (.ok .none false [])
  | _ => none
/-- how a def ends: well, or with an error -/
def endX (dk : Bool) (o : Option Fl) (e : Option (Nat × Option Int)) : Option CR := match o with
  | some fl => endF dk (some fl)
  | none => if dk then none else e.map fun x => .err x.1 x.2
@[simp] theorem endX_some {dk : Bool} {fl : Fl} {e : Option (Nat × Option Int)} : endX dk (some fl) e = endF dk (some fl) := rfl
/-- the defs of a text, as deep as n -/
def callF (G : List D) (P : List Df) : Nat → Nat → List D → Option CR
  | 0, _, _ => none
  | n + 1, f, ds => P[f]?.bind fun d => if ds.length = d.np then endX d.dk (exSs G (callF G P n) d.body (startS d.N.length d.dk ds)) (erSs G (callF G P n) d.body (startS d.N.length d.dk ds)) else none
/-- what a law's text does at every script -/
def Says (G : List D) (P : List Df) (n i : Nat) (most : Nat) : Prop := ∀ ns : List Int, ns.length ≤ most → (∀ z ∈ ns, Builtin.Int.intBits z ≤ 1048576) → ∃ fr dk, callF G P n i [.list (ns.map .int)] = some (.ok (.bool true) fr dk)
end Pv

/-! Sorting lists of tuples some of which are empty. -/
namespace PySem.SeqAt
open AutoSeq1 (wpAny_loadPart')
open MeetsSeq MeetsSeq2 MeetsSeq3 SeqRoads2
theorem call_tuple_lt {prog : Program} {w : World} {A : Around} {s : Shared} {E : Value → Shared → Prop} {Q : Value → Shared → Prop} {l b : Addr} {items items2 : Array Value} {e r : Nat → Bool} (hl : s.heap.IsTuple l items) (hb : s.heap.IsTuple b items2)
    (he : ∀ j (h1 : j < items.size) (h2 : j < items2.size), EqAt A.in1 s items[j] items2[j] (e j)) (hr : ∀ j (h1 : j < items.size) (h2 : j < items2.size), e j = false → RcLt A.in1 s items[j] items2[j] (r j))
    (h : Q (.bool (firstLt e r (decide (items.size < items2.size)) (List.range (min items.size items2.size)))) s) : wpAny (model prog w) A (call (.builtin "tuple.__lt__") [.ref l, .ref b]) Q E s := by
  obtain ⟨⟨cls, dd, data, sl⟩, ho, hc, n, hd⟩ := id hl
  obtain ⟨⟨cls2, dd2, data2, sl2⟩, ho2, hc2, n2, hd2⟩ := id hb
  simp only at hc hd hc2 hd2
  subst hc hd hc2 hd2
  exact call_meets F.slot_tuple_lt ⟨_, ho, rfl⟩ F.entry_tuple_lt (F.args_tuple_lt_2 _ _) (tuple_ltAt l b items items2 n n2 dd dd2 sl sl2 e r) ⟨ho, ho2, he, hr, h⟩
end PySem.SeqAt
namespace PySem.W
open PySem PySem.Calls PyProof.Rows SeqAt
section
variable {prog : Program} {w : World} {A : Around} {s : Shared} {E : Value → Shared → Prop}
theorem oneLt_tup {xs ys : List PyData} {a b : Value} {as bs : List Addr} {Q : Bool → Shared → Prop} (ra : Reads s.heap a (.tuple xs) as) (rb : Reads s.heap b (.tuple ys) bs) (h : alike (.tuple xs) (.tuple ys) = true)
    (hu : A.units + min (PyData.depth (.tuple xs)) (PyData.depth (.tuple ys)) < cLine) (hq : Q (dataLt (.tuple xs) (.tuple ys)) s) : wpAny (model prog w) A (oneLt' true a b) Q E s := by
  have hal : alikeAll xs ys = true := by simpa [alike] using h
  cases ra with
  | @tuple l o vs n _ as₁ h1 h2 h3 h4 =>
    cases rb with
    | @tuple l' o' vs' n' _ bs₁ k1 k2 k3 k4 =>
      have n1 : vs.size = xs.length := by simpa using ReadsAll.length _ _ _ h4
      have n2 : vs'.size = ys.length := by simpa using ReadsAll.length _ _ _ k4
      rw [dataLt_tuple, ← firstLt_toks xs ys hal, ← n1, ← n2] at hq
      rw [oneLt'_eq]
      simp only [if_true]
      refine wpAny_bind (wpAny_cRoomFor (room_here hu) ?_)
      refine wpAny_bind (wpAny_callSpecialIfBound?_slot (T := "tuple") ⟨_, h1, h2⟩ F.slot_tuple_lt (call_tuple_lt (e := pairEq xs ys) (r := fun j => dataLt (xs.getD j .none) (ys.getD j .none)) ⟨_, h1, h2, _, h3⟩ ⟨_, k1, k2, _, k3⟩ (fun j j1 j2 => ?_) (fun j j1 j2 hj => ?_) ?_))
      · have := eqAt_alikeAll xs ys A.in1 s vs.toList vs'.toList _ _ h4 k4 hal (room_in hu) j (by simpa using j1) (by simpa using j2)
        simpa using this
      · have := rcLt_alikeAll xs ys A.in1 s vs.toList vs'.toList _ _ h4 k4 hal (room_in hu) j (by simpa using j1) (by simpa using j2) hj
        simpa using this
      · exact wpAny_truthy_bool hq
theorem keyLt'_general (x y : Value) : keyLt' general' x y = oneLt' false x y := rfl
/-- the first item of each -/
theorem mix_firsts {M : Model} : ∀ (vs : List Value) (ds : List PyData) {Q : List (Option Value) → Shared → Prop}, EachIs (fun v d => ∃ as, Reads s.heap v d as) vs ds → (∀ d ∈ ds, ∃ xs, d = .tuple xs) →
    (∀ fs : List (Option Value), fs.length = ds.length → (∀ i (h : i < fs.length) (h' : i < ds.length), fs[i].isSome = (match ds[i] with | .tuple (_ :: _) => true | _ => false)) → Q fs s) → wpAny M A (vs.mapM firstOfTuple') Q E s
  | _, _, Q, .nil, _, h => by rw [List.mapM_nil]; exact wpAny_pure (h [] rfl fun i q _ => absurd q (Nat.not_lt_zero _))
  | _, _, Q, .cons (b := d) (as := vs) (bs := ds) ⟨as, r⟩ t, ht, h => by
    obtain ⟨xs, rfl⟩ := ht d List.mem_cons_self
    cases r with
    | @tuple a o us n _ _ ho hc hd hr =>
      rw [List.mapM_cons]
      refine wpAny_bind ?_
      rw [kas_first_eq]
      refine wpAny_bind (Looks.here (show Looks M s.heap (typeOf (.ref a)) o.cls from (Looks.ld ho).andThen .now) ?_)
      rw [hc, if_neg (by first | decide | simp)]
      refine wpAny_bind (listItems_at ho hd (wpAny_pure ?_))
      refine wpAny_bind (mix_firsts vs ds (Q := fun bs s' => wpAny M A (pure (us[0]? :: bs)) Q E s') t (fun d hd => ht d (List.mem_cons_of_mem _ hd)) fun fs hl hf => wpAny_pure (h _ (by simp [hl]) ?_))
      intro i h1 h2
      cases i with
      | zero =>
        have n1 : us.size = xs.length := by simpa using ReadsAll.length _ _ _ hr
        show (us[0]?).isSome = _
        cases xs with
        | nil =>
          have : us.size = 0 := n1
          simp [Array.getElem?_eq_none (Nat.le_of_eq this)]
        | cons x r =>
          have h0 : 0 < us.size := by rw [n1]; simp
          simp [h0]
      | succ i => exact hf i (by simpa using h1) (by simpa using h2)
/-- tuples, some empty -/
theorem SortsAt.tups {vs : List Value} {ds : List PyData} (e : EachIs (fun v d => ∃ as, Reads s.heap v d as) vs ds) (hal : AllAlike ds) (ht : ∀ d ∈ ds, ∃ xs, d = .tuple xs) (hu : ∀ d, d ∈ ds → A.units + d.depth < cLine) : SortsAt prog w A s (dataKind s.heap ds) vs := by
  by_cases hall : ∀ d ∈ ds, ∃ x r, d = PyData.tuple (x :: r)
  · exact SortsAt.data e hal (.inl hall) hu
  refine ⟨fun v hv => ?_, ?_⟩
  · obtain ⟨d, hd, as, r⟩ := e.left v hv
    exact ⟨_, dataKind_some hal hd r⟩
  have lt : ∀ f : Bool, ∀ (E : Value → Shared → Prop) (x y : Value) (a b : (dataKind s.heap ds).α) {Q : Bool → Shared → Prop}, (dataKind s.heap ds).keyOf x = some a → (dataKind s.heap ds).keyOf y = some b → Q ((dataKind s.heap ds).blt a b) s → wpAny (model prog w) A (oneLt' f x y) Q E s := by
    intro f E x y a b Q ha hb hq
    obtain ⟨d, as, hd, ra, rfl⟩ := dataKind_inv ha
    obtain ⟨d', as', hd', rb, rfl⟩ := dataKind_inv hb
    have hdd := hal d hd d' hd'
    have hroom : A.units + min d.depth d'.depth < cLine := Nat.lt_of_le_of_lt (Nat.add_le_add_left (Nat.min_le_left _ _) _) (hu d hd)
    obtain ⟨xs, rfl⟩ := ht d hd
    obtain ⟨ys, rfl⟩ := ht d' hd'
    cases f with
    | true => exact oneLt_tup ra rb hdd hroom hq
    | false => exact oneLt_alike (fun h => by cases h) ra rb hdd (by simp) hroom hq
  cases ds with
  | nil => exact absurd (fun d hd => absurd hd (by simp)) hall
  | cons d₀ ds₀ =>
    obtain ⟨xs0, e0⟩ := ht d₀ List.mem_cons_self
    subst e0
    have step : ∀ (kd : SortKind), kd = (if xs0 = [] then oneType' else general') → 2 ≤ vs.length → ∀ (E : Value → Shared → Prop) {Q : SortKind → Shared → Prop}, Q kd s → wpAny (model prog w) A (keyKind' vs.toArray) Q E s := by
      intro kd hkd h2 E Q hq
      rw [kat_kind_eq, List.mapM_toArray, map_eq_pure_bind]
      refine wpAny_bind (wpAny_bind (mix_firsts _ _ e ht fun fs hl hf => wpAny_pure ?_))
      have hno : (fs.toArray.all fun x => x.isSome) = false := by
        rw [Bool.eq_false_iff]
        intro hc
        simp only [List.all_toArray, List.all_eq_true] at hc
        refine hall fun d hd => ?_
        obtain ⟨i, hi, rfl⟩ := List.getElem_of_mem hd
        have h1 := hf i (by rw [hl]; exact hi) hi
        rw [hc _ (List.getElem_mem _)] at h1
        obtain ⟨xs, ex⟩ := ht _ hd
        rw [ex] at h1 ⊢
        cases xs with
        | nil => cases h1
        | cons x r => exact ⟨x, r, rfl⟩
      rw [if_neg (by rw [hno]; exact Bool.false_ne_true)]
      have h0 : 0 < fs.length := by rw [hl]; simp
      have hf0 := hf 0 h0 (by simp)
      cases fs with
      | nil => cases h0
      | cons f fr =>
        simp only [List.getElem_cons_zero] at hf0
        have e1 : ((f :: fr).toArray[0]?.bind id) = f := by simp
        rw [e1, hf0]
        cases xs0 with
        | cons x r =>
          rw [if_neg (by simp)] at hkd
          subst hkd
          rw [if_pos rfl]
          exact wpAny_pure hq
        | nil =>
          rw [if_pos rfl] at hkd
          subst hkd
          rw [if_neg (by simp)]
          rw [oneTypeOnly'_eq, List.mapM_toArray, map_eq_pure_bind]
          refine wpAny_bind (wpAny_bind (wpAny_bind (kas_mapM (r := Value.type "tuple") _ (fun v hv Q' hq => ?_) (wpAny_pure ?_))))
          · obtain ⟨d, hd, as, r⟩ := e.left v hv
            obtain ⟨xs, rfl⟩ := ht d hd
            exact (looks_reads r).here hq
          · obtain ⟨v₁, rest, rfl⟩ : ∃ v₁ rest, vs = v₁ :: rest := by
              cases vs with
              | nil => simp at h2
              | cons a b => exact ⟨a, b, rfl⟩
            have hall : ((List.map (fun _ => Value.type "tuple") (v₁ :: rest)).toArray.all fun x => x == Value.type "tuple") = true := by
              simp only [List.all_toArray, List.all_map, List.all_eq_true]
              intro _ _
              exact beq_self_eq_true _
            have h0 : (List.map (fun _ => Value.type "tuple") (v₁ :: rest)).toArray[0]? = some (Value.type "tuple") := by simp
            rw [h0]
            simp only [hall, if_true]
            exact wpAny_pure (wpAny_pure hq)
    by_cases hx : xs0 = []
    · exact ⟨oneType', fun E x y a b Q ha hb hq => by rw [keyLt'_oneType]; exact lt true E x y a b ha hb hq, step _ (by rw [if_pos hx])⟩
    · exact ⟨general', fun E x y a b Q ha hb hq => by rw [keyLt'_general]; exact lt false E x y a b ha hb hq, step _ (by rw [if_neg hx])⟩
end
section
variable {prog : Program} {w : World} {A : Around} {E : Value → Shared → Prop} {s : Shared} {β : Type} {vs : List Value} {bs : List β} {enc : β → PyData} {R : Value → β → Prop}
/-- sorted(xs), of tuples of any length, or of others -/
theorem sorted_mix {l : Addr} {Q : Value → Shared → Prop} (hl : s.heap.IsList l vs.toArray) (e : EachIs R vs bs) (er : EachIs (fun v b => ∃ as, Reads s.heap v (enc b) as) vs bs) (hal : AllAlike (bs.map enc))
    (hk : (∀ d ∈ bs.map enc, ∃ xs, d = PyData.tuple xs) ∨ ∀ d ∈ bs.map enc, d ≠ .none ∧ ∀ xs, d ≠ .tuple xs) (hL : bs.length ≤ sizeLine)
    (hu : ∀ b, b ∈ bs → A.units + 2 + (enc b).depth < cLine) (h : ∀ out, out.length = bs.length → EachIs R out (bs.mergeSort (dataLe false enc)) → Q (.ref (s.heap.objs.size + 1)) { s with heap := sortedAll s.heap vs (List.toArray out) }) :
    wpAny (model prog w) A (call (.builtin "sorted") [.ref l]) Q E s := by
  rcases hk with hk | hk
  · have er' : EachIs (fun v b => ∃ as, Reads (sortingHeap (copyHeap s.heap vs) (s.heap.objs.size + 1) vs) v (enc b) as) vs bs := er.mono fun _ _ ⟨as, r⟩ => ⟨as, PyProof.Rows.Reads.keeps (fun _ _ => sorting_copy_old) r⟩
    exact sorted_vals hl (SortsAt.tups (s := { s with heap := sortingHeap (copyHeap s.heap vs) (s.heap.objs.size + 1) vs }) (each_map (R := fun v d => ∃ as, Reads (sortingHeap (copyHeap s.heap vs) (s.heap.objs.size + 1) vs) v d as) enc er') hal hk (bound_map hu)) (by rw [e.length]; exact hL)
      (h _ (by rw [sortVals_length false rfl]; exact e.length) (sortVals_data false e er' hal))
  · exact sorted_data hl e er hal (.inr hk) hL hu h
end
end PySem.W

/-! Laws of the evaluator's own words. -/
namespace Pv
open PySem L2
theorem bind_some {α β : Type} {x : Option α} {f : α → Option β} {b : β} (h : x.bind f = some b) : ∃ a, x = some a ∧ f a = some b := by
  cases x with
  | none => cases h
  | some a => exact ⟨a, rfl, h⟩
theorem map_some {α β : Type} {x : Option α} {f : α → β} {b : β} (h : x.map f = some b) : ∃ a, x = some a ∧ f a = b := by
  cases x with
  | none => cases h
  | some a => exact ⟨a, rfl, Option.some.inj h⟩
theorem enumL_get : ∀ {ds : List D} {k : Int} {i : Nat} {d : D}, (enumL k ds)[i]? = some d → ∃ e, ds[i]? = some e ∧ d = .tuple [.int (k + i), e]
  | [], _, _, _, h => by simp [enumL] at h
  | x :: xs, k, 0, d, h => by
    have h : some (PyData.tuple [.int k, x]) = some d := by simpa [enumL] using h
    cases h
    exact ⟨x, rfl, by simp⟩
  | x :: xs, k, i + 1, d, h => by
    have h : (enumL (k + 1) xs)[i]? = some d := by simpa [enumL] using h
    obtain ⟨e, h1, h2⟩ := enumL_get h
    refine ⟨e, by simpa using h1, ?_⟩
    rw [h2, show ((i + 1 : Nat) : Int) = (i : Int) + 1 from by omega, show k + 1 + (i : Int) = k + (i + 1) from by omega]
theorem enumL_len : ∀ {ds : List D} {k : Int}, (enumL k ds).length = ds.length
  | [], _ => rfl
  | x :: xs, k => by show (enumL (k + 1) xs).length + 1 = _; rw [enumL_len]; rfl
theorem rngL_get : ∀ {n : Nat} {lo : Int} {i : Nat} {d : D}, (rngL lo n)[i]? = some d → i < n ∧ d = .int (lo + i)
  | 0, _, _, _, h => by simp [rngL] at h
  | n + 1, lo, 0, d, h => by
    have h : some (PyData.int lo) = some d := by simpa [rngL] using h
    cases h
    exact ⟨Nat.succ_pos _, by simp⟩
  | n + 1, lo, i + 1, d, h => by
    have h : (rngL (lo + 1) n)[i]? = some d := by simpa [rngL] using h
    obtain ⟨h1, h2⟩ := rngL_get h
    refine ⟨Nat.succ_lt_succ h1, ?_⟩
    rw [h2]
    congr 1
    rw [show ((i + 1 : Nat) : Int) = (i : Int) + 1 from by omega]
    omega
theorem rngL_len : ∀ {n : Nat} {lo : Int}, (rngL lo n).length = n
  | 0, _ => rfl
  | n + 1, lo => by show (rngL (lo + 1) n).length + 1 = _; rw [rngL_len]
theorem den_lc {G : List D} {w : Wk} {tg own : List Nat} {one : Bool} {c : Exo} {el : Ex} {st st' : SS} {d : D} (q : den G F (.lc w tg one own c el) st = some (d, st')) : ∃ ds, d = .list ds ∧ mLc (denw G F w) tg one own (dent G F c) (den G F el) st = some (ds, st') := by
  unfold den at q
  obtain ⟨r, e1, q⟩ := bind_some q
  split at q
  · rename_i hl
    obtain ⟨z, e2, q⟩ := bind_some q
    cases q
    refine ⟨z.1, rfl, ?_⟩
    unfold mLc
    rw [e1]
    show (if r.1.length ≤ lim then _ else _) = _
    rw [if_pos hl, e2]
    rfl
  · cases q
def leD (a b : D) : Bool := !W.dataLt b a
theorem leD_eq : (W.dataLe false (fun d : D => d)) = leD := rfl
theorem leD_tot : W.TotalLe leD := by
  show W.TotalLe (W.dataLe false (fun d : D => d))
  exact W.sortLe_total _ false _
theorem leD_of_lt {x y : D} (h : W.dataLt x y = true) : leD x y = true := by
  rcases leD_tot.total x y with e | e
  · exact e
  · unfold leD at e; rw [h] at e; cases e
theorem ins_mem {x z : D} : ∀ {l : List D}, z ∈ insD x l → z = x ∨ z ∈ l
  | [], h => .inl (by simpa [insD] using h)
  | y :: r, h => by
    unfold insD at h
    split at h
    · rcases List.mem_cons.mp h with e | e
      · exact .inl e
      · exact .inr e
    · rcases List.mem_cons.mp h with e | e
      · exact .inr (by rw [e]; exact List.mem_cons_self)
      · rcases ins_mem e with q | q
        · exact .inl q
        · exact .inr (List.mem_cons_of_mem _ q)
theorem ins_sorted {x : D} : ∀ {l : List D}, l.Pairwise (fun a b => leD a b = true) → (insD x l).Pairwise (fun a b => leD a b = true)
  | [], _ => by simp [insD]
  | y :: r, h => by
    have h' := List.pairwise_cons.mp h
    unfold insD
    split
    · rename_i hl
      have hxy := leD_of_lt hl
      refine List.pairwise_cons.mpr ⟨fun z hz => ?_, h⟩
      rcases List.mem_cons.mp hz with e | e
      · rw [e]; exact hxy
      · exact leD_tot.trans _ _ _ hxy (h'.1 z e)
    · rename_i hl
      refine List.pairwise_cons.mpr ⟨fun z hz => ?_, ins_sorted h'.2⟩
      rcases ins_mem hz with e | e
      · rw [e]; unfold leD; simp only [Bool.not_eq_true] at hl; rw [hl]; rfl
      · exact h'.1 z e
theorem same_no {c x y : D} (hc : W.sameRank leD c x = true) (h : W.dataLt x y = true) : W.sameRank leD c y = false := by
  cases e : W.sameRank leD c y with
  | false => rfl
  | true =>
    unfold W.sameRank at hc e
    rw [Bool.and_eq_true] at hc e
    have q := leD_tot.trans _ _ _ e.2 hc.1
    unfold leD at q
    rw [h] at q
    cases q
theorem ins_filter {c x : D} : ∀ {l : List D}, l.Pairwise (fun a b => leD a b = true) → (insD x l).filter (W.sameRank leD c) = l.filter (W.sameRank leD c) ++ [x].filter (W.sameRank leD c)
  | [], _ => by simp [insD]
  | y :: r, h => by
    have h' := List.pairwise_cons.mp h
    unfold insD
    split
    · rename_i hl
      cases hx : W.sameRank leD c x with
      | false => simp [List.filter_cons, hx]
      | true =>
        have hall : (y :: r).filter (W.sameRank leD c) = [] := by
          rw [List.filter_eq_nil_iff]
          intro z hz
          have hz' : W.dataLt x z = true := by
            rcases List.mem_cons.mp hz with e | e
            · rw [e]; exact hl
            · have q := h'.1 z e
              cases w : W.dataLt x z with
              | true => rfl
              | false =>
                have q2 : leD z x = true := by unfold leD; rw [w]; rfl
                have q3 := leD_tot.trans _ _ _ q q2
                unfold leD at q3
                rw [hl] at q3
                cases q3
          rw [same_no hx hz']
          exact Bool.false_ne_true
        rw [hall, List.filter_cons, if_pos hx, hall]
        simp [hx]
    · rw [List.filter_cons, List.filter_cons, ins_filter h'.2]
      split <;> simp
theorem sort_filter {c : D} : ∀ (xs acc : List D), acc.Pairwise (fun a b => leD a b = true) → ((xs.foldl (fun acc x => insD x acc) acc).Pairwise (fun a b => leD a b = true)) ∧ (xs.foldl (fun acc x => insD x acc) acc).filter (W.sameRank leD c) = acc.filter (W.sameRank leD c) ++ xs.filter (W.sameRank leD c)
  | [], acc, h => ⟨h, by simp⟩
  | x :: xs, acc, h => by
    obtain ⟨h1, h2⟩ := sort_filter (c := c) xs (insD x acc) (ins_sorted h)
    refine ⟨h1, ?_⟩
    show List.filter _ (xs.foldl (fun acc x => insD x acc) (insD x acc)) = _
    rw [h2, ins_filter h]
    simp [List.filter_cons]
    split <;> simp
theorem sortD_eq (xs : List D) : sortD xs = xs.mergeSort leD := by
  refine W.sort_unique leD_tot (sort_filter (c := .none) xs [] List.Pairwise.nil).1 fun c => ?_
  have := (sort_filter (c := c) xs [] List.Pairwise.nil).2
  simpa [sortD] using this
end Pv

/-! The defs that the laws share, as trees (printed by gendefs.py). -/
namespace Pv
open PySem L2
/-- the mathematics does not look at hashes -/
instance (priority := low) plainHash : HashW := ⟨fun _ => 0, fun _ => .none⟩
/-- where each def and constant stands -/
structure Ix where
  f_is_within : Nat := 0
  f_is_habit_value : Nat := 0
  f_is_street_value : Nat := 0
  f_need_street : Nat := 0
  f_moved_by : Nat := 0
  f_is_habit : Nat := 0
  f_is_street : Nat := 0
  f_renumbered : Nat := 0
  f_l_deck : Nat := 0
  f_l_pick : Nat := 0
  f_l_whole : Nat := 0
  f_l_one : Nat := 0
  f_l_sort : Nat := 0
  f_l_same : Nat := 0
  f_l_habit : Nat := 0
  f_l_row : Nat := 0
  f_l_is_habit : Nat := 0
  f_l_is_row : Nat := 0
  f_l_spoilt : Nat := 0
  f_l_orders : Nat := 0
  f_l_renumbered : Nat := 0
  f_begin : Nat := 0
  f_put : Nat := 0
  f_has_key : Nat := 0
  f_is_stuck : Nat := 0
  f_can_bring : Nat := 0
  f_go_rows : Nat := 0
  f_enter_rows : Nat := 0
  f_fetch_rows : Nat := 0
  f_other_rows : Nat := 0
  f_event_rows : Nat := 0
  f_is_kind : Nat := 0
  f_row_of : Nat := 0
  f_led : Nat := 0
  f_is_history_value : Nat := 0
  f_need_history : Nat := 0
  f_is_history : Nat := 0
  f_stand_behind : Nat := 0
  f_events_at : Nat := 0
  f_l_begin : Nat := 0
  f_l_with : Nat := 0
  f_l_stuck : Nat := 0
  f_l_reach : Nat := 0
  f_l_getting : Nat := 0
  f_l_of_home : Nat := 0
  f_l_steps : Nat := 0
  f_l_led : Nat := 0
  f_l_history : Nat := 0
  f_l_known : Nat := 0
  f_l_possible : Nat := 0
  f_is_word : Nat := 0
  f_graph_of : Nat := 0
  f_histories : Nat := 0
  f_hopeful : Nat := 0
  f_is_barred : Nat := 0
  f_has_ring : Nat := 0
  f_plain_harms : Nat := 0
  f_all_harms : Nat := 0
  f_harm_words : Nat := 0
  f_need_harm : Nat := 0
  f_harms : Nat := 0
  f_first_history : Nat := 0
  f_l_all : Nat := 0
  f_l_hopes : Nat := 0
  f_l_ringed : Nat := 0
  f_l_harms_at : Nat := 0
  f_l_first_harms : Nat := 0
  f_harms_behind : Nat := 0
  f_count_stands : Nat := 0
  f_need_home : Nat := 0
  f_all_lots : Nat := 0
  f_is_part : Nat := 0
  f_way_home : Nat := 0
  f_stay_lots : Nat := 0
  f_without_spare : Nat := 0
  f_idle_spares : Nat := 0
  f_parted : Nat := 0
  f_need_two : Nat := 0
  f_alike : Nat := 0
  f_parts_of : Nat := 0
  f_street_of : Nat := 0
  f_values_of : Nat := 0
  f_changed : Nat := 0
  f_ones : Nat := 0
  f_changes : Nat := 0
  f_l_turned : Nat := 0
  f_l_way : Nat := 0
  f_l_lots : Nat := 0
  f_l_safe : Nat := 0
  f_parting : Nat := 0
  f_l_near : Nat := 0
  f_l_parting : Nat := 0
  f_l_ones : Nat := 0
  f_twos : Nat := 0
  f_is_good : Nat := 0
  f_need_wishes : Nat := 0
  f_least_changes : Nat := 0
  f_l_is_free : Nat := 0
  f_l_least : Nat := 0
  f_with_spare : Nat := 0
  f_taken : Nat := 0
  f_l_value : Nat := 0
  f_l_came : Nat := 0
  f_l_less : Nat := 0
  f_l_odd_right : Nat := 0
  f_l_spares_right : Nat := 0
  f__wall : Nat := 0
  f_l_led_on : Nat := 0
  f_l_do : Nat := 0
  f_l_shows_all : Nat := 0
  f_l_tried : Nat := 0
  f_l_all_back : Nat := 0
  f_l_first_right : Nat := 0
  f_part_of : Nat := 0
  f_text : Nat := 0
  f_read : Nat := 0
  f_l_lines : Nat := 0
  f_l_line_told : Nat := 0
  f_l_text_told : Nat := 0
  f_l_text_bent : Nat := 0
  f_l_questions : Nat := 0
  f_l_by_street : Nat := 0
  f_l_all_told : Nat := 0
  f_l_three_right : Nat := 0
  g_NONE : Nat := 0
  g_MAT : Nat := 0
  g_MOST_EVENTS : Nat := 0
  g_HARMS : Nat := 0
  g_TRUTHS : Nat := 0
  g_MOST_EVENTS_events : Nat := 0
  g_MOST_EVENTS_lanes : Nat := 0
def c_is_within (I : Ix) : Df := ⟨(Str.ofString "is_within"), [(Str.ofString "value"), (Str.ofString "low"), (Str.ofString "high")], 3, false, (.cons (.ret (.and (.isi (.var 0) .int) (.and (.not (.isi (.var 0) .bool)) (.chain .LtE .LtE (.var 1) (.var 0) (.var 2))))) .nil)⟩
def c_is_habit_value_e0 (I : Ix) : Ex := (.lc (.seq (.var 0)) [1] true [1] .no (.isi (.var 1) .bool))
def c_is_habit_value (I : Ix) : Df := ⟨(Str.ofString "is_habit_value"), [(Str.ofString "value"), (Str.ofString "one")], 1, false, (.cons (.ret (.and (.isi (.var 0) .tuple) (.and (.cmp .Eq (.blt .len (.cons (.var 0) .nil)) (.cst (.int 3))) (.blt .all (.cons (c_is_habit_value_e0 I) .nil))))) .nil)⟩
def c_is_street_value_e0 (I : Ix) : Ex := (.lc (.seq (.var 2)) [5] true [5] .no (.call I.f_is_within (.cons (.var 5) (.cons (.glb I.g_NONE) (.cons (.bin .Sub (.var 1) (.cst (.int 1))) .nil)))))
def c_is_street_value_e1 (I : Ix) : Ex := (.lc (.enum (.var 2)) [6, 5] false [6, 5] .no (.cmp .Eq (.var 5) (.var 6)))
def c_is_street_value_e2 (I : Ix) : Ex := (.lc (.seq (.var 4)) [5] true [5] .no (.call I.f_is_habit_value (.cons (.var 5) .nil)))
def c_is_street_value (I : Ix) : Df := ⟨(Str.ofString "is_street_value"), [(Str.ofString "value"), (Str.ofString "many"), (Str.ofString "spares"), (Str.ofString "found"), (Str.ofString "homes"), (Str.ofString "one"), (Str.ofString "home")], 1, false, (.cons (.ife (.or (.not (.isi (.var 0) .tuple)) (.or (.cmp .NotEq (.blt .len (.cons (.var 0) .nil)) (.cst (.int 3))) (.not (.isi (.idx (.var 0) (.cst (.int 0))) .tuple)))) (.cons (.ret (.cst (.bool false))) .nil) .nil) (.cons (.unp [2, 3, 4] (.var 0)) (.cons (.set 1 (.blt .len (.cons (.var 2) .nil))) (.cons (.ife (.or (.not (.chain .LtE .LtE (.cst (.int 2)) (.var 1) (.cst (.int 3)))) (.not (.blt .all (.cons (c_is_street_value_e0 I) .nil)))) (.cons (.ret (.cst (.bool false))) .nil) .nil) (.cons (.ife (.or (.blt .any (.cons (c_is_street_value_e1 I) .nil)) (.not (.isi (.var 3) .bool))) (.cons (.ret (.cst (.bool false))) .nil) .nil) (.cons (.ret (.and (.isi (.var 4) .tuple) (.and (.cmp .Eq (.blt .len (.cons (.var 4) .nil)) (.var 1)) (.blt .all (.cons (c_is_street_value_e2 I) .nil))))) .nil))))))⟩
def c_need_street (I : Ix) : Df := ⟨(Str.ofString "need_street"), [(Str.ofString "value")], 1, false, (.cons (.ife (.not (.call I.f_is_street_value (.cons (.var 0) .nil))) (.cons (.rai 0) .nil) .nil) .nil)⟩
def c_moved_by_e0 (I : Ix) : Ex := (.lc (.rng1 (.blt .len (.cons (.var 1) .nil))) [7] true [7] .no (.mth .index (.var 1) (.cons (.var 7) .nil)))
def c_moved_by_e1 (I : Ix) : Ex := (.lc (.seq (.var 2)) [8] true [8] .no (.ite (.cmp .GtE (.idx (.var 4) (.var 8)) (.cst (.int 0))) (.blt .int (.cons (.idx (.var 1) (.idx (.var 4) (.var 8))) .nil)) (.idx (.var 4) (.var 8))))
def c_moved_by_e2 (I : Ix) : Ex := (.lc (.seq (.var 2)) [8] true [8] .no (.idx (.var 6) (.var 8)))
def c_moved_by (I : Ix) : Df := ⟨(Str.ofString "moved_by"), [(Str.ofString "street"), (Str.ofString "order"), (Str.ofString "places"), (Str.ofString "others"), (Str.ofString "spares"), (Str.ofString "found"), (Str.ofString "homes"), (Str.ofString "number"), (Str.ofString "old")], 2, false, (.cons (.unp [4, 5, 6] (.var 0)) (.cons (.set 2 (c_moved_by_e0 I)) (.cons (.set 3 (c_moved_by_e1 I)) (.cons (.ret (.tup (.cons (.blt .tuple (.cons (.var 3) .nil)) (.cons (.var 5) (.cons (.blt .tuple (.cons (c_moved_by_e2 I) .nil)) .nil))))) .nil))))⟩
def c_is_habit (I : Ix) : Df := ⟨(Str.ofString "is_habit"), [(Str.ofString "value")], 1, false, (.cons (.ret (.call I.f_is_habit_value (.cons (.var 0) .nil))) .nil)⟩
def c_is_street (I : Ix) : Df := ⟨(Str.ofString "is_street"), [(Str.ofString "value")], 1, false, (.cons (.ret (.call I.f_is_street_value (.cons (.var 0) .nil))) .nil)⟩
def c_l_deck (I : Ix) : Df := ⟨(Str.ofString "_law_deck"), [(Str.ofString "_law_cell"), (Str.ofString "_law_turn")], 2, false, (.cons (.ife (.cmp .GtE (.var 0) (.bin .Pow (.cst (.int 10)) (.cst (.int 18)))) (.cons (.retF (.lst (.cons (.bin .Sub (.var 0) (.bin .Pow (.cst (.int 10)) (.cst (.int 18)))) (.cons (.bin .Mod (.var 0) (.cst (.int 2147483579))) (.cons (.var 1) .nil))))) .nil) .nil) (.cons (.retF (.lst (.cons (.cst (.int 0)) (.cons (.bin .Mod (.var 0) (.cst (.int 2147483579))) (.cons (.var 1) .nil))))) .nil))⟩
def c_l_pick (I : Ix) : Df := ⟨(Str.ofString "_law_pick"), [(Str.ofString "_law_deck_here"), (Str.ofString "_law_size"), (Str.ofString "_law_number"), (Str.ofString "_law_found")], 2, true, (.cons (.ife (.cmp .Gt (.oIdx 0 (.cst (.int 0))) (.cst (.int 1))) (.cons (.set 3 (.bin .Mod (.blt .int (.cons (.oIdx 0 (.cst (.int 0))) .nil)) (.var 1))) (.cons (.put 0 (.cst (.int 0)) (.bin .FloorDiv (.oIdx 0 (.cst (.int 0))) (.var 1))) (.cons (.ret (.var 3)) .nil))) .nil) (.cons (.put 0 (.cst (.int 2)) (.bin .Add (.oIdx 0 (.cst (.int 2))) (.cst (.int 1)))) (.cons (.set 2 (.bin .Mod (.bin .Pow (.bin .Add (.oIdx 0 (.cst (.int 1))) (.bin .Mult (.cst (.int 15485867)) (.oIdx 0 (.cst (.int 2))))) (.cst (.int 5))) (.cst (.int 2147483647)))) (.cons (.set 3 (.bin .FloorDiv (.bin .Mod (.bin .Pow (.bin .Add (.var 2) (.bin .Mult (.cst (.int 7919)) (.oIdx 0 (.cst (.int 2))))) (.cst (.int 3))) (.cst (.int 2147483629))) (.cst (.int 32)))) (.cons (.ret (.bin .Mod (.blt .int (.cons (.var 3) .nil)) (.var 1))) .nil)))))⟩
def c_l_whole (I : Ix) : Df := ⟨(Str.ofString "_law_whole"), [(Str.ofString "_law_thing")], 1, false, (.cons (.ret (.and (.isi (.var 0) .int) (.not (.isi (.var 0) .bool)))) .nil)⟩
def c_l_one (I : Ix) : Df := ⟨(Str.ofString "_law_one"), [(Str.ofString "_law_deck_here"), (Str.ofString "_law_some")], 2, true, (.cons (.ret (.idx (.var 1) (.callD I.f_l_pick 0 (.cons (.blt .len (.cons (.var 1) .nil)) .nil)))) .nil)⟩
def c_l_sort (I : Ix) : Df := ⟨(Str.ofString "_law_sort"), [(Str.ofString "_law_thing")], 1, false, (.cons (.ife (.isi (.var 0) .bool) (.cons (.ret (.cst (.int 1))) .nil) .nil) (.cons (.ife (.isi (.var 0) .int) (.cons (.ret (.cst (.int 2))) .nil) .nil) (.cons (.ife (.isi (.var 0) .str) (.cons (.ret (.cst (.int 3))) .nil) .nil) (.cons (.ife (.isi (.var 0) .list) (.cons (.ret (.cst (.int 4))) .nil) .nil) (.cons (.ret (.ite (.isi (.var 0) .tuple) (.cst (.int 5)) (.cst (.int 6)))) .nil)))))⟩
def c_l_same_e0 (I : Ix) : Ex := (.lc (.enum (.var 0)) [2, 3] false [2, 3] (.e (.not (.call I.f_l_same (.cons (.var 3) (.cons (.idx (.var 1) (.var 2)) .nil))))) (.var 2))
def c_l_same (I : Ix) : Df := ⟨(Str.ofString "_law_same"), [(Str.ofString "_law_told"), (Str.ofString "_law_due"), (Str.ofString "_law_k"), (Str.ofString "_law_part")], 2, false, (.cons (.ife (.cmp .NotEq (.call I.f_l_sort (.cons (.var 0) .nil)) (.call I.f_l_sort (.cons (.var 1) .nil))) (.cons (.ret (.cst (.bool false))) .nil) .nil) (.cons (.ife (.and (.cmp .Gt (.call I.f_l_sort (.cons (.var 0) .nil)) (.cst (.int 3))) (.cmp .Lt (.call I.f_l_sort (.cons (.var 0) .nil)) (.cst (.int 6)))) (.cons (.ife (.cmp .NotEq (.blt .len (.cons (.var 0) .nil)) (.blt .len (.cons (.var 1) .nil))) (.cons (.ret (.cst (.bool false))) .nil) .nil) (.cons (.ret (.cmp .Eq (c_l_same_e0 I) (.lst .nil))) .nil)) .nil) (.cons (.ret (.cmp .Eq (.var 0) (.var 1))) .nil)))⟩
def c_l_habit (I : Ix) : Df := ⟨(Str.ofString "_law_habit"), [(Str.ofString "_law_deck_here")], 1, true, (.cons (.ret (.tup (.cons (.cmp .Gt (.callD I.f_l_pick 0 (.cons (.cst (.int 3)) .nil)) (.cst (.int 0))) (.cons (.cmp .Gt (.callD I.f_l_pick 0 (.cons (.cst (.int 3)) .nil)) (.cst (.int 0))) (.cons (.cmp .Eq (.callD I.f_l_pick 0 (.cons (.cst (.int 2)) .nil)) (.cst (.int 0))) .nil))))) .nil)⟩
def c_l_row_e0 (I : Ix) : Ex := (.lc (.seq (.lst (.cons (.neg (.cst (.int 2))) (.cons (.neg (.cst (.int 1))) (.cons (.neg (.cst (.int 1))) (.cons (.cst (.int 0)) (.cons (.cst (.int 1)) (.cons (.cst (.int 2)) (.cons (.cst (.int 0)) (.cons (.cst (.int 1)) (.cons (.cst (.int 2)) .nil))))))))))) [6] true [6] (.e (.and (.cmp .NotEq (.var 6) (.var 3)) (.cmp .Lt (.var 6) (.var 2)))) (.var 6))
def c_l_row_b1 (I : Ix) : Sms := (.cons (.set 4 (.bin .Add (.var 4) (.tup (.cons (.callD I.f_l_one 0 (.cons (c_l_row_e0 I) .nil)) .nil)))) (.cons (.set 5 (.bin .Add (.var 5) (.tup (.cons (.callD I.f_l_habit 0 .nil) .nil)))) .nil))
def c_l_row (I : Ix) : Df := ⟨(Str.ofString "_law_row"), [(Str.ofString "_law_deck_here"), (Str.ofString "_law_most"), (Str.ofString "_law_many"), (Str.ofString "_law_k"), (Str.ofString "_law_spares_so"), (Str.ofString "_law_homes_so"), (Str.ofString "_law_j")], 2, true, (.cons (.set 2 (.bin .Add (.cst (.int 2)) (.callD I.f_l_pick 0 (.cons (.bin .Sub (.var 1) (.cst (.int 1))) .nil)))) (.cons (.unp [4, 5] (.tup (.cons (.tup .nil) (.cons (.tup .nil) .nil)))) (.cons (.fo (.rng1 (.var 2)) true [3] (c_l_row_b1 I)) (.cons (.ret (.tup (.cons (.var 4) (.cons (.cmp .Eq (.callD I.f_l_pick 0 (.cons (.cst (.int 3)) .nil)) (.cst (.int 0))) (.cons (.var 5) .nil))))) .nil))))⟩
def c_l_is_habit_e0 (I : Ix) : Ex := (.lc (.seq (.var 0)) [1] true [1] (.e (.not (.isi (.var 1) .bool))) (.var 1))
def c_l_is_habit (I : Ix) : Df := ⟨(Str.ofString "_law_is_habit"), [(Str.ofString "_law_thing"), (Str.ofString "_law_one_here")], 1, false, (.cons (.ife (.or (.not (.isi (.var 0) .tuple)) (.cmp .NotEq (.blt .len (.cons (.var 0) .nil)) (.cst (.int 3)))) (.cons (.ret (.cst (.bool false))) .nil) .nil) (.cons (.ret (.cmp .Eq (c_l_is_habit_e0 I) (.lst .nil))) .nil))⟩
def c_l_is_row_b0 (I : Ix) : Sms := (.cons (.ife (.or (.not (.call I.f_l_whole (.cons (.var 3) .nil))) (.or (.not (.chain .LtE .Lt (.neg (.cst (.int 2))) (.var 3) (.var 1))) (.cmp .Eq (.var 3) (.var 2)))) (.cons (.ret (.cst (.bool false))) .nil) .nil) .nil)
def c_l_is_row_e1 (I : Ix) : Ex := (.lc (.seq (.idx (.var 0) (.cst (.int 2)))) [4] true [4] (.e (.not (.call I.f_l_is_habit (.cons (.var 4) .nil)))) (.var 4))
def c_l_is_row (I : Ix) : Df := ⟨(Str.ofString "_law_is_row"), [(Str.ofString "_law_thing"), (Str.ofString "_law_many"), (Str.ofString "_law_k"), (Str.ofString "_law_place"), (Str.ofString "_law_one_here")], 1, false, (.cons (.ife (.or (.not (.isi (.var 0) .tuple)) (.or (.cmp .NotEq (.blt .len (.cons (.var 0) .nil)) (.cst (.int 3))) (.not (.isi (.idx (.var 0) (.cst (.int 0))) .tuple)))) (.cons (.ret (.cst (.bool false))) .nil) .nil) (.cons (.set 1 (.blt .len (.cons (.idx (.var 0) (.cst (.int 0))) .nil))) (.cons (.ife (.or (.not (.chain .LtE .LtE (.cst (.int 2)) (.var 1) (.cst (.int 3)))) (.not (.isi (.idx (.var 0) (.cst (.int 1))) .bool))) (.cons (.ret (.cst (.bool false))) .nil) .nil) (.cons (.fo (.enum (.idx (.var 0) (.cst (.int 0)))) false [2, 3] (c_l_is_row_b0 I)) (.cons (.ife (.or (.not (.isi (.idx (.var 0) (.cst (.int 2))) .tuple)) (.cmp .NotEq (.blt .len (.cons (.idx (.var 0) (.cst (.int 2))) .nil)) (.var 1))) (.cons (.ret (.cst (.bool false))) .nil) .nil) (.cons (.ret (.cmp .Eq (c_l_is_row_e1 I) (.lst .nil))) .nil))))))⟩
def c_l_spoilt (I : Ix) : Df := ⟨(Str.ofString "_law_spoilt"), [(Str.ofString "_law_deck_here"), (Str.ofString "_law_thing"), (Str.ofString "_law_rows"), (Str.ofString "_law_at"), (Str.ofString "_law_other")], 2, true, (.cons (.ife (.and (.isi2 (.var 1) .tuple .list) (.and (.cmp .Gt (.blt .len (.cons (.var 1) .nil)) (.cst (.int 0))) (.cmp .Gt (.callD I.f_l_pick 0 (.cons (.cst (.int 6)) .nil)) (.cst (.int 0))))) (.cons (.own 2 (.blt .list (.cons (.var 1) .nil))) (.cons (.set 3 (.callD I.f_l_pick 0 (.cons (.oLen 2) .nil))) (.cons (.put 2 (.var 3) (.callD I.f_l_spoilt 0 (.cons (.oIdx 2 (.var 3)) .nil))) (.shut 2 (.cons (.ret (.ite (.isi (.var 1) .tuple) (.blt .tuple (.cons (.var 2) .nil)) (.var 2))) .nil))))) .nil) (.cons (.ife (.isi2 (.var 1) .tuple .list) (.cons (.set 4 (.ite (.isi (.var 1) .tuple) (.blt .list (.cons (.var 1) .nil)) (.blt .tuple (.cons (.var 1) .nil)))) (.cons (.ret (.idx (.lst (.cons (.var 4) (.cons (.bin .Add (.var 1) (.sl (.var 1) .no (.e (.cst (.int 1))))) (.cons (.sl (.var 1) (.e (.cst (.int 1))) .no) (.cons (.slr (.var 1)) (.cons (.tup (.cons (.cst (.int 0)) (.cons (.cst (.int 1)) .nil))) (.cons (.cst .none) .nil))))))) (.callD I.f_l_pick 0 (.cons (.cst (.int 6)) .nil)))) .nil)) .nil) (.cons (.ife (.isi (.var 1) .bool) (.cons (.ret (.idx (.lst (.cons (.not (.var 1)) (.cons (.blt .int (.cons (.var 1) .nil)) (.cons (.cst .none) (.cons (.cst (.str (Str.ofString "yes"))) .nil))))) (.callD I.f_l_pick 0 (.cons (.cst (.int 4)) .nil)))) .nil) .nil) (.cons (.ife (.isi (.var 1) .str) (.cons (.ret (.callD I.f_l_one 0 (.cons (.lst (.cons (.cst (.str (Str.ofString "go"))) (.cons (.cst (.str (Str.ofString "ask"))) (.cons (.cst (.str (Str.ofString "enter"))) (.cons (.cst (.str (Str.ofString "mat"))) (.cons (.cst (.str (Str.ofString "find"))) (.cons (.cst (.str (Str.ofString "hang"))) (.cons (.cst (.str (Str.ofString "fetch"))) (.cons (.cst (.str (Str.ofString ""))) (.cons (.cst (.str (Str.ofString "Go"))) (.cons (.cst .none) (.cons (.cst (.int 0)) .nil)))))))))))) .nil))) .nil) .nil) (.cons (.ife (.call I.f_l_whole (.cons (.var 1) .nil)) (.cons (.ret (.idx (.lst (.cons (.bin .Sub (.cst (.int 1)) (.var 1)) (.cons (.bin .Add (.var 1) (.cst (.int 1))) (.cons (.neg (.cst (.int 1))) (.cons (.neg (.cst (.int 2))) (.cons (.neg (.cst (.int 3))) (.cons (.cst (.bool true)) (.cons (.cst (.bool false)) (.cons (.cst .none) (.cons (.cst (.str (Str.ofString "0"))) (.cons (.cst (.int 2)) .nil))))))))))) (.callD I.f_l_pick 0 (.cons (.cst (.int 10)) .nil)))) .nil) .nil) (.cons (.ret (.idx (.lst (.cons (.cst .none) (.cons (.cst (.int 0)) (.cons (.cst (.str (Str.ofString "x"))) (.cons (.tup .nil) (.cons (.lst .nil) (.cons (.cst (.bool true)) .nil))))))) (.callD I.f_l_pick 0 (.cons (.cst (.int 6)) .nil)))) .nil))))))⟩
def c_l_orders_e0 (I : Ix) : Ex := (.lc (.rng1 (.var 0)) [5] true [5] (.e (.cmp .NotIn (.var 5) (.var 4))) (.bin .Add (.var 4) (.tup (.cons (.var 5) .nil))))
def c_l_orders_b1 (I : Ix) : Sms := (.cons (.set 3 (.bin .Add (.var 3) (c_l_orders_e0 I))) .nil)
def c_l_orders_b2 (I : Ix) : Sms := (.cons (.set 3 (.lst .nil)) (.cons (.fo (.seq (.var 1)) true [4] (c_l_orders_b1 I)) (.cons (.set 1 (.var 3)) .nil)))
def c_l_orders (I : Ix) : Df := ⟨(Str.ofString "_law_orders"), [(Str.ofString "_law_many"), (Str.ofString "_law_found"), (Str.ofString "_law_turn"), (Str.ofString "_law_longer"), (Str.ofString "_law_one_here"), (Str.ofString "_law_k")], 1, false, (.cons (.set 1 (.lst (.cons (.tup .nil) .nil))) (.cons (.fo (.rng1 (.var 0)) true [2] (c_l_orders_b2 I)) (.cons (.ret (.var 1)) .nil)))⟩
def c_begin_e0 (I : Ix) : Ex := (.lc (.seq (.idx (.var 0) (.cst (.int 0)))) [1] true [1] .no (.tup (.cons (.cst (.bool true)) (.cons (.cst (.str (Str.ofString "inside"))) (.cons (.ite (.cmp .NotEq (.var 1) (.glb I.g_NONE)) (.cst (.str (Str.ofString "place"))) (.cst (.str (Str.ofString "none")))) .nil)))))
def c_begin (I : Ix) : Df := ⟨(Str.ofString "begin"), [(Str.ofString "street"), (Str.ofString "place")], 1, false, (.cons (.ret (.blt .tuple (.cons (c_begin_e0 I) .nil))) .nil)⟩
def c_put (I : Ix) : Df := ⟨(Str.ofString "put"), [(Str.ofString "stand"), (Str.ofString "home"), (Str.ofString "triple")], 3, false, (.cons (.ret (.bin .Add (.bin .Add (.sl (.var 0) .no (.e (.var 1))) (.tup (.cons (.var 2) .nil))) (.sl (.var 0) (.e (.bin .Add (.var 1) (.cst (.int 1)))) .no))) .nil)⟩
def c_has_key (I : Ix) : Df := ⟨(Str.ofString "has_key"), [(Str.ofString "triple")], 1, false, (.cons (.ret (.or (.cmp .Eq (.idx (.var 0) (.cst (.int 1))) (.cst (.str (Str.ofString "pocket")))) (.cmp .Eq (.idx (.var 0) (.cst (.int 2))) (.cst (.str (Str.ofString "pocket")))))) .nil)⟩
def c_is_stuck (I : Ix) : Df := ⟨(Str.ofString "is_stuck"), [(Str.ofString "triple")], 1, false, (.cons (.ret (.and (.not (.idx (.var 0) (.cst (.int 0)))) (.not (.call I.f_has_key (.cons (.var 0) .nil))))) .nil)⟩
def c_can_bring (I : Ix) : Df := ⟨(Str.ofString "can_bring"), [(Str.ofString "street"), (Str.ofString "stand"), (Str.ofString "home"), (Str.ofString "place")], 3, false, (.cons (.set 3 (.idx (.idx (.var 0) (.cst (.int 0))) (.var 2))) (.cons (.ret (.or (.cmp .Eq (.var 3) (.glb I.g_MAT)) (.and (.cmp .GtE (.var 3) (.cst (.int 0))) (.idx (.idx (.var 1) (.var 3)) (.cst (.int 0)))))) .nil))⟩
def c_go_rows (I : Ix) : Df := ⟨(Str.ofString "go_rows"), [(Str.ofString "street"), (Str.ofString "stand"), (Str.ofString "home"), (Str.ofString "found"), (Str.ofString "inside"), (Str.ofString "own"), (Str.ofString "spare"), (Str.ofString "forgets"), (Str.ofString "gives"), (Str.ofString "bold")], 3, false, (.cons (.unp [4, 5, 6] (.idx (.var 1) (.var 2))) (.cons (.unp [7, 8, 9] (.idx (.idx (.var 0) (.cst (.int 2))) (.var 2))) (.cons (.ife (.or (.not (.var 4)) (.and (.var 8) (.and (.cmp .Eq (.var 6) (.cst (.str (Str.ofString "inside")))) (.call I.f_can_bring (.cons (.var 0) (.cons (.var 1) (.cons (.var 2) .nil))))))) (.cons (.ret (.lst .nil)) .nil) .nil) (.cons (.set 3 (.ite (.var 7) (.lst (.cons (.tup (.cons (.tup (.cons (.cst (.str (Str.ofString "go"))) (.cons (.var 2) (.cons (.cst (.bool false)) .nil)))) (.cons (.call I.f_put (.cons (.var 1) (.cons (.var 2) (.cons (.tup (.cons (.cst (.bool false)) (.cons (.cst (.str (Str.ofString "inside"))) (.cons (.var 6) .nil)))) .nil)))) .nil))) .nil)) (.lst .nil))) (.cons (.ret (.bin .Add (.var 3) (.lst (.cons (.tup (.cons (.tup (.cons (.cst (.str (Str.ofString "go"))) (.cons (.var 2) (.cons (.cst (.bool true)) .nil)))) (.cons (.call I.f_put (.cons (.var 1) (.cons (.var 2) (.cons (.tup (.cons (.cst (.bool false)) (.cons (.cst (.str (Str.ofString "pocket"))) (.cons (.var 6) .nil)))) .nil)))) .nil))) .nil)))) .nil)))))⟩
def c_enter_rows (I : Ix) : Df := ⟨(Str.ofString "enter_rows"), [(Str.ofString "street"), (Str.ofString "stand"), (Str.ofString "home"), (Str.ofString "inside"), (Str.ofString "own"), (Str.ofString "spare")], 3, false, (.cons (.unp [3, 4, 5] (.idx (.var 1) (.var 2))) (.cons (.ife (.or (.var 3) (.not (.call I.f_has_key (.cons (.idx (.var 1) (.var 2)) .nil)))) (.cons (.ret (.lst .nil)) .nil) .nil) (.cons (.ife (.cmp .Eq (.var 5) (.cst (.str (Str.ofString "pocket")))) (.cons (.set 5 (.ite (.and (.idx (.idx (.idx (.var 0) (.cst (.int 2))) (.var 2)) (.cst (.int 1))) (.call I.f_can_bring (.cons (.var 0) (.cons (.var 1) (.cons (.var 2) .nil))))) (.cst (.str (Str.ofString "place"))) (.cst (.str (Str.ofString "inside"))))) .nil) .nil) (.cons (.ret (.lst (.cons (.tup (.cons (.tup (.cons (.cst (.str (Str.ofString "enter"))) (.cons (.var 2) .nil))) (.cons (.call I.f_put (.cons (.var 1) (.cons (.var 2) (.cons (.tup (.cons (.cst (.bool true)) (.cons (.cst (.str (Str.ofString "inside"))) (.cons (.var 5) .nil)))) .nil)))) .nil))) .nil))) .nil))))⟩
def c_fetch_rows (I : Ix) : Df := ⟨(Str.ofString "fetch_rows"), [(Str.ofString "street"), (Str.ofString "stand"), (Str.ofString "home"), (Str.ofString "place"), (Str.ofString "there")], 3, false, (.cons (.set 3 (.idx (.idx (.var 0) (.cst (.int 0))) (.var 2))) (.cons (.ife (.or (.not (.call I.f_is_stuck (.cons (.idx (.var 1) (.var 2)) .nil))) (.cmp .NotEq (.idx (.idx (.var 1) (.var 2)) (.cst (.int 2))) (.cst (.str (Str.ofString "place"))))) (.cons (.ret (.lst .nil)) .nil) .nil) (.cons (.set 4 (.call I.f_put (.cons (.var 1) (.cons (.var 2) (.cons (.bin .Add (.sl (.idx (.var 1) (.var 2)) .no (.e (.cst (.int 2)))) (.tup (.cons (.cst (.str (Str.ofString "pocket"))) .nil))) .nil))))) (.cons (.ife (.cmp .Eq (.var 3) (.glb I.g_MAT)) (.cons (.ret (.lst (.cons (.tup (.cons (.tup (.cons (.cst (.str (Str.ofString "mat"))) (.cons (.var 2) .nil))) (.cons (.var 4) .nil))) .nil))) .nil) .nil) (.cons (.ife (.idx (.idx (.var 1) (.var 3)) (.cst (.int 0))) (.cons (.ret (.lst (.cons (.tup (.cons (.tup (.cons (.cst (.str (Str.ofString "ask"))) (.cons (.var 2) .nil))) (.cons (.var 4) .nil))) .nil))) .nil) .nil) (.cons (.ife (.and (.idx (.idx (.idx (.var 0) (.cst (.int 2))) (.var 2)) (.cst (.int 2))) (.and (.cmp .Eq (.idx (.idx (.var 0) (.cst (.int 0))) (.var 3)) (.glb I.g_MAT)) (.cmp .Eq (.idx (.idx (.var 1) (.var 3)) (.cst (.int 2))) (.cst (.str (Str.ofString "place")))))) (.cons (.ret (.lst (.cons (.tup (.cons (.tup (.cons (.cst (.str (Str.ofString "fetch"))) (.cons (.var 2) .nil))) (.cons (.var 4) .nil))) .nil))) .nil) .nil) (.cons (.ret (.lst .nil)) .nil)))))))⟩
def c_other_rows (I : Ix) : Df := ⟨(Str.ofString "other_rows"), [(Str.ofString "street"), (Str.ofString "stand"), (Str.ofString "home"), (Str.ofString "found"), (Str.ofString "inside"), (Str.ofString "own"), (Str.ofString "spare")], 3, false, (.cons (.unp [4, 5, 6] (.idx (.var 1) (.var 2))) (.cons (.set 3 (.lst .nil)) (.cons (.ife (.and (.var 4) (.and (.cmp .Eq (.var 6) (.cst (.str (Str.ofString "inside")))) (.and (.idx (.idx (.idx (.var 0) (.cst (.int 2))) (.var 2)) (.cst (.int 1))) (.call I.f_can_bring (.cons (.var 0) (.cons (.var 1) (.cons (.var 2) .nil))))))) (.cons (.set 3 (.bin .Add (.var 3) (.lst (.cons (.tup (.cons (.tup (.cons (.cst (.str (Str.ofString "hang"))) (.cons (.var 2) .nil))) (.cons (.call I.f_put (.cons (.var 1) (.cons (.var 2) (.cons (.tup (.cons (.var 4) (.cons (.var 5) (.cons (.cst (.str (Str.ofString "place"))) .nil)))) .nil)))) .nil))) .nil)))) .nil) .nil) (.cons (.ife (.and (.idx (.var 0) (.cst (.int 1))) (.and (.cmp .Eq (.idx (.idx (.var 0) (.cst (.int 0))) (.var 2)) (.glb I.g_MAT)) (.cmp .Eq (.var 6) (.cst (.str (Str.ofString "place")))))) (.cons (.set 3 (.bin .Add (.var 3) (.lst (.cons (.tup (.cons (.tup (.cons (.cst (.str (Str.ofString "find"))) (.cons (.var 2) .nil))) (.cons (.call I.f_put (.cons (.var 1) (.cons (.var 2) (.cons (.tup (.cons (.var 4) (.cons (.var 5) (.cons (.cst (.str (Str.ofString "gone"))) .nil)))) .nil)))) .nil))) .nil)))) .nil) .nil) (.cons (.ret (.var 3)) .nil)))))⟩
def c_event_rows_b0 (I : Ix) : Sms := (.cons (.set 2 (.bin .Add (.bin .Add (.var 2) (.call I.f_go_rows (.cons (.var 0) (.cons (.var 1) (.cons (.var 3) .nil))))) (.call I.f_enter_rows (.cons (.var 0) (.cons (.var 1) (.cons (.var 3) .nil)))))) (.cons (.set 2 (.bin .Add (.bin .Add (.var 2) (.call I.f_fetch_rows (.cons (.var 0) (.cons (.var 1) (.cons (.var 3) .nil))))) (.call I.f_other_rows (.cons (.var 0) (.cons (.var 1) (.cons (.var 3) .nil)))))) .nil))
def c_event_rows (I : Ix) : Df := ⟨(Str.ofString "event_rows"), [(Str.ofString "street"), (Str.ofString "stand"), (Str.ofString "found"), (Str.ofString "home")], 2, false, (.cons (.set 2 (.lst .nil)) (.cons (.fo (.rng1 (.blt .len (.cons (.var 1) .nil))) true [3] (c_event_rows_b0 I)) (.cons (.ret (.blt .sorted (.cons (.var 2) .nil))) .nil)))⟩
def c_is_kind (I : Ix) : Df := ⟨(Str.ofString "is_kind"), [(Str.ofString "value")], 1, false, (.cons (.ife (.or (.not (.isi (.var 0) .tuple)) (.or (.cmp .Lt (.blt .len (.cons (.var 0) .nil)) (.cst (.int 2))) (.isi (.idx (.var 0) (.cst (.int 1))) .bool))) (.cons (.ret (.cst (.bool false))) .nil) .nil) (.cons (.ret (.or (.cmp .Eq (.blt .len (.cons (.var 0) .nil)) (.cst (.int 2))) (.isi (.idx (.var 0) (.cst (.int 2))) .bool))) .nil))⟩
def c_row_of_b0 (I : Ix) : Sms := (.cons (.ife (.and (.call I.f_is_kind (.cons (.var 2) .nil)) (.cmp .Eq (.var 2) (.idx (.var 3) (.cst (.int 0))))) (.cons (.ret (.var 3)) .nil) .nil) .nil)
def c_row_of (I : Ix) : Df := ⟨(Str.ofString "row_of"), [(Str.ofString "street"), (Str.ofString "stand"), (Str.ofString "value"), (Str.ofString "row")], 3, false, (.cons (.fo (.seq (.call I.f_event_rows (.cons (.var 0) (.cons (.var 1) .nil)))) true [3] (c_row_of_b0 I)) (.cons (.ret (.cst .none)) .nil))⟩
def c_led_b0 (I : Ix) : Sms := (.cons (.set 5 (.call I.f_row_of (.cons (.var 0) (.cons (.var 3) (.cons (.var 2) .nil))))) (.cons (.ife (.cmp .Is (.var 5) (.cst .none)) (.cons (.ret (.cst .none)) .nil) .nil) (.cons (.par [3, 4] (.cons (.idx (.var 5) (.cst (.int 1))) (.cons (.bin .Add (.var 4) (.lst (.cons (.var 5) .nil))) .nil)) [false, false]) .nil)))
def c_led (I : Ix) : Df := ⟨(Str.ofString "led"), [(Str.ofString "street"), (Str.ofString "history"), (Str.ofString "value"), (Str.ofString "stand"), (Str.ofString "found"), (Str.ofString "row")], 2, false, (.cons (.par [3, 4] (.cons (.call I.f_begin (.cons (.var 0) .nil)) (.cons (.lst .nil) .nil)) [false, false]) (.cons (.fo (.seq (.var 1)) true [2] (c_led_b0 I)) (.cons (.ret (.var 4)) .nil)))⟩
def c_is_history_value (I : Ix) : Df := ⟨(Str.ofString "is_history_value"), [(Str.ofString "street"), (Str.ofString "value")], 2, false, (.cons (.ret (.and (.isi (.var 1) .tuple) (.and (.cmp .LtE (.blt .len (.cons (.var 1) .nil)) (.glb I.g_MOST_EVENTS)) (.cmp .IsNot (.call I.f_led (.cons (.var 0) (.cons (.var 1) .nil))) (.cst .none))))) .nil)⟩
def v1_c_is_history_value (I : Ix) : Df := ⟨(Str.ofString "is_history_value"), [(Str.ofString "street"), (Str.ofString "value")], 2, false, (.cons (.ret (.and (.isi (.var 1) .tuple) (.and (.cmp .LtE (.blt .len (.cons (.var 1) .nil)) (.glb I.g_MOST_EVENTS_events)) (.cmp .IsNot (.call I.f_led (.cons (.var 0) (.cons (.var 1) .nil))) (.cst .none))))) .nil)⟩
def c_need_history (I : Ix) : Df := ⟨(Str.ofString "need_history"), [(Str.ofString "street"), (Str.ofString "history"), (Str.ofString "rows")], 2, false, (.cons (.exp (.call I.f_need_street (.cons (.var 0) .nil))) (.cons (.ife (.not (.call I.f_is_history_value (.cons (.var 0) (.cons (.var 1) .nil)))) (.cons (.rai 1) .nil) .nil) (.cons (.set 2 (.call I.f_led (.cons (.var 0) (.cons (.var 1) .nil)))) (.cons (.ret (.ite (.cmp .NotEq (.var 2) (.lst .nil)) (.idx (.idx (.var 2) (.neg (.cst (.int 1)))) (.cst (.int 1))) (.call I.f_begin (.cons (.var 0) .nil)))) .nil))))⟩
def c_is_history (I : Ix) : Df := ⟨(Str.ofString "is_history"), [(Str.ofString "street"), (Str.ofString "value")], 2, false, (.cons (.exp (.call I.f_need_street (.cons (.var 0) .nil))) (.cons (.ret (.call I.f_is_history_value (.cons (.var 0) (.cons (.var 1) .nil)))) .nil))⟩
def c_stand_behind (I : Ix) : Df := ⟨(Str.ofString "stand_behind"), [(Str.ofString "street"), (Str.ofString "history")], 2, false, (.cons (.ret (.call I.f_need_history (.cons (.var 0) (.cons (.var 1) .nil)))) .nil)⟩
def c_events_at_e0 (I : Ix) : Ex := (.lc (.seq (.call I.f_event_rows (.cons (.var 0) (.cons (.var 2) .nil)))) [3] true [3] .no (.idx (.var 3) (.cst (.int 0))))
def c_events_at (I : Ix) : Df := ⟨(Str.ofString "events_at"), [(Str.ofString "street"), (Str.ofString "history"), (Str.ofString "stand"), (Str.ofString "row")], 2, false, (.cons (.set 2 (.call I.f_need_history (.cons (.var 0) (.cons (.var 1) .nil)))) (.cons (.ret (c_events_at_e0 I)) .nil))⟩
def c_l_begin_e0 (I : Ix) : Ex := (.lc (.seq (.idx (.var 0) (.cst (.int 0)))) [1] true [1] .no (.tup (.cons (.cst (.bool true)) (.cons (.cst (.str (Str.ofString "inside"))) (.cons (.ite (.cmp .Eq (.var 1) (.neg (.cst (.int 2)))) (.cst (.str (Str.ofString "none"))) (.cst (.str (Str.ofString "place")))) .nil)))))
def c_l_begin (I : Ix) : Df := ⟨(Str.ofString "_law_begin"), [(Str.ofString "_law_row_here"), (Str.ofString "_law_place")], 1, false, (.cons (.ret (.blt .tuple (.cons (c_l_begin_e0 I) .nil))) .nil)⟩
def v1_c_l_begin_e0 (I : Ix) : Ex := (.lc (.seq (.idx (.var 0) (.cst (.int 0)))) [1] true [1] .no (.tup (.cons (.cst (.bool true)) (.cons (.cst (.str (Str.ofString "inside"))) (.cons (.ite (.cmp .Eq (.var 1) (.neg (.cst (.int 2)))) (.cst (.str (Str.ofString "none"))) (.cst (.str (Str.ofString "place")))) .nil)))))
def v1_c_l_begin (I : Ix) : Df := ⟨(Str.ofString "_law_begin"), [(Str.ofString "_law_row"), (Str.ofString "_law_place")], 1, false, (.cons (.ret (.blt .tuple (.cons (v1_c_l_begin_e0 I) .nil))) .nil)⟩
def c_l_with (I : Ix) : Df := ⟨(Str.ofString "_law_with"), [(Str.ofString "_law_stand"), (Str.ofString "_law_k"), (Str.ofString "_law_in_so"), (Str.ofString "_law_own_so"), (Str.ofString "_law_spare_so")], 5, false, (.cons (.ret (.bin .Add (.bin .Add (.sl (.var 0) .no (.e (.var 1))) (.tup (.cons (.tup (.cons (.var 2) (.cons (.var 3) (.cons (.var 4) .nil)))) .nil))) (.sl (.var 0) (.e (.bin .Add (.var 1) (.cst (.int 1)))) .no))) .nil)⟩
def c_l_stuck (I : Ix) : Df := ⟨(Str.ofString "_law_stuck"), [(Str.ofString "_law_stand"), (Str.ofString "_law_k"), (Str.ofString "_law_in_so"), (Str.ofString "_law_own_so"), (Str.ofString "_law_spare_so")], 2, false, (.cons (.unp [2, 3, 4] (.idx (.var 0) (.var 1))) (.cons (.ret (.and (.not (.var 2)) (.and (.cmp .Eq (.var 3) (.cst (.str (Str.ofString "inside")))) (.cmp .NotEq (.var 4) (.cst (.str (Str.ofString "pocket"))))))) .nil))⟩
def c_l_reach (I : Ix) : Df := ⟨(Str.ofString "_law_reach"), [(Str.ofString "_law_row_here"), (Str.ofString "_law_stand"), (Str.ofString "_law_k"), (Str.ofString "_law_place")], 3, false, (.cons (.set 3 (.idx (.idx (.var 0) (.cst (.int 0))) (.var 2))) (.cons (.ife (.cmp .Lt (.var 3) (.cst (.int 0))) (.cons (.ret (.cmp .Eq (.var 3) (.neg (.cst (.int 1))))) .nil) .nil) (.cons (.ret (.idx (.idx (.var 1) (.var 3)) (.cst (.int 0)))) .nil)))⟩
def v1_c_l_reach (I : Ix) : Df := ⟨(Str.ofString "_law_reach"), [(Str.ofString "_law_row"), (Str.ofString "_law_stand"), (Str.ofString "_law_k"), (Str.ofString "_law_place")], 3, false, (.cons (.set 3 (.idx (.idx (.var 0) (.cst (.int 0))) (.var 2))) (.cons (.ife (.cmp .Lt (.var 3) (.cst (.int 0))) (.cons (.ret (.cmp .Eq (.var 3) (.neg (.cst (.int 1))))) .nil) .nil) (.cons (.ret (.idx (.idx (.var 1) (.var 3)) (.cst (.int 0)))) .nil)))⟩
def c_l_getting (I : Ix) : Df := ⟨(Str.ofString "_law_getting"), [(Str.ofString "_law_row_here"), (Str.ofString "_law_stand"), (Str.ofString "_law_k"), (Str.ofString "_law_place")], 3, false, (.cons (.set 3 (.idx (.idx (.var 0) (.cst (.int 0))) (.var 2))) (.cons (.ife (.or (.not (.call I.f_l_stuck (.cons (.var 1) (.cons (.var 2) .nil)))) (.cmp .NotEq (.idx (.idx (.var 1) (.var 2)) (.cst (.int 2))) (.cst (.str (Str.ofString "place"))))) (.cons (.ret (.cst .none)) .nil) .nil) (.cons (.ife (.cmp .Eq (.var 3) (.neg (.cst (.int 1)))) (.cons (.ret (.cst (.str (Str.ofString "mat")))) .nil) .nil) (.cons (.ife (.idx (.idx (.var 1) (.var 3)) (.cst (.int 0))) (.cons (.ret (.cst (.str (Str.ofString "ask")))) .nil) .nil) (.cons (.ret (.ite (.and (.idx (.idx (.idx (.var 0) (.cst (.int 2))) (.var 2)) (.cst (.int 2))) (.and (.cmp .Eq (.idx (.idx (.var 0) (.cst (.int 0))) (.var 3)) (.neg (.cst (.int 1)))) (.cmp .Eq (.idx (.idx (.var 1) (.var 3)) (.cst (.int 2))) (.cst (.str (Str.ofString "place")))))) (.cst (.str (Str.ofString "fetch"))) (.cst .none))) .nil)))))⟩
def v1_c_l_getting (I : Ix) : Df := ⟨(Str.ofString "_law_getting"), [(Str.ofString "_law_row"), (Str.ofString "_law_stand"), (Str.ofString "_law_k"), (Str.ofString "_law_place")], 3, false, (.cons (.set 3 (.idx (.idx (.var 0) (.cst (.int 0))) (.var 2))) (.cons (.ife (.or (.not (.call I.f_l_stuck (.cons (.var 1) (.cons (.var 2) .nil)))) (.cmp .NotEq (.idx (.idx (.var 1) (.var 2)) (.cst (.int 2))) (.cst (.str (Str.ofString "place"))))) (.cons (.ret (.cst .none)) .nil) .nil) (.cons (.ife (.cmp .Eq (.var 3) (.neg (.cst (.int 1)))) (.cons (.ret (.cst (.str (Str.ofString "mat")))) .nil) .nil) (.cons (.ife (.idx (.idx (.var 1) (.var 3)) (.cst (.int 0))) (.cons (.ret (.cst (.str (Str.ofString "ask")))) .nil) .nil) (.cons (.ret (.ite (.and (.idx (.idx (.idx (.var 0) (.cst (.int 2))) (.var 2)) (.cst (.int 2))) (.and (.cmp .Eq (.idx (.idx (.var 0) (.cst (.int 0))) (.var 3)) (.neg (.cst (.int 1)))) (.cmp .Eq (.idx (.idx (.var 1) (.var 3)) (.cst (.int 2))) (.cst (.str (Str.ofString "place")))))) (.cst (.str (Str.ofString "fetch"))) (.cst .none))) .nil)))))⟩
def c_l_of_home (I : Ix) : Df := ⟨(Str.ofString "_law_of_home"), [(Str.ofString "_law_row_here"), (Str.ofString "_law_stand"), (Str.ofString "_law_k"), (Str.ofString "_law_word"), (Str.ofString "_law_in_so"), (Str.ofString "_law_own_so"), (Str.ofString "_law_spare_so"), (Str.ofString "_law_forgets"), (Str.ofString "_law_gives"), (Str.ofString "_law_bold"), (Str.ofString "_law_back"), (Str.ofString "_law_found"), (Str.ofString "_law_new")], 3, false, (.cons (.unp [4, 5, 6] (.idx (.var 1) (.var 2))) (.cons (.unp [7, 8, 9] (.idx (.idx (.var 0) (.cst (.int 2))) (.var 2))) (.cons (.par [10, 11] (.cons (.and (.var 8) (.call I.f_l_reach (.cons (.var 0) (.cons (.var 1) (.cons (.var 2) .nil))))) (.cons (.lst .nil) .nil)) [false, true]) (.cons (.ife (.and (.var 4) (.not (.and (.cmp .Eq (.var 6) (.cst (.str (Str.ofString "inside")))) (.var 10)))) (.cons (.ife (.var 7) (.cons (.app 11 (.tup (.cons (.tup (.cons (.cst (.str (Str.ofString "go"))) (.cons (.var 2) (.cons (.cst (.bool false)) .nil)))) (.cons (.call I.f_l_with (.cons (.var 1) (.cons (.var 2) (.cons (.cst (.bool false)) (.cons (.cst (.str (Str.ofString "inside"))) (.cons (.var 6) .nil)))))) .nil)))) .nil) .nil) (.cons (.app 11 (.tup (.cons (.tup (.cons (.cst (.str (Str.ofString "go"))) (.cons (.var 2) (.cons (.cst (.bool true)) .nil)))) (.cons (.call I.f_l_with (.cons (.var 1) (.cons (.var 2) (.cons (.cst (.bool false)) (.cons (.cst (.str (Str.ofString "pocket"))) (.cons (.var 6) .nil)))))) .nil)))) .nil)) .nil) (.cons (.ife (.and (.var 4) (.and (.cmp .Eq (.var 6) (.cst (.str (Str.ofString "inside")))) (.var 10))) (.cons (.app 11 (.tup (.cons (.tup (.cons (.cst (.str (Str.ofString "hang"))) (.cons (.var 2) .nil))) (.cons (.call I.f_l_with (.cons (.var 1) (.cons (.var 2) (.cons (.cst (.bool true)) (.cons (.cst (.str (Str.ofString "inside"))) (.cons (.cst (.str (Str.ofString "place"))) .nil)))))) .nil)))) .nil) .nil) (.cons (.ife (.and (.not (.var 4)) (.cmp .In (.cst (.str (Str.ofString "pocket"))) (.idx (.var 1) (.var 2)))) (.cons (.set 12 (.var 6)) (.cons (.ife (.cmp .Eq (.var 6) (.cst (.str (Str.ofString "pocket")))) (.cons (.set 12 (.ite (.var 10) (.cst (.str (Str.ofString "place"))) (.cst (.str (Str.ofString "inside"))))) .nil) .nil) (.cons (.app 11 (.tup (.cons (.tup (.cons (.cst (.str (Str.ofString "enter"))) (.cons (.var 2) .nil))) (.cons (.call I.f_l_with (.cons (.var 1) (.cons (.var 2) (.cons (.cst (.bool true)) (.cons (.cst (.str (Str.ofString "inside"))) (.cons (.var 12) .nil)))))) .nil)))) .nil))) .nil) (.cons (.set 3 (.call I.f_l_getting (.cons (.var 0) (.cons (.var 1) (.cons (.var 2) .nil))))) (.cons (.ife (.cmp .IsNot (.var 3) (.cst .none)) (.cons (.app 11 (.tup (.cons (.tup (.cons (.var 3) (.cons (.var 2) .nil))) (.cons (.call I.f_l_with (.cons (.var 1) (.cons (.var 2) (.cons (.cst (.bool false)) (.cons (.cst (.str (Str.ofString "inside"))) (.cons (.cst (.str (Str.ofString "pocket"))) .nil)))))) .nil)))) .nil) .nil) (.cons (.ife (.and (.idx (.var 0) (.cst (.int 1))) (.and (.cmp .Eq (.idx (.idx (.var 0) (.cst (.int 0))) (.var 2)) (.neg (.cst (.int 1)))) (.cmp .Eq (.var 6) (.cst (.str (Str.ofString "place")))))) (.cons (.app 11 (.tup (.cons (.tup (.cons (.cst (.str (Str.ofString "find"))) (.cons (.var 2) .nil))) (.cons (.call I.f_l_with (.cons (.var 1) (.cons (.var 2) (.cons (.var 4) (.cons (.var 5) (.cons (.cst (.str (Str.ofString "gone"))) .nil)))))) .nil)))) .nil) .nil) (.cons (.retO 11) .nil))))))))))⟩
def v1_c_l_of_home (I : Ix) : Df := ⟨(Str.ofString "_law_of_home"), [(Str.ofString "_law_row"), (Str.ofString "_law_stand"), (Str.ofString "_law_k"), (Str.ofString "_law_word"), (Str.ofString "_law_in_so"), (Str.ofString "_law_own_so"), (Str.ofString "_law_spare_so"), (Str.ofString "_law_forgets"), (Str.ofString "_law_gives"), (Str.ofString "_law_bold"), (Str.ofString "_law_back"), (Str.ofString "_law_found"), (Str.ofString "_law_new")], 3, false, (.cons (.unp [4, 5, 6] (.idx (.var 1) (.var 2))) (.cons (.unp [7, 8, 9] (.idx (.idx (.var 0) (.cst (.int 2))) (.var 2))) (.cons (.par [10, 11] (.cons (.and (.var 8) (.call I.f_l_reach (.cons (.var 0) (.cons (.var 1) (.cons (.var 2) .nil))))) (.cons (.lst .nil) .nil)) [false, true]) (.cons (.ife (.and (.var 4) (.not (.and (.cmp .Eq (.var 6) (.cst (.str (Str.ofString "inside")))) (.var 10)))) (.cons (.ife (.var 7) (.cons (.app 11 (.tup (.cons (.tup (.cons (.cst (.str (Str.ofString "go"))) (.cons (.var 2) (.cons (.cst (.bool false)) .nil)))) (.cons (.call I.f_l_with (.cons (.var 1) (.cons (.var 2) (.cons (.cst (.bool false)) (.cons (.cst (.str (Str.ofString "inside"))) (.cons (.var 6) .nil)))))) .nil)))) .nil) .nil) (.cons (.app 11 (.tup (.cons (.tup (.cons (.cst (.str (Str.ofString "go"))) (.cons (.var 2) (.cons (.cst (.bool true)) .nil)))) (.cons (.call I.f_l_with (.cons (.var 1) (.cons (.var 2) (.cons (.cst (.bool false)) (.cons (.cst (.str (Str.ofString "pocket"))) (.cons (.var 6) .nil)))))) .nil)))) .nil)) .nil) (.cons (.ife (.and (.var 4) (.and (.cmp .Eq (.var 6) (.cst (.str (Str.ofString "inside")))) (.var 10))) (.cons (.app 11 (.tup (.cons (.tup (.cons (.cst (.str (Str.ofString "hang"))) (.cons (.var 2) .nil))) (.cons (.call I.f_l_with (.cons (.var 1) (.cons (.var 2) (.cons (.cst (.bool true)) (.cons (.cst (.str (Str.ofString "inside"))) (.cons (.cst (.str (Str.ofString "place"))) .nil)))))) .nil)))) .nil) .nil) (.cons (.ife (.and (.not (.var 4)) (.cmp .In (.cst (.str (Str.ofString "pocket"))) (.idx (.var 1) (.var 2)))) (.cons (.set 12 (.var 6)) (.cons (.ife (.cmp .Eq (.var 6) (.cst (.str (Str.ofString "pocket")))) (.cons (.set 12 (.ite (.var 10) (.cst (.str (Str.ofString "place"))) (.cst (.str (Str.ofString "inside"))))) .nil) .nil) (.cons (.app 11 (.tup (.cons (.tup (.cons (.cst (.str (Str.ofString "enter"))) (.cons (.var 2) .nil))) (.cons (.call I.f_l_with (.cons (.var 1) (.cons (.var 2) (.cons (.cst (.bool true)) (.cons (.cst (.str (Str.ofString "inside"))) (.cons (.var 12) .nil)))))) .nil)))) .nil))) .nil) (.cons (.set 3 (.call I.f_l_getting (.cons (.var 0) (.cons (.var 1) (.cons (.var 2) .nil))))) (.cons (.ife (.cmp .IsNot (.var 3) (.cst .none)) (.cons (.app 11 (.tup (.cons (.tup (.cons (.var 3) (.cons (.var 2) .nil))) (.cons (.call I.f_l_with (.cons (.var 1) (.cons (.var 2) (.cons (.cst (.bool false)) (.cons (.cst (.str (Str.ofString "inside"))) (.cons (.cst (.str (Str.ofString "pocket"))) .nil)))))) .nil)))) .nil) .nil) (.cons (.ife (.and (.idx (.var 0) (.cst (.int 1))) (.and (.cmp .Eq (.idx (.idx (.var 0) (.cst (.int 0))) (.var 2)) (.neg (.cst (.int 1)))) (.cmp .Eq (.var 6) (.cst (.str (Str.ofString "place")))))) (.cons (.app 11 (.tup (.cons (.tup (.cons (.cst (.str (Str.ofString "find"))) (.cons (.var 2) .nil))) (.cons (.call I.f_l_with (.cons (.var 1) (.cons (.var 2) (.cons (.var 4) (.cons (.var 5) (.cons (.cst (.str (Str.ofString "gone"))) .nil)))))) .nil)))) .nil) .nil) (.cons (.retO 11) .nil))))))))))⟩
def c_l_steps_b0 (I : Ix) : Sms := (.cons (.set 2 (.bin .Add (.var 2) (.call I.f_l_of_home (.cons (.var 0) (.cons (.var 1) (.cons (.var 3) .nil)))))) .nil)
def c_l_steps_e1 (I : Ix) : Ex := (.lc (.seq (.var 2)) [6] true [6] .no (.idx (.var 6) (.cst (.int 0))))
def c_l_steps_e2 (I : Ix) : Ex := (.lc (.seq (.var 2)) [6] true [6] (.e (.cmp .Eq (.idx (.var 6) (.cst (.int 0))) (.var 5))) (.var 6))
def c_l_steps_e3 (I : Ix) : Ex := (.lc (.seq (.var 4)) [5] true [5] .no (.idx (c_l_steps_e2 I) (.cst (.int 0))))
def c_l_steps (I : Ix) : Df := ⟨(Str.ofString "_law_steps"), [(Str.ofString "_law_row_here"), (Str.ofString "_law_stand"), (Str.ofString "_law_found"), (Str.ofString "_law_k"), (Str.ofString "_law_order_so"), (Str.ofString "_law_event"), (Str.ofString "_law_one_here")], 2, false, (.cons (.set 2 (.lst .nil)) (.cons (.fo (.rng1 (.blt .len (.cons (.var 1) .nil))) true [3] (c_l_steps_b0 I)) (.cons (.set 4 (.blt .sorted (.cons (c_l_steps_e1 I) .nil))) (.cons (.ret (c_l_steps_e3 I)) .nil))))⟩
def v1_c_l_steps_b0 (I : Ix) : Sms := (.cons (.set 2 (.bin .Add (.var 2) (.call I.f_l_of_home (.cons (.var 0) (.cons (.var 1) (.cons (.var 3) .nil)))))) .nil)
def v1_c_l_steps_e1 (I : Ix) : Ex := (.lc (.seq (.var 2)) [6] true [6] .no (.idx (.var 6) (.cst (.int 0))))
def v1_c_l_steps_e2 (I : Ix) : Ex := (.lc (.seq (.var 2)) [6] true [6] (.e (.cmp .Eq (.idx (.var 6) (.cst (.int 0))) (.var 5))) (.var 6))
def v1_c_l_steps_e3 (I : Ix) : Ex := (.lc (.seq (.var 4)) [5] true [5] .no (.idx (v1_c_l_steps_e2 I) (.cst (.int 0))))
def v1_c_l_steps (I : Ix) : Df := ⟨(Str.ofString "_law_steps"), [(Str.ofString "_law_row"), (Str.ofString "_law_stand"), (Str.ofString "_law_found"), (Str.ofString "_law_k"), (Str.ofString "_law_order_so"), (Str.ofString "_law_event"), (Str.ofString "_law_one_here")], 2, false, (.cons (.set 2 (.lst .nil)) (.cons (.fo (.rng1 (.blt .len (.cons (.var 1) .nil))) true [3] (v1_c_l_steps_b0 I)) (.cons (.set 4 (.blt .sorted (.cons (v1_c_l_steps_e1 I) .nil))) (.cons (.ret (v1_c_l_steps_e3 I)) .nil))))⟩
def c_l_led_e0 (I : Ix) : Ex := (.lc (.seq (.call I.f_l_steps (.cons (.var 0) (.cons (.oIdx 2 (.neg (.cst (.int 1)))) .nil)))) [4] true [4] (.e (.cmp .Eq (.idx (.var 4) (.cst (.int 0))) (.var 3))) (.var 4))
def c_l_led_b1 (I : Ix) : Sms := (.cons (.app 2 (.idx (.idx (c_l_led_e0 I) (.cst (.int 0))) (.cst (.int 1)))) .nil)
def c_l_led (I : Ix) : Df := ⟨(Str.ofString "_law_led"), [(Str.ofString "_law_row_here"), (Str.ofString "_law_way"), (Str.ofString "_law_stands_so"), (Str.ofString "_law_event"), (Str.ofString "_law_one_here")], 2, false, (.cons (.own 2 (.lst (.cons (.call I.f_l_begin (.cons (.var 0) .nil)) .nil))) (.cons (.fo (.seq (.var 1)) true [3] (c_l_led_b1 I)) (.cons (.retO 2) .nil)))⟩
def v1_c_l_led_e0 (I : Ix) : Ex := (.lc (.seq (.call I.f_l_steps (.cons (.var 0) (.cons (.oIdx 2 (.neg (.cst (.int 1)))) .nil)))) [4] true [4] (.e (.cmp .Eq (.idx (.var 4) (.cst (.int 0))) (.var 3))) (.var 4))
def v1_c_l_led_b1 (I : Ix) : Sms := (.cons (.app 2 (.idx (.idx (v1_c_l_led_e0 I) (.cst (.int 0))) (.cst (.int 1)))) .nil)
def v1_c_l_led (I : Ix) : Df := ⟨(Str.ofString "_law_led"), [(Str.ofString "_law_row_here"), (Str.ofString "_law_way_here"), (Str.ofString "_law_stands_so"), (Str.ofString "_law_event"), (Str.ofString "_law_one_here")], 2, false, (.cons (.own 2 (.lst (.cons (.call I.f_l_begin (.cons (.var 0) .nil)) .nil))) (.cons (.fo (.seq (.var 1)) true [3] (v1_c_l_led_b1 I)) (.cons (.retO 2) .nil)))⟩
def c_l_history_b0 (I : Ix) : Sms := (.cons (.set 6 (.call I.f_l_steps (.cons (.var 1) (.cons (.var 4) .nil)))) (.cons (.ife (.cmp .NotEq (.var 6) (.lst .nil)) (.cons (.set 7 (.callD I.f_l_one 0 (.cons (.var 6) .nil))) (.cons (.par [5, 4] (.cons (.bin .Add (.var 5) (.tup (.cons (.idx (.var 7) (.cst (.int 0))) .nil))) (.cons (.idx (.var 7) (.cst (.int 1))) .nil)) [false, false]) .nil)) .nil) .nil))
def c_l_history (I : Ix) : Df := ⟨(Str.ofString "_law_history"), [(Str.ofString "_law_deck_here"), (Str.ofString "_law_row_here"), (Str.ofString "_law_many"), (Str.ofString "_law_turn"), (Str.ofString "_law_stand"), (Str.ofString "_law_found"), (Str.ofString "_law_steps_so"), (Str.ofString "_law_one_here")], 3, true, (.cons (.par [4, 5] (.cons (.call I.f_l_begin (.cons (.var 1) .nil)) (.cons (.tup .nil) .nil)) [false, false]) (.cons (.fo (.rng1 (.var 2)) true [3] (c_l_history_b0 I)) (.cons (.ret (.var 5)) .nil)))⟩
def v1_c_l_history_b0 (I : Ix) : Sms := (.cons (.set 6 (.call I.f_l_steps (.cons (.var 1) (.cons (.var 4) .nil)))) (.cons (.ife (.cmp .NotEq (.var 6) (.lst .nil)) (.cons (.set 7 (.callD I.f_l_one 0 (.cons (.var 6) .nil))) (.cons (.par [5, 4] (.cons (.bin .Add (.var 5) (.tup (.cons (.idx (.var 7) (.cst (.int 0))) .nil))) (.cons (.idx (.var 7) (.cst (.int 1))) .nil)) [false, false]) .nil)) .nil) .nil))
def v1_c_l_history (I : Ix) : Df := ⟨(Str.ofString "_law_history"), [(Str.ofString "_law_deck_here"), (Str.ofString "_law_row"), (Str.ofString "_law_many"), (Str.ofString "_law_turn"), (Str.ofString "_law_stand"), (Str.ofString "_law_found"), (Str.ofString "_law_steps_so"), (Str.ofString "_law_one_here")], 3, true, (.cons (.par [4, 5] (.cons (.call I.f_l_begin (.cons (.var 1) .nil)) (.cons (.tup .nil) .nil)) [false, false]) (.cons (.fo (.rng1 (.var 2)) true [3] (v1_c_l_history_b0 I)) (.cons (.ret (.var 5)) .nil)))⟩
def c_l_known (I : Ix) : Df := ⟨(Str.ofString "_law_known"), [(Str.ofString "no"), (Str.ofString "_law_some"), (Str.ofString "_law_calm"), (Str.ofString "_law_gives_so"), (Str.ofString "_law_keeps_so"), (Str.ofString "_law_bold_so")], 0, false, (.cons (.unp [2, 3, 4, 5] (.tup (.cons (.bin .Mult (.tup (.cons (.cst (.bool false)) .nil)) (.cst (.int 3))) (.cons (.tup (.cons (.cst (.bool true)) (.cons (.cst (.bool true)) (.cons (.cst (.bool false)) .nil)))) (.cons (.tup (.cons (.cst (.bool true)) (.cons (.cst (.bool false)) (.cons (.cst (.bool false)) .nil)))) (.cons (.tup (.cons (.cst (.bool true)) (.cons (.cst (.bool true)) (.cons (.cst (.bool true)) .nil)))) .nil)))))) (.cons (.set 1 (.lst (.cons (.tup (.cons (.tup (.cons (.neg (.cst (.int 1))) (.cons (.neg (.cst (.int 2))) .nil))) (.cons (.cst (.bool false)) (.cons (.tup (.cons (.var 3) (.cons (.var 2) .nil))) .nil)))) (.cons (.tup (.cons (.tup (.cons (.neg (.cst (.int 1))) (.cons (.neg (.cst (.int 2))) .nil))) (.cons (.cst (.bool false)) (.cons (.tup (.cons (.var 4) (.cons (.var 2) .nil))) .nil)))) .nil)))) (.cons (.set 1 (.bin .Add (.var 1) (.lst (.cons (.tup (.cons (.tup (.cons (.cst (.int 1)) (.cons (.cst (.int 0)) .nil))) (.cons (.cst (.bool false)) (.cons (.tup (.cons (.var 3) (.cons (.var 3) .nil))) .nil)))) (.cons (.tup (.cons (.tup (.cons (.neg (.cst (.int 1))) (.cons (.cst (.int 0)) .nil))) (.cons (.cst (.bool true)) (.cons (.tup (.cons (.var 2) (.cons (.var 2) .nil))) .nil)))) .nil))))) (.cons (.ret (.bin .Add (.var 1) (.lst (.cons (.tup (.cons (.tup (.cons (.neg (.cst (.int 1))) (.cons (.cst (.int 0)) .nil))) (.cons (.cst (.bool false)) (.cons (.tup (.cons (.var 2) (.cons (.var 5) .nil))) .nil)))) .nil)))) .nil))))⟩
def c_l_possible_e0 (I : Ix) : Ex := (.lc (.seq (.call I.f_l_steps (.cons (.var 0) (.cons (.var 2) .nil)))) [5] true [5] (.e (.call I.f_l_same (.cons (.idx (.var 5) (.cst (.int 0))) (.cons (.var 3) .nil)))) (.var 5))
def c_l_possible_b1 (I : Ix) : Sms := (.cons (.set 4 (c_l_possible_e0 I)) (.cons (.ife (.cmp .Eq (.var 4) (.lst .nil)) (.cons (.ret (.cst (.bool false))) .nil) .nil) (.cons (.set 2 (.idx (.idx (.var 4) (.cst (.int 0))) (.cst (.int 1)))) .nil)))
def c_l_possible (I : Ix) : Df := ⟨(Str.ofString "_law_possible"), [(Str.ofString "_law_street"), (Str.ofString "_law_thing"), (Str.ofString "_law_stand"), (Str.ofString "_law_event"), (Str.ofString "_law_found"), (Str.ofString "_law_one_here")], 2, false, (.cons (.ife (.or (.not (.isi (.var 1) .tuple)) (.cmp .Gt (.blt .len (.cons (.var 1) .nil)) (.cst (.int 60)))) (.cons (.ret (.cst (.bool false))) .nil) .nil) (.cons (.set 2 (.call I.f_l_begin (.cons (.var 0) .nil))) (.cons (.fo (.seq (.var 1)) true [3] (c_l_possible_b1 I)) (.cons (.ret (.cst (.bool true))) .nil))))⟩
def c_is_word (I : Ix) : Df := ⟨(Str.ofString "is_word"), [(Str.ofString "value"), (Str.ofString "words")], 2, false, (.cons (.ret (.and (.isi (.var 0) .str) (.cmp .In (.var 0) (.var 1)))) .nil)⟩
def c_graph_of_e0 (I : Ix) : Ex := (.lc (.seq (.var 6)) [7] true [7] (.e (.or (.cmp .NotEq (.idx (.idx (.var 7) (.cst (.int 0))) (.cst (.int 0))) (.cst (.str (Str.ofString "go")))) (.cmp .NotIn (.idx (.idx (.var 7) (.cst (.int 0))) (.cst (.int 1))) (.var 1)))) (.var 7))
def c_graph_of_e1 (I : Ix) : Ex := (.lc (.seq (.dIdx 2 (.var 5))) [7] true [7] .no (.idx (.var 7) (.cst (.int 1))))
def c_graph_of_b2 (I : Ix) : Sms := (.cons (.ife (.dIn true 2 (.var 5)) (.cons (.set 6 (.call I.f_event_rows (.cons (.var 0) (.cons (.var 5) .nil)))) (.cons (.putD 2 (.var 5) (c_graph_of_e0 I)) (.cons (.augL 4 (c_graph_of_e1 I)) .nil))) .nil) .nil)
def c_graph_of_b3 (I : Ix) : Sms := (.cons (.own 4 (.lst .nil)) (.cons (.fo (.seq (.var 3)) true [5] (c_graph_of_b2 I)) (.cons (.mov 3 4) .nil)))
def c_graph_of (I : Ix) : Df := ⟨(Str.ofString "graph_of"), [(Str.ofString "street"), (Str.ofString "lot"), (Str.ofString "found"), (Str.ofString "line"), (Str.ofString "later"), (Str.ofString "stand"), (Str.ofString "rows"), (Str.ofString "row")], 2, false, (.cons (.par [2, 3] (.cons .dnew (.cons (.lst (.cons (.call I.f_begin (.cons (.var 0) .nil)) .nil)) .nil)) [true, false]) (.cons (.whl (.cmp .NotEq (.var 3) (.lst .nil)) (c_graph_of_b3 I)) (.cons (.retD 2) .nil)))⟩
def c_histories_b0 (I : Ix) : Sms := (.cons (.ife (.dIn true 2 (.var 5)) (.cons (.putD 2 (.var 5) (.bin .Add (.dIdx 2 (.var 3)) (.tup (.cons (.var 4) .nil)))) .nil) .nil) .nil)
def c_histories_b1 (I : Ix) : Sms := (.cons (.fo (.seq (.idx (.var 1) (.var 3))) false [4, 5] (c_histories_b0 I)) .nil)
def c_histories (I : Ix) : Df := ⟨(Str.ofString "histories"), [(Str.ofString "street"), (Str.ofString "graph"), (Str.ofString "found"), (Str.ofString "stand"), (Str.ofString "event"), (Str.ofString "there")], 2, false, (.cons (.ownD 2 (.done (.call I.f_begin (.cons (.var 0) .nil)) (.tup .nil))) (.cons (.fo (.seq (.var 1)) true [3] (c_histories_b1 I)) (.cons (.retD 2) .nil)))⟩
def c_hopeful_e0 (I : Ix) : Ex := (.lc (.seq (.var 5)) [6, 7] false [6, 7] .no (.or (.cmp .Eq (.var 6) (.tup (.cons (.cst (.str (Str.ofString "enter"))) (.cons (.var 1) .nil)))) (.dIn false 2 (.var 7))))
def c_hopeful_b1 (I : Ix) : Sms := (.cons (.set 5 (.ite (.dIn true 2 (.var 4)) (.idx (.var 0) (.var 4)) (.lst .nil))) (.cons (.ife (.blt .any (.cons (c_hopeful_e0 I) .nil)) (.cons (.putD 2 (.var 4) (.cst (.bool true))) .nil) .nil) .nil))
def c_hopeful_b2 (I : Ix) : Sms := (.cons (.set 3 (.dLen 2)) (.cons (.fo (.seq (.var 0)) true [4] (c_hopeful_b1 I)) .nil))
def c_hopeful (I : Ix) : Df := ⟨(Str.ofString "hopeful"), [(Str.ofString "graph"), (Str.ofString "home"), (Str.ofString "found"), (Str.ofString "many"), (Str.ofString "stand"), (Str.ofString "some"), (Str.ofString "event"), (Str.ofString "there")], 2, false, (.cons (.parT [2, 3] (.cons .dnew (.cons (.neg (.cst (.int 1))) .nil)) [true, false]) (.cons (.whl (.cmp .Lt (.var 3) (.dLen 2)) (c_hopeful_b2 I)) (.cons (.retD 2) .nil)))⟩
def c_is_barred_e0 (I : Ix) : Ex := (.lc (.rng1 (.var 1)) [3] true [3] .no (.call I.f_hopeful (.cons (.var 0) (.cons (.var 3) .nil))))
def c_is_barred_e1 (I : Ix) : Ex := (.lc (.rng1 (.var 1)) [3] true [3] .no (.and (.not (.idx (.idx (.var 4) (.var 3)) (.cst (.int 0)))) (.cmp .NotIn (.var 4) (.idx (.var 2) (.var 3)))))
def c_is_barred_e2 (I : Ix) : Ex := (.lc (.seq (.var 0)) [4] true [4] (.e (.blt .any (.cons (c_is_barred_e1 I) .nil))) (.var 4))
def c_is_barred (I : Ix) : Df := ⟨(Str.ofString "is_barred"), [(Str.ofString "graph"), (Str.ofString "many"), (Str.ofString "hopes"), (Str.ofString "home"), (Str.ofString "stand")], 1, false, (.cons (.set 1 (.blt .len (.cons (.idx (.blt .list (.cons (.var 0) .nil)) (.cst (.int 0))) .nil))) (.cons (.set 2 (c_is_barred_e0 I)) (.cons (.ret (c_is_barred_e2 I)) .nil)))⟩
def c_has_ring_b0 (I : Ix) : Sms := (.cons (.par [3, 4] (.cons (.idx (.idx (.var 0) (.cst (.int 0))) (.var 3)) (.cons (.bin .Add (.var 4) (.cst (.int 1))) .nil)) [false, false]) (.cons (.ife (.cmp .Eq (.var 3) (.var 2)) (.cons (.ret (.cst (.bool true))) .nil) .nil) .nil))
def c_has_ring_b1 (I : Ix) : Sms := (.cons (.par [3, 4] (.cons (.var 2) (.cons (.cst (.int 0)) .nil)) [false, false]) (.cons (.whl (.and (.cmp .LtE (.var 4) (.blt .len (.cons (.var 1) .nil))) (.and (.call I.f_is_stuck (.cons (.idx (.var 1) (.var 3)) .nil)) (.and (.cmp .Eq (.idx (.idx (.var 1) (.var 3)) (.cst (.int 2))) (.cst (.str (Str.ofString "place")))) (.cmp .GtE (.idx (.idx (.var 0) (.cst (.int 0))) (.var 3)) (.cst (.int 0)))))) (c_has_ring_b0 I)) .nil))
def c_has_ring (I : Ix) : Df := ⟨(Str.ofString "has_ring"), [(Str.ofString "street"), (Str.ofString "stand"), (Str.ofString "home"), (Str.ofString "here"), (Str.ofString "many")], 2, false, (.cons (.fo (.rng1 (.blt .len (.cons (.var 1) .nil))) true [2] (c_has_ring_b1 I)) (.cons (.ret (.cst (.bool false))) .nil))⟩
def c_plain_harms_e0 (I : Ix) : Ex := (.lc (.enum (.var 1)) [4, 5] false [4, 5] (.e (.call I.f_is_stuck (.cons (.var 5) .nil))) (.var 4))
def c_plain_harms_e1 (I : Ix) : Ex := (.lc (.seq (.var 2)) [4] true [4] .no (.cmp .Eq (.call I.f_fetch_rows (.cons (.var 0) (.cons (.var 1) (.cons (.var 4) .nil)))) (.lst .nil)))
def c_plain_harms_e2 (I : Ix) : Ex := (.lc (.seq (.var 2)) [4] true [4] .no (.cmp .In (.idx (.idx (.var 1) (.var 4)) (.cst (.int 2))) (.tup (.cons (.cst (.str (Str.ofString "gone"))) (.cons (.cst (.str (Str.ofString "inside"))) .nil)))))
def c_plain_harms_e3 (I : Ix) : Ex := (.lc (.seq (.var 1)) [5] true [5] .no (.cmp .Eq (.idx (.var 5) (.cst (.int 2))) (.cst (.str (Str.ofString "gone")))))
def c_plain_harms (I : Ix) : Df := ⟨(Str.ofString "plain_harms"), [(Str.ofString "street"), (Str.ofString "stand"), (Str.ofString "stuck"), (Str.ofString "found"), (Str.ofString "home"), (Str.ofString "triple")], 2, false, (.cons (.set 2 (c_plain_harms_e0 I)) (.cons (.set 3 (.ite (.blt .any (.cons (c_plain_harms_e1 I) .nil)) (.lst (.cons (.cst (.str (Str.ofString "locked"))) .nil)) (.lst .nil))) (.cons (.set 3 (.bin .Add (.var 3) (.rep (.cons (.cst (.str (Str.ofString "missing"))) .nil) (.blt .int (.cons (.blt .any (.cons (c_plain_harms_e2 I) .nil)) .nil))))) (.cons (.set 3 (.bin .Add (.var 3) (.rep (.cons (.cst (.str (Str.ofString "ring"))) .nil) (.blt .int (.cons (.call I.f_has_ring (.cons (.var 0) (.cons (.var 1) .nil))) .nil))))) (.cons (.ret (.bin .Add (.var 3) (.rep (.cons (.cst (.str (Str.ofString "stranger"))) .nil) (.blt .int (.cons (.blt .any (.cons (c_plain_harms_e3 I) .nil)) .nil))))) .nil)))))⟩
def c_all_harms_b0 (I : Ix) : Sms := (.cons (.putD 3 (.var 4) (.bin .Add (.ite (.cmp .In (.var 4) (.var 2)) (.lst (.cons (.cst (.str (Str.ofString "barred"))) .nil)) (.lst .nil)) (.call I.f_plain_harms (.cons (.var 0) (.cons (.var 4) .nil))))) .nil)
def c_all_harms (I : Ix) : Df := ⟨(Str.ofString "all_harms"), [(Str.ofString "street"), (Str.ofString "graph"), (Str.ofString "lost"), (Str.ofString "found"), (Str.ofString "stand")], 1, false, (.cons (.set 1 (.call I.f_graph_of (.cons (.var 0) (.cons (.tup .nil) .nil)))) (.cons (.set 2 (.call I.f_is_barred (.cons (.var 1) .nil))) (.cons (.ownD 3 .dnew) (.cons (.fo (.seq (.var 1)) true [4] (c_all_harms_b0 I)) (.cons (.retD 3) .nil)))))⟩
def c_harm_words_e0 (I : Ix) : Ex := (.lc (.seq (.var 1)) [3] true [3] .no (.cmp .In (.var 2) (.idx (.var 1) (.var 3))))
def c_harm_words_e1 (I : Ix) : Ex := (.lc (.seq (.glb I.g_HARMS)) [2] true [2] (.e (.blt .any (.cons (c_harm_words_e0 I) .nil))) (.var 2))
def c_harm_words (I : Ix) : Df := ⟨(Str.ofString "harm_words"), [(Str.ofString "street"), (Str.ofString "some"), (Str.ofString "harm"), (Str.ofString "stand")], 1, false, (.cons (.set 1 (.call I.f_all_harms (.cons (.var 0) .nil))) (.cons (.ret (c_harm_words_e1 I)) .nil))⟩
def c_need_harm (I : Ix) : Df := ⟨(Str.ofString "need_harm"), [(Str.ofString "value")], 1, false, (.cons (.ife (.not (.call I.f_is_word (.cons (.var 0) (.cons (.glb I.g_HARMS) .nil)))) (.cons (.rai 4) .nil) .nil) .nil)⟩
def c_harms (I : Ix) : Df := ⟨(Str.ofString "harms"), [(Str.ofString "street")], 1, false, (.cons (.exp (.call I.f_need_street (.cons (.var 0) .nil))) (.cons (.ret (.call I.f_harm_words (.cons (.var 0) .nil))) .nil))⟩
def c_first_history_b0 (I : Ix) : Sms := (.cons (.set 6 (.idx (.var 2) (.var 3))) (.cons (.ife (.and (.cmp .In (.var 1) (.idx (.var 4) (.var 3))) (.or (.cmp .Is (.var 5) (.cst .none)) (.cmp .Lt (.tup (.cons (.blt .len (.cons (.var 6) .nil)) (.cons (.var 6) .nil))) (.tup (.cons (.blt .len (.cons (.var 5) .nil)) (.cons (.var 5) .nil)))))) (.cons (.set 5 (.var 6)) .nil) .nil) .nil))
def c_first_history (I : Ix) : Df := ⟨(Str.ofString "first_history"), [(Str.ofString "street"), (Str.ofString "harm"), (Str.ofString "ways"), (Str.ofString "stand"), (Str.ofString "some"), (Str.ofString "best"), (Str.ofString "way")], 2, false, (.cons (.exp (.call I.f_need_street (.cons (.var 0) .nil))) (.cons (.exp (.call I.f_need_harm (.cons (.var 1) .nil))) (.cons (.par [4, 5] (.cons (.call I.f_all_harms (.cons (.var 0) .nil)) (.cons (.cst .none) .nil)) [false, false]) (.cons (.set 2 (.call I.f_histories (.cons (.var 0) (.cons (.call I.f_graph_of (.cons (.var 0) (.cons (.tup .nil) .nil))) .nil)))) (.cons (.fo (.seq (.var 2)) true [3] (c_first_history_b0 I)) (.cons (.ret (.var 5)) .nil))))))⟩
def c_l_all_e0 (I : Ix) : Ex := (.lc (.seq (.call I.f_l_steps (.cons (.var 0) (.cons (.var 5) .nil)))) [8] true [8] (.e (.or (.cmp .NotEq (.idx (.idx (.var 8) (.cst (.int 0))) (.cst (.int 0))) (.cst (.str (Str.ofString "go")))) (.cmp .NotIn (.idx (.idx (.var 8) (.cst (.int 0))) (.cst (.int 1))) (.var 1)))) (.var 8))
def c_l_all_e1 (I : Ix) : Ex := (.lc (.seq (.var 7)) [8] true [8] .no (.tup (.cons (.idx (.var 8) (.cst (.int 1))) (.cons (.bin .Add (.var 6) (.tup (.cons (.idx (.var 8) (.cst (.int 0))) .nil))) .nil))))
def c_l_all_b2 (I : Ix) : Sms := (.cons (.ife (.dIn true 2 (.var 5)) (.cons (.set 7 (c_l_all_e0 I)) (.cons (.putD 2 (.var 5) (.tup (.cons (.var 7) (.cons (.var 6) .nil)))) (.cons (.set 4 (.bin .Add (.var 4) (c_l_all_e1 I))) .nil))) .nil) .nil)
def c_l_all_b3 (I : Ix) : Sms := (.cons (.set 4 (.lst .nil)) (.cons (.fo (.seq (.var 3)) false [5, 6] (c_l_all_b2 I)) (.cons (.set 3 (.var 4)) .nil)))
def c_l_all (I : Ix) : Df := ⟨(Str.ofString "_law_all"), [(Str.ofString "_law_row_here"), (Str.ofString "_law_lot"), (Str.ofString "_law_found"), (Str.ofString "_law_line"), (Str.ofString "_law_later"), (Str.ofString "_law_stand"), (Str.ofString "_law_way"), (Str.ofString "_law_steps_so"), (Str.ofString "_law_one_here")], 2, false, (.cons (.par [2, 3] (.cons .dnew (.cons (.lst (.cons (.tup (.cons (.call I.f_l_begin (.cons (.var 0) .nil)) (.cons (.tup .nil) .nil))) .nil)) .nil)) [true, false]) (.cons (.whl (.cmp .NotEq (.var 3) (.lst .nil)) (c_l_all_b3 I)) (.cons (.retD 2) .nil)))⟩
def c_l_hopes_b0 (I : Ix) : Sms := (.cons (.ife (.or (.cmp .Eq (.var 5) (.tup (.cons (.cst (.str (Str.ofString "enter"))) (.cons (.var 1) .nil)))) (.dIn false 2 (.var 6))) (.cons (.putDS 2 (.var 4) 3 (.cons (.cst (.bool true)) (.cons (.cst (.bool true)) .nil))) .nil) .nil) .nil)
def c_l_hopes_b1 (I : Ix) : Sms := (.cons (.ife (.dIn true 2 (.var 4)) (.cons (.fo (.seq (.idx (.idx (.var 0) (.var 4)) (.cst (.int 0)))) false [5, 6] (c_l_hopes_b0 I)) .nil) .nil) .nil)
def c_l_hopes_b2 (I : Ix) : Sms := (.cons (.set 3 (.cst (.bool false))) (.cons (.fo (.seq (.var 0)) true [4] (c_l_hopes_b1 I)) .nil))
def c_l_hopes (I : Ix) : Df := ⟨(Str.ofString "_law_hopes"), [(Str.ofString "_law_graph"), (Str.ofString "_law_k"), (Str.ofString "_law_found"), (Str.ofString "_law_grown"), (Str.ofString "_law_stand"), (Str.ofString "_law_event"), (Str.ofString "_law_there")], 2, false, (.cons (.par [2, 3] (.cons .dnew (.cons (.cst (.bool true)) .nil)) [true, false]) (.cons (.whl (.var 3) (c_l_hopes_b2 I)) (.cons (.retD 2) .nil)))⟩
def c_l_ringed_b0 (I : Ix) : Sms := (.cons (.app 4 (.var 3)) (.cons (.set 3 (.idx (.idx (.var 0) (.cst (.int 0))) (.var 3))) .nil))
def c_l_ringed_b1 (I : Ix) : Sms := (.cons (.par [3, 4] (.cons (.var 2) (.cons (.lst .nil) .nil)) [false, true]) (.cons (.whl (.and (.oIn true 4 (.var 3)) (.and (.call I.f_l_stuck (.cons (.var 1) (.cons (.var 3) .nil))) (.and (.cmp .Eq (.idx (.idx (.var 1) (.var 3)) (.cst (.int 2))) (.cst (.str (Str.ofString "place")))) (.cmp .GtE (.idx (.idx (.var 0) (.cst (.int 0))) (.var 3)) (.cst (.int 0)))))) (c_l_ringed_b0 I)) (.cons (.ife (.and (.cmp .Eq (.var 3) (.var 2)) (.oNe 4)) (.cons (.ret (.cst (.bool true))) .nil) .nil) .nil)))
def c_l_ringed (I : Ix) : Df := ⟨(Str.ofString "_law_ringed"), [(Str.ofString "_law_row_here"), (Str.ofString "_law_stand"), (Str.ofString "_law_k"), (Str.ofString "_law_here"), (Str.ofString "_law_met")], 2, false, (.cons (.fo (.rng1 (.blt .len (.cons (.var 1) .nil))) true [2] (c_l_ringed_b1 I)) (.cons (.ret (.cst (.bool false))) .nil))⟩
def c_l_harms_at_e0 (I : Ix) : Ex := (.lc (.rng1 (.var 3)) [6] true [6] (.e (.call I.f_l_stuck (.cons (.var 2) (.cons (.var 6) .nil)))) (.var 6))
def c_l_harms_at_e1 (I : Ix) : Ex := (.lc (.rng1 (.var 3)) [6] true [6] (.e (.and (.not (.idx (.idx (.var 2) (.var 6)) (.cst (.int 0)))) (.cmp .NotIn (.var 2) (.idx (.var 1) (.var 6))))) (.var 6))
def c_l_harms_at_e2 (I : Ix) : Ex := (.lc (.seq (.var 4)) [6] true [6] (.e (.cmp .Is (.call I.f_l_getting (.cons (.var 0) (.cons (.var 2) (.cons (.var 6) .nil)))) (.cst .none))) (.var 6))
def c_l_harms_at_e3 (I : Ix) : Ex := (.lc (.seq (.var 4)) [6] true [6] (.e (.cmp .In (.idx (.idx (.var 2) (.var 6)) (.cst (.int 2))) (.lst (.cons (.cst (.str (Str.ofString "inside"))) (.cons (.cst (.str (Str.ofString "gone"))) .nil))))) (.var 6))
def c_l_harms_at_e4 (I : Ix) : Ex := (.lc (.seq (.var 2)) [7] true [7] .no (.idx (.var 7) (.cst (.int 2))))
def c_l_harms_at (I : Ix) : Df := ⟨(Str.ofString "_law_harms_at"), [(Str.ofString "_law_row_here"), (Str.ofString "_law_hopes_here"), (Str.ofString "_law_stand"), (Str.ofString "_law_many"), (Str.ofString "_law_stuck_here"), (Str.ofString "_law_found"), (Str.ofString "_law_k"), (Str.ofString "_law_triple")], 3, false, (.cons (.set 3 (.blt .len (.cons (.var 2) .nil))) (.cons (.set 4 (c_l_harms_at_e0 I)) (.cons (.own 5 (.lst .nil)) (.cons (.ife (.cmp .NotEq (c_l_harms_at_e1 I) (.lst .nil)) (.cons (.app 5 (.cst (.str (Str.ofString "barred")))) .nil) .nil) (.cons (.ife (.cmp .NotEq (c_l_harms_at_e2 I) (.lst .nil)) (.cons (.app 5 (.cst (.str (Str.ofString "locked")))) .nil) .nil) (.cons (.ife (.cmp .NotEq (c_l_harms_at_e3 I) (.lst .nil)) (.cons (.app 5 (.cst (.str (Str.ofString "missing")))) .nil) .nil) (.cons (.ife (.call I.f_l_ringed (.cons (.var 0) (.cons (.var 2) .nil))) (.cons (.app 5 (.cst (.str (Str.ofString "ring")))) .nil) .nil) (.shut 5 (.cons (.ret (.bin .Add (.var 5) (.ite (.cmp .In (.cst (.str (Str.ofString "gone"))) (c_l_harms_at_e4 I)) (.lst (.cons (.cst (.str (Str.ofString "stranger"))) .nil)) (.lst .nil)))) .nil)))))))))⟩
def c_l_first_harms_e0 (I : Ix) : Ex := (.lc (.rng1 (.blt .len (.cons (.idx (.var 0) (.cst (.int 0))) .nil))) [7] true [7] .no (.call I.f_l_hopes (.cons (.var 3) (.cons (.var 7) .nil))))
def c_l_first_harms_b1 (I : Ix) : Sms := (.cons (.ife (.or (.dIn true 4 (.var 6)) (.cmp .Lt (.tup (.cons (.blt .len (.cons (.var 5) .nil)) (.cons (.var 5) .nil))) (.dIdx 4 (.var 6)))) (.cons (.putD 4 (.var 6) (.tup (.cons (.blt .len (.cons (.var 5) .nil)) (.cons (.var 5) .nil)))) .nil) .nil) .nil)
def c_l_first_harms_b2 (I : Ix) : Sms := (.cons (.set 5 (.idx (.idx (.var 3) (.var 2)) (.cst (.int 1)))) (.cons (.fo (.seq (.call I.f_l_harms_at (.cons (.var 0) (.cons (.var 1) (.cons (.var 2) .nil))))) true [6] (c_l_first_harms_b1 I)) .nil))
def c_l_first_harms (I : Ix) : Df := ⟨(Str.ofString "_law_first_harms"), [(Str.ofString "_law_row_here"), (Str.ofString "_law_hopes_here"), (Str.ofString "_law_stand"), (Str.ofString "_law_graph"), (Str.ofString "_law_found"), (Str.ofString "_law_way"), (Str.ofString "_law_harm"), (Str.ofString "_law_k")], 1, false, (.cons (.parT [3, 4] (.cons (.call I.f_l_all (.cons (.var 0) (.cons (.tup .nil) .nil))) (.cons .dnew .nil)) [false, true]) (.cons (.set 1 (c_l_first_harms_e0 I)) (.cons (.fo (.seq (.var 3)) true [2] (c_l_first_harms_b2 I)) (.cons (.retD 4) .nil))))⟩
def c_harms_behind (I : Ix) : Df := ⟨(Str.ofString "harms_behind"), [(Str.ofString "street"), (Str.ofString "history"), (Str.ofString "stand")], 2, false, (.cons (.set 2 (.call I.f_need_history (.cons (.var 0) (.cons (.var 1) .nil)))) (.cons (.ret (.idx (.call I.f_all_harms (.cons (.var 0) .nil)) (.var 2))) .nil))⟩
def c_count_stands (I : Ix) : Df := ⟨(Str.ofString "count_stands"), [(Str.ofString "street")], 1, false, (.cons (.exp (.call I.f_need_street (.cons (.var 0) .nil))) (.cons (.ret (.blt .len (.cons (.call I.f_graph_of (.cons (.var 0) (.cons (.tup .nil) .nil))) .nil))) .nil))⟩
def c_need_home (I : Ix) : Df := ⟨(Str.ofString "need_home"), [(Str.ofString "street"), (Str.ofString "value")], 2, false, (.cons (.ife (.not (.call I.f_is_within (.cons (.var 1) (.cons (.cst (.int 0)) (.cons (.bin .Sub (.blt .len (.cons (.idx (.var 0) (.cst (.int 0))) .nil)) (.cst (.int 1))) .nil))))) (.cons (.rai 2) .nil) .nil) .nil)⟩
def c_all_lots_e0 (I : Ix) : Ex := (.lc (.seq (.var 1)) [3] true [3] .no (.bin .Add (.tup (.cons (.var 2) .nil)) (.var 3)))
def c_all_lots_b1 (I : Ix) : Sms := (.cons (.set 1 (.bin .Add (.bin .Add (.lst (.cons (.tup .nil) .nil)) (c_all_lots_e0 I)) (.sl (.var 1) (.e (.cst (.int 1))) .no))) .nil)
def c_all_lots (I : Ix) : Df := ⟨(Str.ofString "all_lots"), [(Str.ofString "many"), (Str.ofString "found"), (Str.ofString "home"), (Str.ofString "lot")], 1, false, (.cons (.set 1 (.lst (.cons (.tup .nil) .nil))) (.cons (.fo (.rng3 (.bin .Sub (.var 0) (.cst (.int 1))) (.neg (.cst (.int 1))) (.neg (.cst (.int 1)))) true [2] (c_all_lots_b1 I)) (.cons (.ret (.var 1)) .nil)))⟩
def c_is_part_e0 (I : Ix) : Ex := (.lc (.seq (.var 0)) [2] true [2] .no (.cmp .In (.var 2) (.var 1)))
def c_is_part (I : Ix) : Df := ⟨(Str.ofString "is_part"), [(Str.ofString "less"), (Str.ofString "lot"), (Str.ofString "home")], 2, false, (.cons (.ret (.blt .all (.cons (c_is_part_e0 I) .nil))) .nil)⟩
def c_way_home_b0 (I : Ix) : Sms := (.cons (.ife (.dIn true 5 (.var 10)) (.cons (.putD 5 (.var 10) (.cst (.bool true))) (.cons (.app 4 (.tup (.cons (.var 10) (.cons (.bin .Add (.var 8) (.tup (.cons (.var 9) .nil))) .nil)))) .nil)) .nil) .nil)
def c_way_home_b1 (I : Ix) : Sms := (.cons (.unp [7, 8] (.oIdx 4 (.var 6))) (.cons (.augI 6 (.cst (.int 1))) (.cons (.ife (.idx (.idx (.var 7) (.var 2)) (.cst (.int 0))) (.cons (.ret (.var 8)) .nil) .nil) (.cons (.fo (.seq (.call I.f_event_rows (.cons (.var 0) (.cons (.var 7) .nil)))) false [9, 10] (c_way_home_b0 I)) .nil))))
def c_way_home (I : Ix) : Df := ⟨(Str.ofString "way_home"), [(Str.ofString "street"), (Str.ofString "history"), (Str.ofString "home"), (Str.ofString "first"), (Str.ofString "line"), (Str.ofString "seen"), (Str.ofString "at"), (Str.ofString "stand"), (Str.ofString "way"), (Str.ofString "event"), (Str.ofString "there")], 3, false, (.cons (.set 3 (.call I.f_need_history (.cons (.var 0) (.cons (.var 1) .nil)))) (.cons (.exp (.call I.f_need_home (.cons (.var 0) (.cons (.var 2) .nil)))) (.cons (.par [4, 5, 6] (.cons (.lst (.cons (.tup (.cons (.var 3) (.cons (.tup .nil) .nil))) .nil)) (.cons (.done (.var 3) (.cst (.bool true))) (.cons (.cst (.int 0)) .nil))) [true, true, false]) (.cons (.whl (.cmp .Lt (.var 6) (.oLen 4)) (c_way_home_b1 I)) (.cons (.ret (.cst .none)) .nil)))))⟩
def c_stay_lots_e0 (I : Ix) : Ex := (.lc (.seq (.call I.f_all_lots (.cons (.blt .len (.cons (.idx (.var 0) (.cst (.int 0))) .nil)) .nil))) [2] true [2] (.e (.cmp .Eq (.call I.f_is_barred (.cons (.call I.f_graph_of (.cons (.var 0) (.cons (.var 2) .nil))) .nil)) (.lst .nil))) (.var 2))
def c_stay_lots_e1 (I : Ix) : Ex := (.lc (.seq (.var 1)) [3] true [3] .no (.and (.cmp .NotEq (.var 3) (.var 2)) (.call I.f_is_part (.cons (.var 3) (.cons (.var 2) .nil)))))
def c_stay_lots_e2 (I : Ix) : Ex := (.lc (.seq (.var 1)) [2] true [2] (.e (.not (.blt .any (.cons (c_stay_lots_e1 I) .nil)))) (.var 2))
def c_stay_lots (I : Ix) : Df := ⟨(Str.ofString "stay_lots"), [(Str.ofString "street"), (Str.ofString "good"), (Str.ofString "lot"), (Str.ofString "less")], 1, false, (.cons (.exp (.call I.f_need_street (.cons (.var 0) .nil))) (.cons (.set 1 (c_stay_lots_e0 I)) (.cons (.ret (c_stay_lots_e2 I)) .nil)))⟩
def c_without_spare (I : Ix) : Df := ⟨(Str.ofString "without_spare"), [(Str.ofString "street"), (Str.ofString "home")], 2, false, (.cons (.ret (.bin .Add (.tup (.cons (.bin .Add (.bin .Add (.sl (.idx (.var 0) (.cst (.int 0))) .no (.e (.var 1))) (.tup (.cons (.glb I.g_NONE) .nil))) (.sl (.idx (.var 0) (.cst (.int 0))) (.e (.bin .Add (.var 1) (.cst (.int 1)))) .no)) .nil)) (.sl (.var 0) (.e (.cst (.int 1))) .no))) .nil)⟩
def c_idle_spares_e0 (I : Ix) : Ex := (.lc (.rng1 (.blt .len (.cons (.idx (.var 0) (.cst (.int 0))) .nil))) [3] true [3] (.e (.cmp .NotEq (.idx (.idx (.var 0) (.cst (.int 0))) (.var 3)) (.glb I.g_NONE))) (.var 3))
def c_idle_spares_e1 (I : Ix) : Ex := (.lc (.seq (.var 2)) [3] true [3] (.e (.cmp .Eq (.call I.f_harm_words (.cons (.call I.f_without_spare (.cons (.var 0) (.cons (.var 3) .nil))) .nil)) (.var 1))) (.var 3))
def c_idle_spares (I : Ix) : Df := ⟨(Str.ofString "idle_spares"), [(Str.ofString "street"), (Str.ofString "due"), (Str.ofString "some"), (Str.ofString "home")], 1, false, (.cons (.exp (.call I.f_need_street (.cons (.var 0) .nil))) (.cons (.set 1 (.call I.f_harm_words (.cons (.var 0) .nil))) (.cons (.set 2 (c_idle_spares_e0 I)) (.cons (.ret (c_idle_spares_e1 I)) .nil))))⟩
def c_need_two (I : Ix) : Df := ⟨(Str.ofString "need_two"), [(Str.ofString "one"), (Str.ofString "other")], 2, false, (.cons (.exp (.call I.f_need_street (.cons (.var 0) .nil))) (.cons (.exp (.call I.f_need_street (.cons (.var 1) .nil))) (.cons (.ife (.cmp .NotEq (.blt .len (.cons (.idx (.var 0) (.cst (.int 0))) .nil)) (.blt .len (.cons (.idx (.var 1) (.cst (.int 0))) .nil))) (.cons (.rai 7) .nil) .nil) .nil)))⟩
def c_alike (I : Ix) : Df := ⟨(Str.ofString "alike"), [(Str.ofString "one"), (Str.ofString "other")], 2, false, (.cons (.exp (.call I.f_need_two (.cons (.var 0) (.cons (.var 1) .nil)))) (.cons (.ret (.cmp .Is (.call I.f_parted (.cons (.var 0) (.cons (.var 1) .nil))) (.cst .none))) .nil))⟩
def c_parts_of_b0 (I : Ix) : Sms := (.cons (.set 1 (.bin .Add (.var 1) (.var 2))) .nil)
def c_parts_of (I : Ix) : Df := ⟨(Str.ofString "parts_of"), [(Str.ofString "street"), (Str.ofString "parts"), (Str.ofString "habit"), (Str.ofString "spares"), (Str.ofString "found"), (Str.ofString "homes")], 1, false, (.cons (.unp [3, 4, 5] (.var 0)) (.cons (.set 1 (.bin .Add (.var 3) (.tup (.cons (.var 4) .nil)))) (.cons (.fo (.seq (.var 5)) true [2] (c_parts_of_b0 I)) (.cons (.ret (.var 1)) .nil))))⟩
def c_street_of_e0 (I : Ix) : Ex := (.lc (.rng3 (.cst (.int 0)) (.blt .len (.cons (.var 2) .nil)) (.cst (.int 3))) [3] true [3] .no (.sl (.var 2) (.e (.var 3)) (.e (.bin .Add (.var 3) (.cst (.int 3))))))
def c_street_of (I : Ix) : Df := ⟨(Str.ofString "street_of"), [(Str.ofString "parts"), (Str.ofString "many"), (Str.ofString "rest"), (Str.ofString "at")], 2, false, (.cons (.set 2 (.sl (.var 0) (.e (.bin .Add (.var 1) (.cst (.int 1)))) .no)) (.cons (.ret (.tup (.cons (.sl (.var 0) .no (.e (.var 1))) (.cons (.idx (.var 0) (.var 1)) (.cons (.blt .tuple (.cons (c_street_of_e0 I) .nil)) .nil))))) .nil))⟩
def c_values_of_e0 (I : Ix) : Ex := (.lc (.rng2 (.glb I.g_NONE) (.var 1)) [2] true [2] (.e (.cmp .NotEq (.var 2) (.var 0))) (.var 2))
def c_values_of (I : Ix) : Df := ⟨(Str.ofString "values_of"), [(Str.ofString "at"), (Str.ofString "many"), (Str.ofString "place")], 2, false, (.cons (.ife (.cmp .Lt (.var 0) (.var 1)) (.cons (.ret (c_values_of_e0 I)) .nil) .nil) (.cons (.ret (.blt .list (.cons (.glb I.g_TRUTHS) .nil))) .nil))⟩
def c_changed_b0 (I : Ix) : Sms := (.cons (.ife (.cmp .NotEq (.var 5) (.idx (.var 0) (.var 4))) (.cons (.app 3 (.tup (.cons (.var 4) (.cons (.bin .Add (.bin .Add (.sl (.var 0) .no (.e (.var 4))) (.tup (.cons (.var 5) .nil))) (.sl (.var 0) (.e (.bin .Add (.var 4) (.cst (.int 1)))) .no)) .nil)))) .nil) .nil) .nil)
def c_changed_b1 (I : Ix) : Sms := (.cons (.fo (.seq (.call I.f_values_of (.cons (.var 4) (.cons (.var 2) .nil)))) true [5] (c_changed_b0 I)) .nil)
def c_changed (I : Ix) : Df := ⟨(Str.ofString "changed"), [(Str.ofString "parts"), (Str.ofString "first"), (Str.ofString "many"), (Str.ofString "found"), (Str.ofString "at"), (Str.ofString "value")], 3, false, (.cons (.own 3 (.lst .nil)) (.cons (.fo (.rng2 (.var 1) (.blt .len (.cons (.var 0) .nil))) true [4] (c_changed_b1 I)) (.cons (.retO 3) .nil)))⟩
def c_ones_e0 (I : Ix) : Ex := (.lc (.seq (.call I.f_changed (.cons (.call I.f_parts_of (.cons (.var 0) .nil)) (.cons (.cst (.int 0)) (.cons (.var 1) .nil))))) [2, 3] false [2, 3] .no (.call I.f_street_of (.cons (.var 3) (.cons (.var 1) .nil))))
def c_ones (I : Ix) : Df := ⟨(Str.ofString "ones"), [(Str.ofString "street"), (Str.ofString "many"), (Str.ofString "at"), (Str.ofString "other")], 1, false, (.cons (.set 1 (.blt .len (.cons (.idx (.var 0) (.cst (.int 0))) .nil))) (.cons (.ret (.blt .sorted (.cons (c_ones_e0 I) .nil))) .nil))⟩
def c_changes (I : Ix) : Df := ⟨(Str.ofString "changes"), [(Str.ofString "street")], 1, false, (.cons (.exp (.call I.f_need_street (.cons (.var 0) .nil))) (.cons (.ret (.call I.f_ones (.cons (.var 0) .nil))) .nil))⟩
def c_l_turned (I : Ix) : Df := ⟨(Str.ofString "_law_turned"), [(Str.ofString "_law_event"), (Str.ofString "_law_order_so")], 2, false, (.cons (.ret (.bin .Add (.bin .Add (.sl (.var 0) .no (.e (.cst (.int 1)))) (.tup (.cons (.idx (.var 1) (.idx (.var 0) (.cst (.int 1)))) .nil))) (.sl (.var 0) (.e (.cst (.int 2))) .no))) .nil)⟩
def c_l_way_e0 (I : Ix) : Ex := (.lc (.seq (.call I.f_l_steps (.cons (.var 0) (.cons (.var 6) .nil)))) [8] true [8] .no (.tup (.cons (.idx (.var 8) (.cst (.int 1))) (.cons (.bin .Add (.var 7) (.tup (.cons (.idx (.var 8) (.cst (.int 0))) .nil))) .nil))))
def c_l_way_b1 (I : Ix) : Sms := (.cons (.ife (.idx (.idx (.var 6) (.var 2)) (.cst (.int 0))) (.cons (.ret (.var 7)) .nil) .nil) (.cons (.ife (.oIn true 4 (.var 6)) (.cons (.app 4 (.var 6)) (.cons (.set 5 (.bin .Add (.var 5) (c_l_way_e0 I))) .nil)) .nil) .nil))
def c_l_way_b2 (I : Ix) : Sms := (.cons (.set 5 (.lst .nil)) (.cons (.fo (.seq (.var 3)) false [6, 7] (c_l_way_b1 I)) (.cons (.set 3 (.var 5)) .nil)))
def c_l_way (I : Ix) : Df := ⟨(Str.ofString "_law_way"), [(Str.ofString "_law_street"), (Str.ofString "_law_stand"), (Str.ofString "_law_k"), (Str.ofString "_law_line"), (Str.ofString "_law_met"), (Str.ofString "_law_later"), (Str.ofString "_law_here"), (Str.ofString "_law_way_here"), (Str.ofString "_law_one_here")], 3, false, (.cons (.par [3, 4] (.cons (.lst (.cons (.tup (.cons (.var 1) (.cons (.tup .nil) .nil))) .nil)) (.cons (.lst .nil) .nil)) [false, true]) (.cons (.whl (.cmp .NotEq (.var 3) (.lst .nil)) (c_l_way_b2 I)) (.cons (.ret (.cst .none)) .nil)))⟩
def c_l_lots_e0 (I : Ix) : Ex := (.lc (.seq (.var 1)) [3] true [3] .no (.bin .Add (.var 3) (.tup (.cons (.var 2) .nil))))
def c_l_lots_b1 (I : Ix) : Sms := (.cons (.set 1 (.bin .Add (.var 1) (c_l_lots_e0 I))) .nil)
def c_l_lots (I : Ix) : Df := ⟨(Str.ofString "_law_lots"), [(Str.ofString "_law_many"), (Str.ofString "_law_found"), (Str.ofString "_law_k"), (Str.ofString "_law_lot")], 1, false, (.cons (.set 1 (.lst (.cons (.tup .nil) .nil))) (.cons (.fo (.rng1 (.var 0)) true [2] (c_l_lots_b1 I)) (.cons (.ret (.blt .sorted (.cons (.var 1) .nil))) .nil)))⟩
def c_l_safe_e0 (I : Ix) : Ex := (.lc (.rng1 (.blt .len (.cons (.idx (.var 0) (.cst (.int 0))) .nil))) [5] true [5] .no (.call I.f_l_hopes (.cons (.var 2) (.cons (.var 5) .nil))))
def c_l_safe_e1 (I : Ix) : Ex := (.lc (.rng1 (.blt .len (.cons (.var 4) .nil))) [5] true [5] (.e (.and (.not (.idx (.idx (.var 4) (.var 5)) (.cst (.int 0)))) (.cmp .NotIn (.var 4) (.idx (.var 3) (.var 5))))) (.var 5))
def c_l_safe_b2 (I : Ix) : Sms := (.cons (.ife (.cmp .NotEq (c_l_safe_e1 I) (.lst .nil)) (.cons (.ret (.cst (.bool false))) .nil) .nil) .nil)
def c_l_safe (I : Ix) : Df := ⟨(Str.ofString "_law_safe"), [(Str.ofString "_law_street"), (Str.ofString "_law_lot"), (Str.ofString "_law_graph"), (Str.ofString "_law_hopes_here"), (Str.ofString "_law_stand"), (Str.ofString "_law_k")], 2, false, (.cons (.set 2 (.call I.f_l_all (.cons (.var 0) (.cons (.var 1) .nil)))) (.cons (.set 3 (c_l_safe_e0 I)) (.cons (.fo (.seq (.var 2)) true [4] (c_l_safe_b2 I)) (.cons (.ret (.cst (.bool true))) .nil))))⟩
def c_parting (I : Ix) : Df := ⟨(Str.ofString "parting"), [(Str.ofString "one"), (Str.ofString "other")], 2, false, (.cons (.exp (.call I.f_need_two (.cons (.var 0) (.cons (.var 1) .nil)))) (.cons (.ret (.call I.f_parted (.cons (.var 0) (.cons (.var 1) .nil)))) .nil))⟩
def c_l_near_e0 (I : Ix) : Ex := (.lc (.seq (.lst (.cons (.neg (.cst (.int 2))) (.cons (.neg (.cst (.int 1))) (.cons (.cst (.int 0)) (.cons (.cst (.int 1)) (.cons (.cst (.int 2)) .nil))))))) [8] true [8] (.e (.and (.cmp .NotEq (.var 8) (.var 4)) (.cmp .Lt (.var 8) (.blt .len (.cons (.idx (.var 1) (.cst (.int 0))) .nil))))) (.var 8))
def c_l_near_b1 (I : Ix) : Sms := (.cons (.unp [3, 4] (.tup (.cons (.callD I.f_l_pick 0 (.cons (.cst (.int 4)) .nil)) (.cons (.callD I.f_l_pick 0 (.cons (.blt .len (.cons (.idx (.var 1) (.cst (.int 0))) .nil)) .nil)) .nil)))) (.cons (.ife (.cmp .Eq (.var 3) (.cst (.int 0))) (.cons (.set 5 (.callD I.f_l_one 0 (.cons (c_l_near_e0 I) .nil))) (.cons (.set 1 (.bin .Add (.tup (.cons (.bin .Add (.bin .Add (.sl (.idx (.var 1) (.cst (.int 0))) .no (.e (.var 4))) (.tup (.cons (.var 5) .nil))) (.sl (.idx (.var 1) (.cst (.int 0))) (.e (.bin .Add (.var 4) (.cst (.int 1)))) .no)) .nil)) (.sl (.var 1) (.e (.cst (.int 1))) .no))) .nil)) (.cons (.ife (.cmp .Eq (.var 3) (.cst (.int 1))) (.cons (.set 1 (.tup (.cons (.idx (.var 1) (.cst (.int 0))) (.cons (.not (.idx (.var 1) (.cst (.int 1)))) (.cons (.idx (.var 1) (.cst (.int 2))) .nil))))) .nil) (.cons (.par [6, 7] (.cons (.idx (.idx (.var 1) (.cst (.int 2))) (.var 4)) (.cons (.callD I.f_l_pick 0 (.cons (.cst (.int 3)) .nil)) .nil)) [false, false]) (.cons (.set 6 (.bin .Add (.bin .Add (.sl (.var 6) .no (.e (.var 7))) (.tup (.cons (.not (.idx (.var 6) (.var 7))) .nil))) (.sl (.var 6) (.e (.bin .Add (.var 7) (.cst (.int 1)))) .no))) (.cons (.set 1 (.bin .Add (.sl (.var 1) .no (.e (.cst (.int 2)))) (.tup (.cons (.bin .Add (.bin .Add (.sl (.idx (.var 1) (.cst (.int 2))) .no (.e (.var 4))) (.tup (.cons (.var 6) .nil))) (.sl (.idx (.var 1) (.cst (.int 2))) (.e (.bin .Add (.var 4) (.cst (.int 1)))) .no)) .nil)))) .nil)))) .nil)) .nil))
def c_l_near (I : Ix) : Df := ⟨(Str.ofString "_law_near"), [(Str.ofString "_law_deck_here"), (Str.ofString "_law_row_here"), (Str.ofString "_law_turn"), (Str.ofString "_law_way"), (Str.ofString "_law_k"), (Str.ofString "_law_place"), (Str.ofString "_law_habit_here"), (Str.ofString "_law_at"), (Str.ofString "_law_j")], 2, true, (.cons (.fo (.rng1 (.bin .Add (.cst (.int 1)) (.callD I.f_l_pick 0 (.cons (.cst (.int 2)) .nil)))) true [2] (c_l_near_b1 I)) (.cons (.ret (.var 1)) .nil))⟩
def v1_c_l_near_e0 (I : Ix) : Ex := (.lc (.seq (.lst (.cons (.neg (.cst (.int 2))) (.cons (.neg (.cst (.int 1))) (.cons (.cst (.int 0)) (.cons (.cst (.int 1)) (.cons (.cst (.int 2)) .nil))))))) [8] true [8] (.e (.and (.cmp .NotEq (.var 8) (.var 4)) (.cmp .Lt (.var 8) (.blt .len (.cons (.idx (.var 1) (.cst (.int 0))) .nil))))) (.var 8))
def v1_c_l_near_b1 (I : Ix) : Sms := (.cons (.unp [3, 4] (.tup (.cons (.callD I.f_l_pick 0 (.cons (.cst (.int 4)) .nil)) (.cons (.callD I.f_l_pick 0 (.cons (.blt .len (.cons (.idx (.var 1) (.cst (.int 0))) .nil)) .nil)) .nil)))) (.cons (.ife (.cmp .Eq (.var 3) (.cst (.int 0))) (.cons (.set 5 (.callD I.f_l_one 0 (.cons (v1_c_l_near_e0 I) .nil))) (.cons (.set 1 (.bin .Add (.tup (.cons (.bin .Add (.bin .Add (.sl (.idx (.var 1) (.cst (.int 0))) .no (.e (.var 4))) (.tup (.cons (.var 5) .nil))) (.sl (.idx (.var 1) (.cst (.int 0))) (.e (.bin .Add (.var 4) (.cst (.int 1)))) .no)) .nil)) (.sl (.var 1) (.e (.cst (.int 1))) .no))) .nil)) (.cons (.ife (.cmp .Eq (.var 3) (.cst (.int 1))) (.cons (.set 1 (.tup (.cons (.idx (.var 1) (.cst (.int 0))) (.cons (.not (.idx (.var 1) (.cst (.int 1)))) (.cons (.idx (.var 1) (.cst (.int 2))) .nil))))) .nil) (.cons (.par [6, 7] (.cons (.idx (.idx (.var 1) (.cst (.int 2))) (.var 4)) (.cons (.callD I.f_l_pick 0 (.cons (.cst (.int 3)) .nil)) .nil)) [false, false]) (.cons (.set 6 (.bin .Add (.bin .Add (.sl (.var 6) .no (.e (.var 7))) (.tup (.cons (.not (.idx (.var 6) (.var 7))) .nil))) (.sl (.var 6) (.e (.bin .Add (.var 7) (.cst (.int 1)))) .no))) (.cons (.set 1 (.bin .Add (.sl (.var 1) .no (.e (.cst (.int 2)))) (.tup (.cons (.bin .Add (.bin .Add (.sl (.idx (.var 1) (.cst (.int 2))) .no (.e (.var 4))) (.tup (.cons (.var 6) .nil))) (.sl (.idx (.var 1) (.cst (.int 2))) (.e (.bin .Add (.var 4) (.cst (.int 1)))) .no)) .nil)))) .nil)))) .nil)) .nil))
def v1_c_l_near (I : Ix) : Df := ⟨(Str.ofString "_law_near"), [(Str.ofString "_law_deck_here"), (Str.ofString "_law_row"), (Str.ofString "_law_turn"), (Str.ofString "_law_way"), (Str.ofString "_law_k"), (Str.ofString "_law_place"), (Str.ofString "_law_habit_here"), (Str.ofString "_law_at"), (Str.ofString "_law_j")], 2, true, (.cons (.fo (.rng1 (.bin .Add (.cst (.int 1)) (.callD I.f_l_pick 0 (.cons (.cst (.int 2)) .nil)))) true [2] (v1_c_l_near_b1 I)) (.cons (.ret (.var 1)) .nil))⟩
def c_l_ones_b0 (I : Ix) : Sms := (.cons (.ife (.and (.cmp .NotEq (.var 7) (.var 1)) (.cmp .NotEq (.var 7) (.idx (.var 2) (.var 1)))) (.cons (.app 5 (.tup (.cons (.bin .Add (.bin .Add (.sl (.var 2) .no (.e (.var 1))) (.tup (.cons (.var 7) .nil))) (.sl (.var 2) (.e (.bin .Add (.var 1) (.cst (.int 1)))) .no)) (.cons (.var 3) (.cons (.var 4) .nil))))) .nil) .nil) .nil)
def c_l_ones_b1 (I : Ix) : Sms := (.cons (.set 9 (.idx (.var 4) (.var 1))) (.cons (.set 9 (.bin .Add (.bin .Add (.sl (.var 9) .no (.e (.var 8))) (.tup (.cons (.not (.idx (.var 9) (.var 8))) .nil))) (.sl (.var 9) (.e (.bin .Add (.var 8) (.cst (.int 1)))) .no))) (.cons (.app 5 (.tup (.cons (.var 2) (.cons (.var 3) (.cons (.bin .Add (.bin .Add (.sl (.var 4) .no (.e (.var 1))) (.tup (.cons (.var 9) .nil))) (.sl (.var 4) (.e (.bin .Add (.var 1) (.cst (.int 1)))) .no)) .nil))))) .nil)))
def c_l_ones_b2 (I : Ix) : Sms := (.cons (.fo (.rng2 (.neg (.cst (.int 2))) (.var 6)) true [7] (c_l_ones_b0 I)) (.cons (.fo (.rng1 (.cst (.int 3))) true [8] (c_l_ones_b1 I)) .nil))
def c_l_ones (I : Ix) : Df := ⟨(Str.ofString "_law_ones"), [(Str.ofString "_law_row_here"), (Str.ofString "_law_k"), (Str.ofString "_law_spares_so"), (Str.ofString "_law_found_so"), (Str.ofString "_law_homes_so"), (Str.ofString "_law_found"), (Str.ofString "_law_many"), (Str.ofString "_law_place"), (Str.ofString "_law_at"), (Str.ofString "_law_habit_here")], 1, false, (.cons (.unp [2, 3, 4] (.var 0)) (.cons (.par [5, 6] (.cons (.lst (.cons (.tup (.cons (.var 2) (.cons (.not (.var 3)) (.cons (.var 4) .nil)))) .nil)) (.cons (.blt .len (.cons (.var 2) .nil)) .nil)) [true, false]) (.cons (.fo (.rng1 (.var 6)) true [1] (c_l_ones_b2 I)) (.shut 5 (.cons (.ret (.blt .sorted (.cons (.var 5) .nil))) .nil)))))⟩
def c_twos_e0 (I : Ix) : Ex := (.lc (.seq (.call I.f_changed (.cons (.var 4) (.cons (.bin .Add (.var 3) (.cst (.int 1))) (.cons (.var 1) .nil))))) [5, 6] false [5, 6] .no (.call I.f_street_of (.cons (.var 6) (.cons (.var 1) .nil))))
def c_twos_b1 (I : Ix) : Sms := (.cons (.augL 2 (c_twos_e0 I)) .nil)
def c_twos (I : Ix) : Df := ⟨(Str.ofString "twos"), [(Str.ofString "street"), (Str.ofString "many"), (Str.ofString "found"), (Str.ofString "at"), (Str.ofString "other"), (Str.ofString "last"), (Str.ofString "more")], 1, false, (.cons (.parT [1, 2] (.cons (.blt .len (.cons (.idx (.var 0) (.cst (.int 0))) .nil)) (.cons (.lst .nil) .nil)) [false, true]) (.cons (.fo (.seq (.call I.f_changed (.cons (.call I.f_parts_of (.cons (.var 0) .nil)) (.cons (.cst (.int 0)) (.cons (.var 1) .nil))))) false [3, 4] (c_twos_b1 I)) (.shut 2 (.cons (.ret (.blt .sorted (.cons (.var 2) .nil))) .nil))))⟩
def c_is_good_e0 (I : Ix) : Ex := (.lc (.seq (.var 1)) [3] true [3] .no (.cmp .In (.var 3) (.var 2)))
def c_is_good (I : Ix) : Df := ⟨(Str.ofString "is_good"), [(Str.ofString "street"), (Str.ofString "wishes"), (Str.ofString "some"), (Str.ofString "harm")], 2, false, (.cons (.set 2 (.call I.f_harm_words (.cons (.var 0) .nil))) (.cons (.ret (.not (.blt .any (.cons (c_is_good_e0 I) .nil)))) .nil))⟩
def c_need_wishes_e0 (I : Ix) : Ex := (.lc (.seq (.var 0)) [1] true [1] .no (.call I.f_is_word (.cons (.var 1) (.cons (.glb I.g_HARMS) .nil))))
def c_need_wishes_e1 (I : Ix) : Ex := (.lc (.zip (.var 0) (.sl (.var 0) (.e (.cst (.int 1))) .no)) [1, 2] false [1, 2] .no (.cmp .Lt (.var 1) (.var 2)))
def c_need_wishes (I : Ix) : Df := ⟨(Str.ofString "need_wishes"), [(Str.ofString "value"), (Str.ofString "one"), (Str.ofString "other")], 1, false, (.cons (.ife (.or (.not (.isi (.var 0) .tuple)) (.not (.blt .all (.cons (c_need_wishes_e0 I) .nil)))) (.cons (.rai 4) .nil) .nil) (.cons (.ife (.not (.blt .all (.cons (c_need_wishes_e1 I) .nil))) (.cons (.rai 4) .nil) .nil) .nil))⟩
def c_least_changes_e0 (I : Ix) : Ex := (.lc (.seq (.call I.f_ones (.cons (.var 0) .nil))) [3] true [3] (.e (.call I.f_is_good (.cons (.var 3) (.cons (.var 1) .nil)))) (.var 3))
def c_least_changes_e1 (I : Ix) : Ex := (.lc (.seq (.call I.f_twos (.cons (.var 0) .nil))) [3] true [3] (.e (.call I.f_is_good (.cons (.var 3) (.cons (.var 1) .nil)))) (.var 3))
def c_least_changes (I : Ix) : Df := ⟨(Str.ofString "least_changes"), [(Str.ofString "street"), (Str.ofString "wishes"), (Str.ofString "found"), (Str.ofString "other")], 2, false, (.cons (.exp (.call I.f_need_street (.cons (.var 0) .nil))) (.cons (.exp (.call I.f_need_wishes (.cons (.var 1) .nil))) (.cons (.ife (.call I.f_is_good (.cons (.var 0) (.cons (.var 1) .nil))) (.cons (.ret (.lst (.cons (.var 0) .nil))) .nil) .nil) (.cons (.set 2 (c_least_changes_e0 I)) (.cons (.ret (.ite (.cmp .NotEq (.var 2) (.lst .nil)) (.var 2) (c_least_changes_e1 I))) .nil)))))⟩
def c_l_is_free_e0 (I : Ix) : Ex := (.lc (.seq (.var 1)) [3] true [3] (.e (.cmp .In (.var 3) (.var 2))) (.var 3))
def c_l_is_free (I : Ix) : Df := ⟨(Str.ofString "_law_is_free"), [(Str.ofString "_law_row_here"), (Str.ofString "_law_wishes_so"), (Str.ofString "_law_some"), (Str.ofString "_law_harm")], 2, false, (.cons (.set 2 (.call I.f_l_first_harms (.cons (.var 0) .nil))) (.cons (.ret (.cmp .Eq (c_l_is_free_e0 I) (.lst .nil))) .nil))⟩
def c_with_spare (I : Ix) : Df := ⟨(Str.ofString "with_spare"), [(Str.ofString "street"), (Str.ofString "value"), (Str.ofString "found"), (Str.ofString "home"), (Str.ofString "place")], 2, false, (.cons (.ife (.or (.not (.isi (.var 1) .tuple)) (.or (.cmp .NotEq (.blt .len (.cons (.var 1) .nil)) (.cst (.int 2))) (.not (.call I.f_is_within (.cons (.idx (.var 1) (.cst (.int 0))) (.cons (.cst (.int 0)) (.cons (.bin .Sub (.blt .len (.cons (.idx (.var 0) (.cst (.int 0))) .nil)) (.cst (.int 1))) .nil))))))) (.cons (.rai 2) .nil) .nil) (.cons (.unp [3, 4] (.var 1)) (.cons (.set 2 (.bin .Add (.tup (.cons (.bin .Add (.bin .Add (.sl (.idx (.var 0) (.cst (.int 0))) .no (.e (.var 3))) (.tup (.cons (.var 4) .nil))) (.sl (.idx (.var 0) (.cst (.int 0))) (.e (.bin .Add (.var 3) (.cst (.int 1)))) .no)) .nil)) (.sl (.var 0) (.e (.cst (.int 1))) .no))) (.cons (.ife (.or (.cmp .NotEq (.idx (.idx (.var 0) (.cst (.int 0))) (.var 3)) (.glb I.g_NONE)) (.or (.cmp .Eq (.var 4) (.glb I.g_NONE)) (.not (.call I.f_is_street_value (.cons (.var 2) .nil))))) (.cons (.rai 0) .nil) .nil) (.cons (.ret (.var 2)) .nil)))))⟩
def c_taken (I : Ix) : Df := ⟨(Str.ofString "taken"), [(Str.ofString "street"), (Str.ofString "home")], 2, false, (.cons (.exp (.call I.f_need_home (.cons (.var 0) (.cons (.var 1) .nil)))) (.cons (.ife (.cmp .Eq (.idx (.idx (.var 0) (.cst (.int 0))) (.var 1)) (.glb I.g_NONE)) (.cons (.rai 2) .nil) .nil) (.cons (.ret (.bin .Add (.tup (.cons (.bin .Add (.bin .Add (.sl (.idx (.var 0) (.cst (.int 0))) .no (.e (.var 1))) (.tup (.cons (.glb I.g_NONE) .nil))) (.sl (.idx (.var 0) (.cst (.int 0))) (.e (.bin .Add (.var 1) (.cst (.int 1)))) .no)) .nil)) (.sl (.var 0) (.e (.cst (.int 1))) .no))) .nil)))⟩
def c__wall_b0 (I : Ix) : Sms := (.cons .pass .nil)
def c__wall (I : Ix) : Df := ⟨(Str.ofString "_wall"), [(Str.ofString "k")], 1, false, (.cons (.whl (.cst (.bool true)) (c__wall_b0 I)) .nil)⟩
def c_l_led_on (I : Ix) : Df := ⟨(Str.ofString "_law_led_on"), [(Str.ofString "_law_lane"), (Str.ofString "_law_events_so"), (Str.ofString "_law_same_here")], 2, false, (.cons (.set 2 (.var 0)) (.cons (.augI 2 (.var 1)) (.cons (.ret (.cmp .Eq (.var 2) (.var 0))) .nil)))⟩
def v1_c_l_led_on (I : Ix) : Df := ⟨(Str.ofString "_law_led_on"), [(Str.ofString "_law_lane"), (Str.ofString "_law_events_so"), (Str.ofString "_law_same")], 2, false, (.cons (.set 2 (.var 0)) (.cons (.augI 2 (.var 1)) (.cons (.ret (.cmp .Eq (.var 2) (.var 0))) .nil)))⟩
def c_l_tried (I : Ix) : Df := ⟨(Str.ofString "_law_tried"), [(Str.ofString "_law_lane"), (Str.ofString "_law_events_so"), (Str.ofString "_law_odd")], 3, false, (.cons (.exp (.call I.f_l_led_on (.cons (.var 0) (.cons (.var 1) .nil)))) (.cons (.ret (.ite (.cmp .IsNot (.var 2) (.cst .none)) (.idx (.var 0) (.var 2)) (.blt .len (.cons (.var 0) .nil)))) .nil))⟩
def c_part_of (I : Ix) : Df := ⟨(Str.ofString "part_of"), [(Str.ofString "line"), (Str.ofString "words")], 1, false, (.cons (.set 1 (.mth .split (.var 0) (.cons (.cst (.str (Str.ofString " "))) .nil))) (.cons (.ife (.cmp .In (.var 1) (.tup (.cons (.lst (.cons (.cst (.str (Str.ofString "street"))) (.cons (.cst (.str (Str.ofString "found"))) .nil))) (.cons (.lst (.cons (.cst (.str (Str.ofString "street"))) (.cons (.cst (.str (Str.ofString "safe"))) .nil))) .nil)))) (.cons (.ret (.tup (.cons (.cst (.str (Str.ofString "street"))) (.cons (.cmp .Eq (.idx (.var 1) (.cst (.int 1))) (.cst (.str (Str.ofString "found")))) .nil)))) .nil) .nil) (.cons (.ife (.or (.cmp .NotEq (.idx (.var 1) (.cst (.int 0))) (.cst (.str (Str.ofString "home")))) (.or (.cmp .NotEq (.blt .len (.cons (.var 1) .nil)) (.cst (.int 5))) (.or (.gIn true (Str.ofString "PLACES") [((Str.ofString "none"), (-2)), ((Str.ofString "mat"), (-1)), ((Str.ofString "0"), 0), ((Str.ofString "1"), 1), ((Str.ofString "2"), 2)] (.idx (.var 1) (.cst (.int 1)))) (.cmp .NotIn (.idx (.var 1) (.cst (.int 2))) (.tup (.cons (.cst (.str (Str.ofString "forgets"))) (.cons (.cst (.str (Str.ofString "takes"))) .nil))))))) (.cons (.ret (.cst .none)) .nil) .nil) (.cons (.ife (.or (.cmp .NotIn (.idx (.var 1) (.cst (.int 3))) (.tup (.cons (.cst (.str (Str.ofString "gives"))) (.cons (.cst (.str (Str.ofString "keeps"))) .nil)))) (.cmp .NotIn (.idx (.var 1) (.cst (.int 4))) (.tup (.cons (.cst (.str (Str.ofString "bold"))) (.cons (.cst (.str (Str.ofString "shy"))) .nil))))) (.cons (.ret (.cst .none)) .nil) .nil) (.cons (.ret (.tup (.cons (.cst (.str (Str.ofString "home"))) (.cons (.tup (.cons (.gIdx (Str.ofString "PLACES") [((Str.ofString "none"), (-2)), ((Str.ofString "mat"), (-1)), ((Str.ofString "0"), 0), ((Str.ofString "1"), 1), ((Str.ofString "2"), 2)] (.idx (.var 1) (.cst (.int 1)))) (.cons (.tup (.cons (.cmp .Eq (.idx (.var 1) (.cst (.int 2))) (.cst (.str (Str.ofString "forgets")))) (.cons (.cmp .Eq (.idx (.var 1) (.cst (.int 3))) (.cst (.str (Str.ofString "gives")))) (.cons (.cmp .Eq (.idx (.var 1) (.cst (.int 4))) (.cst (.str (Str.ofString "bold")))) .nil)))) .nil))) .nil)))) .nil)))))⟩
def c_text_b0 (I : Ix) : Sms := (.cons (.set 7 (.ite (.cmp .Eq (.var 5) (.glb I.g_NONE)) (.cst (.str (Str.ofString "none"))) (.ite (.cmp .Eq (.var 5) (.glb I.g_MAT)) (.cst (.str (Str.ofString "mat"))) (.blt .str (.cons (.var 5) .nil))))) (.cons (.set 8 (.lst (.cons (.ite (.idx (.var 6) (.cst (.int 0))) (.cst (.str (Str.ofString "forgets"))) (.cst (.str (Str.ofString "takes")))) (.cons (.ite (.idx (.var 6) (.cst (.int 1))) (.cst (.str (Str.ofString "gives"))) (.cst (.str (Str.ofString "keeps")))) (.cons (.ite (.idx (.var 6) (.cst (.int 2))) (.cst (.str (Str.ofString "bold"))) (.cst (.str (Str.ofString "shy")))) .nil))))) (.cons (.app 1 (.mth .join (.cst (.str (Str.ofString " "))) (.cons (.bin .Add (.lst (.cons (.cst (.str (Str.ofString "home"))) (.cons (.var 7) .nil))) (.var 8)) .nil))) .nil)))
def c_text (I : Ix) : Df := ⟨(Str.ofString "text"), [(Str.ofString "street"), (Str.ofString "lines"), (Str.ofString "spares"), (Str.ofString "found"), (Str.ofString "homes"), (Str.ofString "place"), (Str.ofString "habit"), (Str.ofString "first"), (Str.ofString "words")], 1, false, (.cons (.exp (.call I.f_need_street (.cons (.var 0) .nil))) (.cons (.unp [2, 3, 4] (.var 0)) (.cons (.own 1 (.lst (.cons (.ite (.var 3) (.cst (.str (Str.ofString "street found"))) (.cst (.str (Str.ofString "street safe")))) .nil))) (.cons (.fo (.zip (.var 2) (.var 4)) false [5, 6] (c_text_b0 I)) (.shut 1 (.cons (.ret (.mth .join (.cst (.str (Str.ofString "\n"))) (.cons (.var 1) .nil))) .nil))))))⟩
def c_read_e0 (I : Ix) : Ex := (.lc (.seq (.mth .split (.var 0) (.cons (.cst (.str (Str.ofString "\n"))) .nil))) [4] true [4] .no (.call I.f_part_of (.cons (.var 4) .nil)))
def c_read_e1 (I : Ix) : Ex := (.lc (.seq (.sl (.var 1) (.e (.cst (.int 1))) .no)) [5] true [5] (.e (.cmp .Eq (.idx (.var 5) (.cst (.int 0))) (.cst (.str (Str.ofString "home"))))) (.idx (.var 5) (.cst (.int 1))))
def c_read_e2 (I : Ix) : Ex := (.lc (.seq (.var 2)) [6] true [6] .no (.idx (.var 6) (.cst (.int 1))))
def c_read_e3 (I : Ix) : Ex := (.lc (.seq (.var 2)) [6] true [6] .no (.idx (.var 6) (.cst (.int 0))))
def c_read (I : Ix) : Df := ⟨(Str.ofString "read"), [(Str.ofString "value"), (Str.ofString "parts"), (Str.ofString "rows"), (Str.ofString "street"), (Str.ofString "line"), (Str.ofString "part"), (Str.ofString "row")], 1, false, (.cons (.ife (.not (.isi (.var 0) .str)) (.cons .nev .nil) .nil) (.cons (.set 1 (c_read_e0 I)) (.cons (.ife (.cmp .In (.cst .none) (.var 1)) (.cons .nev .nil) .nil) (.cons (.set 2 (c_read_e1 I)) (.cons (.set 3 (.tup (.cons (.blt .tuple (.cons (c_read_e3 I) .nil)) (.cons (.idx (.idx (.var 1) (.cst (.int 0))) (.cst (.int 1))) (.cons (.blt .tuple (.cons (c_read_e2 I) .nil)) .nil))))) (.cons (.ife (.or (.cmp .NotEq (.idx (.idx (.var 1) (.cst (.int 0))) (.cst (.int 0))) (.cst (.str (Str.ofString "street")))) (.or (.cmp .NotEq (.blt .len (.cons (.var 2) .nil)) (.bin .Sub (.blt .len (.cons (.var 1) .nil)) (.cst (.int 1)))) (.not (.call I.f_is_street_value (.cons (.var 3) .nil))))) (.cons .nev .nil) .nil) (.cons (.ret (.var 3)) .nil)))))))⟩
def c_l_lines_b0 (I : Ix) : Sms := (.cons (.set 4 (.lst (.cons (.cst (.str (Str.ofString "home"))) (.cons (.ite (.cmp .Eq (.var 2) (.neg (.cst (.int 2)))) (.cst (.str (Str.ofString "none"))) (.ite (.cmp .Eq (.var 2) (.neg (.cst (.int 1)))) (.cst (.str (Str.ofString "mat"))) (.blt .str (.cons (.var 2) .nil)))) .nil)))) (.cons (.set 4 (.bin .Add (.var 4) (.lst (.cons (.ite (.idx (.var 3) (.cst (.int 0))) (.cst (.str (Str.ofString "forgets"))) (.cst (.str (Str.ofString "takes")))) (.cons (.ite (.idx (.var 3) (.cst (.int 1))) (.cst (.str (Str.ofString "gives"))) (.cst (.str (Str.ofString "keeps")))) .nil))))) (.cons (.app 1 (.mth .join (.cst (.str (Str.ofString " "))) (.cons (.bin .Add (.var 4) (.lst (.cons (.ite (.idx (.var 3) (.cst (.int 2))) (.cst (.str (Str.ofString "bold"))) (.cst (.str (Str.ofString "shy")))) .nil))) .nil))) .nil)))
def c_l_lines (I : Ix) : Df := ⟨(Str.ofString "_law_lines"), [(Str.ofString "_law_row_here"), (Str.ofString "_law_lines_here"), (Str.ofString "_law_place"), (Str.ofString "_law_habit_here"), (Str.ofString "_law_words_so")], 1, false, (.cons (.own 1 (.lst (.cons (.ite (.idx (.var 0) (.cst (.int 1))) (.cst (.str (Str.ofString "street found"))) (.cst (.str (Str.ofString "street safe")))) .nil))) (.cons (.fo (.zip (.idx (.var 0) (.cst (.int 0))) (.idx (.var 0) (.cst (.int 2)))) false [2, 3] (c_l_lines_b0 I)) (.cons (.retO 1) .nil)))⟩
def c_l_text_told_e0 (I : Ix) : Ex := (.lc (.seq (.var 1)) [4] true [4] .no (.call I.f_l_line_told (.cons (.var 4) .nil)))
def c_l_text_told_e1 (I : Ix) : Ex := (.lc (.seq (.var 2)) [5] true [5] .no (.idx (.var 5) (.cst (.int 0))))
def c_l_text_told_e2 (I : Ix) : Ex := (.lc (.seq (.sl (.var 2) (.e (.cst (.int 1))) .no)) [5] true [5] .no (.idx (.idx (.var 5) (.cst (.int 1))) (.cst (.int 1))))
def c_l_text_told_e3 (I : Ix) : Ex := (.lc (.seq (.sl (.var 2) (.e (.cst (.int 1))) .no)) [5] true [5] .no (.idx (.idx (.var 5) (.cst (.int 1))) (.cst (.int 0))))
def c_l_text_told (I : Ix) : Df := ⟨(Str.ofString "_law_text_told"), [(Str.ofString "_law_value"), (Str.ofString "_law_lines_here"), (Str.ofString "_law_rows"), (Str.ofString "_law_street"), (Str.ofString "_law_line"), (Str.ofString "_law_row_here")], 1, false, (.cons (.ife (.not (.isi (.var 0) .str)) (.cons (.ret (.cst (.int 0))) .nil) .nil) (.cons (.set 1 (.mth .split (.var 0) (.cons (.cst (.str (Str.ofString "\n"))) .nil))) (.cons (.set 2 (c_l_text_told_e0 I)) (.cons (.ife (.cmp .In (.cst .none) (.var 2)) (.cons (.ret (.bin .Add (.mth .index (.var 2) (.cons (.cst .none) .nil)) (.cst (.int 1)))) .nil) .nil) (.cons (.ife (.cmp .NotEq (c_l_text_told_e1 I) (.bin .Add (.lst (.cons (.cst (.str (Str.ofString "street"))) .nil)) (.rep (.cons (.cst (.str (Str.ofString "home"))) .nil) (.bin .Sub (.blt .len (.cons (.var 2) .nil)) (.cst (.int 1)))))) (.cons (.ret (.bin .Add (.blt .len (.cons (.var 1) .nil)) (.cst (.int 1)))) .nil) .nil) (.cons (.set 3 (.tup (.cons (.blt .tuple (.cons (c_l_text_told_e3 I) .nil)) (.cons (.idx (.idx (.var 2) (.cst (.int 0))) (.cst (.int 1))) (.cons (.blt .tuple (.cons (c_l_text_told_e2 I) .nil)) .nil))))) (.cons (.ret (.ite (.call I.f_l_is_row (.cons (.var 3) .nil)) (.cst .none) (.bin .Add (.blt .len (.cons (.var 1) .nil)) (.cst (.int 1))))) .nil)))))))⟩
def c_l_text_bent (I : Ix) : Df := ⟨(Str.ofString "_law_text_bent"), [(Str.ofString "_law_deck_here"), (Str.ofString "_law_writing"), (Str.ofString "_law_head"), (Str.ofString "_law_words_so"), (Str.ofString "_law_spot"), (Str.ofString "_law_new"), (Str.ofString "_law_way"), (Str.ofString "_law_lines_here"), (Str.ofString "_law_at"), (Str.ofString "_law_k"), (Str.ofString "_law_sign")], 2, true, (.cons (.par [6, 7] (.cons (.callD I.f_l_pick 0 (.cons (.cst (.int 6)) .nil)) (.cons (.mth .split (.var 1) (.cons (.cst (.str (Str.ofString "\n"))) .nil)) .nil)) [false, false]) (.cons (.par [8, 9] (.cons (.callD I.f_l_pick 0 (.cons (.bin .Add (.blt .len (.cons (.var 1) .nil)) (.cst (.int 1))) .nil)) (.cons (.callD I.f_l_pick 0 (.cons (.blt .len (.cons (.var 7) .nil)) .nil)) .nil)) [false, false]) (.cons (.set 2 (.sl (.var 7) .no (.e (.var 9)))) (.cons (.ife (.cmp .Eq (.var 6) (.cst (.int 0))) (.cons (.ret (.bin .Add (.sl (.var 1) .no (.e (.var 8))) (.sl (.var 1) (.e (.bin .Add (.var 8) (.cst (.int 1)))) .no))) .nil) .nil) (.cons (.ife (.cmp .Eq (.var 6) (.cst (.int 1))) (.cons (.set 10 (.callD I.f_l_one 0 (.cons (.lst (.cons (.cst (.str (Str.ofString " "))) (.cons (.cst (.str (Str.ofString "\n"))) (.cons (.cst (.str (Str.ofString "0"))) (.cons (.cst (.str (Str.ofString " 1"))) (.cons (.cst (.str (Str.ofString "x"))) (.cons (.cst (.str (Str.ofString "\nstreet safe"))) (.cons (.cst (.str (Str.ofString "\nhome mat takes gives shy"))) .nil)))))))) .nil))) (.cons (.ret (.bin .Add (.bin .Add (.sl (.var 1) .no (.e (.var 8))) (.var 10)) (.sl (.var 1) (.e (.var 8)) .no))) .nil)) .nil) (.cons (.ife (.cmp .Eq (.var 6) (.cst (.int 2))) (.cons (.set 7 (.bin .Add (.bin .Add (.var 2) (.sl (.var 7) (.e (.var 9)) (.e (.bin .Add (.var 9) (.cst (.int 1)))))) (.sl (.var 7) (.e (.var 9)) .no))) .nil) .nil) (.cons (.ife (.cmp .Eq (.var 6) (.cst (.int 3))) (.cons (.set 7 (.bin .Add (.var 2) (.sl (.var 7) (.e (.bin .Add (.var 9) (.cst (.int 1)))) .no))) .nil) .nil) (.cons (.ife (.cmp .Eq (.var 6) (.cst (.int 4))) (.cons (.set 7 (.bin .Add (.bin .Add (.var 2) (.slr (.sl (.var 7) (.e (.var 9)) (.e (.bin .Add (.var 9) (.cst (.int 2))))))) (.sl (.var 7) (.e (.bin .Add (.var 9) (.cst (.int 2)))) .no))) .nil) .nil) (.cons (.ife (.cmp .Lt (.var 6) (.cst (.int 5))) (.cons (.ret (.mth .join (.cst (.str (Str.ofString "\n"))) (.cons (.var 7) .nil))) .nil) .nil) (.cons (.set 3 (.mth .split (.var 1) (.cons (.cst (.str (Str.ofString " "))) .nil))) (.cons (.set 4 (.callD I.f_l_pick 0 (.cons (.blt .len (.cons (.var 3) .nil)) .nil))) (.cons (.set 5 (.callD I.f_l_one 0 (.cons (.lst (.cons (.cst (.str (Str.ofString "0"))) (.cons (.cst (.str (Str.ofString "1"))) (.cons (.cst (.str (Str.ofString "2"))) (.cons (.cst (.str (Str.ofString "none"))) (.cons (.cst (.str (Str.ofString "mat"))) (.cons (.cst (.str (Str.ofString "takes"))) (.cons (.cst (.str (Str.ofString "bold"))) (.cons (.cst (.str (Str.ofString "gives"))) .nil))))))))) .nil))) (.cons (.ret (.mth .join (.cst (.str (Str.ofString " "))) (.cons (.bin .Add (.bin .Add (.sl (.var 3) .no (.e (.var 4))) (.lst (.cons (.var 5) .nil))) (.sl (.var 3) (.e (.bin .Add (.var 4) (.cst (.int 1)))) .no)) .nil))) .nil)))))))))))))⟩
def c_l_three_right (I : Ix) : Df := ⟨(Str.ofString "_law_three_right"), [(Str.ofString "no"), (Str.ofString "_law_street"), (Str.ofString "_law_out"), (Str.ofString "_law_late")], 0, false, (.cons (.set 1 (.tup (.cons (.tup (.cons (.neg (.cst (.int 1))) (.cons (.cst (.int 2)) (.cons (.cst (.int 0)) .nil)))) (.cons (.cst (.bool false)) (.cons (.tup (.cons (.tup (.cons (.cst (.bool true)) (.cons (.cst (.bool true)) (.cons (.cst (.bool false)) .nil)))) (.cons (.tup (.cons (.cst (.bool true)) (.cons (.cst (.bool false)) (.cons (.cst (.bool true)) .nil)))) (.cons (.tup (.cons (.cst (.bool true)) (.cons (.cst (.bool true)) (.cons (.cst (.bool true)) .nil)))) .nil)))) .nil))))) (.cons (.set 2 (.tup (.cons (.tup (.cons (.cst (.str (Str.ofString "go"))) (.cons (.cst (.int 0)) (.cons (.cst (.bool false)) .nil)))) (.cons (.tup (.cons (.cst (.str (Str.ofString "go"))) (.cons (.cst (.int 2)) (.cons (.cst (.bool false)) .nil)))) .nil)))) (.cons (.ife (.cmp .NotEq (.call I.f_events_at (.cons (.var 1) (.cons (.var 2) .nil))) (.lst (.cons (.tup (.cons (.cst (.str (Str.ofString "fetch"))) (.cons (.cst (.int 2)) .nil))) (.cons (.tup (.cons (.cst (.str (Str.ofString "go"))) (.cons (.cst (.int 1)) (.cons (.cst (.bool false)) .nil)))) (.cons (.tup (.cons (.cst (.str (Str.ofString "go"))) (.cons (.cst (.int 1)) (.cons (.cst (.bool true)) .nil)))) (.cons (.tup (.cons (.cst (.str (Str.ofString "mat"))) (.cons (.cst (.int 0)) .nil))) .nil)))))) (.cons (.ret (.cst (.bool false))) .nil) .nil) (.cons (.ife (.or (.cmp .NotEq (.call I.f_way_home (.cons (.var 1) (.cons (.var 2) (.cons (.cst (.int 2)) .nil)))) (.tup (.cons (.tup (.cons (.cst (.str (Str.ofString "fetch"))) (.cons (.cst (.int 2)) .nil))) (.cons (.tup (.cons (.cst (.str (Str.ofString "enter"))) (.cons (.cst (.int 2)) .nil))) .nil)))) (.cmp .NotEq (.call I.f_harms_behind (.cons (.var 1) (.cons (.var 2) .nil))) (.lst .nil))) (.cons (.ret (.cst (.bool false))) .nil) .nil) (.cons (.ife (.cmp .NotEq (.call I.f_harms_behind (.cons (.var 1) (.cons (.bin .Add (.var 2) (.tup (.cons (.tup (.cons (.cst (.str (Str.ofString "go"))) (.cons (.cst (.int 1)) (.cons (.cst (.bool false)) .nil)))) .nil))) .nil))) (.lst (.cons (.cst (.str (Str.ofString "locked"))) .nil))) (.cons (.ret (.cst (.bool false))) .nil) .nil) (.cons (.ife (.cmp .NotEq (.call I.f_way_home (.cons (.var 1) (.cons (.bin .Add (.var 2) (.tup (.cons (.tup (.cons (.cst (.str (Str.ofString "go"))) (.cons (.cst (.int 1)) (.cons (.cst (.bool false)) .nil)))) .nil))) (.cons (.cst (.int 1)) .nil)))) (.tup (.cons (.tup (.cons (.cst (.str (Str.ofString "fetch"))) (.cons (.cst (.int 2)) .nil))) (.cons (.tup (.cons (.cst (.str (Str.ofString "enter"))) (.cons (.cst (.int 2)) .nil))) (.cons (.tup (.cons (.cst (.str (Str.ofString "ask"))) (.cons (.cst (.int 1)) .nil))) (.cons (.tup (.cons (.cst (.str (Str.ofString "enter"))) (.cons (.cst (.int 1)) .nil))) .nil)))))) (.cons (.ret (.cst (.bool false))) .nil) .nil) (.cons (.set 3 (.tup (.cons (.tup (.cons (.cst (.str (Str.ofString "go"))) (.cons (.cst (.int 2)) (.cons (.cst (.bool false)) .nil)))) (.cons (.tup (.cons (.cst (.str (Str.ofString "ask"))) (.cons (.cst (.int 2)) .nil))) (.cons (.tup (.cons (.cst (.str (Str.ofString "go"))) (.cons (.cst (.int 0)) (.cons (.cst (.bool true)) .nil)))) (.cons (.tup (.cons (.cst (.str (Str.ofString "enter"))) (.cons (.cst (.int 2)) .nil))) .nil)))))) (.cons (.ife (.or (.cmp .NotEq (.idx (.call I.f_stand_behind (.cons (.var 1) (.cons (.var 3) .nil))) (.cst (.int 2))) (.tup (.cons (.cst (.bool true)) (.cons (.cst (.str (Str.ofString "inside"))) (.cons (.cst (.str (Str.ofString "inside"))) .nil))))) (.cmp .In (.tup (.cons (.cst (.str (Str.ofString "hang"))) (.cons (.cst (.int 2)) .nil))) (.call I.f_events_at (.cons (.var 1) (.cons (.var 3) .nil))))) (.cons (.ret (.cst (.bool false))) .nil) .nil) (.cons (.set 3 (.bin .Add (.var 3) (.tup (.cons (.tup (.cons (.cst (.str (Str.ofString "enter"))) (.cons (.cst (.int 0)) .nil))) .nil)))) (.cons (.ife (.or (.cmp .NotIn (.tup (.cons (.cst (.str (Str.ofString "hang"))) (.cons (.cst (.int 2)) .nil))) (.call I.f_events_at (.cons (.var 1) (.cons (.var 3) .nil)))) (.cmp .In (.tup (.cons (.cst (.str (Str.ofString "go"))) (.cons (.cst (.int 2)) (.cons (.cst (.bool true)) .nil)))) (.call I.f_events_at (.cons (.var 1) (.cons (.var 3) .nil))))) (.cons (.ret (.cst (.bool false))) .nil) .nil) (.cons (.ret (.cmp .Eq (.idx (.call I.f_stand_behind (.cons (.var 1) (.cons (.bin .Add (.var 3) (.tup (.cons (.tup (.cons (.cst (.str (Str.ofString "hang"))) (.cons (.cst (.int 2)) .nil))) .nil))) .nil))) (.cst (.int 2))) (.tup (.cons (.cst (.bool true)) (.cons (.cst (.str (Str.ofString "inside"))) (.cons (.cst (.str (Str.ofString "place"))) .nil)))))) .nil)))))))))))⟩
end Pv

/-! Mathematics that all laws share: loops, comprehensions, the drawing. -/
namespace Pv
open PySem L2
theorem callF_eq {G : List D} {P : List Df} {n i : Nat} {ds : List D} (d : Df) (h : P[i]? = some d) : callF G P (n + 1) i ds = if ds.length = d.np then endX d.dk (exSs G (callF G P n) d.body (startS d.N.length d.dk ds)) (erSs G (callF G P n) d.body (startS d.N.length d.dk ds)) else none := by
  show (P[i]?.bind _) = _
  rw [h]
  rfl
theorem callF_run {G : List D} {P : List Df} {n i : Nat} {ds : List D} {d : Df} {fl : Fl} (h : P[i]? = some d) (hl : ds.length = d.np) (e : exSs G (callF G P n) d.body (startS d.N.length d.dk ds) = some fl) : callF G P (n + 1) i ds = endF d.dk (some fl) := by
  rw [callF_eq d h, if_pos hl, e]
  rfl
section
variable {G : List D} {F : Nat → List D → Option CR}
theorem run_nx {s : Sm} {r : Sms} {st s1 : SS} {o : Option Fl} (h : exS G F s st = some (.nx s1)) (h2 : exSs G F r s1 = o) : exSs G F (.cons s r) st = o := by
  unfold exSs
  rw [h]
  exact h2
theorem run_rt {s : Sm} {r : Sms} {st s1 : SS} {d : D} {fr : Bool} (h : exS G F s st = some (.rt d fr s1)) : exSs G F (.cons s r) st = some (.rt d fr s1) := by
  unfold exSs
  rw [h]
  rfl
theorem run_nx' {s : Sm} {r : Sms} {st s1 : SS} {d : D} {fr : Bool} {o : Option Fl} (h : exS G F s st = some (.rt d fr s1)) (h2 : o = some (.rt d fr s1)) : exSs G F (.cons s r) st = o := by
  rw [h2]
  exact run_rt h
theorem run_seal {i : Nat} {r : Sms} {st : SS} {ds : List D} {o : Option Fl} (h : getO st i = some ds) (h2 : exSs G F r (st.set i (.v (.list ds))) = o) : exSs G F (.shut i r) st = o := by
  unfold exSs
  rw [h]
  exact h2
theorem run_fo {w : Wk} {one : Bool} {tg : List Nat} {b : Sms} {st s1 : SS} {items : List D} {o : Option Fl} (h : denw G F w st = some (items, s1)) (h2 : forLoop one tg (exSs G F b) items s1 = o) : exS G F (.fo w one tg b) st = o := by
  unfold exS
  rw [h]
  exact h2
theorem w_rng1 {a : Ex} {st s : SS} {i : Int} {n : Nat} (h : den G F a st = some (.int i, s)) (hi : i = n) (hn : n ≤ 1000000) : denw G F (.rng1 a) st = some (rngL 0 n, s) := by
  have hs : okSmall i = true := by
    unfold okSmall
    rw [decide_eq_true (by omega), decide_eq_true (by omega)]
    rfl
  unfold denw
  rw [h]
  show (if okSmall i = true then _ else _) = _
  rw [if_pos hs, hi, Int.toNat_natCast]
theorem w_rng2 {a b : Ex} {st s s2 : SS} {i j : Int} {n : Nat} (h : den G F a st = some (.int i, s)) (h2 : den G F b s = some (.int j, s2)) (hn : n = (j - i).toNat) (h3 : -1000000 ≤ i) (h4 : i ≤ 1000000) (h5 : -1000000 ≤ j) (h6 : j ≤ 1000000) : denw G F (.rng2 a b) st = some (rngL i n, s2) := by
  have hs : okSmall i = true := by
    unfold okSmall
    rw [decide_eq_true (by omega), decide_eq_true (by omega)]
    rfl
  have hs2 : okSmall j = true := by
    unfold okSmall
    rw [decide_eq_true (by omega), decide_eq_true (by omega)]
    rfl
  unfold denw
  rw [h]
  show ((den G F b s).bind _) = _
  rw [h2]
  show (if (okSmall i && okSmall j) = true then _ else _) = _
  rw [if_pos (by rw [hs, hs2]; rfl), hn]
theorem w_rng3 {a b c : Ex} {st s1 s2 s3 : SS} {i j k : Int} {n : Nat} (h1 : den G F a st = some (.int i, s1)) (h2 : den G F b s1 = some (.int j, s2)) (h3 : den G F c s2 = some (.int k, s3)) (hn : (Builtin.Range.rangeSize i j k).toNat = n)
    (hc : (decide (k ≠ 0) && decide (k.natAbs < 1000) && Builtin.Range.small i j k && decide (0 ≤ Builtin.Range.rangeSize i j k)) = true) : denw G F (.rng3 a b c) st = some (rngC i k n, s3) := by
  unfold denw
  rw [h1]
  show ((den G F b s1).bind _) = _
  rw [h2]
  show ((den G F c s2).bind _) = _
  rw [h3]
  show (if _ then _ else _) = _
  rw [if_pos hc, hn]
theorem e_tup3 {a b c : Ex} {st s1 s2 s3 : SS} {x y z : D} (h1 : den G F a st = some (x, s1)) (h2 : den G F b s1 = some (y, s2)) (h3 : den G F c s2 = some (z, s3)) : den G F (.tup (.cons a (.cons b (.cons c .nil)))) st = some (.tuple [x, y, z], s3) := by
  simp [den, dens, h1, h2, h3, lim]
theorem e_sl {a : Ex} {lo hi : Exo} {st s1 s2 s3 : SS} {x d : D} {l h : Option Int} (h1 : den G F a st = some (x, s1)) (h2 : deno G F lo s1 = some (l, s2)) (h3 : deno G F hi s2 = some (h, s3)) (e : slD x l h = some d) : den G F (.sl a lo hi) st = some (d, s3) := by
  simp [den, h1, h2, h3, e]
theorem e_idx {a b : Ex} {st s1 s2 : SS} {x y d : D} (h1 : den G F a st = some (x, s1)) (h2 : den G F b s1 = some (y, s2)) (e : idxD x y = some d) : den G F (.idx a b) st = some (d, s2) := by
  simp [den, h1, h2, e]
theorem e_blt1 {b : Bl} {a : Ex} {st s1 : SS} {x d : D} (h1 : den G F a st = some (x, s1)) (e : bltD b [x] = some d) : den G F (.blt b (.cons a .nil)) st = some (d, s1) := by
  simp [den, dens, h1, e]
theorem e_bin {op : Operator} {a b : Ex} {st s1 s2 : SS} {x y d : D} (h1 : den G F a st = some (x, s1)) (h2 : den G F b s1 = some (y, s2)) (e : binD op x y = some d) : den G F (.bin op a b) st = some (d, s2) := by
  simp [den, h1, h2, e]
theorem x_ret {e : Ex} {st s1 : SS} {d : D} (h : den G F e st = some (d, s1)) : exS G F (.ret e) st = some (.rt d false s1) := by
  simp [exS, h]
theorem x_set {i : Nat} {e : Ex} {st s1 : SS} {d : D} (h : den G F e st = some (d, s1)) (hi : i < s1.length) : exS G F (.set i e) st = some (.nx (s1.set i (.v d))) := by
  unfold exS
  rw [h]
  show (setV s1 i d).map _ = _
  unfold setV
  rw [if_pos hi]
  rfl
/-- a comprehension whose parts change nothing -/
theorem lcLoop_pure {tg own : List Nat} {one : Bool} {t : SS → Option (Bool × SS)} {e : SS → Option (D × SS)} {st : SS} (g : D → SS) (cd : D → Bool) (f : D → D) : ∀ {xs : List D},
    (∀ x ∈ xs, asgT one tg x st = some (g x)) → (∀ x ∈ xs, t (g x) = some (cd x, g x)) → (∀ x ∈ xs, cd x = true → e (g x) = some (f x, g x)) → (∀ x ∈ xs, wipeS (g x) own = st) →
    lcLoop tg one own t e xs st = some ((xs.filter cd).map f, st)
  | [], _, _, _, _ => rfl
  | x :: xs, ha, ht, he, hg => by
    have ih := lcLoop_pure (t := t) (e := e) g cd f (xs := xs) (fun y h => ha y (List.mem_cons_of_mem _ h)) (fun y h => ht y (List.mem_cons_of_mem _ h)) (fun y h => he y (List.mem_cons_of_mem _ h)) (fun y h => hg y (List.mem_cons_of_mem _ h))
    have m := List.mem_cons_self (a := x) (l := xs)
    have eh := hg x m
    unfold lcLoop
    rw [ha x m]
    show ((t (g x)).bind _) = _
    rw [ht x m]
    cases hc : cd x with
    | false =>
      show lcLoop tg one own t e xs (wipeS (g x) own) = _
      rw [eh, ih, List.filter_cons, hc]
      rfl
    | true =>
      show ((e (g x)).bind _) = _
      rw [he x m hc]
      show ((lcLoop tg one own t e xs (wipeS (g x) own)).bind _) = _
      rw [eh, ih, List.filter_cons, hc]
      rfl
theorem den_lc_pure {w : Wk} {tg own : List Nat} {one : Bool} {c : Exo} {e : Ex} {st : SS} {xs : List D} (g : D → SS) (cd : D → Bool) (f : D → D) (hw : denw G F w st = some (xs, st)) (hl : xs.length ≤ lim)
    (ha : ∀ x ∈ xs, asgT one tg x (wipeS st own) = some (g x)) (ht : ∀ x ∈ xs, dent G F c (g x) = some (cd x, g x)) (he : ∀ x ∈ xs, cd x = true → den G F e (g x) = some (f x, g x)) (hg : ∀ x ∈ xs, wipeS (g x) own = wipeS st own) (hb : backS st (wipeS st own) own = st) :
    den G F (.lc w tg one own c e) st = some (.list ((xs.filter cd).map f), st) := by
  unfold den
  rw [hw]
  show (if xs.length ≤ lim then _ else _) = _
  rw [if_pos hl, lcLoop_pure g cd f ha ht he hg]
  show some (_, backS st (wipeS st own) own) = _
  rw [hb]
/-- a loop by its invariant -/
theorem forLoop_inv {one : Bool} {tg : List Nat} {b : SS → Option Fl} (Iv : Nat → SS → Prop) : ∀ {items : List D} {st : SS} {k : Nat}, Iv k st →
    (∀ i x s, items[i]? = some x → Iv (k + i) s → ∃ s1 s2, asgT one tg x s = some s1 ∧ (b s1 = some (.nx s2) ∨ b s1 = some (.ct s2)) ∧ Iv (k + i + 1) s2) → ∃ st', forLoop one tg b items st = some (.nx st') ∧ Iv (k + items.length) st'
  | [], st, k, h0, _ => ⟨st, rfl, h0⟩
  | x :: xs, st, k, h0, step => by
    obtain ⟨s1, s2, e1, e2, h2⟩ := step 0 x st rfl h0
    obtain ⟨st', e3, h3⟩ := forLoop_inv (one := one) (tg := tg) (b := b) Iv (items := xs) (st := s2) (k := k + 1) h2 fun i y s hy hs => by
      have := step (i + 1) y s hy (by rw [show k + (i + 1) = k + 1 + i by omega]; exact hs)
      rw [show k + (i + 1) + 1 = k + 1 + i + 1 by omega] at this
      exact this
    refine ⟨st', ?_, by rw [List.length_cons, show k + (xs.length + 1) = k + 1 + xs.length by omega]; exact h3⟩
    unfold forLoop
    rw [e1]
    show ((b s1).bind _) = _
    rcases e2 with e2 | e2 <;> rw [e2] <;> exact e3
end
theorem rngL_at {lo : Int} {n i : Nat} (h : i < n) : (rngL lo n)[i]? = some (.int (lo + i)) := by
  cases e : (rngL lo n)[i]? with
  | none =>
    have := List.getElem?_eq_none_iff.mp e
    rw [rngL_len] at this
    omega
  | some d => rw [(rngL_get e).2]
theorem rngL_get0 {n i : Nat} {d : D} (h : (rngL 0 n)[i]? = some d) : i < n ∧ d = .int i := by
  obtain ⟨a, b⟩ := rngL_get h
  rw [Int.zero_add] at b
  exact ⟨a, b⟩
/-- the drawing -/
def DeckOk (k : Nat) (dk : List D) : Prop := ∃ m s t : Int, dk = [.int m, .int s, .int t] ∧ 0 ≤ m ∧ 0 ≤ s ∧ s < 2147483579 ∧ 0 ≤ t ∧ t ≤ k
theorem DeckOk.mono {j k : Nat} {dk : List D} (h : DeckOk j dk) (l : j ≤ k) : DeckOk k dk := by
  obtain ⟨m, s, t, e, h1, h2, h3, h4, h5⟩ := h
  exact ⟨m, s, t, e, h1, h2, h3, h4, by omega⟩
theorem at3_0 {a b c : D} : atI [a, b, c] 0 = some a := rfl
theorem at3_1 {a b c : D} : atI [a, b, c] 1 = some b := rfl
theorem at3_2 {a b c : D} : atI [a, b, c] 2 = some c := rfl
theorem ix3_0 : ixN 3 0 = some 0 := rfl
theorem ix3_2 : ixN 3 2 = some 2 := rfl
theorem binMod {i j : Int} (h : 0 < j) : binD .Mod (.int i) (.int j) = some (.int (i % j)) := if_pos h
theorem binDiv {i j : Int} (h : 0 < j) (h2 : j < 1073741824) : binD .FloorDiv (.int i) (.int j) = some (.int (i / j)) := if_pos ⟨h, h2⟩
theorem binMul {i j : Int} (h : -(2 ^ 64) < i) (h2 : i < 2 ^ 64) : binD .Mult (.int i) (.int j) = some (.int (i * j)) := if_pos ⟨h, h2⟩
theorem binPow {i j : Int} (h : 0 ≤ j) (h2 : j ≤ 1000) (h3 : i.natAbs < 2 ^ 64) : binD .Pow (.int i) (.int j) = some (.int (i ^ j.toNat)) := if_pos ⟨h, h2, h3⟩
theorem binTup {xs ys : List D} (h : xs.length + ys.length ≤ lim) : binD .Add (.tuple xs) (.tuple ys) = some (.tuple (xs ++ ys)) := if_pos h
theorem binLst {xs ys : List D} (h : xs.length + ys.length ≤ lim) : binD .Add (.list xs) (.list ys) = some (.list (xs ++ ys)) := if_pos h
theorem addI (i j : Int) : binD .Add (.int i) (.int j) = some (.int (i + j)) := rfl
theorem subI (i j : Int) : binD .Sub (.int i) (.int j) = some (.int (i - j)) := rfl
theorem atI_ok {xs : List D} {r : Int} (h0 : 0 ≤ r) (h1 : r < xs.length) : ∃ x, x ∈ xs ∧ xs[r.toNat]? = some x ∧ atI xs r = some x := by
  have hl : r.toNat < xs.length := by omega
  refine ⟨xs[r.toNat], List.getElem_mem hl, List.getElem?_eq_getElem hl, ?_⟩
  unfold atI
  have e : ixN xs.length r = some r.toNat := by
    unfold ixN
    rw [if_pos h0, if_pos h1]
  rw [e]
  exact List.getElem?_eq_getElem hl
structure HDraw (P : List Df) (I : Ix) : Prop where
  deck : P[I.f_l_deck]? = some (c_l_deck I)
  pick : P[I.f_l_pick]? = some (c_l_pick I)
  one : P[I.f_l_one]? = some (c_l_one I)
  habit : P[I.f_l_habit]? = some (c_l_habit I)
  row : P[I.f_l_row]? = some (c_l_row I)
section
variable {G : List D} {P : List Df} {I : Ix} {n k : Nat} {dk : List D}
theorem deck_ok (hP : HDraw P I) {c : Int} {t : Nat} : ∃ dk', callF G P (n + 1) I.f_l_deck [.int c, .int t] = some (.ok (.list dk') true []) ∧ DeckOk t dk' := by
  rw [callF_eq _ hP.deck]
  have p1 : binD .Pow (.int 10) (.int 18) = some (.int 1000000000000000000) := binPow (by omega) (by omega) (by omega)
  have a4 : ∀ i : Int, binD .Mod (.int i) (.int 2147483579) = some (.int (i % 2147483579)) := fun i => binMod (by omega)
  have n1 : (0 : Int) ≤ c % 2147483579 := Int.emod_nonneg _ (by omega)
  have n2 : c % 2147483579 < 2147483579 := Int.emod_lt_of_pos _ (by omega)
  by_cases hc : 1000000000000000000 ≤ c
  · refine ⟨[.int (c - 1000000000000000000), .int (c % 2147483579), .int t], ?_, _, _, _, rfl, by omega, n1, n2, by omega, by omega⟩
    simp [c_l_deck, exSs, exS, den, dens, denF, startS, endF, getV, getO, setV, boolOf, intOf, cmpD, bltD, a4, p1, hc, subI, lim]
  · refine ⟨[.int 0, .int (c % 2147483579), .int t], ?_, _, _, _, rfl, by omega, n1, n2, by omega, by omega⟩
    simp [c_l_deck, exSs, exS, den, dens, denF, startS, endF, getV, getO, setV, boolOf, intOf, cmpD, bltD, a4, p1, hc, subI, lim]
theorem pick_ok (hP : HDraw P I) {z : Int} (hk : k ≤ 1000000) (h : DeckOk k dk) (hz : 1 ≤ z) (hz2 : z < 1073741824) :
    ∃ (r : Int) (dk' : List D), callF G P (n + 1) I.f_l_pick [.list dk, .int z] = some (.ok (.int r) false dk') ∧ 0 ≤ r ∧ r < z ∧ DeckOk (k + 1) dk' := by
  obtain ⟨m, s, t, rfl, h1, h2, h3, h4, h5⟩ := h
  rw [callF_eq _ hP.pick]
  by_cases hm : 1 < m
  · refine ⟨m % z, [.int (m / z), .int s, .int t], ?_, Int.emod_nonneg _ (by omega), Int.emod_lt_of_pos _ (by omega), _, _, _, rfl, Int.ediv_nonneg h1 (by omega), h2, h3, h4, by omega⟩
    simp [c_l_pick, exSs, exS, den, dens, startS, endF, getV, getO, setV, boolOf, intOf, cmpD, idxD, at3_0, at3_1, at3_2, ix3_0, ix3_2, bltD, hm, binMod (show 0 < z by omega), binDiv (show 0 < z by omega) hz2]
  · have b1 : (15485867 : Int) * (t + 1) < 2 ^ 60 := by omega
    have n1 : (0 : Int) ≤ (s + 15485867 * (t + 1)) ^ 5 % 2147483647 := Int.emod_nonneg _ (by omega)
    have n2 : (s + 15485867 * (t + 1)) ^ 5 % 2147483647 < 2147483647 := Int.emod_lt_of_pos _ (by omega)
    generalize hq : (s + 15485867 * (t + 1)) ^ 5 % 2147483647 = q at n1 n2
    refine ⟨(q + 7919 * (t + 1)) ^ 3 % 2147483629 / 32 % z, [.int m, .int s, .int (t + 1)], ?_, Int.emod_nonneg _ (by omega), Int.emod_lt_of_pos _ (by omega), _, _, _, rfl, h1, h2, h3, by omega, by omega⟩
    have p1 : binD .Pow (.int (s + 15485867 * (t + 1))) (.int 5) = some (.int ((s + 15485867 * (t + 1)) ^ 5)) := binPow (by omega) (by omega) (by omega)
    have p2 : binD .Pow (.int (q + 7919 * (t + 1))) (.int 3) = some (.int ((q + 7919 * (t + 1)) ^ 3)) := binPow (by omega) (by omega) (by omega)
    have a2 : ∀ j : Int, binD .Mult (.int 15485867) (.int j) = some (.int (15485867 * j)) := fun j => binMul (by omega) (by omega)
    have a3 : ∀ j : Int, binD .Mult (.int 7919) (.int j) = some (.int (7919 * j)) := fun j => binMul (by omega) (by omega)
    have a4 : ∀ i : Int, binD .Mod (.int i) (.int 2147483647) = some (.int (i % 2147483647)) := fun i => binMod (by omega)
    have a5 : ∀ i : Int, binD .Mod (.int i) (.int 2147483629) = some (.int (i % 2147483629)) := fun i => binMod (by omega)
    have a6 : ∀ i : Int, binD .FloorDiv (.int i) (.int 32) = some (.int (i / 32)) := fun i => binDiv (by omega) (by omega)
    simp [c_l_pick, exSs, exS, den, dens, startS, endF, getV, getO, setV, boolOf, intOf, cmpD, idxD, at3_0, at3_1, at3_2, ix3_0, ix3_2, bltD, hm, binMod (show 0 < z by omega), addI, a2, a3, a4, a5, a6, p1, hq, p2]
theorem one_ok (hP : HDraw P I) {xs : List D} (hk : k ≤ 1000000) (h : DeckOk k dk) (hx : xs ≠ []) (hl : xs.length < 1073741824) :
    ∃ (x : D) (dk' : List D), x ∈ xs ∧ callF G P (n + 2) I.f_l_one [.list dk, .list xs] = some (.ok x false dk') ∧ DeckOk (k + 1) dk' := by
  have hp : 0 < xs.length := List.length_pos_iff.mpr hx
  obtain ⟨r, dk', e, h0, h1, hd⟩ := pick_ok (G := G) (n := n) (z := xs.length) hP hk h (by omega) (by omega)
  obtain ⟨x, hm, _, ha⟩ := atI_ok h0 h1
  refine ⟨x, dk', hm, ?_, hd⟩
  rw [callF_eq _ hP.one]
  simp [c_l_one, exSs, exS, den, dens, startS, endF, getV, getO, setV, bltD, endCallD, e, idxD, ha]
theorem one_okT (hP : HDraw P I) {xs : List D} (hk : k ≤ 1000000) (h : DeckOk k dk) (hx : xs ≠ []) (hl : xs.length < 1073741824) :
    ∃ (x : D) (dk' : List D), x ∈ xs ∧ callF G P (n + 2) I.f_l_one [.list dk, .tuple xs] = some (.ok x false dk') ∧ DeckOk (k + 1) dk' := by
  have hp : 0 < xs.length := List.length_pos_iff.mpr hx
  obtain ⟨r, dk', e, h0, h1, hd⟩ := pick_ok (G := G) (n := n) (z := xs.length) hP hk h (by omega) (by omega)
  obtain ⟨x, hm, _, ha⟩ := atI_ok h0 h1
  refine ⟨x, dk', hm, ?_, hd⟩
  rw [callF_eq _ hP.one]
  simp [c_l_one, exSs, exS, den, dens, startS, endF, getV, getO, setV, bltD, endCallD, e, idxD, ha]
/-- a habit as it is drawn -/
def hab (h : Bool × Bool × Bool) : D := .tuple [.bool h.1, .bool h.2.1, .bool h.2.2]
theorem habit_ok (hP : HDraw P I) (hk : k + 3 ≤ 1000000) (h : DeckOk k dk) : ∃ (b : Bool × Bool × Bool) (dk' : List D), callF G P (n + 2) I.f_l_habit [.list dk] = some (.ok (hab b) false dk') ∧ DeckOk (k + 3) dk' := by
  obtain ⟨r1, dk1, e1, _, _, hd1⟩ := pick_ok (G := G) (n := n) (z := 3) hP (by omega) h (by omega) (by omega)
  obtain ⟨r2, dk2, e2, _, _, hd2⟩ := pick_ok (G := G) (n := n) (z := 3) hP (by omega) hd1 (by omega) (by omega)
  obtain ⟨r3, dk3, e3, _, _, hd3⟩ := pick_ok (G := G) (n := n) (z := 2) hP (by omega) hd2 (by omega) (by omega)
  refine ⟨(decide (0 < r1), decide (0 < r2), decide (r3 = 0)), dk3, ?_, hd3⟩
  rw [callF_eq _ hP.habit]
  simp [c_l_habit, exSs, exS, den, dens, startS, endF, getV, getO, setV, bltD, endCallD, e1, e2, e3, cmpD, eqD, hab, lim]
end
end Pv

/-! Streets: drawn, recognized. -/
namespace Pv
open PySem L2
abbrev Hb := Bool × Bool × Bool
structure Stt where
  sp : List Int
  fo : Bool
  ho : List Hb
def Stt.enc (s : Stt) : D := .tuple [.tuple (s.sp.map .int), .bool s.fo, .tuple (s.ho.map hab)]
structure Stt.Ok (s : Stt) : Prop where
  two : s.sp.length = 2 ∨ s.sp.length = 3
  len : s.ho.length = s.sp.length
  ok : ∀ (k : Nat) (v : Int), s.sp[k]? = some v → -2 ≤ v ∧ v < s.sp.length ∧ v ≠ k
/-- the places that a spare is drawn from -/
def plc (many k : Int) : List D := ([-2, -1, -1, 0, 1, 2, 0, 1, 2].filter fun j : Int => decide (j ≠ k) && decide (j < many)).map PyData.int
theorem plc_ne {many k : Int} (h : 2 ≤ many) : plc many k ≠ [] := by
  unfold plc
  intro e
  rw [List.map_eq_nil_iff, List.filter_eq_nil_iff] at e
  by_cases hk : k = -2
  · exact e (-1) (by simp) (by simp; omega)
  · exact e (-2) (by simp) (by simp; omega)
theorem plc_mem {many k : Int} {x : D} (h : x ∈ plc many k) : ∃ v : Int, x = .int v ∧ -2 ≤ v ∧ v < many ∧ v ≠ k := by
  unfold plc at h
  obtain ⟨v, hv, rfl⟩ := List.mem_map.mp h
  rw [List.mem_filter] at hv
  obtain ⟨h1, h2⟩ := hv
  simp at h2
  refine ⟨v, rfl, ?_, h2.2, h2.1⟩
  simp at h1
  omega
theorem plc_len {many k : Int} : (plc many k).length < 1073741824 := by
  unfold plc
  rw [List.length_map]
  exact Nat.lt_of_le_of_lt (List.length_filter_le _ _) (by decide)
theorem row_lc {G : List D} {F : Nat → List D → Option CR} {I : Ix} {a b c e : Sl} {m i : Int} : den G F (c_l_row_e0 I) [a, b, .v (.int m), .v (.int i), c, e, .no] = some (.list (plc m i), [a, b, .v (.int m), .v (.int i), c, e, .no]) := by
  unfold c_l_row_e0
  rw [den_lc_pure (xs := [-2, -1, -1, 0, 1, 2, 0, 1, 2].map PyData.int) (fun x => [a, b, .v (.int m), .v (.int i), c, e, .v x]) (fun x => match x with | .int j => decide (j ≠ i) && decide (j < m) | _ => false) id
    rfl (by decide) (fun x _ => rfl) (fun x hx => ?_) (fun x _ _ => rfl) (fun x _ => rfl) rfl]
  · unfold plc
    rw [List.filter_map, List.map_id]
    rfl
  · obtain ⟨j, _, rfl⟩ := List.mem_map.mp hx
    by_cases c1 : j = i <;> simp [dent, den, getV, cmpD, eqD, boolOf, c1]
section
variable {G : List D} {P : List Df} {I : Ix} {n k : Nat} {dk : List D}
theorem row_loop (hP : HDraw P I) {most : Int} {m : Nat} (hm : m + 2 ≤ 3) {dk1 : List D} (hk : k + 14 ≤ 1000000) (hd1 : DeckOk (k + 1) dk1) :
    ∃ (sp : List Int) (ho : List Hb) (d : List D) (w : Sl), forLoop true [3] (exSs G (callF G P (n + 2)) (c_l_row_b1 I)) (rngL 0 (m + 2)) [.own dk1, .v (.int most), .v (.int ((m : Int) + 2)), .no, .v (.tuple []), .v (.tuple []), .no] =
      some (.nx [.own d, .v (.int most), .v (.int ((m : Int) + 2)), w, .v (.tuple (sp.map .int)), .v (.tuple (ho.map hab)), .no]) ∧ sp.length = m + 2 ∧ ho.length = m + 2 ∧ (∀ (j : Nat) (v : Int), sp[j]? = some v → -2 ≤ v ∧ v < (m : Int) + 2 ∧ v ≠ j) ∧ DeckOk (k + 1 + 4 * (m + 2)) d := by
  have lp := forLoop_inv (one := true) (tg := [3]) (items := rngL 0 (m + 2)) (k := 0)
    (b := exSs G (callF G P (n + 2)) (c_l_row_b1 I))
    (fun i st => i ≤ m + 2 → ∃ (sp : List Int) (ho : List Hb) (d : List D) (w : Sl), st = [.own d, .v (.int most), .v (.int ((m : Int) + 2)), w, .v (.tuple (sp.map .int)), .v (.tuple (ho.map hab)), .no] ∧ sp.length = i ∧ ho.length = i ∧ (∀ (j : Nat) (v : Int), sp[j]? = some v → -2 ≤ v ∧ v < (m : Int) + 2 ∧ v ≠ j) ∧ DeckOk (k + 1 + 4 * i) d)
    (st := [.own dk1, .v (.int most), .v (.int ((m : Int) + 2)), .no, .v (.tuple []), .v (.tuple []), .no])
    (fun _ => ⟨[], [], dk1, .no, rfl, rfl, rfl, by intro j v e; simp at e, hd1⟩)
    (fun i x st hi hs => by
      obtain ⟨hi2, rfl⟩ := rngL_get0 hi
      obtain ⟨sp, ho, d, w, rfl, h1, h2, h3, h4⟩ := hs (by omega)
      clear hs
      rw [Nat.zero_add] at h1 h2 h4
      obtain ⟨x, d2, hx, e2, hd2⟩ := one_ok (G := G) (n := n) hP (xs := plc ((m : Int) + 2) i) (by omega) h4 (plc_ne (by omega)) plc_len
      obtain ⟨v, rfl, v1, v2, v3⟩ := plc_mem hx
      obtain ⟨b, d3, e3, hd3⟩ := habit_ok (G := G) (n := n) hP (by omega) hd2
      refine ⟨_, [.own d3, .v (.int most), .v (.int ((m : Int) + 2)), .v (.int i), .v (.tuple ((sp ++ [v]).map .int)), .v (.tuple ((ho ++ [b]).map hab)), .no], rfl, .inl ?_, fun _ => ⟨sp ++ [v], ho ++ [b], d3, _, rfl, by simp [h1], by simp [h2], fun j u e => ?_, hd3.mono (by omega)⟩⟩
      · have lcq := row_lc (G := G) (F := callF G P (n + 2)) (I := I) (a := .own d) (b := .v (.int most)) (c := .v (.tuple (sp.map .int))) (e := .v (.tuple (ho.map hab))) (m := (m : Int) + 2) (i := i)
        have q1 : binD .Add (.tuple (sp.map .int)) (.tuple [.int v]) = some (.tuple ((sp ++ [v]).map .int)) := by
          rw [binTup (by simp [h1, lim]; omega)]
          simp
        have q2 : binD .Add (.tuple (ho.map hab)) (.tuple [hab b]) = some (.tuple ((ho ++ [b]).map hab)) := by
          rw [binTup (by simp [h2, lim]; omega)]
          simp
        simp [c_l_row_b1, exSs, exS, den, dens, getV, getO, setV, endCallD, lcq, e2, e3, q1, q2, lim]
      · rcases Nat.lt_or_ge j sp.length with hj | hj
        · rw [List.getElem?_append_left hj] at e
          exact h3 j u e
        · have e' := e
          rw [List.getElem?_append_right hj] at e
          have : j = sp.length := by
            rcases Nat.lt_or_ge (j - sp.length) 1 with q | q
            · omega
            · rw [List.getElem?_eq_none (by simpa using q)] at e
              cases e
          subst this
          simp at e
          subst e
          exact ⟨v1, v2, by rw [h1]; exact v3⟩)
  obtain ⟨st', e4, h4⟩ := lp
  rw [rngL_len, Nat.zero_add] at h4
  obtain ⟨sp, ho, d, w, rfl, h1, h2, h3, h5⟩ := h4 (Nat.le_refl _)
  exact ⟨sp, ho, d, w, e4, h1, h2, h3, h5⟩
/-- the loop of _law_row -/
theorem row_ok (hP : HDraw P I) {most : Nat} (hm : most = 2 ∨ most = 3) (hk : k + 14 ≤ 1000000) (h : DeckOk k dk) :
    ∃ (s : Stt) (dk' : List D), s.Ok ∧ s.sp.length ≤ most ∧ callF G P (n + 3) I.f_l_row [.list dk, .int most] = some (.ok s.enc false dk') ∧ DeckOk (k + 14) dk' := by
  obtain ⟨r1, dk1, e1, p1, p2, hd1⟩ := pick_ok (G := G) (n := n + 1) (z := (most : Int) - 1) hP (by omega) h (by omega) (by omega)
  obtain ⟨m, rfl⟩ : ∃ m : Nat, r1 = m := ⟨r1.toNat, by omega⟩
  rw [show n + 1 + 1 = n + 2 from rfl] at e1
  obtain ⟨sp, ho, d, w, e4, h1, h2, h3, h5⟩ := row_loop (G := G) (n := n) (most := most) (m := m) hP (by omega) hk hd1
  obtain ⟨r2, dk2, e5, _, _, hd2⟩ := pick_ok (G := G) (n := n + 1) (z := 3) hP (by omega) h5 (by omega) (by omega)
  rw [show n + 1 + 1 = n + 2 from rfl] at e5
  refine ⟨⟨sp, decide (r2 = 0), ho⟩, dk2, ⟨by show sp.length = 2 ∨ sp.length = 3; omega, by show ho.length = sp.length; omega, fun j v e => ?_⟩, by show sp.length ≤ most; omega, ?_, hd2.mono (by omega)⟩
  · obtain ⟨a, b, c⟩ := h3 j v e
    exact ⟨a, by show v < ((sp.length : Nat) : Int); omega, c⟩
  · have h2m : binD .Add (.int 2) (.int (m : Int)) = some (.int ((m : Int) + 2)) := by rw [addI, show (2 : Int) + (m : Int) = (m : Int) + 2 by omega]
    refine (callF_run (fl := .rt (.tuple [.tuple (sp.map .int), .bool (decide (r2 = 0)), .tuple (ho.map hab)]) false [.own dk2, .v (.int most), .v (.int ((m : Int) + 2)), w, .v (.tuple (sp.map .int)), .v (.tuple (ho.map hab)), .no]) hP.row rfl ?_).trans rfl
    refine run_nx (s1 := [.own dk1, .v (.int most), .v (.int ((m : Int) + 2)), .no, .no, .no, .no]) ?_ (run_nx (s1 := [.own dk1, .v (.int most), .v (.int ((m : Int) + 2)), .no, .v (.tuple []), .v (.tuple []), .no]) ?_ (run_nx (run_fo (s1 := [.own dk1, .v (.int most), .v (.int ((m : Int) + 2)), .no, .v (.tuple []), .v (.tuple []), .no]) (items := rngL 0 (m + 2)) ?_ e4) (run_rt ?_)))
    · simp only [exS, c_l_row, startS]
      simp [den, dens, getV, getO, setV, endCallD, e1, subI]
      rw [h2m]
      rfl
    · rfl
    · exact w_rng1 (i := (m : Int) + 2) rfl (by omega) (by omega)
    · simp [exS, den, dens, getV, getO, endCallD, e5, cmpD, eqD, lim]
end
end Pv

/-! Streets are recognized. -/
namespace Pv
open PySem L2
structure HStreet (G : List D) (P : List Df) (I : Ix) : Prop where
  within : P[I.f_is_within]? = some (c_is_within I)
  habit : P[I.f_is_habit_value]? = some (c_is_habit_value I)
  street : P[I.f_is_street_value]? = some (c_is_street_value I)
  need : P[I.f_need_street]? = some (c_need_street I)
  none : G[I.g_NONE]? = some (.int (-2))
theorem all_true (xs : List D) : bltD .all [.list ((xs.filter fun _ => true).map fun _ => .bool true)] = some (.bool true) := by
  have h : ∀ ys : List D, boolsD (ys.map fun _ => .bool true) = some (ys.map fun _ => true) := fun ys => by
    induction ys with
    | nil => rfl
    | cons y ys ih => show (boolsD _).map _ = _; rw [ih]; rfl
  show (boolsD _).map _ = _
  rw [h, Option.map_some]
  simp
theorem any_false (xs : List D) : bltD .any [.list ((xs.filter fun _ => true).map fun _ => .bool false)] = some (.bool false) := by
  have h : ∀ ys : List D, boolsD (ys.map fun _ => .bool false) = some (ys.map fun _ => false) := fun ys => by
    induction ys with
    | nil => rfl
    | cons y ys ih => show (boolsD _).map _ = _; rw [ih]; rfl
  show (boolsD _).map _ = _
  rw [h, Option.map_some]
  simp
theorem enumL_mem {xs : List D} {x : D} (h : x ∈ enumL 0 xs) : ∃ (i : Nat) (e : D), xs[i]? = some e ∧ x = .tuple [.int i, e] := by
  obtain ⟨i, hi⟩ := List.mem_iff_getElem?.mp h
  obtain ⟨e, h1, h2⟩ := enumL_get hi
  exact ⟨i, e, h1, by rw [h2, Int.zero_add]⟩
section
variable {G : List D} {P : List Df} {I : Ix} {n : Nat}
theorem within_ok (hP : HStreet G P I) {a l h : Int} : callF G P (n + 1) I.f_is_within [.int a, .int l, .int h] = some (.ok (.bool (decide (l ≤ a) && decide (a ≤ h))) false []) := by
  refine (callF_run (fl := .rt (.bool (decide (l ≤ a) && decide (a ≤ h))) false [.v (.int a), .v (.int l), .v (.int h)]) hP.within rfl (run_rt ?_)).trans rfl
  by_cases c : l ≤ a <;> simp [c_is_within, exS, den, startS, getV, isTy, boolOf, cmpD, c]
theorem habit_val (hP : HStreet G P I) {b : Hb} : callF G P (n + 1) I.f_is_habit_value [hab b] = some (.ok (.bool true) false []) := by
  refine (callF_run (fl := .rt (.bool true) false [.v (hab b), .no]) hP.habit rfl (run_rt ?_)).trans rfl
  rfl
theorem street_val (hP : HStreet G P I) {s : Stt} (hs : s.Ok) : callF G P (n + 2) I.f_is_street_value [s.enc] = some (.ok (.bool true) false []) := by
  obtain ⟨h2, h3, h4⟩ := hs
  obtain ⟨sp, fo, ho⟩ := s
  dsimp only at h2 h3 h4
  have hm : (2 : Int) ≤ sp.length ∧ (sp.length : Int) ≤ 3 := by omega
  let S : D := .tuple (sp.map .int)
  let H : D := .tuple (ho.map hab)
  have l1 : ∀ (x y : Sl), den G (callF G P (n + 1)) (c_is_street_value_e0 I) [x, .v (.int sp.length), .v S, .v (.bool fo), .v H, .no, y] = some (.list (((sp.map PyData.int).filter fun _ => true).map fun _ => .bool true), [x, .v (.int sp.length), .v S, .v (.bool fo), .v H, .no, y]) := fun x y => by
    unfold c_is_street_value_e0
    rw [den_lc_pure (xs := sp.map PyData.int) (fun z => [x, .v (.int sp.length), .v S, .v (.bool fo), .v H, .v z, y]) (fun _ => true) (fun _ => .bool true) rfl (by rw [List.length_map]; unfold lim; omega) (fun x _ => rfl) (fun x _ => rfl) (fun z hz _ => ?_) (fun x _ => rfl) rfl]
    obtain ⟨v, hv, rfl⟩ := List.mem_map.mp hz
    obtain ⟨k, hk⟩ := List.mem_iff_getElem?.mp hv
    obtain ⟨b1, b2, b3⟩ := h4 k v hk
    simp [den, dens, getV, hP.none, subI, endCall, within_ok hP, b1, show v ≤ (sp.length : Int) - 1 by omega]
  have l2 : ∀ (x : Sl), den G (callF G P (n + 1)) (c_is_street_value_e1 I) [x, .v (.int sp.length), .v S, .v (.bool fo), .v H, .no, .no] = some (.list (((enumL 0 (sp.map PyData.int)).filter fun _ => true).map fun _ => .bool false), [x, .v (.int sp.length), .v S, .v (.bool fo), .v H, .no, .no]) := fun x => by
    unfold c_is_street_value_e1
    rw [den_lc_pure (xs := enumL 0 (sp.map PyData.int)) (fun z => match z with | .tuple [i, o] => [x, .v (.int sp.length), .v S, .v (.bool fo), .v H, .v o, .v i] | _ => []) (fun _ => true) (fun _ => .bool false) rfl (by rw [enumL_len, List.length_map]; unfold lim; omega) (fun z hz => ?_) (fun z hz => ?_) (fun z hz _ => ?_) (fun z hz => ?_) rfl]
    · obtain ⟨i, e, h, rfl⟩ := enumL_mem hz
      rfl
    · obtain ⟨i, e, h, rfl⟩ := enumL_mem hz
      rfl
    · obtain ⟨i, e, h, rfl⟩ := enumL_mem hz
      rw [List.getElem?_map] at h
      obtain ⟨v, hv, rfl⟩ := map_some h
      obtain ⟨b1, b2, b3⟩ := h4 i v hv
      simp [den, getV, cmpD, eqD, b3]
    · obtain ⟨i, e, h, rfl⟩ := enumL_mem hz
      rfl
  have l3 : ∀ (x : Sl), den G (callF G P (n + 1)) (c_is_street_value_e2 I) [x, .v (.int sp.length), .v S, .v (.bool fo), .v H, .no, .no] = some (.list (((ho.map hab).filter fun _ => true).map fun _ => .bool true), [x, .v (.int sp.length), .v S, .v (.bool fo), .v H, .no, .no]) := fun x => by
    unfold c_is_street_value_e2
    rw [den_lc_pure (xs := ho.map hab) (fun z => [x, .v (.int sp.length), .v S, .v (.bool fo), .v H, .v z, .no]) (fun _ => true) (fun _ => .bool true) rfl (by rw [List.length_map]; unfold lim; omega) (fun x _ => rfl) (fun x _ => rfl) (fun z hz _ => ?_) (fun x _ => rfl) rfl]
    obtain ⟨b, hb, rfl⟩ := List.mem_map.mp hz
    simp [den, dens, getV, endCall, habit_val hP]
  have lS : bltD .len [S] = some (.int sp.length) := by show some (PyData.int _) = _; rw [List.length_map]
  have lH : bltD .len [H] = some (.int sp.length) := by show some (PyData.int _) = _; rw [List.length_map, h3]
  refine (callF_run (fl := .rt (.bool true) false [.v (.tuple [S, .bool fo, H]), .v (.int sp.length), .v S, .v (.bool fo), .v H, .no, .no]) hP.street rfl ?_).trans rfl
  refine run_nx (s1 := [.v (.tuple [S, .bool fo, H]), .no, .no, .no, .no, .no, .no]) rfl (run_nx (s1 := [.v (.tuple [S, .bool fo, H]), .no, .v S, .v (.bool fo), .v H, .no, .no]) rfl
    (run_nx (s1 := [.v (.tuple [S, .bool fo, H]), .v (.int sp.length), .v S, .v (.bool fo), .v H, .no, .no]) ?_ (run_nx (s1 := [.v (.tuple [S, .bool fo, H]), .v (.int sp.length), .v S, .v (.bool fo), .v H, .no, .no]) ?_
    (run_nx (s1 := [.v (.tuple [S, .bool fo, H]), .v (.int sp.length), .v S, .v (.bool fo), .v H, .no, .no]) ?_ (run_rt ?_)))))
  · simp [exS, den, dens, getV, setV, lS]
  · simp [exS, exSs, den, dens, getV, cmpD, boolOf, hm, l1, all_true]
  · simp [exS, exSs, den, dens, getV, cmpD, boolOf, l2, any_false, isTy]
  · have t1 : isTy .tuple H = true := rfl
    have t2 : isDictD H = false := rfl
    simp [exS, exSs, den, dens, getV, cmpD, boolOf, eqD, l3, all_true, t1, t2, lH]
theorem need_ok (hP : HStreet G P I) {s : Stt} (hs : s.Ok) : callF G P (n + 3) I.f_need_street [s.enc] = some (.ok .none false []) := by
  refine (callF_run (fl := .nx [.v s.enc]) hP.need rfl (run_nx (s1 := [.v s.enc]) ?_ rfl)).trans rfl
  simp [exS, exSs, den, dens, startS, getV, endCall, boolOf, street_val hP hs, c_need_street]
end
end Pv

/-! _law_same of a thing and itself. -/
namespace Pv
open PySem L2
structure HSame (P : List Df) (I : Ix) : Prop where
  sort : P[I.f_l_sort]? = some (c_l_sort I)
  same : P[I.f_l_same]? = some (c_l_same I)
def kindD : D → Int
  | .bool _ => 1 | .int _ => 2 | .str _ => 3 | .list _ => 4 | .tuple _ => 5 | _ => 6
/-- nested lists and tuples of plain things, so deep -/
def nest : Nat → D → Bool
  | k + 1, .list xs => decide (xs.length ≤ lim) && xs.all (nest k)
  | k + 1, .tuple xs => decide (xs.length ≤ lim) && xs.all (nest k)
  | _, d => scalD d
section
variable {G : List D} {P : List Df} {I : Ix} {n : Nat}
theorem kind_ok (hP : HSame P I) {d : D} (nd : isDictD d = false) : callF G P (n + 1) I.f_l_sort [d] = some (.ok (.int (kindD d)) false []) := by
  refine (callF_run (fl := .rt (.int (kindD d)) false [.v d]) hP.sort rfl ?_).trans rfl
  cases d <;> first | rfl | cases nd
theorem scal_nd {d : D} (h : scalD d = true) : isDictD d = false := by cases d <;> first | rfl | cases h
theorem eqD_self {d : D} (h : scalD d = true) : eqD d d = some true := by
  cases d with
  | none => rfl
  | bool b => show some (decide (b = b)) = _; simp
  | int i => show some (decide (i = i)) = _; simp
  | str x => show some (decide (x = x)) = _; simp
  | list xs => cases h
  | tuple xs => cases h
  | dict xs => cases h
theorem nest_scal {k : Nat} {d : D} (h : nest k d = true) : scalD d = true ∨ ∃ j xs, k = j + 1 ∧ (d = .list xs ∨ d = .tuple xs) ∧ xs.length ≤ lim ∧ ∀ x ∈ xs, nest j x = true := by
  unfold nest at h
  split at h
  · rename_i j xs
    rw [Bool.and_eq_true, decide_eq_true_eq, List.all_eq_true] at h
    exact .inr ⟨j, xs, rfl, .inl rfl, h.1, h.2⟩
  · rename_i j xs
    rw [Bool.and_eq_true, decide_eq_true_eq, List.all_eq_true] at h
    exact .inr ⟨j, xs, rfl, .inr rfl, h.1, h.2⟩
  · exact .inl h
theorem filter_no {α : Type} {l : List α} : l.filter (fun _ => false) = [] := by simp
theorem same_ok (hP : HSame P I) : ∀ (k : Nat) {d : D}, nest k d = true → callF G P (n + k + 2) I.f_l_same [d, d] = some (.ok (.bool true) false []) := fun k => by
  induction k with
  | zero =>
    intro d h
    rcases nest_scal h with h | ⟨j, xs, e, _⟩
    · have nd := scal_nd h
      refine (callF_run (fl := .rt (.bool true) false [.v d, .v d, .no, .no]) hP.same rfl (run_nx (s1 := [.v d, .v d, .no, .no]) ?_ (run_nx (s1 := [.v d, .v d, .no, .no]) ?_ (run_rt ?_)))).trans rfl
      · simp [c_l_same, exS, exSs, den, dens, startS, getV, endCall, kind_ok hP, nd, cmpD, eqD, boolOf]
      · cases d <;> first | (simp [exS, exSs, den, dens, getV, endCall, kind_ok hP, nd, cmpD, boolOf, kindD]; done) | (cases h; done) | (simp [scalD] at h; done)
      · simp [exS, den, getV, cmpD, eqD_self h]
    · cases e
  | succ k ih =>
    intro d h
    rcases nest_scal h with h | ⟨j, xs, e, hd, hl, hx⟩
    · have nd := scal_nd h
      refine (callF_run (fl := .rt (.bool true) false [.v d, .v d, .no, .no]) hP.same rfl (run_nx (s1 := [.v d, .v d, .no, .no]) ?_ (run_nx (s1 := [.v d, .v d, .no, .no]) ?_ (run_rt ?_)))).trans rfl
      · simp [c_l_same, exS, exSs, den, dens, startS, getV, endCall, kind_ok hP, nd, cmpD, eqD, boolOf]
      · cases d <;> first | (simp [exS, exSs, den, dens, getV, endCall, kind_ok hP, nd, cmpD, boolOf, kindD]; done) | (cases h; done) | (simp [scalD] at h; done)
      · simp [exS, den, getV, cmpD, eqD_self h]
    · cases e
      have nd : isDictD d = false := by rcases hd with rfl | rfl <;> rfl
      have lc : ∀ (hw : denw G (callF G P (n + k + 2)) (.enum (.var 0)) [.v d, .v d, .no, .no] = some (enumL 0 xs, [.v d, .v d, .no, .no])) (hi : ∀ i e, xs[i]? = some e → idxD d (.int (i : Nat)) = some e), den G (callF G P (n + k + 2)) (c_l_same_e0 I) [.v d, .v d, .no, .no] = some (.list [], [.v d, .v d, .no, .no]) := fun hw hi => by
        unfold c_l_same_e0
        rw [den_lc_pure (xs := enumL 0 xs) (fun z => match z with | .tuple [i, o] => [.v d, .v d, .v i, .v o] | _ => []) (fun _ => false) id hw (by rw [enumL_len]; exact hl) (fun z hz => ?_) (fun z hz => ?_) (fun z hz z2 => by cases z2) (fun z hz => ?_) rfl]
        · rw [filter_no]
          rfl
        · obtain ⟨i, e, h, rfl⟩ := enumL_mem hz
          rfl
        · obtain ⟨i, e, h, rfl⟩ := enumL_mem hz
          have := ih (hx e (List.mem_of_getElem? h))
          simp [dent, den, dens, getV, hi i e h, endCall, this, boolOf]
        · obtain ⟨i, e, h, rfl⟩ := enumL_mem hz
          rfl
      have hat : ∀ (i : Nat) (e : D), xs[i]? = some e → atI xs (i : Int) = some e := fun i e h => by
        have hi : i < xs.length := (List.getElem?_eq_some_iff.mp h).1
        unfold atI ixN
        rw [if_pos (by omega), if_pos (by omega)]
        exact h
      have e0 : SeqAt.shaped (.list []) = true := by decide +kernel
      have e2 : PyData.eqv (.list []) (.list []) = true := by decide +kernel
      refine (callF_run (n := n + k + 2) (fl := .rt (.bool true) false [.v d, .v d, .no, .no]) hP.same rfl (run_nx (s1 := [.v d, .v d, .no, .no]) ?_ (run_rt (fr := false) (d := .bool true) (s1 := [.v d, .v d, .no, .no]) ?_))).trans rfl
      · simp [c_l_same, exS, exSs, den, dens, startS, getV, endCall, kind_ok hP, nd, cmpD, eqD, boolOf]
      · rcases hd with rfl | rfl
        · have l1 := lc rfl hat
          simp [exS, exSs, den, dens, getV, endCall, kind_ok hP, nd, cmpD, boolOf, kindD, bltD, eqD, l1, e0, e2]
        · have l1 := lc rfl hat
          simp [exS, exSs, den, dens, getV, endCall, kind_ok hP, nd, cmpD, boolOf, kindD, bltD, eqD, l1, e0, e2]
end
end Pv

/-! Sorted lists of alike data. -/
namespace Pv
open PySem L2
mutual
theorem eqv_eq : ∀ a b : D, W.alike a b = true → PyData.eqv a b = true → a = b
  | .none, .none, _, _ => rfl
  | .bool x, .bool y, _, h => by simp [PyData.eqv] at h; rw [h]
  | .int x, .int y, _, h => by simp [PyData.eqv] at h; rw [h]
  | .str x, .str y, _, h => by simp [PyData.eqv] at h; rw [h]
  | .list xs, .list ys, h, e => by
    simp only [W.alike] at h
    simp only [PyData.eqv] at e
    rw [eqvAll_eq xs ys h e]
  | .tuple xs, .tuple ys, h, e => by
    simp only [W.alike] at h
    simp only [PyData.eqv] at e
    rw [eqvAll_eq xs ys h e]
  | .none, .bool _, h, _ | .none, .int _, h, _ | .none, .str _, h, _ | .none, .list _, h, _ | .none, .tuple _, h, _ | .none, .dict _, h, _ => by cases h
  | .bool _, .none, h, _ | .bool _, .int _, h, _ | .bool _, .str _, h, _ | .bool _, .list _, h, _ | .bool _, .tuple _, h, _ | .bool _, .dict _, h, _ => by cases h
  | .int _, .none, h, _ | .int _, .bool _, h, _ | .int _, .str _, h, _ | .int _, .list _, h, _ | .int _, .tuple _, h, _ | .int _, .dict _, h, _ => by cases h
  | .str _, .none, h, _ | .str _, .bool _, h, _ | .str _, .int _, h, _ | .str _, .list _, h, _ | .str _, .tuple _, h, _ | .str _, .dict _, h, _ => by cases h
  | .list _, .none, h, _ | .list _, .bool _, h, _ | .list _, .int _, h, _ | .list _, .str _, h, _ | .list _, .tuple _, h, _ | .list _, .dict _, h, _ => by cases h
  | .tuple _, .none, h, _ | .tuple _, .bool _, h, _ | .tuple _, .int _, h, _ | .tuple _, .str _, h, _ | .tuple _, .list _, h, _ | .tuple _, .dict _, h, _ => by cases h
  | .dict _, .none, h, _ | .dict _, .bool _, h, _ | .dict _, .int _, h, _ | .dict _, .str _, h, _ | .dict _, .list _, h, _ | .dict _, .tuple _, h, _ | .dict _, .dict _, h, _ => by cases h
theorem eqvAll_eq : ∀ xs ys : List D, W.alikeAll xs ys = true → PyData.eqvAll xs ys = true → xs = ys
  | [], [], _, _ => rfl
  | [], _ :: _, _, e => by cases e
  | _ :: _, [], _, e => by cases e
  | x :: xs, y :: ys, h, e => by
    simp only [W.alikeAll, Bool.and_eq_true] at h
    simp only [PyData.eqvAll, Bool.and_eq_true] at e
    rw [eqv_eq x y h.1 e.1, eqvAll_eq xs ys h.2 e.2]
end
theorem lex_tri {O : PyProof.Rows.KeyOrd} : ∀ {a b : List O.α}, PyProof.Rows.lexLt O a b = false → PyProof.Rows.lexLt O b a = false → a = b
  | [], [], _, _ => rfl
  | [], _ :: _, h, _ => by cases h
  | _ :: _, [], _, h => by cases h
  | x :: r, y :: t, h1, h2 => by
    obtain ⟨a1, a2⟩ := PyProof.Rows.lex_false.mp h1
    obtain ⟨b1, b2⟩ := PyProof.Rows.lex_false.mp h2
    have e : x = y := O.total x y a1 b1
    subst e
    rw [PyProof.Rows.lex_self] at h1 h2
    rw [lex_tri h1 h2]
/-- the order tells alike data apart -/
theorem leD_anti {a b : D} (h : W.alike a b = true) (h1 : leD a b = true) (h2 : leD b a = true) : a = b := by
  unfold leD at h1 h2
  simp only [Bool.not_eq_true'] at h1 h2
  have ek : W.keyToks a = W.keyToks b := lex_tri h2 h1
  cases e : PyData.eqv a b with
  | true => exact eqv_eq a b h e
  | false =>
    have q := (W.toks_eqv a b h).2 e [] [Sum.inl 0]
    rw [ek, W.lex_pre, PyProof.Rows.lex_irrefl] at q
    cases q
theorem sortD_perm_self (xs : List D) : (sortD xs).Perm xs := by
  rw [sortD_eq]
  exact List.mergeSort_perm xs leD
theorem sortD_sorted (xs : List D) : (sortD xs).Pairwise (fun a b => leD a b = true) := (sort_filter (c := .none) xs [] List.Pairwise.nil).1
/-- the same items in another order: sorted, they are the same -/
theorem sortD_perm {xs ys : List D} (h : xs.Perm ys) (ha : ∀ a ∈ xs, ∀ b ∈ xs, W.alike a b = true) : sortD xs = sortD ys := by
  refine List.Perm.eq_of_pairwise (le := fun a b => leD a b = true) (fun a b m1 m2 e1 e2 => ?_) (sortD_sorted xs) (sortD_sorted ys) ((sortD_perm_self xs).trans (h.trans (sortD_perm_self ys).symm))
  exact leD_anti (ha a ((sortD_perm_self xs).mem_iff.mp m1) b (h.mem_iff.mpr ((sortD_perm_self ys).mem_iff.mp m2))) e1 e2
end Pv

/-! Streets with one part changed, as the program tells them. -/
namespace Pv
open PySem L2
theorem filter_yes {α : Type} {l : List α} : l.filter (fun _ => true) = l := by simp
theorem cut_to {xs : List D} {k : Nat} : cutD xs none (some (k : Int)) = xs.take k := by
  unfold cutD
  rw [HT.sIx_nat, HT.sIx_none, List.drop_zero, Nat.sub_zero]
  rcases Nat.le_total k xs.length with h | h
  · rw [Nat.min_eq_left h]
  · rw [Nat.min_eq_right h, List.take_of_length_le (Nat.le_refl _), List.take_of_length_le h]
theorem cut_from {xs : List D} {k : Nat} : cutD xs (some (k : Int)) none = xs.drop k := by
  unfold cutD
  rw [HT.sIx_nat, HT.sIx_none]
  rcases Nat.le_total k xs.length with h | h
  · rw [Nat.min_eq_left h, List.take_of_length_le (by rw [List.length_drop]; exact Nat.le_refl _)]
  · rw [Nat.min_eq_right h, List.drop_eq_nil_of_le h, List.drop_length, List.take_nil]
theorem atN {xs : List D} {k : Nat} {p : D} (h : xs[k]? = some p) : atI xs (k : Int) = some p := by
  have hi : k < xs.length := (List.getElem?_eq_some_iff.mp h).1
  unfold atI ixN
  rw [if_pos (by omega), if_pos (by omega)]
  exact h
structure HMend (G : List D) (P : List Df) (I : Ix) : Prop extends HStreet G P I where
  parts : P[I.f_parts_of]? = some (c_parts_of I)
  street_of : P[I.f_street_of]? = some (c_street_of I)
  values : P[I.f_values_of]? = some (c_values_of I)
  changed : P[I.f_changed]? = some (c_changed I)
  ones : P[I.f_ones]? = some (c_ones I)
  truths : G[I.g_TRUTHS]? = some (.tuple [.bool false, .bool true])
/-- v != p -/
def neD (v p : D) : Bool := match eqD v p with
  | some b => !b | none => true
theorem neD_some {v p : D} {b : Bool} (h : eqD v p = some b) : cmpD .NotEq v p = some (neD v p) := by
  show (eqD v p).map (!·) = _
  unfold neD
  rw [h]
  rfl
def valsD (m k : Nat) : List D := if k < m then (rngL (-2) (m + 2)).filter fun v => neD v (.int k) else [.bool false, .bool true]
def segD (ps : List D) (k : Nat) (vs : List D) : List D := (vs.filter fun v => neD v (ps.getD k .none)).map fun v => .tuple [.int k, .tuple (ps.take k ++ [v] ++ ps.drop (k + 1))]
/-- parts of a street of m homes -/
structure PsOk (m : Nat) (ps : List D) : Prop where
  len : ps.length = 4 * m + 1
  num : ∀ k, k < m → ∃ i, ps[k]? = some (.int i)
  tru : ∀ k, m ≤ k → k < 4 * m + 1 → ∃ b, ps[k]? = some (.bool b)
section
variable {G : List D} {P : List Df} {I : Ix} {n m : Nat}
theorem values_ok (hP : HMend G P I) {k : Nat} (hm : m ≤ 3) (hk : k ≤ 100) : ∃ fr, callF G P (n + 1) I.f_values_of [.int k, .int m] = some (.ok (.list (valsD m k)) fr []) := by
  by_cases h : k < m
  · refine ⟨false, (callF_run (fl := .rt (.list (valsD m k)) false [.v (.int k), .v (.int m), .no]) hP.values rfl ?_).trans rfl⟩
    have l1 : den G (callF G P n) (c_values_of_e0 I) [.v (.int k), .v (.int m), .no] = some (.list (valsD m k), [.v (.int k), .v (.int m), .no]) := by
      unfold c_values_of_e0
      have hw : denw G (callF G P n) (.rng2 (.glb I.g_NONE) (.var 1)) [.v (.int k), .v (.int m), .no] = some (rngL (-2) (m + 2), [.v (.int k), .v (.int m), .no]) :=
        w_rng2 (i := -2) (j := m) (s := [.v (.int k), .v (.int m), .no]) (by simp [den, hP.none]) rfl (by omega) (by omega) (by omega) (by omega) (by omega)
      rw [den_lc_pure (fun x => [.v (.int k), .v (.int m), .v x]) (fun v => neD v (.int k)) id hw (by rw [rngL_len]; unfold lim; omega) (fun x _ => rfl) (fun x hx => ?_) (fun x _ _ => rfl) (fun x _ => rfl) rfl]
      · rw [List.map_id]
        unfold valsD
        rw [if_pos h]
      · obtain ⟨j, hj⟩ := List.mem_iff_getElem?.mp hx
        obtain ⟨_, rfl⟩ := rngL_get hj
        have := neD_some (v := .int (-2 + (j : Int))) (p := .int k) rfl
        simp [dent, den, getV, this, boolOf]
    refine run_nx' ?_ rfl
    simp [c_values_of, exS, exSs, den, startS, getV, cmpD, boolOf, l1, h]
  · refine ⟨false, (callF_run (fl := .rt (.list (valsD m k)) false [.v (.int k), .v (.int m), .no]) hP.values rfl (run_nx (s1 := [.v (.int k), .v (.int m), .no]) ?_ (run_rt ?_))).trans rfl⟩
    · have h' : ¬ ((k : Int) < m) := by omega
      simp [c_values_of, exS, exSs, den, startS, getV, cmpD, boolOf, h']
    · simp [exS, den, dens, hP.truths, bltD, valsD, h]
theorem inner_ok {F : Nat → List D → Option CR} {ps : List D} {k : Nat} {p first : D} (hk : ps[k]? = some p) (hl : ps.length ≤ 1000) : ∀ {vals found : List D} {w : Sl}, (∀ v ∈ vals, ∃ b, eqD v p = some b) → found.length + vals.length ≤ 1000 →
    ∃ w', forLoop true [5] (exSs G F (c_changed_b0 I)) vals [.v (.tuple ps), .v first, .v (.int m), .own found, .v (.int k), w] = some (.nx [.v (.tuple ps), .v first, .v (.int m), .own (found ++ segD ps k vals), .v (.int k), w'])
  | [], found, w, _, _ => ⟨w, by unfold segD; simp [forLoop]⟩
  | v :: vs, found, w, hv, hf => by
    rw [List.length_cons] at hf
    have hk2 : k < ps.length := (List.getElem?_eq_some_iff.mp hk).1
    obtain ⟨b, hb⟩ := hv v List.mem_cons_self
    have e1 := neD_some hb
    have eg : ps.getD k .none = p := by rw [List.getD_eq_getElem?_getD, hk]; rfl
    have hv2 : ∀ u ∈ vs, ∃ b, eqD u p = some b := fun u hu => hv u (List.mem_cons_of_mem _ hu)
    have j1 : binD .Add (.tuple (ps.take k)) (.tuple [v]) = some (.tuple (ps.take k ++ [v])) := binTup (by rw [List.length_take]; simp; unfold lim; omega)
    have j2 : binD .Add (.tuple (ps.take k ++ [v])) (.tuple (ps.drop (k + 1))) = some (.tuple (ps.take k ++ [v] ++ ps.drop (k + 1))) := binTup (by simp; unfold lim; omega)
    have c1 : slD (.tuple ps) none (some (k : Int)) = some (.tuple (ps.take k)) := by show some (PyData.tuple (cutD _ _ _)) = _; rw [cut_to]
    have c2 : slD (.tuple ps) (some ((k : Int) + 1)) none = some (.tuple (ps.drop (k + 1))) := by show some (PyData.tuple (cutD _ _ _)) = _; rw [show (k : Int) + 1 = ((k + 1 : Nat) : Int) by omega, cut_from]
    have ix : idxD (.tuple ps) (.int k) = some p := atN hk
    have body : exSs G F (c_changed_b0 I) [.v (.tuple ps), .v first, .v (.int m), .own found, .v (.int k), .v v] = some (.nx [.v (.tuple ps), .v first, .v (.int m), .own (found ++ segD ps k [v]), .v (.int k), .v v]) := by
      have hlim : found.length < lim := by unfold lim; omega
      unfold segD
      rw [List.filter_cons, eg]
      cases q : neD v p with
      | false =>
        rw [q] at e1
        simp [c_changed_b0, exSs, exS, den, dens, getV, ix, e1, boolOf]
      | true =>
        rw [q] at e1
        simp [c_changed_b0, exSs, exS, den, dens, deno, getV, getO, ix, e1, boolOf, intOf, c1, c2, addI, j1, j2, show (2 : Nat) ≤ lim by decide, show (1 : Nat) ≤ lim by decide, hlim]
    have hf2 : (found ++ segD ps k [v]).length + vs.length ≤ 1000 := by
      have : (segD ps k [v]).length ≤ 1 := by unfold segD; rw [List.length_map]; exact List.length_filter_le _ _
      rw [List.length_append]
      omega
    obtain ⟨w', h'⟩ := inner_ok (F := F) (first := first) hk hl (vals := vs) (found := found ++ segD ps k [v]) (w := .v v) hv2 hf2
    refine ⟨w', ?_⟩
    unfold forLoop
    show ((exSs G F (c_changed_b0 I) [.v (.tuple ps), .v first, .v (.int m), .own found, .v (.int k), .v v]).bind _) = _
    rw [body]
    show forLoop true [5] (exSs G F (c_changed_b0 I)) vs _ = _
    rw [h']
    have : segD ps k (v :: vs) = segD ps k [v] ++ segD ps k vs := by
      unfold segD
      rw [← List.map_append, ← List.filter_append]
      rfl
    rw [this, List.append_assoc]
theorem valsD_len {k : Nat} (hm : m ≤ 3) : (valsD m k).length ≤ 5 := by
  unfold valsD
  split
  · refine Nat.le_trans (List.length_filter_le _ _) ?_
    rw [rngL_len]
    omega
  · decide
theorem segD_len {ps vs : List D} {k : Nat} : (segD ps k vs).length ≤ vs.length := by
  unfold segD
  rw [List.length_map]
  exact List.length_filter_le _ _
def allSeg (m : Nat) (ps : List D) (i : Nat) : List D := (List.range i).flatMap fun k => segD ps k (valsD m k)
theorem allSeg_succ {ps : List D} {i : Nat} : allSeg m ps (i + 1) = allSeg m ps i ++ segD ps i (valsD m i) := by
  unfold allSeg
  rw [List.range_succ, List.flatMap_append]
  simp
theorem allSeg_len {ps : List D} (hm : m ≤ 3) : ∀ i, (allSeg m ps i).length ≤ 5 * i
  | 0 => by simp [allSeg]
  | i + 1 => by
    rw [allSeg_succ, List.length_append]
    have h1 := allSeg_len (ps := ps) hm i
    have h2 := segD_len (ps := ps) (vs := valsD m i) (k := i)
    have h3 := valsD_len (m := m) (k := i) hm
    omega
theorem vals_eq {ps : List D} (ok : PsOk m ps) {k : Nat} {p : D} (hk : ps[k]? = some p) : ∀ v ∈ valsD m k, ∃ b, eqD v p = some b := fun v hv => by
  have hk2 : k < ps.length := (List.getElem?_eq_some_iff.mp hk).1
  rw [ok.len] at hk2
  unfold valsD at hv
  split at hv
  · rename_i h
    obtain ⟨i, e⟩ := ok.num k h
    rw [hk] at e
    cases e
    obtain ⟨j, hj⟩ := List.mem_iff_getElem?.mp (List.mem_filter.mp hv).1
    obtain ⟨_, rfl⟩ := rngL_get hj
    exact ⟨_, rfl⟩
  · rename_i h
    obtain ⟨b, e⟩ := ok.tru k (by omega) hk2
    rw [hk] at e
    cases e
    rcases List.mem_cons.mp hv with rfl | hv
    · exact ⟨_, rfl⟩
    · rw [List.mem_singleton.mp hv]
      exact ⟨_, rfl⟩
theorem changed_ok (hP : HMend G P I) {ps : List D} (hm : m ≤ 3) (ok : PsOk m ps) : callF G P (n + 2) I.f_changed [.tuple ps, .int 0, .int m] = some (.ok (.list (allSeg m ps (4 * m + 1))) true []) := by
  have hl := ok.len
  obtain ⟨st', e4, h4⟩ := forLoop_inv (one := true) (tg := [4]) (items := rngL 0 (4 * m + 1)) (k := 0) (b := exSs G (callF G P (n + 1)) (c_changed_b1 I))
    (fun i st => ∃ (w1 w2 : Sl), st = [.v (.tuple ps), .v (.int 0), .v (.int m), .own (allSeg m ps i), w1, w2])
    (st := [.v (.tuple ps), .v (.int 0), .v (.int m), .own [], .no, .no]) ⟨.no, .no, rfl⟩
    (fun i x st hi hs => by
      obtain ⟨hi2, rfl⟩ := rngL_get0 hi
      obtain ⟨w1, w2, rfl⟩ := hs
      rw [Nat.zero_add]
      obtain ⟨p, hp⟩ : ∃ p, ps[i]? = some p := ⟨_, List.getElem?_eq_getElem (by omega)⟩
      obtain ⟨fr, e1⟩ := values_ok (n := n) (m := m) (k := i) hP hm (by omega)
      have l1 := allSeg_len (m := m) (ps := ps) hm i
      have l2 := valsD_len (m := m) (k := i) hm
      obtain ⟨w', e2⟩ := inner_ok (I := I) (G := G) (m := m) (F := callF G P (n + 1)) (first := .int 0) hp (by omega) (vals := valsD m i) (found := allSeg m ps i) (w := w2) (vals_eq ok hp) (by omega)
      refine ⟨[.v (.tuple ps), .v (.int 0), .v (.int m), .own (allSeg m ps i), .v (.int i), w2], [.v (.tuple ps), .v (.int 0), .v (.int m), .own (allSeg m ps (i + 1)), .v (.int i), w'], rfl, .inl ?_, _, _, rfl⟩
      refine run_nx (run_fo (items := valsD m i) (s1 := [.v (.tuple ps), .v (.int 0), .v (.int m), .own (allSeg m ps i), .v (.int i), w2]) ?_ e2) ?_
      · simp [denw, den, dens, getV, endCall, e1]
      · rw [allSeg_succ]
        rfl)
  rw [rngL_len, Nat.zero_add] at h4
  obtain ⟨w1, w2, rfl⟩ := h4
  refine (callF_run (fl := .rt (.list (allSeg m ps (4 * m + 1))) true [.v (.tuple ps), .v (.int 0), .v (.int m), .own (allSeg m ps (4 * m + 1)), w1, w2]) hP.changed rfl (run_nx (s1 := [.v (.tuple ps), .v (.int 0), .v (.int m), .own [], .no, .no]) rfl (run_nx (run_fo (items := rngL 0 (4 * m + 1)) (s1 := [.v (.tuple ps), .v (.int 0), .v (.int m), .own [], .no, .no]) ?_ e4) (run_rt rfl)))).trans rfl
  refine w_rng2 (i := 0) (j := ((4 * m + 1 : Nat) : Int)) (s := [.v (.tuple ps), .v (.int 0), .v (.int m), .own [], .no, .no]) rfl ?_ (by omega) (by omega) (by omega) (by omega) (by omega)
  rw [← hl]
  rfl
/-- the street of a row of parts -/
def stO (m : Nat) (ps : List D) : D := .tuple [.tuple (ps.take m), ps.getD m .none, .tuple ((List.range m).map fun i => .tuple (((ps.drop (m + 1)).drop (3 * i)).take 3))]
theorem street_of_ok (hP : HMend G P I) {ps : List D} (hm : m = 2 ∨ m = 3) (hl : ps.length = 4 * m + 1) : callF G P (n + 1) I.f_street_of [.tuple ps, .int m] = some (.ok (stO m ps) false []) := by
  obtain ⟨p, hp⟩ : ∃ p, ps[m]? = some p := ⟨_, List.getElem?_eq_getElem (by omega)⟩
  have eg : ps.getD m .none = p := by rw [List.getD_eq_getElem?_getD, hp]; rfl
  have hr : (ps.drop (m + 1)).length = 3 * m := by rw [List.length_drop]; omega
  generalize hrest : ps.drop (m + 1) = rest at hr
  have c2 : slD (.tuple ps) (some ((m : Int) + 1)) none = some (.tuple rest) := by show some (PyData.tuple (cutD _ _ _)) = _; rw [show (m : Int) + 1 = ((m + 1 : Nat) : Int) by omega, cut_from, hrest]
  have c1 : slD (.tuple ps) none (some (m : Int)) = some (.tuple (ps.take m)) := by show some (PyData.tuple (cutD _ _ _)) = _; rw [cut_to]
  have ix : idxD (.tuple ps) (.int m) = some p := atN hp
  have lc : den G (callF G P n) (c_street_of_e0 I) [.v (.tuple ps), .v (.int m), .v (.tuple rest), .no] = some (.list ((List.range m).map fun i => .tuple ((rest.drop (3 * i)).take 3)), [.v (.tuple ps), .v (.int m), .v (.tuple rest), .no]) := by
    unfold c_street_of_e0
    have hb : bltD .len [.tuple rest] = some (.int ((3 * m : Nat) : Int)) := by show some (PyData.int _) = _; rw [hr]
    have hw : denw G (callF G P n) (.rng3 (.cst (.int 0)) (.blt .len (.cons (.var 2) .nil)) (.cst (.int 3))) [.v (.tuple ps), .v (.int m), .v (.tuple rest), .no] = some ((List.range m).map fun i => PyData.int ((3 * i : Nat) : Int), [.v (.tuple ps), .v (.int m), .v (.tuple rest), .no]) := by
      rcases hm with rfl | rfl
      · exact w_rng3 (i := 0) (j := 6) (k := 3) (n := 2) (s1 := [.v (.tuple ps), .v (.int (2 : Nat)), .v (.tuple rest), .no]) (s2 := [.v (.tuple ps), .v (.int (2 : Nat)), .v (.tuple rest), .no]) rfl (e_blt1 rfl hb) rfl (by decide +kernel) (by decide +kernel)
      · exact w_rng3 (i := 0) (j := 9) (k := 3) (n := 3) (s1 := [.v (.tuple ps), .v (.int (3 : Nat)), .v (.tuple rest), .no]) (s2 := [.v (.tuple ps), .v (.int (3 : Nat)), .v (.tuple rest), .no]) rfl (e_blt1 rfl hb) rfl (by decide +kernel) (by decide +kernel)
    rw [den_lc_pure (fun x => [.v (.tuple ps), .v (.int m), .v (.tuple rest), .v x]) (fun _ => true) (fun x => match x with | .int j => .tuple ((rest.drop j.toNat).take 3) | _ => .none) hw (by rw [List.length_map, List.length_range]; unfold lim; omega) (fun x _ => rfl) (fun x _ => rfl) (fun x hx _ => ?_) (fun x _ => rfl) rfl]
    · rw [filter_yes, List.map_map]
      rfl
    · obtain ⟨i, hi, rfl⟩ := List.mem_map.mp hx
      rw [List.mem_range] at hi
      have c3 : slD (.tuple rest) (some ((3 * i : Nat) : Int)) (some (((3 * i : Nat) : Int) + 3)) = some (.tuple ((rest.drop (3 * i)).take 3)) := by
        show some (PyData.tuple (cutD _ _ _)) = _
        unfold cutD
        rw [show ((3 * i : Nat) : Int) + 3 = ((3 * i + 3 : Nat) : Int) by omega, HT.sIx_nat, HT.sIx_nat, Nat.min_eq_left (by omega), Nat.min_eq_left (by omega), show 3 * i + 3 - 3 * i = 3 by omega]
      have t0 : ((3 * i : Nat) : Int).toNat = 3 * i := Int.toNat_natCast _
      simp only [den, deno, getV, List.getElem?_cons_zero, List.getElem?_cons_succ, Option.map_some, Option.bind_some, intOf, addI, c3, t0]
  refine (callF_run (fl := .rt (stO m ps) false [.v (.tuple ps), .v (.int m), .v (.tuple rest), .no]) hP.street_of rfl (run_nx (s1 := [.v (.tuple ps), .v (.int m), .v (.tuple rest), .no]) ?_ (run_rt ?_))).trans rfl
  · simp [c_street_of, exS, den, deno, startS, getV, setV, intOf, addI, c2]
  · have ex : stO m ps = .tuple [.tuple (ps.take m), p, .tuple ((List.range m).map fun i => .tuple ((rest.drop (3 * i)).take 3))] := by
      unfold stO
      rw [eg, hrest]
    rw [ex]
    exact x_ret (e_tup3 (e_sl rfl rfl rfl c1) (e_idx rfl rfl ix) (e_blt1 lc rfl))
end
end Pv

/-! What the defs named law have in common: the walk over the script's cells; the five streets. -/
namespace Pv
open PySem L2
def cells (K : Nat) (ns : List Int) : List Int := (0 :: ns).take K
theorem cells_w {G : List D} {F : Nat → List D → Option CR} {ns : List Int} {K : Nat} {r : SS} (h : ns.length ≤ 63) :
    denw G F (.seq (.sl (.bin .Add (.lst (.cons (.cst (.int 0)) .nil)) (.var 0)) .no (.e (.cst (.int (K : Int)))))) (.v (.list (ns.map .int)) :: r) = some ((cells K ns).map .int, .v (.list (ns.map .int)) :: r) := by
  have j1 : binD .Add (.list [.int 0]) (.list (ns.map .int)) = some (.list (.int 0 :: ns.map .int)) := by
    show (if _ then _ else _) = _
    rw [if_pos (by simp; unfold lim; omega)]
    rfl
  have c1 : slD (.list (.int 0 :: ns.map .int)) none (some (K : Int)) = some (.list ((cells K ns).map .int)) := by
    show some (PyData.list (cutD _ none (some (K : Int)))) = _
    have : cutD (PyData.int 0 :: ns.map PyData.int) none (some (K : Int)) = (PyData.int 0 :: ns.map PyData.int).take K := cut_to
    rw [this]
    unfold cells
    rw [List.map_take]
    rfl
  have e3 : den G F (.sl (.bin .Add (.lst (.cons (.cst (.int 0)) .nil)) (.var 0)) .no (.e (.cst (.int (K : Int))))) (.v (.list (ns.map .int)) :: r) = some (.list ((cells K ns).map .int), .v (.list (ns.map .int)) :: r) := e_sl (e_bin rfl rfl j1) rfl rfl c1
  show ((den G F (.sl (.bin .Add (.lst (.cons (.cst (.int 0)) .nil)) (.var 0)) .no (.e (.cst (.int (K : Int))))) (.v (.list (ns.map .int)) :: r)).bind _) = _
  rw [e3]
  rfl
/-- a loop over the cells whose body goes on -/
theorem cells_loop {b : SS → Option Fl} (Iv : SS → Prop) : ∀ {zs : List Int} {st : SS}, Iv st →
    (∀ z st, z ∈ zs → Iv st → ∃ s1 s2, setV st 1 (.int z) = some s1 ∧ b s1 = some (.nx s2) ∧ Iv s2) → ∃ st', forLoop true [1] b (zs.map PyData.int) st = some (.nx st') ∧ Iv st'
  | [], st, h, _ => ⟨st, rfl, h⟩
  | z :: zs, st, h, step => by
    obtain ⟨s1, s2, e1, e2, h2⟩ := step z st List.mem_cons_self h
    obtain ⟨st', e3, h3⟩ := cells_loop Iv h2 fun y s hy => step y s (List.mem_cons_of_mem _ hy)
    refine ⟨st', ?_, h3⟩
    show ((setV st 1 (.int z)).bind _) = _
    rw [e1]
    show ((b s1).bind _) = _
    rw [e2]
    exact e3
def known1 : Stt := ⟨[-1, -2], false, [(true, true, false), (false, false, false)]⟩
def known2 : Stt := ⟨[-1, -2], false, [(true, false, false), (false, false, false)]⟩
def known3 : Stt := ⟨[1, 0], false, [(true, true, false), (true, true, false)]⟩
def known4 : Stt := ⟨[-1, 0], true, [(false, false, false), (false, false, false)]⟩
def known5 : Stt := ⟨[-1, 0], false, [(false, false, false), (true, true, true)]⟩
def Stt.good (s : Stt) : Bool := (s.sp.length == 2 || s.sp.length == 3) && s.ho.length == s.sp.length && (List.range s.sp.length).all fun k => match s.sp[k]? with
  | some v => decide (-2 ≤ v) && decide (v < s.sp.length) && decide (v ≠ k)
  | none => true
theorem Stt.ok_of {s : Stt} (h : s.good = true) : s.Ok := by
  unfold Stt.good at h
  simp only [Bool.and_eq_true, Bool.or_eq_true, beq_iff_eq, List.all_eq_true, List.mem_range] at h
  obtain ⟨⟨h1, h2⟩, h3⟩ := h
  refine ⟨h1, h2, fun k v e => ?_⟩
  have hk : k < s.sp.length := (List.getElem?_eq_some_iff.mp e).1
  have := h3 k hk
  rw [e] at this
  simpa [and_assoc] using this
theorem known_ok {G : List D} {P : List Df} {I : Ix} {n : Nat} (hP : P[I.f_l_known]? = some (c_l_known I)) : callF G P (n + 1) I.f_l_known [] = some (.ok (.list [known1.enc, known2.enc, known3.enc, known4.enc, known5.enc]) false []) := by
  rw [callF_eq _ hP]
  simp [c_l_known, exSs, exS, den, dens, startS, endF, getV, setV, setVs, asgT, lim, binD, intOf, Stt.enc, known1, known2, known3, known4, known5, hab, List.replicate]
end Pv

/-! Stands and events. -/
namespace Pv
open PySem L2
/-- where a spare is -/
inductive Spw where
  | place | none | inside | pocket | gone
  deriving DecidableEq
def Spw.w : Spw → Str
  | .place => Str.ofString "place" | .none => Str.ofString "none" | .inside => Str.ofString "inside" | .pocket => Str.ofString "pocket" | .gone => Str.ofString "gone"
/-- of one home: whether somebody is in; whether the own key is in the pocket; the spare -/
structure Hm where
  inn : Bool
  own : Bool
  spr : Spw
  deriving DecidableEq
def ownW : Bool → Str
  | true => Str.ofString "pocket" | false => Str.ofString "inside"
def Hm.enc (t : Hm) : D := .tuple [.bool t.inn, .str (ownW t.own), .str t.spr.w]
abbrev Std := List Hm
def encS (st : Std) : D := .tuple (st.map Hm.enc)
inductive Kd where
  | go (b : Bool) | enter | mat | ask | fetch | hang | find
  deriving DecidableEq
structure Ev where
  kd : Kd
  k : Nat
  deriving DecidableEq
def Ev.enc (e : Ev) : D := match e.kd with
  | .go b => .tuple [.str (Str.ofString "go"), .int e.k, .bool b]
  | .enter => .tuple [.str (Str.ofString "enter"), .int e.k]
  | .mat => .tuple [.str (Str.ofString "mat"), .int e.k]
  | .ask => .tuple [.str (Str.ofString "ask"), .int e.k]
  | .fetch => .tuple [.str (Str.ofString "fetch"), .int e.k]
  | .hang => .tuple [.str (Str.ofString "hang"), .int e.k]
  | .find => .tuple [.str (Str.ofString "find"), .int e.k]
section
variable (s : Stt) (st : Std)
def spA (k : Nat) : Int := s.sp.getD k 0
def hoA (k : Nat) : Hb := s.ho.getD k (false, false, false)
def tA (k : Nat) : Hm := st.getD k ⟨true, false, .none⟩
def Hm.stuck (t : Hm) : Bool := !t.inn && !t.own && t.spr != .pocket
def bring (k : Nat) : Bool := decide (spA s k = -1) || (decide (0 ≤ spA s k) && (tA st (spA s k).toNat).inn)
def goE (k : Nat) : List Ev :=
  if (tA st k).inn && !((hoA s k).2.1 && ((tA st k).spr == .inside && bring s st k)) then (if (hoA s k).1 then [⟨.go false, k⟩] else []) ++ [⟨.go true, k⟩] else []
def enterE (k : Nat) : List Ev := if !(tA st k).inn && ((tA st k).own || (tA st k).spr == .pocket) then [⟨.enter, k⟩] else []
def getE (k : Nat) : List Ev :=
  if (tA st k).stuck && (tA st k).spr == .place then
    (if spA s k = -1 then [⟨.mat, k⟩] else if (tA st (spA s k).toNat).inn then [⟨.ask, k⟩]
     else if (hoA s k).2.2 && (decide (spA s (spA s k).toNat = -1) && (tA st (spA s k).toNat).spr == .place) then [⟨.fetch, k⟩] else []) else []
def hangE (k : Nat) : List Ev := if (tA st k).inn && ((tA st k).spr == .inside && ((hoA s k).2.1 && bring s st k)) then [⟨.hang, k⟩] else []
def findE (k : Nat) : List Ev := if s.fo && (decide (spA s k = -1) && (tA st k).spr == .place) then [⟨.find, k⟩] else []
/-- the stand behind an event -/
def act (e : Ev) : Std := match e.kd with
  | .go b => st.set e.k ⟨false, b, (tA st e.k).spr⟩
  | .enter => st.set e.k ⟨true, false, if (tA st e.k).spr = .pocket then (if (hoA s e.k).2.1 && bring s st e.k then .place else .inside) else (tA st e.k).spr⟩
  | .mat | .ask | .fetch => st.set e.k ⟨false, false, .pocket⟩
  | .hang => st.set e.k ⟨true, false, .place⟩
  | .find => st.set e.k ⟨(tA st e.k).inn, (tA st e.k).own, .gone⟩
/-- a stand of a street -/
structure Vd : Prop where
  ok : s.Ok
  len : st.length = s.sp.length
  tri : ∀ k, k < st.length → ((tA st k).inn = true → (tA st k).own = false ∧ (tA st k).spr ≠ .pocket) ∧ ((tA st k).spr = .none ↔ spA s k = -2)
end
section
variable {s : Stt} {st : Std} {k : Nat}
theorem Vd.at (h : Vd s st) (hk : k < st.length) : s.sp[k]? = some (spA s k) ∧ s.ho[k]? = some (hoA s k) ∧ st[k]? = some (tA st k) := by
  have h1 := h.len
  have h2 := h.ok.len
  refine ⟨?_, ?_, ?_⟩
  · unfold spA
    rw [List.getD_eq_getElem?_getD, List.getElem?_eq_getElem (by omega)]; rfl
  · unfold hoA
    rw [List.getD_eq_getElem?_getD, List.getElem?_eq_getElem (by omega)]; rfl
  · unfold tA
    rw [List.getD_eq_getElem?_getD, List.getElem?_eq_getElem (by omega)]; rfl
theorem Vd.sp (h : Vd s st) (hk : k < st.length) : -2 ≤ spA s k ∧ spA s k < st.length ∧ spA s k ≠ k := by
  have := h.ok.ok k _ (h.at hk).1
  rw [← h.len] at this
  exact this
theorem Vd.m (h : Vd s st) : st.length = 2 ∨ st.length = 3 := by
  have := h.ok.two
  rw [← h.len] at this
  exact this
theorem atI_nat {xs : List D} {k : Nat} (h : k < xs.length) : atI xs (k : Int) = xs[k]? := by
  unfold atI ixN
  rw [if_pos (by omega), if_pos (by omega)]
  rfl
theorem atI_pos {xs : List D} {p : Int} (h : p < xs.length) (h0 : 0 ≤ p) : atI xs p = xs[p.toNat]? := by
  obtain ⟨k, rfl⟩ : ∃ k : Nat, p = k := ⟨p.toNat, by omega⟩
  rw [atI_nat (by omega), Int.toNat_natCast]
theorem Vd.at_sp (h : Vd s st) (hk : k < st.length) : atI (s.sp.map PyData.int) (k : Int) = some (.int (spA s k)) := by
  rw [atI_nat (by rw [List.length_map, ← h.len]; exact hk), List.getElem?_map, (h.at hk).1]
  rfl
theorem Vd.at_ho (h : Vd s st) (hk : k < st.length) : atI (s.ho.map hab) (k : Int) = some (hab (hoA s k)) := by
  rw [atI_nat (by rw [List.length_map, h.ok.len, ← h.len]; exact hk), List.getElem?_map, (h.at hk).2.1]
  rfl
theorem Vd.at_st (h : Vd s st) (hk : k < st.length) : atI (st.map Hm.enc) (k : Int) = some (tA st k).enc := by
  rw [atI_nat (by rw [List.length_map]; exact hk), List.getElem?_map, (h.at hk).2.2]
  rfl
theorem Vd.at_p (h : Vd s st) (hk : k < st.length) (h0 : 0 ≤ spA s k) : (spA s k).toNat < st.length ∧ atI (st.map Hm.enc) (spA s k) = some (tA st (spA s k).toNat).enc ∧ atI (s.sp.map PyData.int) (spA s k) = some (.int (spA s (spA s k).toNat)) := by
  have := h.sp hk
  have hl : (spA s k).toNat < st.length := by omega
  have e : spA s k = ((spA s k).toNat : Int) := by omega
  refine ⟨hl, ?_, ?_⟩
  · rw [e]; exact h.at_st hl
  · rw [e]; exact h.at_sp hl
end
end Pv

/-! The program's rows of one home. -/
namespace Pv
open PySem L2
structure HEvent (G : List D) (P : List Df) (I : Ix) : Prop extends HStreet G P I where
  mat : G[I.g_MAT]? = some (.int (-1))
  begin : P[I.f_begin]? = some (c_begin I)
  put : P[I.f_put]? = some (c_put I)
  has : P[I.f_has_key]? = some (c_has_key I)
  stuck : P[I.f_is_stuck]? = some (c_is_stuck I)
  bring : P[I.f_can_bring]? = some (c_can_bring I)
  go : P[I.f_go_rows]? = some (c_go_rows I)
  enter : P[I.f_enter_rows]? = some (c_enter_rows I)
  fetch : P[I.f_fetch_rows]? = some (c_fetch_rows I)
  other : P[I.f_other_rows]? = some (c_other_rows I)
  rows : P[I.f_event_rows]? = some (c_event_rows I)
theorem cut_set {xs : List D} {k : Nat} {x : D} (h : k < xs.length) : xs.take k ++ [x] ++ xs.drop (k + 1) = xs.set k x := by
  rw [List.set_eq_take_append_cons_drop, if_pos h]
  simp
theorem slT_to {xs : List D} {k : Nat} : slD (.tuple xs) none (some (k : Int)) = some (.tuple (xs.take k)) := by show some (PyData.tuple (cutD _ _ _)) = _; rw [cut_to]
theorem slT_from {xs : List D} {k : Nat} : slD (.tuple xs) (some ((k : Int) + 1)) none = some (.tuple (xs.drop (k + 1))) := by
  show some (PyData.tuple (cutD xs (some ((k + 1 : Nat) : Int)) none)) = _; rw [cut_from]
theorem encS_set {st : Std} {k : Nat} {t : Hm} : encS (st.set k t) = .tuple ((st.map Hm.enc).set k t.enc) := by
  unfold encS
  rw [List.map_set]
theorem hm0 {t : Hm} : idxD t.enc (.int 0) = some (.bool t.inn) := rfl
theorem hm1 {t : Hm} : idxD t.enc (.int 1) = some (.str (ownW t.own)) := rfl
theorem hm2 {t : Hm} : idxD t.enc (.int 2) = some (.str t.spr.w) := rfl
theorem st0 {s : Stt} : idxD s.enc (.int 0) = some (.tuple (s.sp.map .int)) := rfl
theorem st1 {s : Stt} : idxD s.enc (.int 1) = some (.bool s.fo) := rfl
theorem st2 {s : Stt} : idxD s.enc (.int 2) = some (.tuple (s.ho.map hab)) := rfl
theorem hb0 {b : Hb} : idxD (hab b) (.int 0) = some (.bool b.1) := rfl
theorem hb1 {b : Hb} : idxD (hab b) (.int 1) = some (.bool b.2.1) := rfl
theorem hb2 {b : Hb} : idxD (hab b) (.int 2) = some (.bool b.2.2) := rfl
theorem eqW {a b : Spw} : eqD (.str a.w) (.str b.w) = some (a == b) := by
  cases a <;> cases b <;> rfl
theorem eqS (x y : Str) : eqD (.str x) (.str y) = some (decide (x = y)) := rfl
theorem Vd.ix_sp {s : Stt} {st : Std} {k : Nat} (h : Vd s st) (hk : k < st.length) : idxD (.tuple (s.sp.map PyData.int)) (.int k) = some (.int (spA s k)) := h.at_sp hk
theorem Vd.ix_ho {s : Stt} {st : Std} {k : Nat} (h : Vd s st) (hk : k < st.length) : idxD (.tuple (s.ho.map hab)) (.int k) = some (hab (hoA s k)) := h.at_ho hk
theorem Vd.ix_st {s : Stt} {st : Std} {k : Nat} (h : Vd s st) (hk : k < st.length) : idxD (encS st) (.int k) = some (tA st k).enc := h.at_st hk
theorem Vd.ix_p {s : Stt} {st : Std} {k : Nat} (h : Vd s st) (hk : k < st.length) (h0 : 0 ≤ spA s k) : idxD (encS st) (.int (spA s k)) = some (tA st (spA s k).toNat).enc ∧ idxD (.tuple (s.sp.map PyData.int)) (.int (spA s k)) = some (.int (spA s (spA s k).toNat)) := ⟨(h.at_p hk h0).2.1, (h.at_p hk h0).2.2⟩
def rowD (e st : D) : D := .tuple [e, st]
def encR (s : Stt) (st : Std) (e : Ev) : D := .tuple [e.enc, encS (act s st e)]
section
variable {G : List D} {P : List Df} {I : Ix} {n : Nat} {s : Stt} {st : Std} {k : Nat}
theorem put_ok (hP : HEvent G P I) {t : Hm} (hk : k < st.length) (hl : st.length ≤ 100) : callF G P (n + 1) I.f_put [encS st, .int k, t.enc] = some (.ok (encS (st.set k t)) false []) := by
  refine (callF_run (fl := .rt (encS (st.set k t)) false [.v (encS st), .v (.int k), .v t.enc]) hP.put rfl (run_rt (x_ret ?_))).trans rfl
  have b1 : binD .Add (.tuple ((st.map Hm.enc).take k)) (.tuple [t.enc]) = some (.tuple ((st.map Hm.enc).take k ++ [t.enc])) := binTup (by simp; unfold lim; omega)
  have b2 : binD .Add (.tuple ((st.map Hm.enc).take k ++ [t.enc])) (.tuple ((st.map Hm.enc).drop (k + 1))) = some (encS (st.set k t)) := by
    rw [binTup (by simp; unfold lim; omega), cut_set (by rw [List.length_map]; exact hk), encS_set]
  refine e_bin (s1 := [.v (encS st), .v (.int k), .v t.enc]) (x := .tuple ((st.map Hm.enc).take k ++ [t.enc])) (y := .tuple ((st.map Hm.enc).drop (k + 1))) ?_ ?_ b2
  · refine e_bin (x := .tuple ((st.map Hm.enc).take k)) (y := .tuple [t.enc]) (e_sl (x := encS st) (l := none) (h := some (k : Int)) rfl rfl rfl slT_to) ?_ b1
    rfl
  · exact e_sl (x := encS st) (l := some ((k : Int) + 1)) (h := none) rfl rfl rfl slT_from
theorem has_ok (hP : HEvent G P I) {t : Hm} : callF G P (n + 1) I.f_has_key [t.enc] = some (.ok (.bool (t.own || t.spr == .pocket)) false []) := by
  refine (callF_run (fl := .rt (.bool (t.own || t.spr == .pocket)) false [.v t.enc]) hP.has rfl (run_rt (x_ret ?_))).trans rfl
  obtain ⟨a, b, c⟩ := t
  cases b <;> cases c <;> rfl
theorem stuck_ok (hP : HEvent G P I) {t : Hm} : callF G P (n + 2) I.f_is_stuck [t.enc] = some (.ok (.bool t.stuck) false []) := by
  refine (callF_run (fl := .rt (.bool t.stuck) false [.v t.enc]) hP.stuck rfl (run_rt (x_ret ?_))).trans rfl
  have h := has_ok (G := G) (n := n) hP (t := t)
  have e : startS (c_is_stuck I).N.length (c_is_stuck I).dk [t.enc] = [.v t.enc] := rfl
  rw [e]
  cases c : t.inn <;> simp [den, dens, getV, endCall, h, boolOf, Hm.stuck, hm0, c]
  cases t.own <;> cases t.spr <;> rfl
theorem bring_ok (hP : HEvent G P I) (h : Vd s st) (hk : k < st.length) : callF G P (n + 1) I.f_can_bring [s.enc, encS st, .int k] = some (.ok (.bool (bring s st k)) false []) := by
  refine (callF_run (fl := .rt (.bool (bring s st k)) false [.v s.enc, .v (encS st), .v (.int k), .v (.int (spA s k))]) hP.bring rfl (run_nx (s1 := [.v s.enc, .v (encS st), .v (.int k), .v (.int (spA s k))]) ?_ (run_rt (x_ret ?_)))).trans rfl
  · simp [exS, den, startS, getV, setV, st0, h.ix_sp hk, c_can_bring]
  · unfold bring
    by_cases c1 : spA s k = -1
    · simp [den, getV, hP.mat, cmpD, eqD, boolOf, c1]
    · by_cases c2 : 0 ≤ spA s k
      · simp [den, getV, hP.mat, cmpD, eqD, boolOf, c1, c2, (h.ix_p hk c2).1, hm0]
      · simp [den, getV, hP.mat, cmpD, eqD, boolOf, c1, c2]
theorem unpH {t : Hm} {st s1 : SS} {i j l : Nat} (h : ((setV st i (.bool t.inn)).bind fun a => (setV a j (.str (ownW t.own))).bind fun b => setV b l (.str t.spr.w)) = some s1) : asgT false [i, j, l] t.enc st = some s1 := by
  rw [← h]
  show ((setV st i (.bool t.inn)).bind fun a => (setV a j (.str (ownW t.own))).bind fun b => (setV b l (.str t.spr.w)).bind fun c => some c) = _
  congr 1; funext a; congr 1; funext b
  cases setV b l (.str t.spr.w) <;> rfl
theorem put_ok' (hP : HEvent G P I) (hk : k < st.length) (hl : st.length ≤ 100) (a b : Bool) (c : Spw) : callF G P (n + 1) I.f_put [encS st, .int k, .tuple [.bool a, .str (ownW b), .str c.w]] = some (.ok (encS (st.set k ⟨a, b, c⟩)) false []) := put_ok (n := n) hP (t := ⟨a, b, c⟩) hk hl
theorem w_own0 : Str.ofString "inside" = ownW false := rfl
theorem w_own1 : Str.ofString "pocket" = ownW true := rfl
theorem go_ok (hP : HEvent G P I) (h : Vd s st) (hk : k < st.length) : callF G P (n + 2) I.f_go_rows [s.enc, encS st, .int k] = some (.ok (.list ((goE s st k).map (encR s st))) false []) := by
  have hl : st.length ≤ 100 := by have := h.m; omega
  have p1 := bring_ok (n := n) hP h hk
  have p2 : callF G P (n + 1) I.f_put [encS st, .int k, .tuple [.bool false, .str (Str.ofString "inside"), .str (tA st k).spr.w]] = some (.ok (encS (st.set k ⟨false, false, (tA st k).spr⟩)) false []) := put_ok' (n := n) hP hk hl false false _
  have p3 : callF G P (n + 1) I.f_put [encS st, .int k, .tuple [.bool false, .str (Str.ofString "pocket"), .str (tA st k).spr.w]] = some (.ok (encS (st.set k ⟨false, true, (tA st k).spr⟩)) false []) := put_ok' (n := n) hP hk hl false true _
  rw [callF_eq _ hP.go]
  have u1 : ∀ a b c d e f g i j l : Sl, asgT false [4, 5, 6] (tA st k).enc [a, b, c, d, e, f, g, i, j, l] = some [a, b, c, d, .v (.bool (tA st k).inn), .v (.str (ownW (tA st k).own)), .v (.str (tA st k).spr.w), i, j, l] := fun _ _ _ _ _ _ _ _ _ _ => rfl
  have u2 : ∀ a b c d e f g i j l : Sl, asgT false [7, 8, 9] (hab (hoA s k)) [a, b, c, d, e, f, g, i, j, l] = some [a, b, c, d, e, f, g, .v (.bool (hoA s k).1), .v (.bool (hoA s k).2.1), .v (.bool (hoA s k).2.2)] := fun _ _ _ _ _ _ _ _ _ _ => rfl
  have w1 : eqD (.str (tA st k).spr.w) (.str (Str.ofString "inside")) = some ((tA st k).spr == .inside) := eqW (b := .inside)
  have f1 := h.ix_st hk
  have f2 := h.ix_ho hk
  have r1 : encR s st ⟨.go false, k⟩ = .tuple [.tuple [.str (Str.ofString "go"), .int k, .bool false], encS (st.set k ⟨false, false, (tA st k).spr⟩)] := rfl
  have r2 : encR s st ⟨.go true, k⟩ = .tuple [.tuple [.str (Str.ofString "go"), .int k, .bool true], encS (st.set k ⟨false, true, (tA st k).spr⟩)] := rfl
  unfold goE
  generalize tA st k = t at *
  generalize bring s st k = br at *
  generalize hoA s k = ho at *
  obtain ⟨b1, b2, b3⟩ := ho
  cases b1 <;> cases b2 <;> cases q1 : t.inn <;> cases q2 : (t.spr == .inside) <;> cases br <;> simp [c_go_rows, exSs, exS, den, dens, startS, endF, getV, setV, boolOf, f1, f2, st0, st2, u1, u2, cmpD, w1, p1, p2, p3, endCall, q1, q2, denF, listOf, lim, r1, r2, binD]
theorem enter_ok (hP : HEvent G P I) (h : Vd s st) (hk : k < st.length) : callF G P (n + 2) I.f_enter_rows [s.enc, encS st, .int k] = some (.ok (.list ((enterE st k).map (encR s st))) false []) := by
  have hl : st.length ≤ 100 := by have := h.m; omega
  have p1 := bring_ok (n := n) hP h hk
  have p0 := has_ok (G := G) (n := n) hP (t := tA st k)
  have p2 : callF G P (n + 1) I.f_put [encS st, .int k, .tuple [.bool true, .str (Str.ofString "inside"), .str (tA st k).spr.w]] = some (.ok (encS (st.set k ⟨true, false, (tA st k).spr⟩)) false []) := put_ok' (n := n) hP hk hl true false _
  have p3 : callF G P (n + 1) I.f_put [encS st, .int k, .tuple [.bool true, .str (Str.ofString "inside"), .str (Str.ofString "place")]] = some (.ok (encS (st.set k ⟨true, false, .place⟩)) false []) := put_ok' (n := n) hP hk hl true false .place
  have p4 : callF G P (n + 1) I.f_put [encS st, .int k, .tuple [.bool true, .str (Str.ofString "inside"), .str (Str.ofString "inside")]] = some (.ok (encS (st.set k ⟨true, false, .inside⟩)) false []) := put_ok' (n := n) hP hk hl true false .inside
  rw [callF_eq _ hP.enter]
  have u1 : ∀ a b c d e f : Sl, asgT false [3, 4, 5] (tA st k).enc [a, b, c, d, e, f] = some [a, b, c, .v (.bool (tA st k).inn), .v (.str (ownW (tA st k).own)), .v (.str (tA st k).spr.w)] := fun _ _ _ _ _ _ => rfl
  have w1 : eqD (.str (tA st k).spr.w) (.str (Str.ofString "pocket")) = some ((tA st k).spr == .pocket) := eqW (b := .pocket)
  have f1 := h.ix_st hk
  have f2 := h.ix_ho hk
  have r1 : encR s st ⟨.enter, k⟩ = .tuple [.tuple [.str (Str.ofString "enter"), .int k], encS (st.set k ⟨true, false, if (tA st k).spr = .pocket then (if (hoA s k).2.1 && bring s st k then .place else .inside) else (tA st k).spr⟩)] := rfl
  unfold enterE
  generalize tA st k = t at *
  generalize bring s st k = br at *
  generalize hoA s k = ho at *
  obtain ⟨b1, b2, b3⟩ := ho
  obtain ⟨t1, t2, t3⟩ := t
  cases t1 <;> cases t2 <;> cases q2 : (t3 == .pocket) <;> cases br <;> cases b2 <;> (have q3 := q2; simp at q3; first | (subst q3; simp [c_enter_rows, exSs, exS, den, dens, startS, endF, getV, setV, boolOf, f1, f2, st0, st2, u1, cmpD, w1, p0, p1, p3, p4, endCall, lim, r1, hb1]) | simp [c_enter_rows, exSs, exS, den, dens, startS, endF, getV, setV, boolOf, f1, f2, st0, st2, u1, cmpD, w1, p0, p1, p2, endCall, q2, q3, lim, r1, hb1])
theorem other_ok (hP : HEvent G P I) (h : Vd s st) (hk : k < st.length) : callF G P (n + 2) I.f_other_rows [s.enc, encS st, .int k] = some (.ok (.list ((hangE s st k ++ findE s st k).map (encR s st))) false []) := by
  have hl : st.length ≤ 100 := by have := h.m; omega
  have p1 := bring_ok (n := n) hP h hk
  have p3 : callF G P (n + 1) I.f_put [encS st, .int k, .tuple [.bool true, .str (ownW false), .str (Str.ofString "place")]] = some (.ok (encS (st.set k ⟨true, false, .place⟩)) false []) := put_ok' (n := n) hP hk hl true false .place
  have p4 : callF G P (n + 1) I.f_put [encS st, .int k, .tuple [.bool (tA st k).inn, .str (ownW (tA st k).own), .str (Str.ofString "gone")]] = some (.ok (encS (st.set k ⟨(tA st k).inn, (tA st k).own, .gone⟩)) false []) := put_ok' (n := n) hP hk hl _ _ .gone
  have u1 : ∀ a b c d e f g : Sl, asgT false [4, 5, 6] (tA st k).enc [a, b, c, d, e, f, g] = some [a, b, c, d, .v (.bool (tA st k).inn), .v (.str (ownW (tA st k).own)), .v (.str (tA st k).spr.w)] := fun _ _ _ _ _ _ _ => rfl
  have w1 : eqD (.str (tA st k).spr.w) (.str (Str.ofString "inside")) = some ((tA st k).spr == .inside) := eqW (b := .inside)
  have w2 : eqD (.str (tA st k).spr.w) (.str (Str.ofString "place")) = some ((tA st k).spr == .place) := eqW (b := .place)
  have f1 := h.ix_st hk
  have f2 := h.ix_ho hk
  have f3 := h.ix_sp hk
  have tri := (h.tri k hk).1
  have r1 : encR s st ⟨.hang, k⟩ = .tuple [.tuple [.str (Str.ofString "hang"), .int k], encS (st.set k ⟨true, false, .place⟩)] := rfl
  have r2 : encR s st ⟨.find, k⟩ = .tuple [.tuple [.str (Str.ofString "find"), .int k], encS (st.set k ⟨(tA st k).inn, (tA st k).own, .gone⟩)] := rfl
  have w3 : eqD (.int (spA s k)) (.int (-1)) = some (decide (spA s k = -1)) := rfl
  have mt := hP.mat
  let S := fun x : Sl => [Sl.v s.enc, .v (encS st), .v (.int k), x, .v (.bool (tA st k).inn), .v (.str (ownW (tA st k).own)), .v (.str (tA st k).spr.w)]
  refine (callF_run (fl := .rt (.list ((hangE s st k ++ findE s st k).map (encR s st))) false (S (.v (.list ((hangE s st k ++ findE s st k).map (encR s st)))))) hP.other rfl
    (run_nx (s1 := S .no) ?_ (run_nx (s1 := S (.v (.list []))) rfl (run_nx (s1 := S (.v (.list ((hangE s st k).map (encR s st))))) ?_ (run_nx (s1 := S (.v (.list ((hangE s st k ++ findE s st k).map (encR s st))))) ?_ (run_rt rfl)))))).trans rfl
  · simp [exS, den, startS, c_other_rows, getV, f1, u1, S]
  · simp only [S]
    unfold hangE
    generalize bring s st k = br at *
    generalize hoA s k = ho at *
    generalize tA st k = t at *
    obtain ⟨b1, b2, b3⟩ := ho
    obtain ⟨t1, t2, t3⟩ := t
    cases t1
    · simp [exS, exSs, den, getV, boolOf]
    · obtain ⟨rfl, _⟩ := tri rfl
      cases q2 : (t3 == .inside)
      · simp [exS, exSs, den, getV, boolOf, cmpD, w1, q2]
      · cases b2
        · simp [exS, exSs, den, getV, boolOf, cmpD, w1, q2, st2, f2, hb1]
        · cases br
          · simp [exS, exSs, den, dens, getV, boolOf, cmpD, w1, q2, st2, f2, hb1, p1, endCall]
          · simp [exS, exSs, den, dens, getV, setV, boolOf, cmpD, w1, q2, st2, f2, hb1, p1, p3, endCall, lim, binD, r1]
  · simp only [S]
    unfold findE
    have hh : (hangE s st k).length ≤ 1 := by unfold hangE; split <;> simp
    generalize hangE s st k = hg at *
    generalize q1 : s.fo = fo at *
    have q0 : idxD s.enc (.int 1) = some (.bool fo) := by rw [st1, q1]
    cases fo
    · simp [exS, exSs, den, getV, boolOf, q0]
    · cases q2 : (decide (spA s k = -1))
      · rw [q2] at w3
        simp [exS, exSs, den, getV, boolOf, cmpD, q0, st0, f3, mt, w3]
      · rw [q2] at w3
        cases q3 : ((tA st k).spr == .place)
        · simp [exS, exSs, den, getV, boolOf, cmpD, q0, st0, f3, mt, w3, w2, q3]
        · have hb : binD .Add (.list (hg.map (encR s st))) (.list [encR s st ⟨.find, k⟩]) = some (.list (hg.map (encR s st) ++ [encR s st ⟨.find, k⟩])) := binLst (by simp; unfold lim; omega)
          rw [r2] at hb
          simp [exS, exSs, den, dens, getV, setV, boolOf, cmpD, q0, st0, f3, mt, w3, w2, q3, p4, endCall, lim, r2, hb]
theorem fetch_ok (hP : HEvent G P I) (h : Vd s st) (hk : k < st.length) : callF G P (n + 3) I.f_fetch_rows [s.enc, encS st, .int k] = some (.ok (.list ((getE s st k).map (encR s st))) false []) := by
  have hl : st.length ≤ 100 := by have := h.m; omega
  have p0 := stuck_ok (G := G) (n := n) hP (t := tA st k)
  have p3 := put_ok' (n := n + 1) (I := I) (G := G) (P := P) hP hk hl false false .pocket
  have w2 : eqD (.str (tA st k).spr.w) (.str (Str.ofString "place")) = some ((tA st k).spr == .place) := eqW (b := .place)
  have f1 := h.ix_st hk
  have f2 := h.ix_ho hk
  have f3 := h.ix_sp hk
  have mt := hP.mat
  have e1 : eqD (.int (-1)) (.int (-1)) = some true := rfl
  rw [callF_eq _ hP.fetch]
  have r1 : encR s st ⟨.mat, k⟩ = .tuple [.tuple [.str (Str.ofString "mat"), .int k], encS (st.set k ⟨false, false, .pocket⟩)] := rfl
  have r2 : encR s st ⟨.ask, k⟩ = .tuple [.tuple [.str (Str.ofString "ask"), .int k], encS (st.set k ⟨false, false, .pocket⟩)] := rfl
  have r3 : encR s st ⟨.fetch, k⟩ = .tuple [.tuple [.str (Str.ofString "fetch"), .int k], encS (st.set k ⟨false, false, .pocket⟩)] := rfl
  by_cases c1 : (tA st k).stuck = true
  · by_cases c2 : ((tA st k).spr == .place) = true
    · have sl : slD (tA st k).enc none (some 2) = some (.tuple [.bool false, .str (ownW false)]) := by
        have e : slD (tA st k).enc none (some 2) = some (.tuple [.bool (tA st k).inn, .str (ownW (tA st k).own)]) := rfl
        rw [e]
        unfold Hm.stuck at c1
        simp at c1
        rw [c1.1.1, c1.1.2]
      have bn : binD .Add (.tuple [.bool false, .str (ownW false)]) (.tuple [.str (Str.ofString "pocket")]) = some (.tuple [.bool false, .str (ownW false), .str Spw.pocket.w]) := rfl
      by_cases c3 : spA s k = -1
      · have w3 : eqD (.int (spA s k)) (.int (-1)) = some true := by rw [c3]; rfl
        simp [getE, c1, c2, c3, c_fetch_rows, exSs, exS, den, deno, dens, startS, endF, getV, setV, boolOf, intOf, f1, f3, st0, cmpD, w2, p0, p3, sl, bn, hm2, endCall, lim, mt, e1, w3, r1]
      · have w3 : eqD (.int (spA s k)) (.int (-1)) = some false := by show some (decide _) = _; rw [decide_eq_false c3]
        have hne : spA s k ≠ -2 := fun z => by
          have := ((h.tri k hk).2).mpr z
          rw [this] at c2
          cases c2
        have h0 : 0 ≤ spA s k := by have := h.sp hk; omega
        obtain ⟨f4, f5⟩ := h.ix_p hk h0
        by_cases c4 : (tA st (spA s k).toNat).inn = true
        · simp [getE, c1, c2, c3, c4, c_fetch_rows, exSs, exS, den, deno, dens, startS, endF, getV, setV, boolOf, intOf, f1, f3, f4, st0, cmpD, w2, p0, p3, sl, bn, hm0, hm2, endCall, lim, mt, e1, w3, r2]
        · have c4 : (tA st (spA s k).toNat).inn = false := by simpa using c4
          have w4 : eqD (.str (tA st (spA s k).toNat).spr.w) (.str (Str.ofString "place")) = some ((tA st (spA s k).toNat).spr == .place) := eqW (b := .place)
          have w5 : eqD (.int (spA s (spA s k).toNat)) (.int (-1)) = some (decide (spA s (spA s k).toNat = -1)) := rfl
          cases c5 : (hoA s k).2.2
          · simp [getE, c1, c2, c3, c4, c5, c_fetch_rows, exSs, exS, den, deno, dens, startS, endF, getV, setV, boolOf, intOf, f1, f2, f3, f4, st0, st2, hb2, cmpD, w2, p0, p3, sl, bn, hm0, hm2, endCall, lim, mt, e1, w3]
          · cases c6 : (decide (spA s (spA s k).toNat = -1))
            · rw [c6] at w5
              simp [getE, c1, c2, c3, c4, c5, c6, c_fetch_rows, exSs, exS, den, deno, dens, startS, endF, getV, setV, boolOf, intOf, f1, f2, f3, f4, f5, st0, st2, hb2, cmpD, w2, w5, p0, p3, sl, bn, hm0, hm2, endCall, lim, mt, e1, w3]
            · rw [c6] at w5
              have c6 : spA s (spA s k).toNat = -1 := by simpa using c6
              cases c7 : ((tA st (spA s k).toNat).spr == .place)
              · simp [getE, c1, c2, c3, c4, c5, c6, c7, c_fetch_rows, exSs, exS, den, deno, dens, startS, endF, getV, setV, boolOf, intOf, f1, f2, f3, f4, f5, st0, st2, hb2, cmpD, w2, w4, w5, p0, p3, sl, bn, hm0, hm2, endCall, lim, mt, e1, w3]
              · simp [getE, c1, c2, c3, c4, c5, c6, c7, c_fetch_rows, exSs, exS, den, deno, dens, startS, endF, getV, setV, boolOf, intOf, f1, f2, f3, f4, f5, st0, st2, hb2, cmpD, w2, w4, w5, p0, p3, sl, bn, hm0, hm2, endCall, lim, mt, e1, w3, r3]
    · have c2 : ((tA st k).spr == .place) = false := by simpa using c2
      simp [getE, c1, c2, c_fetch_rows, exSs, exS, den, dens, startS, endF, getV, setV, boolOf, f1, f3, st0, cmpD, w2, p0, hm2, endCall, lim]
  · have c1 : (tA st k).stuck = false := by simpa using c1
    simp [getE, c1, c_fetch_rows, exSs, exS, den, dens, startS, endF, getV, setV, boolOf, f1, f3, st0, cmpD, p0, endCall, lim]
end
end Pv

/-! All rows of a stand, in order. -/
namespace Pv
open PySem L2
section
variable {α : Type}
def insB (lt : α → α → Bool) (x : α) : List α → List α
  | [] => [x]
  | y :: r => if lt x y = true then x :: y :: r else y :: insB lt x r
def sortB (lt : α → α → Bool) (xs : List α) : List α := xs.foldl (fun acc x => insB lt x acc) []
theorem insD_map {f : α → D} {lt : α → α → Bool} (h : ∀ x y, W.dataLt (f x) (f y) = lt x y) (x : α) : ∀ l : List α, insD (f x) (l.map f) = (insB lt x l).map f
  | [] => rfl
  | y :: r => by
    rw [List.map_cons]
    unfold insD insB
    rw [h]
    split
    · rfl
    · rw [insD_map h x r]; rfl
theorem foldD_map {f : α → D} {lt : α → α → Bool} (h : ∀ x y, W.dataLt (f x) (f y) = lt x y) : ∀ (l acc : List α), (l.map f).foldl (fun acc x => insD x acc) (acc.map f) = (l.foldl (fun acc x => insB lt x acc) acc).map f
  | [], acc => rfl
  | x :: l, acc => by
    rw [List.map_cons, List.foldl_cons, List.foldl_cons, insD_map h, foldD_map h l]
theorem sortD_map {f : α → D} {lt : α → α → Bool} (h : ∀ x y, W.dataLt (f x) (f y) = lt x y) (l : List α) : sortD (l.map f) = (sortB lt l).map f := foldD_map h l []
end
def ltE (a b : Ev) : Bool := W.dataLt a.enc b.enc
abbrev sortE : List Ev → List Ev := sortB ltE
theorem alike_ev (a b : Ev) : W.alike a.enc b.enc = true := by
  obtain ⟨ka, na⟩ := a
  obtain ⟨kb, nb⟩ := b
  cases ka <;> cases kb <;> rfl
theorem alike_hm (a b : Hm) : W.alike a.enc b.enc = true := rfl
theorem alikeAll_hm : ∀ a b : Std, W.alikeAll (a.map Hm.enc) (b.map Hm.enc) = true
  | [], _ => by cases ‹Std› <;> rfl
  | _ :: _, [] => rfl
  | x :: a, y :: b => by
    rw [List.map_cons, List.map_cons, W.alikeAll, alike_hm, alikeAll_hm a b]
    rfl
theorem alike_st (a b : Std) : W.alike (encS a) (encS b) = true := by
  unfold encS
  rw [W.alike]
  exact alikeAll_hm a b
theorem alike_pair {a b x y : D} (h : W.alike a b = true) (h2 : W.alike x y = true) : W.alike (.tuple [a, x]) (.tuple [b, y]) = true := by
  rw [W.alike, W.alikeAll, W.alikeAll, h, h2]
  rfl
theorem lt_pair {a b x y : D} (h : W.alike a b = true) (e : PyData.eqv a b = false) : W.dataLt (.tuple [a, x]) (.tuple [b, y]) = W.dataLt a b := by
  unfold W.dataLt
  rw [W.keyToks, W.keyToks, W.toks_all_cons, W.toks_all_cons]
  exact (PyProof.Rows.lex_self (O := PyProof.Rows.itemOrd) _ _ _).trans ((W.toks_eqv a b h).2 e _ _)
theorem ltD_self (a : D) : W.dataLt a a = false := PyProof.Rows.lex_irrefl _
theorem Ev.enc_inj {a b : Ev} (h : a.enc = b.enc) : a = b := by
  obtain ⟨ka, na⟩ := a
  obtain ⟨kb, nb⟩ := b
  have w : ∀ {x y : Str} {r t : List D}, (PyData.tuple (.str x :: r)) = (.tuple (.str y :: t)) → x = y ∧ r = t := fun h => by
    injection h with h; injection h with h h2; injection h with h; exact ⟨h, h2⟩
  cases ka <;> cases kb <;> first
    | (obtain ⟨q1, q2⟩ := w h
       exact absurd q1 (by decide))
    | (obtain ⟨_, q2⟩ := w h
       injection q2 with q2 q3
       injection q2 with q2
       have q2 := Int.ofNat.inj q2
       subst q2
       first
         | rfl
         | (injection q3 with q3 _
            injection q3 with q3
            rw [q3]))
theorem eqv_self_ev (a : Ev) : PyData.eqv a.enc a.enc = true := by
  obtain ⟨ka, na⟩ := a
  cases ka <;> simp [Ev.enc, PyData.eqv, PyData.eqvAll]
theorem eqv_ev (a b : Ev) : PyData.eqv a.enc b.enc = decide (a = b) := by
  by_cases c : a = b
  · rw [decide_eq_true c, c, eqv_self_ev]
  · rw [decide_eq_false c]
    cases e : PyData.eqv a.enc b.enc with
    | false => rfl
    | true => exact absurd (Ev.enc_inj (eqv_eq _ _ (alike_ev a b) e)) c
theorem lt_encR (s : Stt) (st : Std) (a b : Ev) : W.dataLt (encR s st a) (encR s st b) = ltE a b := by
  by_cases c : a = b
  · subst c
    rw [ltD_self]
    exact (ltD_self _).symm
  · exact lt_pair (alike_ev a b) (by rw [eqv_ev, decide_eq_false c])
theorem sort_rows (s : Stt) (st : Std) (l : List Ev) : sortD (l.map (encR s st)) = (sortE l).map (encR s st) := sortD_map (lt_encR s st) l
theorem sort_evs (l : List Ev) : sortD (l.map Ev.enc) = (sortE l).map Ev.enc := sortD_map (fun _ _ => rfl) l
theorem map_inj {α β : Type} {f : α → β} (h : ∀ {a b}, f a = f b → a = b) : ∀ {l m : List α}, l.map f = m.map f → l = m
  | [], [], _ => rfl
  | [], _ :: _, e => by cases e
  | _ :: _, [], e => by cases e
  | a :: l, b :: m, e => by
    rw [List.map_cons, List.map_cons] at e
    injection e with e1 e2
    rw [h e1, map_inj h e2]
theorem sortE_perm {l m : List Ev} (h : l.Perm m) : sortE l = sortE m := by
  have e : sortD (l.map Ev.enc) = sortD (m.map Ev.enc) := sortD_perm (h.map _) fun a ha b hb => by
    obtain ⟨x, _, rfl⟩ := List.mem_map.mp ha
    obtain ⟨y, _, rfl⟩ := List.mem_map.mp hb
    exact alike_ev x y
  rw [sort_evs, sort_evs] at e
  exact map_inj Ev.enc_inj e
theorem sortE_mem {l : List Ev} {e : Ev} : e ∈ sortE l ↔ e ∈ l := by
  have p := sortD_perm_self (l.map Ev.enc)
  rw [sort_evs] at p
  constructor
  · intro h
    obtain ⟨x, hx, q⟩ := List.mem_map.mp (p.mem_iff.mp (List.mem_map.mpr ⟨e, h, rfl⟩))
    rw [← Ev.enc_inj q]; exact hx
  · intro h
    obtain ⟨x, hx, q⟩ := List.mem_map.mp (p.mem_iff.mpr (List.mem_map.mpr ⟨e, h, rfl⟩))
    rw [← Ev.enc_inj q]; exact hx
theorem sortE_len {l : List Ev} : (sortE l).length = l.length := by
  have p := (sortD_perm_self (l.map Ev.enc)).length_eq
  rw [sort_evs, List.length_map, List.length_map] at p
  exact p
section
variable (s : Stt) (st : Std)
def evsP (k : Nat) : List Ev := goE s st k ++ enterE st k ++ (getE s st k ++ (hangE s st k ++ findE s st k))
/-- all events of a stand, ascending -/
def evsTo (i : Nat) : List Ev := (List.range i).flatMap (evsP s st)
def steps : List Ev := sortE (evsTo s st st.length)
end
theorem evsTo_succ (s : Stt) (st : Std) (i : Nat) : evsTo s st (i + 1) = evsTo s st i ++ goE s st i ++ enterE st i ++ getE s st i ++ (hangE s st i ++ findE s st i) := by
  unfold evsTo
  rw [List.range_succ, List.flatMap_append, List.flatMap_singleton]
  unfold evsP
  simp only [List.append_assoc]
theorem depth_hm (t : Hm) : PyData.depth t.enc ≤ 2 := Nat.le_of_ble_eq_true rfl
theorem depth_st : ∀ st : Std, PyData.depthAll (st.map Hm.enc) ≤ 2
  | [] => Nat.zero_le _
  | t :: st => by
    rw [List.map_cons, PyData.depthAll]
    exact Nat.max_le.mpr ⟨depth_hm t, depth_st st⟩
theorem depth_ev (e : Ev) : PyData.depth e.enc ≤ 2 := by
  obtain ⟨k, n⟩ := e
  cases k <;> exact Nat.le_of_ble_eq_true rfl
theorem depth_row (s : Stt) (st : Std) (e : Ev) : PyData.depth (encR s st e) ≤ 60 := by
  have h1 := depth_ev e
  have h2 := depth_st (act s st e)
  unfold encR encS
  simp only [PyData.depth, PyData.depthAll]
  omega
theorem sorted_rows {s : Stt} {st : Std} {l : List Ev} (hl : l.length ≤ lim) : bltD .sorted [.list (l.map (encR s st))] = some (.list ((sortE l).map (encR s st))) := by
  show (if _ then _ else _) = _
  rw [if_pos, sort_rows]
  refine ⟨by rw [List.length_map]; exact hl, ?_, .inl ?_⟩
  · unfold allAlike
    rw [List.all_eq_true]
    intro a ha
    rw [List.all_eq_true]
    intro b hb
    obtain ⟨x, _, rfl⟩ := List.mem_map.mp ha
    obtain ⟨y, _, rfl⟩ := List.mem_map.mp hb
    have q : W.alike (encR s st x) (encR s st y) = true := alike_pair (alike_ev x y) (alike_st _ _)
    rw [q, decide_eq_true (depth_row s st x)]
    rfl
  · rw [List.all_eq_true]
    intro a ha
    obtain ⟨x, _, rfl⟩ := List.mem_map.mp ha
    rfl
theorem sorted_evs {l : List Ev} (hl : l.length ≤ lim) : bltD .sorted [.list (l.map Ev.enc)] = some (.list ((sortE l).map Ev.enc)) := by
  show (if _ then _ else _) = _
  rw [if_pos, sort_evs]
  refine ⟨by rw [List.length_map]; exact hl, ?_, .inl ?_⟩
  · unfold allAlike
    rw [List.all_eq_true]
    intro a ha
    rw [List.all_eq_true]
    intro b hb
    obtain ⟨x, _, rfl⟩ := List.mem_map.mp ha
    obtain ⟨y, _, rfl⟩ := List.mem_map.mp hb
    rw [alike_ev, decide_eq_true (by have := depth_ev x; omega)]
    rfl
  · rw [List.all_eq_true]
    intro a ha
    obtain ⟨x, _, rfl⟩ := List.mem_map.mp ha
    obtain ⟨k, n⟩ := x
    cases k <;> rfl
theorem goE_len (s : Stt) (st : Std) (k : Nat) : (goE s st k).length ≤ 2 := by
  unfold goE; repeat' split
  all_goals simp
theorem enterE_len (st : Std) (k : Nat) : (enterE st k).length ≤ 1 := by
  unfold enterE; repeat' split
  all_goals simp
theorem getE_len (s : Stt) (st : Std) (k : Nat) : (getE s st k).length ≤ 1 := by
  unfold getE; repeat' split
  all_goals simp
theorem hangE_len (s : Stt) (st : Std) (k : Nat) : (hangE s st k).length ≤ 1 := by
  unfold hangE; repeat' split
  all_goals simp
theorem findE_len (s : Stt) (st : Std) (k : Nat) : (findE s st k).length ≤ 1 := by
  unfold findE; repeat' split
  all_goals simp
theorem evsP_len (s : Stt) (st : Std) (k : Nat) : (evsP s st k).length ≤ 6 := by
  have h1 := goE_len s st k
  have h2 := enterE_len st k
  have h3 := getE_len s st k
  have h4 := hangE_len s st k
  have h5 := findE_len s st k
  unfold evsP
  simp only [List.length_append]
  omega
theorem flat_len {α : Type} {f : Nat → List α} {c : Nat} (h : ∀ k, (f k).length ≤ c) : ∀ m, ((List.range m).flatMap f).length ≤ c * m
  | 0 => Nat.zero_le _
  | m + 1 => by
    rw [List.range_succ, List.flatMap_append, List.length_append]
    have h1 := flat_len h m
    have h2 := h m
    rw [List.flatMap_singleton, Nat.mul_add]
    omega
theorem steps_len (s : Stt) (st : Std) : (steps s st).length ≤ 6 * st.length := by
  unfold steps
  rw [sortE_len]
  exact flat_len (evsP_len s st) _
section
variable {G : List D} {P : List Df} {I : Ix} {n : Nat} {s : Stt} {st : Std}
theorem rows_ok (hP : HEvent G P I) (h : Vd s st) : callF G P (n + 4) I.f_event_rows [s.enc, encS st] = some (.ok (.list ((steps s st).map (encR s st))) false []) := by
  have hl : st.length ≤ 3 := by have := h.m; omega
  have ll : ∀ i, (evsTo s st i).length ≤ 6 * i := fun i => flat_len (evsP_len s st) i
  have e1 : bltD .len [encS st] = some (.int st.length) := by show some (PyData.int (List.length _)) = _; rw [List.length_map]
  let S := fun (x y : Sl) => [Sl.v s.enc, .v (encS st), x, y]
  obtain ⟨st', e4, h4⟩ := forLoop_inv (one := true) (tg := [3]) (items := rngL 0 st.length) (k := 0) (b := exSs G (callF G P (n + 3)) (c_event_rows_b0 I))
    (fun i q => ∃ y, q = S (.v (.list ((evsTo s st i).map (encR s st)))) y) (st := S (.v (.list [])) .no) ⟨_, rfl⟩
    (fun i x q hi hq => by
      obtain ⟨hi2, rfl⟩ := rngL_get0 hi
      obtain ⟨y, rfl⟩ := hq
      rw [Nat.zero_add]
      have g1 := go_ok (n := n + 1) hP h hi2
      have g2 := enter_ok (n := n + 1) hP h hi2
      have g3 := fetch_ok (n := n) hP h hi2
      have g4 := other_ok (n := n + 1) hP h hi2
      have l0 := ll i
      have l1 := goE_len s st i
      have l2 := enterE_len st i
      have l3 := getE_len s st i
      have l4 := hangE_len s st i
      have l5 := findE_len s st i
      have es := evsTo_succ s st i
      generalize evsTo s st (i + 1) = F1 at *
      generalize evsTo s st i = F0 at *
      generalize goE s st i = A1 at *
      generalize enterE st i = A2 at *
      generalize getE s st i = A3 at *
      have l45 : (hangE s st i ++ findE s st i).length ≤ 2 := by rw [List.length_append]; omega
      generalize hangE s st i ++ findE s st i = A4 at *
      have b1 : binD .Add (.list (F0.map (encR s st))) (.list (A1.map (encR s st))) = some (.list ((F0 ++ A1).map (encR s st))) := by rw [binLst (by simp only [List.length_map]; unfold lim; omega), List.map_append]
      have b2 : binD .Add (.list ((F0 ++ A1).map (encR s st))) (.list (A2.map (encR s st))) = some (.list ((F0 ++ A1 ++ A2).map (encR s st))) := by rw [binLst (by simp only [List.length_map, List.length_append]; unfold lim; omega), ← List.map_append]
      have b3 : binD .Add (.list ((F0 ++ A1 ++ A2).map (encR s st))) (.list (A3.map (encR s st))) = some (.list ((F0 ++ A1 ++ A2 ++ A3).map (encR s st))) := by rw [binLst (by simp only [List.length_map, List.length_append]; unfold lim; omega), ← List.map_append]
      have b4 : binD .Add (.list ((F0 ++ A1 ++ A2 ++ A3).map (encR s st))) (.list (A4.map (encR s st))) = some (.list (F1.map (encR s st))) := by rw [binLst (by simp only [List.length_map, List.length_append]; unfold lim; omega), ← List.map_append, es]
      refine ⟨S (.v (.list (F0.map (encR s st)))) (.v (.int i)), S (.v (.list (F1.map (encR s st)))) (.v (.int i)), rfl, .inl (run_nx (s1 := S (.v (.list ((F0 ++ A1 ++ A2).map (encR s st)))) (.v (.int i))) ?_ (run_nx (s1 := S (.v (.list (F1.map (encR s st)))) (.v (.int i))) ?_ rfl)), _, rfl⟩
      · generalize (F0 ++ A1 ++ A2).map (encR s st) = Z at *
        generalize (F0 ++ A1).map (encR s st) = Z1 at *
        simp [exS, den, dens, getV, setV, endCall, g1, g2, b1, b2, S]
      · generalize (F0 ++ A1 ++ A2 ++ A3).map (encR s st) = Z at *
        generalize (F0 ++ A1 ++ A2).map (encR s st) = Z1 at *
        simp [exS, den, dens, getV, setV, endCall, g3, g4, b3, b4, S])
  rw [rngL_len, Nat.zero_add] at h4
  obtain ⟨y, rfl⟩ := h4
  have l2 := ll st.length
  refine (callF_run (fl := .rt (.list ((steps s st).map (encR s st))) false (S (.v (.list ((evsTo s st st.length).map (encR s st)))) y)) hP.rows rfl
    (run_nx (s1 := S (.v (.list [])) .no) rfl (run_nx (run_fo (items := rngL 0 st.length) (s1 := S (.v (.list [])) .no) (w_rng1 (i := st.length) (e_blt1 (x := encS st) rfl e1) rfl (by omega)) e4) (run_rt (x_ret (e_blt1 (x := .list ((evsTo s st st.length).map (encR s st))) rfl (sorted_rows (by unfold lim; omega)))))))).trans rfl
end
end Pv

/-! The law's own rows. -/
namespace Pv
open PySem L2
structure HLev (P : List Df) (I : Ix) : Prop where
  begin : P[I.f_l_begin]? = some (c_l_begin I)
  wth : P[I.f_l_with]? = some (c_l_with I)
  stuck : P[I.f_l_stuck]? = some (c_l_stuck I)
  reach : P[I.f_l_reach]? = some (c_l_reach I)
  getting : P[I.f_l_getting]? = some (c_l_getting I)
  home : P[I.f_l_of_home]? = some (c_l_of_home I)
  steps : P[I.f_l_steps]? = some (c_l_steps I)
def Kd.wd : Kd → Str
  | .go _ => Str.ofString "go" | .enter => Str.ofString "enter" | .mat => Str.ofString "mat" | .ask => Str.ofString "ask" | .fetch => Str.ofString "fetch" | .hang => Str.ofString "hang" | .find => Str.ofString "find"
def wdOf : List Ev → D
  | [] => .none
  | e :: _ => .str e.kd.wd
section
variable (s : Stt) (st : Std)
def evsL (k : Nat) : List Ev := goE s st k ++ hangE s st k ++ enterE st k ++ getE s st k ++ findE s st k
end
section
variable {G : List D} {P : List Df} {I : Ix} {n : Nat} {s : Stt} {st : Std} {k : Nat}
theorem lwith_ok (hP : HLev P I) (hk : k < st.length) (hl : st.length ≤ 100) (a b : Bool) (c : Spw) : callF G P (n + 1) I.f_l_with [encS st, .int k, .bool a, .str (ownW b), .str c.w] = some (.ok (encS (st.set k ⟨a, b, c⟩)) false []) := by
  let S := [Sl.v (encS st), .v (.int k), .v (.bool a), .v (.str (ownW b)), .v (.str c.w)]
  refine (callF_run (fl := .rt (encS (st.set k ⟨a, b, c⟩)) false S) hP.wth rfl (run_rt (x_ret ?_))).trans rfl
  have b1 : binD .Add (.tuple ((st.map Hm.enc).take k)) (.tuple [Hm.enc ⟨a, b, c⟩]) = some (.tuple ((st.map Hm.enc).take k ++ [Hm.enc ⟨a, b, c⟩])) := binTup (by simp; unfold lim; omega)
  have b2 : binD .Add (.tuple ((st.map Hm.enc).take k ++ [Hm.enc ⟨a, b, c⟩])) (.tuple ((st.map Hm.enc).drop (k + 1))) = some (encS (st.set k ⟨a, b, c⟩)) := by
    rw [binTup (by simp; unfold lim; omega), cut_set (by rw [List.length_map]; exact hk), encS_set]
  refine e_bin (s1 := S) (x := .tuple ((st.map Hm.enc).take k ++ [Hm.enc ⟨a, b, c⟩])) (y := .tuple ((st.map Hm.enc).drop (k + 1))) ?_ ?_ b2
  · refine e_bin (s1 := S) (x := .tuple ((st.map Hm.enc).take k)) (y := .tuple [Hm.enc ⟨a, b, c⟩]) (e_sl (x := encS st) (l := none) (h := some (k : Int)) rfl rfl rfl slT_to) ?_ b1
    rfl
  · exact e_sl (x := encS st) (l := some ((k : Int) + 1)) (h := none) rfl rfl rfl slT_from
theorem lstuck_ok (hP : HLev P I) (h : Vd s st) (hk : k < st.length) : callF G P (n + 1) I.f_l_stuck [encS st, .int k] = some (.ok (.bool (tA st k).stuck) false []) := by
  let S := fun x y z => [Sl.v (encS st), .v (.int k), x, y, z]
  have f1 := h.ix_st hk
  have u1 : ∀ a b c d e : Sl, asgT false [2, 3, 4] (tA st k).enc [a, b, c, d, e] = some [a, b, .v (.bool (tA st k).inn), .v (.str (ownW (tA st k).own)), .v (.str (tA st k).spr.w)] := fun _ _ _ _ _ => rfl
  refine (callF_run (fl := .rt (.bool (tA st k).stuck) false (S (.v (.bool (tA st k).inn)) (.v (.str (ownW (tA st k).own))) (.v (.str (tA st k).spr.w)))) hP.stuck rfl (run_nx (s1 := S (.v (.bool (tA st k).inn)) (.v (.str (ownW (tA st k).own))) (.v (.str (tA st k).spr.w))) ?_ (run_rt (x_ret ?_)))).trans rfl
  · simp [exS, den, startS, getV, c_l_stuck, f1, u1, S]
  · have w1 : eqD (.str (tA st k).spr.w) (.str (Str.ofString "pocket")) = some ((tA st k).spr == .pocket) := eqW (b := .pocket)
    have w2 : eqD (.str (ownW (tA st k).own)) (.str (Str.ofString "inside")) = some (!(tA st k).own) := by cases (tA st k).own <;> rfl
    unfold Hm.stuck
    generalize tA st k = t at *
    obtain ⟨t1, t2, t3⟩ := t
    cases t1 <;> cases t2 <;> simp [den, getV, boolOf, cmpD, w1, w2, S] <;> cases t3 <;> rfl
theorem lreach_ok (hP : HLev P I) (h : Vd s st) (hk : k < st.length) : callF G P (n + 1) I.f_l_reach [s.enc, encS st, .int k] = some (.ok (.bool (bring s st k)) false []) := by
  rw [callF_eq _ hP.reach]
  have f3 := h.ix_sp hk
  have b := h.sp hk
  unfold bring
  by_cases c1 : spA s k < 0
  · have w : eqD (.int (spA s k)) (.int (-1)) = some (decide (spA s k = -1)) := rfl
    simp [c_l_reach, exSs, exS, den, dens, startS, endF, getV, setV, boolOf, intOf, st0, f3, cmpD, c1, w, show ¬ 0 ≤ spA s k by omega]
  · obtain ⟨f4, f5⟩ := h.ix_p hk (by omega)
    simp [c_l_reach, exSs, exS, den, dens, startS, endF, getV, setV, boolOf, intOf, st0, f3, f4, hm0, cmpD, c1, show 0 ≤ spA s k by omega, show ¬ spA s k = -1 by omega]
theorem lgetting_ok (hP : HLev P I) (h : Vd s st) (hk : k < st.length) : callF G P (n + 2) I.f_l_getting [s.enc, encS st, .int k] = some (.ok (wdOf (getE s st k)) false []) := by
  have p0 := lstuck_ok (G := G) (n := n) hP h hk
  have w2 : eqD (.str (tA st k).spr.w) (.str (Str.ofString "place")) = some ((tA st k).spr == .place) := eqW (b := .place)
  have f1 := h.ix_st hk
  have f2 := h.ix_ho hk
  have f3 := h.ix_sp hk
  have e1 : eqD (.int (-1)) (.int (-1)) = some true := rfl
  rw [callF_eq _ hP.getting]
  by_cases c1 : (tA st k).stuck = true
  · by_cases c2 : ((tA st k).spr == .place) = true
    · by_cases c3 : spA s k = -1
      · have w3 : eqD (.int (spA s k)) (.int (-1)) = some true := by rw [c3]; rfl
        simp [getE, c1, c2, c3, c_l_getting, exSs, exS, den, dens, startS, endF, getV, setV, boolOf, intOf, f1, f3, st0, cmpD, w2, p0, hm2, endCall, e1, w3, wdOf, Kd.wd]
      · have w3 : eqD (.int (spA s k)) (.int (-1)) = some false := by show some (decide _) = _; rw [decide_eq_false c3]
        have hne : spA s k ≠ -2 := fun z => by
          have := ((h.tri k hk).2).mpr z
          rw [this] at c2
          cases c2
        have h0 : 0 ≤ spA s k := by have := h.sp hk; omega
        obtain ⟨f4, f5⟩ := h.ix_p hk h0
        by_cases c4 : (tA st (spA s k).toNat).inn = true
        · simp [getE, c1, c2, c3, c4, c_l_getting, exSs, exS, den, dens, startS, endF, getV, setV, boolOf, intOf, f1, f3, f4, st0, cmpD, w2, p0, hm0, hm2, endCall, e1, w3, wdOf, Kd.wd]
        · have c4 : (tA st (spA s k).toNat).inn = false := by simpa using c4
          have w4 : eqD (.str (tA st (spA s k).toNat).spr.w) (.str (Str.ofString "place")) = some ((tA st (spA s k).toNat).spr == .place) := eqW (b := .place)
          have w5 : eqD (.int (spA s (spA s k).toNat)) (.int (-1)) = some (decide (spA s (spA s k).toNat = -1)) := rfl
          cases c5 : (hoA s k).2.2
          · simp [getE, c1, c2, c3, c4, c5, c_l_getting, exSs, exS, den, dens, startS, endF, getV, setV, boolOf, intOf, f1, f2, f3, f4, st0, st2, hb2, cmpD, w2, p0, hm0, hm2, endCall, e1, w3, wdOf, Kd.wd]
          · cases c6 : (decide (spA s (spA s k).toNat = -1))
            · rw [c6] at w5
              simp [getE, c1, c2, c3, c4, c5, c6, c_l_getting, exSs, exS, den, dens, startS, endF, getV, setV, boolOf, intOf, f1, f2, f3, f4, f5, st0, st2, hb2, cmpD, w2, w5, p0, hm0, hm2, endCall, e1, w3, wdOf, Kd.wd]
            · rw [c6] at w5
              have c6 : spA s (spA s k).toNat = -1 := by simpa using c6
              cases c7 : ((tA st (spA s k).toNat).spr == .place)
              · simp [getE, c1, c2, c3, c4, c5, c6, c7, c_l_getting, exSs, exS, den, dens, startS, endF, getV, setV, boolOf, intOf, f1, f2, f3, f4, f5, st0, st2, hb2, cmpD, w2, w4, w5, p0, hm0, hm2, endCall, e1, w3, wdOf, Kd.wd]
              · simp [getE, c1, c2, c3, c4, c5, c6, c7, c_l_getting, exSs, exS, den, dens, startS, endF, getV, setV, boolOf, intOf, f1, f2, f3, f4, f5, st0, st2, hb2, cmpD, w2, w4, w5, p0, hm0, hm2, endCall, e1, w3, wdOf, Kd.wd]
    · have c2 : ((tA st k).spr == .place) = false := by simpa using c2
      simp [getE, c1, c2, c_l_getting, exSs, exS, den, dens, startS, endF, getV, setV, boolOf, f1, f3, st0, cmpD, w2, p0, hm2, endCall, wdOf, Kd.wd]
  · have c1 : (tA st k).stuck = false := by simpa using c1
    simp [getE, c1, c_l_getting, exSs, exS, den, dens, startS, endF, getV, setV, boolOf, f1, f3, st0, cmpD, p0, endCall, wdOf, Kd.wd]
theorem ceq {a b : D} : cmpD .Eq a b = eqD a b := rfl
theorem w_pp : eqD (.str Spw.pocket.w) (.str (Str.ofString "pocket")) = some true := rfl
theorem in_pocket {t : Hm} : cmpD .In (.str (Str.ofString "pocket")) t.enc = some (t.own || t.spr == .pocket) := by
  obtain ⟨a, b, c⟩ := t
  cases a <;> cases b <;> cases c <;> decide +kernel
theorem lhome_ok (hP : HLev P I) (h : Vd s st) (hk : k < st.length) : callF G P (n + 3) I.f_l_of_home [s.enc, encS st, .int k] = some (.ok (.list ((evsL s st k).map (encR s st))) true []) := by
  have hl : st.length ≤ 100 := by have := h.m; omega
  have p1 := lreach_ok (G := G) (n := n + 1) hP h hk
  have p2 := lgetting_ok (G := G) (n := n) hP h hk
  have q1 := lwith_ok (G := G) (n := n + 1) hP hk hl false false (tA st k).spr
  have q2 := lwith_ok (G := G) (n := n + 1) hP hk hl false true (tA st k).spr
  have q3 := lwith_ok (G := G) (n := n + 1) hP hk hl true false .place
  have q4 := lwith_ok (G := G) (n := n + 1) hP hk hl true false (tA st k).spr
  have q5 := lwith_ok (G := G) (n := n + 1) hP hk hl true false .inside
  have q6 := lwith_ok (G := G) (n := n + 1) hP hk hl false false .pocket
  have q7 := lwith_ok (G := G) (n := n + 1) hP hk hl (tA st k).inn (tA st k).own .gone
  have w1 : eqD (.str (tA st k).spr.w) (.str (Str.ofString "inside")) = some ((tA st k).spr == .inside) := eqW (b := .inside)
  have w2 : eqD (.str (tA st k).spr.w) (.str (Str.ofString "place")) = some ((tA st k).spr == .place) := eqW (b := .place)
  have w4 : eqD (.str (tA st k).spr.w) (.str (Str.ofString "pocket")) = some ((tA st k).spr == .pocket) := eqW (b := .pocket)
  have w3 : eqD (.int (spA s k)) (.int (-1)) = some (decide (spA s k = -1)) := rfl
  have f1 := h.ix_st hk
  have f2 := h.ix_ho hk
  have f3 := h.ix_sp hk
  have ip := in_pocket (t := tA st k)
  let S := fun (w br fd nw : Sl) => [Sl.v s.enc, .v (encS st), .v (.int k), w, .v (.bool (tA st k).inn), .v (.str (ownW (tA st k).own)), .v (.str (tA st k).spr.w), .v (.bool (hoA s k).1), .v (.bool (hoA s k).2.1), .v (.bool (hoA s k).2.2), br, fd, nw]
  let B : Sl := .v (.bool ((hoA s k).2.1 && bring s st k))
  have u1 : ∀ a b c d e f g h i j l m o : Sl, asgT false [4, 5, 6] (tA st k).enc [a, b, c, d, e, f, g, h, i, j, l, m, o] = some [a, b, c, d, .v (.bool (tA st k).inn), .v (.str (ownW (tA st k).own)), .v (.str (tA st k).spr.w), h, i, j, l, m, o] := fun _ _ _ _ _ _ _ _ _ _ _ _ _ => rfl
  have u2 : ∀ a b c d e f g h i j l m o : Sl, asgT false [7, 8, 9] (hab (hoA s k)) [a, b, c, d, e, f, g, h, i, j, l, m, o] = some [a, b, c, d, e, f, g, .v (.bool (hoA s k).1), .v (.bool (hoA s k).2.1), .v (.bool (hoA s k).2.2), l, m, o] := fun _ _ _ _ _ _ _ _ _ _ _ _ _ => rfl
  have a1 := goE_len s st k
  have a2 := hangE_len s st k
  have a3 := enterE_len st k
  have a4 := getE_len s st k
  have lt : ∀ l : List D, l.length ≤ 6 → l.length < lim := fun l q => by unfold lim; omega
  let nw : Sl := if (enterE st k).isEmpty then .no else .v (.str (if (tA st k).spr = .pocket then (if (hoA s k).2.1 && bring s st k then Spw.place else .inside) else (tA st k).spr).w)
  let L1 := (goE s st k).map (encR s st)
  let L2 := L1 ++ (hangE s st k).map (encR s st)
  let L3 := L2 ++ (enterE st k).map (encR s st)
  let L4 := L3 ++ (getE s st k).map (encR s st)
  let L5 := L4 ++ (findE s st k).map (encR s st)
  have eL : (evsL s st k).map (encR s st) = L5 := by
    unfold evsL
    simp only [List.map_append, L5, L4, L3, L2, L1]
  rw [eL]
  refine (callF_run (fl := .rt (.list L5) true (S (.v (wdOf (getE s st k))) B (.own L5) nw)) hP.home rfl
    (run_nx (s1 := [Sl.v s.enc, .v (encS st), .v (.int k), .no, .v (.bool (tA st k).inn), .v (.str (ownW (tA st k).own)), .v (.str (tA st k).spr.w), .no, .no, .no, .no, .no, .no]) ?_ (run_nx (s1 := S .no .no .no .no) ?_ (run_nx (s1 := S .no B (.own []) .no) ?_ (run_nx (s1 := S .no B (.own L1) .no) ?_ (run_nx (s1 := S .no B (.own L2) .no) ?_
    (run_nx (s1 := S .no B (.own L3) nw) ?_ (run_nx (s1 := S (.v (wdOf (getE s st k))) B (.own L3) nw) ?_ (run_nx (s1 := S (.v (wdOf (getE s st k))) B (.own L4) nw) ?_ (run_nx (s1 := S (.v (wdOf (getE s st k))) B (.own L5) nw) ?_ (run_rt rfl))))))))))).trans rfl
  · simp [exS, den, startS, getV, c_l_of_home, f1, u1]
  · simp [exS, den, getV, f2, st2, u2, S]
  · cases c : (hoA s k).2.1 <;> simp [exS, denP, denF, den, dens, getV, boolOf, endCall, setP, p1, lim, S, B, c]
  · have r1 : encR s st ⟨.go false, k⟩ = .tuple [.tuple [.str (Str.ofString "go"), .int k, .bool false], encS (st.set k ⟨false, false, (tA st k).spr⟩)] := rfl
    have r2 : encR s st ⟨.go true, k⟩ = .tuple [.tuple [.str (Str.ofString "go"), .int k, .bool true], encS (st.set k ⟨false, true, (tA st k).spr⟩)] := rfl
    simp only [S, B, L1]
    unfold goE
    have q1 : callF G P (n + 2) I.f_l_with [encS st, .int k, .bool false, .str (Str.ofString "inside"), .str (tA st k).spr.w] = _ := q1
    have q2 : callF G P (n + 2) I.f_l_with [encS st, .int k, .bool false, .str (Str.ofString "pocket"), .str (tA st k).spr.w] = _ := q2
    generalize bring s st k = br at *
    generalize hoA s k = ho at *
    generalize tA st k = t at *
    obtain ⟨b1, b2, b3⟩ := ho
    cases c1 : t.inn
    · simp [exS, exSs, den, getV, boolOf]
    · cases c2 : (t.spr == .inside) <;> cases b2 <;> cases br <;> cases b1 <;> simp [exS, exSs, den, dens, getV, getO, boolOf, cmpD, w1, c2, endCall, q1, q2, lim, r1, r2]
  · have r1 : encR s st ⟨.hang, k⟩ = .tuple [.tuple [.str (Str.ofString "hang"), .int k], encS (st.set k ⟨true, false, .place⟩)] := rfl
    have q3 : callF G P (n + 2) I.f_l_with [encS st, .int k, .bool true, .str (Str.ofString "inside"), .str (Str.ofString "place")] = _ := q3
    have lt1 : L1.length < 100000 := lt _ (by simp only [L1, List.length_map]; omega)
    simp only [S, B, L2]
    unfold hangE
    generalize L1 = L1 at *
    generalize bring s st k = br at *
    generalize hoA s k = ho at *
    generalize tA st k = t at *
    obtain ⟨b1, b2, b3⟩ := ho
    cases c1 : t.inn
    · simp [exS, exSs, den, getV, boolOf]
    · cases c2 : (t.spr == .inside) <;> cases b2 <;> cases br <;> simp [exS, exSs, den, dens, getV, getO, boolOf, cmpD, w1, c2, endCall, q3, lim, r1, lt1]
  · have lt1 : L2.length < 100000 := lt _ (by simp only [L2, L1, List.length_map, List.length_append]; omega)
    simp only [S, B, L3, nw]
    unfold enterE
    have r1 : encR s st ⟨.enter, k⟩ = .tuple [.tuple [.str (Str.ofString "enter"), .int k], encS (st.set k ⟨true, false, if (tA st k).spr = .pocket then (if (hoA s k).2.1 && bring s st k then .place else .inside) else (tA st k).spr⟩)] := rfl
    have q3 : callF G P (n + 2) I.f_l_with [encS st, .int k, .bool true, .str (Str.ofString "inside"), .str (Str.ofString "place")] = _ := q3
    have q4 : callF G P (n + 2) I.f_l_with [encS st, .int k, .bool true, .str (Str.ofString "inside"), .str (tA st k).spr.w] = _ := q4
    have q5 : callF G P (n + 2) I.f_l_with [encS st, .int k, .bool true, .str (Str.ofString "inside"), .str (Str.ofString "inside")] = _ := q5
    have x1 : Spw.place.w = Str.ofString "place" := rfl
    have x2 : Spw.inside.w = Str.ofString "inside" := rfl
    generalize L2 = L2 at *
    generalize ((hoA s k).2.1 && bring s st k) = br at *
    generalize tA st k = t at *
    cases c1 : t.inn
    · cases c2 : (t.own || t.spr == .pocket)
      · rw [c2] at ip
        simp [exS, exSs, den, dens, getV, boolOf, f1, ip]
      · rw [c2] at ip
        by_cases c3 : t.spr = .pocket
        · have c4 : (t.spr == .pocket) = true := by rw [c3]; rfl
          rw [c4] at w4
          cases br <;> simp [exS, exSs, den, dens, getV, getO, setV, boolOf, f1, ip, ceq, w_pp, w4, c3, q3, q5, endCall, lim, r1, x1, x2, lt1]
        · have c4 : (t.spr == .pocket) = false := by simpa using c3
          rw [c4] at w4
          simp [exS, exSs, den, dens, getV, getO, setV, boolOf, f1, ip, ceq, w4, c3, q4, endCall, lim, r1, lt1]
    · simp [exS, exSs, den, getV, boolOf]
  · simp [exS, den, dens, getV, setV, endCall, p2, S]
  · have lt1 : L3.length < 100000 := lt _ (by simp only [L3, L2, L1, List.length_map, List.length_append]; omega)
    simp only [S, B, L4]
    have q6 : callF G P (n + 2) I.f_l_with [encS st, .int k, .bool false, .str (Str.ofString "inside"), .str (Str.ofString "pocket")] = _ := q6
    generalize L3 = L3 at *
    have hg : getE s st k = [] ∨ getE s st k = [⟨.mat, k⟩] ∨ getE s st k = [⟨.ask, k⟩] ∨ getE s st k = [⟨.fetch, k⟩] := by
      unfold getE; repeat' split
      all_goals simp
    have r1 : encR s st ⟨.mat, k⟩ = .tuple [.tuple [.str (Str.ofString "mat"), .int k], encS (st.set k ⟨false, false, .pocket⟩)] := rfl
    have r2 : encR s st ⟨.ask, k⟩ = .tuple [.tuple [.str (Str.ofString "ask"), .int k], encS (st.set k ⟨false, false, .pocket⟩)] := rfl
    have r3 : encR s st ⟨.fetch, k⟩ = .tuple [.tuple [.str (Str.ofString "fetch"), .int k], encS (st.set k ⟨false, false, .pocket⟩)] := rfl
    rcases hg with e | e | e | e <;> rw [e] <;> simp [exS, exSs, den, dens, getV, getO, boolOf, cmpD, isNoneD, wdOf, Kd.wd, q6, endCall, lim, r1, r2, r3, lt1]
  · have lt1 : L4.length < 100000 := lt _ (by simp only [L4, L3, L2, L1, List.length_map, List.length_append]; omega)
    simp only [S, B, L5]
    have r1 : encR s st ⟨.find, k⟩ = .tuple [.tuple [.str (Str.ofString "find"), .int k], encS (st.set k ⟨(tA st k).inn, (tA st k).own, .gone⟩)] := rfl
    have q7 : callF G P (n + 2) I.f_l_with [encS st, .int k, .bool (tA st k).inn, .str (ownW (tA st k).own), .str (Str.ofString "gone")] = _ := q7
    unfold findE
    generalize L4 = L4 at *
    generalize e1 : s.fo = fo at *
    have q0 : idxD s.enc (.int 1) = some (.bool fo) := by rw [st1, e1]
    cases fo
    · simp [exS, exSs, den, getV, boolOf, q0]
    · cases c2 : (decide (spA s k = -1))
      · rw [c2] at w3
        simp [exS, exSs, den, getV, boolOf, intOf, cmpD, q0, st0, f3, w3]
      · rw [c2] at w3
        cases c3 : ((tA st k).spr == .place)
        · simp [exS, exSs, den, getV, boolOf, intOf, cmpD, q0, st0, f3, w3, w2, c3]
        · simp [exS, exSs, den, dens, getV, getO, boolOf, intOf, cmpD, q0, st0, f3, w3, w2, c3, q7, endCall, lim, r1, lt1]
end
end Pv

/-! The law's own steps are the program's rows. -/
namespace Pv
open PySem L2
def evsToL (s : Stt) (st : Std) (i : Nat) : List Ev := (List.range i).flatMap (evsL s st)
theorem evs_perm (s : Stt) (st : Std) (k : Nat) : (evsL s st k).Perm (evsP s st k) := by
  unfold evsL evsP
  have h1 : (goE s st k ++ hangE s st k ++ enterE st k ++ getE s st k ++ findE s st k).Perm (goE s st k ++ (hangE s st k ++ (enterE st k ++ (getE s st k ++ findE s st k)))) := by simp only [List.append_assoc]; exact List.Perm.refl _
  refine h1.trans ?_
  rw [List.append_assoc]
  refine List.Perm.append_left _ ?_
  have h2 : (hangE s st k ++ (enterE st k ++ (getE s st k ++ findE s st k))).Perm ((enterE st k ++ getE s st k) ++ (hangE s st k ++ findE s st k)) := by
    rw [← List.append_assoc (enterE st k), ← List.append_assoc (hangE s st k), ← List.append_assoc (enterE st k ++ getE s st k)]
    exact (List.perm_append_comm).append_right _
  refine h2.trans ?_
  rw [List.append_assoc]
theorem evsTo_perm (s : Stt) (st : Std) : ∀ i, (evsToL s st i).Perm (evsTo s st i)
  | 0 => List.Perm.refl _
  | i + 1 => by
    unfold evsToL evsTo
    rw [List.range_succ, List.flatMap_append, List.flatMap_append, List.flatMap_singleton, List.flatMap_singleton]
    exact (evsTo_perm s st i).append (evs_perm s st i)
theorem steps_eq (s : Stt) (st : Std) : sortE (evsToL s st st.length) = steps s st := sortE_perm (evsTo_perm s st st.length)
theorem evsL_len (s : Stt) (st : Std) (k : Nat) : (evsL s st k).length ≤ 6 := by
  rw [(evs_perm s st k).length_eq]
  exact evsP_len s st k
theorem row0 {s : Stt} {st : Std} {e : Ev} : idxD (encR s st e) (.int 0) = some e.enc := rfl
theorem row1 {s : Stt} {st : Std} {e : Ev} : idxD (encR s st e) (.int 1) = some (encS (act s st e)) := rfl
theorem lay_ev (e : Ev) : e.enc.canLay0 = true := by
  obtain ⟨k, n⟩ := e
  have h1 : PyData.canLay0 (.str (Str.ofString "go")) = true := by decide +kernel
  have h2 : PyData.canLay0 (.str (Str.ofString "enter")) = true := by decide +kernel
  have h3 : PyData.canLay0 (.str (Str.ofString "mat")) = true := by decide +kernel
  have h4 : PyData.canLay0 (.str (Str.ofString "ask")) = true := by decide +kernel
  have h5 : PyData.canLay0 (.str (Str.ofString "fetch")) = true := by decide +kernel
  have h6 : PyData.canLay0 (.str (Str.ofString "hang")) = true := by decide +kernel
  have h7 : PyData.canLay0 (.str (Str.ofString "find")) = true := by decide +kernel
  have t2 : ∀ (a b : D), a.canLay0 = true → b.canLay0 = true → PyData.canLay0 (.tuple [a, b]) = true := fun a b h h' => by
    rw [PyData.canLay0, PyData.canLayAll0, PyData.canLayAll0, h, h']; rfl
  have t3 : ∀ (a b c : D), a.canLay0 = true → b.canLay0 = true → c.canLay0 = true → PyData.canLay0 (.tuple [a, b, c]) = true := fun a b c h h' h2 => by
    rw [PyData.canLay0, PyData.canLayAll0, PyData.canLayAll0, PyData.canLayAll0, h, h', h2]; rfl
  cases k
  · exact t3 _ _ _ h1 rfl rfl
  · exact t2 _ _ h2 rfl
  · exact t2 _ _ h3 rfl
  · exact t2 _ _ h4 rfl
  · exact t2 _ _ h5 rfl
  · exact t2 _ _ h6 rfl
  · exact t2 _ _ h7 rfl
theorem lay_hm (t : Hm) : t.enc.canLay0 = true := by
  obtain ⟨a, b, c⟩ := t
  cases a <;> cases b <;> cases c <;> decide +kernel
theorem lay_st (st : Std) : (encS st).canLay0 = true := by
  unfold encS
  rw [PyData.canLay0]
  induction st with
  | nil => rfl
  | cons t st ih => rw [List.map_cons, PyData.canLayAll0, lay_hm, ih]; rfl
theorem shaped_of {d : D} (h : d.canLay0 = true) (h2 : d.depth ≤ 64) : SeqAt.shaped d = true := by
  unfold SeqAt.shaped
  rw [h, decide_eq_true h2]
  rfl
theorem shaped_ev (e : Ev) : SeqAt.shaped e.enc = true := shaped_of (lay_ev e) (by have := depth_ev e; omega)
theorem shaped_st (st : Std) : SeqAt.shaped (encS st) = true := shaped_of (lay_st st) (by have := depth_st st; unfold encS; simp only [PyData.depth]; omega)
theorem eqD_tup {xs ys : List D} (h1 : SeqAt.shaped (.tuple xs) = true) (h2 : SeqAt.shaped (.tuple ys) = true) : eqD (.tuple xs) (.tuple ys) = some (PyData.eqv (.tuple xs) (.tuple ys)) := by
  show (if _ then _ else _) = _
  rw [if_pos ⟨h1, h2⟩]
theorem ev_tup (e : Ev) : ∃ xs, e.enc = .tuple xs := by
  obtain ⟨k, n⟩ := e
  cases k <;> exact ⟨_, rfl⟩
theorem eqD_ev (a b : Ev) : eqD a.enc b.enc = some (decide (a = b)) := by
  obtain ⟨xs, e1⟩ := ev_tup a
  obtain ⟨ys, e2⟩ := ev_tup b
  have q := eqv_ev a b
  have h1 := shaped_ev a
  have h2 := shaped_ev b
  rw [e1] at h1 q ⊢
  rw [e2] at h2 q ⊢
  rw [eqD_tup h1 h2, q]
section
variable {G : List D} {P : List Df} {I : Ix} {n : Nat} {s : Stt} {st : Std}
theorem rows_at {F : Nat → List D → Option CR} {l : List Ev} {e : Ev} (he : e ∈ l) (hl : l.length ≤ lim) (a b c d : Sl) : den G F (c_l_steps_e2 I) [a, b, .v (.list (l.map (encR s st))), c, d, .v e.enc, .no] = some (.list ((l.filter fun x => decide (x = e)).map (encR s st)), [a, b, .v (.list (l.map (encR s st))), c, d, .v e.enc, .no]) := by
  unfold c_l_steps_e2
  rw [den_lc_pure (xs := l.map (encR s st)) (fun x => [a, b, .v (.list (l.map (encR s st))), c, d, .v e.enc, .v x]) (fun x => match x with | .tuple (y :: _) => PyData.eqv y e.enc | _ => false) id rfl (by rw [List.length_map]; exact hl) (fun x _ => rfl) (fun x hx => ?_) (fun x _ _ => rfl) (fun x _ => rfl) rfl]
  · rw [List.filter_map, List.map_id]
    have : ((fun x => match x with | PyData.tuple (y :: _) => PyData.eqv y e.enc | _ => false) ∘ encR s st) = fun x => decide (x = e) := by
      funext x
      exact eqv_ev x e
    rw [this]
  · obtain ⟨y, _, rfl⟩ := List.mem_map.mp hx
    simp [dent, den, getV, row0, ceq, eqD_ev, boolOf]
    exact (eqv_ev y e).symm
theorem head_at {l : List Ev} {e : Ev} (he : e ∈ l) : idxD (.list ((l.filter fun x => decide (x = e)).map (encR s st))) (.int 0) = some (encR s st e) := by
  have h : e ∈ l.filter fun x => decide (x = e) := List.mem_filter.mpr ⟨he, by simp⟩
  cases q : l.filter fun x => decide (x = e) with
  | nil => rw [q] at h; cases h
  | cons y r =>
    have hy : y ∈ l.filter fun x => decide (x = e) := by rw [q]; exact List.mem_cons_self
    have : y = e := by simpa using (List.mem_filter.mp hy).2
    subst this
    rw [List.map_cons]
    show atI _ (0 : Nat) = _
    rw [atI_nat (by rw [List.length_cons]; omega)]
    rfl
theorem lsteps_ok (hP : HLev P I) (h : Vd s st) : callF G P (n + 4) I.f_l_steps [s.enc, encS st] = some (.ok (.list ((steps s st).map (encR s st))) false []) := by
  have hl : st.length ≤ 3 := by have := h.m; omega
  have ll : ∀ i, (evsToL s st i).length ≤ 6 * i := fun i => flat_len (evsL_len s st) i
  have e1 : bltD .len [encS st] = some (.int st.length) := by show some (PyData.int (List.length _)) = _; rw [List.length_map]
  let S := fun (x y z : Sl) => [Sl.v s.enc, .v (encS st), x, y, z, .no, .no]
  obtain ⟨st', e4, h4⟩ := forLoop_inv (one := true) (tg := [3]) (items := rngL 0 st.length) (k := 0) (b := exSs G (callF G P (n + 3)) (c_l_steps_b0 I))
    (fun i q => ∃ y, q = S (.v (.list ((evsToL s st i).map (encR s st)))) y .no) (st := S (.v (.list [])) .no .no) ⟨_, rfl⟩
    (fun i x q hi hq => by
      obtain ⟨hi2, rfl⟩ := rngL_get0 hi
      obtain ⟨y, rfl⟩ := hq
      rw [Nat.zero_add]
      have g1 := lhome_ok (G := G) (n := n) hP h hi2
      have l0 := ll i
      have l1 := evsL_len s st i
      have es : evsToL s st (i + 1) = evsToL s st i ++ evsL s st i := by
        unfold evsToL
        rw [List.range_succ, List.flatMap_append, List.flatMap_singleton]
      generalize evsToL s st (i + 1) = F1 at *
      generalize evsToL s st i = F0 at *
      generalize evsL s st i = A1 at *
      have b1 : binD .Add (.list (F0.map (encR s st))) (.list (A1.map (encR s st))) = some (.list (F1.map (encR s st))) := by rw [binLst (by simp only [List.length_map]; unfold lim; omega), ← List.map_append, es]
      refine ⟨S (.v (.list (F0.map (encR s st)))) (.v (.int i)) .no, S (.v (.list (F1.map (encR s st)))) (.v (.int i)) .no, rfl, .inl (run_nx (s1 := S (.v (.list (F1.map (encR s st)))) (.v (.int i)) .no) ?_ rfl), _, rfl⟩
      simp [exS, den, dens, getV, setV, endCall, g1, b1, S])
  rw [rngL_len, Nat.zero_add] at h4
  obtain ⟨y, rfl⟩ := h4
  have l2 := ll st.length
  rw [← steps_eq]
  generalize evsToL s st st.length = L at *
  have hL : L.length ≤ lim := by unfold lim; omega
  have k1 : den G (callF G P (n + 3)) (c_l_steps_e1 I) (S (.v (.list (L.map (encR s st)))) y .no) = some (.list (L.map Ev.enc), S (.v (.list (L.map (encR s st)))) y .no) := by
    unfold c_l_steps_e1
    rw [den_lc_pure (xs := L.map (encR s st)) (fun x => [Sl.v s.enc, .v (encS st), .v (.list (L.map (encR s st))), y, .no, .no, .v x]) (fun _ => true) (fun x => match x with | .tuple (z :: _) => z | _ => .none) rfl (by rw [List.length_map]; exact hL) (fun x _ => rfl) (fun x hx => rfl) (fun x hx _ => ?_) (fun x _ => rfl) rfl]
    · rw [List.filter_eq_self.mpr (fun _ _ => rfl), List.map_map]
      rfl
    · obtain ⟨z, _, rfl⟩ := List.mem_map.mp hx
      simp [den, getV, row0]
      rfl
  have k2 : den G (callF G P (n + 3)) (c_l_steps_e3 I) (S (.v (.list (L.map (encR s st)))) y (.v (.list ((sortE L).map Ev.enc)))) = some (.list ((sortE L).map (encR s st)), S (.v (.list (L.map (encR s st)))) y (.v (.list ((sortE L).map Ev.enc)))) := by
    unfold c_l_steps_e3
    have hs : ∀ x ∈ (sortE L).map Ev.enc, ∃ e ∈ L, x = e.enc := fun x hx => by
      obtain ⟨e, he, rfl⟩ := List.mem_map.mp hx
      exact ⟨e, sortE_mem.mp he, rfl⟩
    rw [den_lc_pure (xs := (sortE L).map Ev.enc) (fun x => [Sl.v s.enc, .v (encS st), .v (.list (L.map (encR s st))), y, .v (.list ((sortE L).map Ev.enc)), .v x, .no]) (fun _ => true) (fun x => ((L.find? fun e => PyData.eqv e.enc x).map (encR s st)).getD .none) rfl (by rw [List.length_map, sortE_len]; exact hL) (fun x _ => rfl) (fun x hx => rfl) (fun x hx _ => ?_) (fun x _ => rfl) rfl]
    · rw [List.filter_eq_self.mpr (fun _ _ => rfl), List.map_map]
      congr 2
      refine congrArg _ (List.map_congr_left fun e he => ?_)
      have he := sortE_mem.mp he
      show ((L.find? fun e' => PyData.eqv e'.enc e.enc).map (encR s st)).getD .none = _
      have e0 : (fun e' : Ev => PyData.eqv e'.enc e.enc) = fun e' => decide (e' = e) := by funext e'; exact eqv_ev e' e
      rw [e0]
      cases q : L.find? fun e' => decide (e' = e) with
      | none => exact absurd (List.find?_eq_none.mp q e he) (by simp)
      | some e' =>
        have := List.find?_some q
        simp at this
        rw [this]
        rfl
    · obtain ⟨e, he, rfl⟩ := hs x hx
      have r := rows_at (G := G) (I := I) (F := callF G P (n + 3)) (s := s) (st := st) he hL (.v s.enc) (.v (encS st)) y (.v (.list ((sortE L).map Ev.enc)))
      have e0 : (fun e' : Ev => PyData.eqv e'.enc e.enc) = fun e' => decide (e' = e) := by funext e'; exact eqv_ev e' e
      have q : L.find? (fun e' => decide (e' = e)) = some e := by
        cases q : L.find? fun e' => decide (e' = e) with
        | none => exact absurd (List.find?_eq_none.mp q e he) (by simp)
        | some e' =>
          have := List.find?_some q
          simp at this
          rw [this]
      rw [e0, q]
      exact e_idx r rfl (head_at he)
  refine (callF_run (fl := .rt (.list ((sortE L).map (encR s st))) false (S (.v (.list (L.map (encR s st)))) y (.v (.list ((sortE L).map Ev.enc))))) hP.steps rfl
    (run_nx (s1 := S (.v (.list [])) .no .no) rfl (run_nx (run_fo (items := rngL 0 st.length) (s1 := S (.v (.list [])) .no .no) (w_rng1 (i := st.length) (e_blt1 (x := encS st) rfl e1) rfl (by omega)) e4) (run_nx (x_set (e_blt1 k1 (sorted_evs hL)) (by show 4 < 7; omega)) (run_rt (x_ret k2)))))).trans rfl
end
end Pv

/-! Stands stay stands; histories. -/
namespace Pv
open PySem L2
section
variable {s : Stt} {st : Std} {e : Ev} {k : Nat}
theorem mem_go (h : e ∈ goE s st k) : ∃ b, e = ⟨.go b, k⟩ := by
  unfold goE at h
  split at h
  · split at h
    · simp at h; rcases h with h | h <;> exact ⟨_, h⟩
    · simp at h; exact ⟨_, h⟩
  · cases h
theorem mem_enter (h : e ∈ enterE st k) : e = ⟨.enter, k⟩ := by
  unfold enterE at h
  split at h
  · simpa using h
  · cases h
theorem mem_get (h : e ∈ getE s st k) : (e = ⟨.mat, k⟩ ∨ e = ⟨.ask, k⟩ ∨ e = ⟨.fetch, k⟩) ∧ (tA st k).spr = .place ∧ (tA st k).inn = false ∧ (tA st k).own = false := by
  unfold getE at h
  split at h
  · rename_i c
    simp only [Bool.and_eq_true, beq_iff_eq, Hm.stuck, Bool.not_eq_true'] at c
    refine ⟨?_, c.2, c.1.1.1, c.1.1.2⟩
    split at h
    · simp at h; exact .inl h
    · split at h
      · simp at h; exact .inr (.inl h)
      · split at h
        · simp at h; exact .inr (.inr h)
        · cases h
  · cases h
theorem mem_hang (h : e ∈ hangE s st k) : e = ⟨.hang, k⟩ ∧ (tA st k).spr = .inside := by
  unfold hangE at h
  split at h
  · rename_i c
    simp only [Bool.and_eq_true, beq_iff_eq] at c
    exact ⟨by simpa using h, c.2.1⟩
  · cases h
theorem mem_find (h : e ∈ findE s st k) : e = ⟨.find, k⟩ ∧ (tA st k).spr = .place := by
  unfold findE at h
  split at h
  · rename_i c
    simp only [Bool.and_eq_true, beq_iff_eq] at c
    exact ⟨by simpa using h, c.2.2⟩
  · cases h
theorem mem_evsP (h : e ∈ evsP s st k) : e ∈ goE s st k ∨ e ∈ enterE st k ∨ e ∈ getE s st k ∨ e ∈ hangE s st k ∨ e ∈ findE s st k := by
  unfold evsP at h
  simpa [or_assoc] using h
theorem mem_k (h : e ∈ evsP s st k) : e.k = k := by
  rcases mem_evsP h with h | h | h | h | h
  · obtain ⟨b, rfl⟩ := mem_go h; rfl
  · rw [mem_enter h]
  · rcases (mem_get h).1 with e | e | e <;> rw [e]
  · rw [(mem_hang h).1]
  · rw [(mem_find h).1]
theorem mem_steps : e ∈ steps s st ↔ e.k < st.length ∧ e ∈ evsP s st e.k := by
  unfold steps
  rw [sortE_mem]
  unfold evsTo
  rw [List.mem_flatMap]
  constructor
  · rintro ⟨k, hk, h⟩
    have := mem_k h
    subst this
    exact ⟨List.mem_range.mp hk, h⟩
  · rintro ⟨hk, h⟩
    exact ⟨e.k, List.mem_range.mpr hk, h⟩
theorem tA_set {t : Hm} {j : Nat} (hk : k < st.length) : tA (st.set k t) j = if j = k then t else tA st j := by
  unfold tA
  rw [List.getD_eq_getElem?_getD, List.getElem?_set]
  by_cases c : k = j
  · subst c
    rw [if_pos rfl, if_pos hk, if_pos rfl]
    rfl
  · rw [if_neg c, if_neg (fun z => c z.symm), List.getD_eq_getElem?_getD]
theorem Vd.put {t : Hm} (h : Vd s st) (hk : k < st.length) (h1 : t.inn = true → t.own = false ∧ t.spr ≠ .pocket) (h2 : t.spr = .none ↔ spA s k = -2) : Vd s (st.set k t) where
  ok := h.ok
  len := by rw [List.length_set]; exact h.len
  tri := fun j hj => by
    rw [List.length_set] at hj
    rw [tA_set hk]
    by_cases c : j = k
    · subst c
      rw [if_pos rfl]
      exact ⟨h1, h2⟩
    · rw [if_neg c]
      exact h.tri j hj
theorem Vd.act (h : Vd s st) (he : e ∈ steps s st) : Vd s (act s st e) := by
  obtain ⟨hk, he⟩ := mem_steps.mp he
  obtain ⟨t1, t2⟩ := h.tri _ hk
  rcases mem_evsP he with m | m | m | m | m
  · obtain ⟨b, q⟩ := mem_go m
    rw [q]
    exact h.put hk (fun z => by cases z) t2
  · have q := mem_enter m
    rw [q]
    refine h.put hk (fun _ => ⟨rfl, ?_⟩) ?_
    · dsimp only
      split
      · split <;> simp
      · assumption
    · dsimp only
      split
      · rename_i c
        rw [c] at t2
        have : ¬ spA s e.k = -2 := fun z => by have := t2.mpr z; cases this
        split <;> simp [this]
      · exact t2
  · obtain ⟨q, c, _⟩ := mem_get m
    rw [c] at t2
    have : ¬ spA s e.k = -2 := fun z => by have := t2.mpr z; cases this
    rcases q with q | q | q <;> rw [q] <;> exact h.put hk (fun z => by cases z) (by simp [this])
  · obtain ⟨q, c⟩ := mem_hang m
    rw [c] at t2
    have : ¬ spA s e.k = -2 := fun z => by have := t2.mpr z; cases this
    rw [q]
    exact h.put hk (fun _ => ⟨rfl, by simp⟩) (by simp [this])
  · obtain ⟨q, c⟩ := mem_find m
    rw [c] at t2
    have : ¬ spA s e.k = -2 := fun z => by have := t2.mpr z; cases this
    rw [q]
    exact h.put hk (fun z => ⟨(t1 z).1, by simp⟩) (by simp [this])
end
/-- the stand at first -/
def beginS (s : Stt) : Std := s.sp.map fun p => ⟨true, false, if p = -2 then .none else .place⟩
theorem beginS_vd {s : Stt} (h : s.Ok) : Vd s (beginS s) where
  ok := h
  len := by unfold beginS; rw [List.length_map]
  tri := fun k hk => by
    unfold beginS at hk
    rw [List.length_map] at hk
    have e : tA (beginS s) k = ⟨true, false, if spA s k = -2 then .none else .place⟩ := by
      unfold tA beginS spA
      rw [List.getD_eq_getElem?_getD, List.getElem?_map, List.getD_eq_getElem?_getD, List.getElem?_eq_getElem hk]
      rfl
    rw [e]
    dsimp only
    refine ⟨fun _ => ⟨rfl, ?_⟩, ?_⟩
    · split <;> simp
    · split <;> simp [*]
section
variable {G : List D} {P : List Df} {I : Ix} {n : Nat} {s : Stt} {st : Std}
theorem begin_ok (hP : HEvent G P I) (h : s.Ok) : callF G P (n + 1) I.f_begin [s.enc] = some (.ok (encS (beginS s)) false []) := by
  have hl := h.two
  refine (callF_run (fl := .rt (encS (beginS s)) false [.v s.enc, .no]) hP.begin rfl (run_rt (x_ret (e_blt1 (x := .list ((beginS s).map Hm.enc)) ?_ rfl)))).trans rfl
  show den G _ (c_begin_e0 I) [.v s.enc, .no] = _
  unfold c_begin_e0
  rw [den_lc_pure (xs := s.sp.map .int) (fun x => [.v s.enc, .v x]) (fun _ => true) (fun x => match x with | .int p => Hm.enc ⟨true, false, if p = -2 then .none else .place⟩ | _ => .none) rfl (by rw [List.length_map]; unfold lim; omega) (fun x _ => rfl) (fun x hx => rfl) (fun x hx _ => ?_) (fun x _ => rfl) rfl]
  · rw [List.filter_eq_self.mpr (fun _ _ => rfl), List.map_map]
    unfold beginS
    rw [List.map_map]
    rfl
  · obtain ⟨p, _, rfl⟩ := List.mem_map.mp hx
    by_cases c : p = -2
    · subst c
      simp [den, dens, getV, hP.none, cmpD, eqD, boolOf, lim]
      rfl
    · simp [den, dens, getV, hP.none, cmpD, eqD, boolOf, lim, c]
      rfl
theorem lbegin_ok (hP : HLev P I) (h : s.Ok) : callF G P (n + 1) I.f_l_begin [s.enc] = some (.ok (encS (beginS s)) false []) := by
  have hl := h.two
  refine (callF_run (fl := .rt (encS (beginS s)) false [.v s.enc, .no]) hP.begin rfl (run_rt (x_ret (e_blt1 (x := .list ((beginS s).map Hm.enc)) ?_ rfl)))).trans rfl
  show den G _ (c_l_begin_e0 I) [.v s.enc, .no] = _
  unfold c_l_begin_e0
  rw [den_lc_pure (xs := s.sp.map .int) (fun x => [.v s.enc, .v x]) (fun _ => true) (fun x => match x with | .int p => Hm.enc ⟨true, false, if p = -2 then .none else .place⟩ | _ => .none) rfl (by rw [List.length_map]; unfold lim; omega) (fun x _ => rfl) (fun x hx => rfl) (fun x hx _ => ?_) (fun x _ => rfl) rfl]
  · rw [List.filter_eq_self.mpr (fun _ _ => rfl), List.map_map]
    unfold beginS
    rw [List.map_map]
    rfl
  · obtain ⟨p, _, rfl⟩ := List.mem_map.mp hx
    by_cases c : p = -2
    · subst c
      simp [den, dens, getV, intOf, cmpD, eqD, boolOf, lim]
      rfl
    · simp [den, dens, getV, intOf, cmpD, eqD, boolOf, lim, c]
      rfl
end
end Pv

/-! Histories: the program's functions. -/
namespace Pv
open PySem L2
structure HHist (G : List D) (P : List Df) (I : Ix) : Prop extends HEvent G P I where
  kind : P[I.f_is_kind]? = some (c_is_kind I)
  rowof : P[I.f_row_of]? = some (c_row_of I)
  led : P[I.f_led]? = some (c_led I)
  ihv : P[I.f_is_history_value]? = some (c_is_history_value I)
  most : G[I.g_MOST_EVENTS]? = some (.int 60)
def isBoolD : D → Bool
  | .bool _ => true
  | _ => false
def kindV : D → Bool
  | .tuple [_, b] => !isBoolD b
  | .tuple (_ :: b :: c :: _) => !isBoolD b && isBoolD c
  | _ => false
theorem kindV_ev (e : Ev) : kindV e.enc = true := by
  obtain ⟨k, n⟩ := e
  cases k <;> rfl
/-- the event of a stand that a value is -/
def evOf (s : Stt) (st : Std) (v : D) : Option Ev := (steps s st).find? fun e => kindV v && PyData.eqv v e.enc
theorem evOf_mem {s : Stt} {st : Std} {v : D} {e : Ev} (h : evOf s st v = some e) : e ∈ steps s st := List.mem_of_find?_eq_some h
theorem evOf_ev {s : Stt} {st : Std} {e : Ev} (h : e ∈ steps s st) : evOf s st e.enc = some e := by
  unfold evOf
  have e0 : (fun e' : Ev => kindV e.enc && PyData.eqv e.enc e'.enc) = fun e' => decide (e = e') := by
    funext e'
    rw [kindV_ev, eqv_ev]
    rfl
  rw [e0]
  cases q : (steps s st).find? fun e' => decide (e = e') with
  | none => exact absurd (List.find?_eq_none.mp q e h) (by simp)
  | some e' =>
    have := List.find?_some q
    simp at this
    rw [this]
/-- the rows of a history, and the stand behind it -/
def ledR (s : Stt) : Std → List D → Option (List D × Std)
  | st, [] => some ([], st)
  | st, v :: vs => (evOf s st v).bind fun e => (ledR s (act s st e) vs).map fun r => (encR s st e :: r.1, r.2)
section
variable {G : List D} {P : List Df} {I : Ix} {n : Nat} {s : Stt} {st : Std}
theorem lay_nd {d : D} (h : d.canLay0 = true) : isDictD d = false := by
  cases d <;> first | rfl | (simp [PyData.canLay0] at h)
theorem lay_items {xs : List D} (h : PyData.canLayAll0 xs = true) : ∀ x ∈ xs, x.canLay0 = true := by
  induction xs with
  | nil => intro x hx; cases hx
  | cons y ys ih =>
    rw [PyData.canLayAll0, Bool.and_eq_true] at h
    intro x hx
    rcases List.mem_cons.mp hx with rfl | hx
    · exact h.1
    · exact ih h.2 x hx
theorem shaped_lay {d : D} (h : SeqAt.shaped d = true) : d.canLay0 = true := by
  unfold SeqAt.shaped at h
  rw [Bool.and_eq_true] at h
  exact h.1
theorem kindV_tup {v : D} (h : kindV v = true) : ∃ xs, v = .tuple xs := by
  cases v with
  | tuple xs => exact ⟨xs, rfl⟩
  | _ => cases h
theorem kind_val (hP : HHist G P I) {v : D} (hv : v.canLay0 = true) : callF G P (n + 1) I.f_is_kind [v] = some (.ok (.bool (kindV v)) false []) := by
  rw [callF_eq _ hP.kind]
  have at1 : ∀ {x y : D} {r : List D}, atI (x :: y :: r) 1 = some y := fun {x y r} => by
    show atI _ ((1 : Nat) : Int) = _
    rw [atI_nat (by simp)]
    rfl
  have at2 : ∀ {x y z : D} {r : List D}, atI (x :: y :: z :: r) 2 = some z := fun {x y z r} => by
    show atI _ ((2 : Nat) : Int) = _
    rw [atI_nat (by simp)]
    rfl
  have it : ∀ xs : List D, isTy .tuple (.tuple xs) = true := fun _ => rfl
  have ib : ∀ d : D, isTy .bool d = isBoolD d := fun d => by cases d <;> rfl
  match v with
  | .none => rfl
  | .bool _ => rfl
  | .int _ => rfl
  | .str _ => rfl
  | .list _ => rfl
  | .dict _ => simp [PyData.canLay0] at hv
  | .tuple [] => rfl
  | .tuple [_] => rfl
  | .tuple [a, b] =>
    have l1 := lay_nd (lay_items (show PyData.canLayAll0 [a, b] = true by rw [PyData.canLay0] at hv; exact hv) b (by simp))
    cases c : isBoolD b <;> simp [c_is_kind, exSs, exS, den, dens, startS, endF, getV, boolOf, bltD, cmpD, eqD, idxD, at1, ib, it, c, kindV, l1]
  | .tuple (a :: b :: d :: r) =>
    have h1 : ¬ ((r.length : Int) + 1 + 1 + 1 < 2) := by omega
    have h2 : ¬ ((r.length : Int) + 1 + 1 + 1 = 2) := by omega
    have l0 := lay_items (show PyData.canLayAll0 (a :: b :: d :: r) = true by rw [PyData.canLay0] at hv; exact hv)
    have l1 := lay_nd (l0 b (by simp))
    have l2 := lay_nd (l0 d (by simp))
    cases c : isBoolD b <;> cases c2 : isBoolD d <;> simp [c_is_kind, exSs, exS, den, dens, startS, endF, getV, boolOf, bltD, cmpD, eqD, idxD, at1, at2, ib, it, c, c2, kindV, h1, h2, l1, l2]
theorem rowof_loop (hP : HHist G P I) {v : D} (hv : SeqAt.shaped v = true) (a b : Sl) : ∀ (l : List Ev) (x : Sl),
    (∃ e, (l.find? fun e => kindV v && PyData.eqv v e.enc) = some e ∧ forLoop true [3] (exSs G (callF G P (n + 1)) (c_row_of_b0 I)) (l.map (encR s st)) [a, b, .v v, x] = some (.rt (encR s st e) false [a, b, .v v, .v (encR s st e)])) ∨
    ((l.find? fun e => kindV v && PyData.eqv v e.enc) = none ∧ ∃ y, forLoop true [3] (exSs G (callF G P (n + 1)) (c_row_of_b0 I)) (l.map (encR s st)) [a, b, .v v, x] = some (.nx [a, b, .v v, y]))
  | [], x => .inr ⟨rfl, x, rfl⟩
  | e :: l, x => by
    have g := kind_val (n := n) hP (v := v) (shaped_lay hv)
    have ex : exSs G (callF G P (n + 1)) (c_row_of_b0 I) [a, b, .v v, .v (encR s st e)] = some (if (kindV v && PyData.eqv v e.enc) = true then .rt (encR s st e) false [a, b, .v v, .v (encR s st e)] else .nx [a, b, .v v, .v (encR s st e)]) := by
      cases c : kindV v with
      | false => simp [c_row_of_b0, exSs, exS, den, dens, getV, boolOf, endCall, g, c]
      | true =>
        obtain ⟨xs, rfl⟩ := kindV_tup c
        have h1 := hv
        obtain ⟨ys, e2⟩ := ev_tup e
        have h2 := shaped_ev e
        have q : eqD (.tuple xs) e.enc = some (PyData.eqv (.tuple xs) e.enc) := by
          rw [e2] at h2 ⊢
          exact eqD_tup h1 h2
        cases c2 : PyData.eqv (.tuple xs) e.enc <;> simp [c_row_of_b0, exSs, exS, den, dens, getV, boolOf, endCall, g, c, ceq, row0, q, c2]
    cases c : (kindV v && PyData.eqv v e.enc) with
    | true =>
      refine .inl ⟨e, by rw [List.find?_cons, c], ?_⟩
      rw [List.map_cons]
      unfold forLoop
      show ((exSs G (callF G P (n + 1)) (c_row_of_b0 I) [a, b, .v v, .v (encR s st e)]).bind _) = _
      rw [ex, c]
      rfl
    | false =>
      have q : forLoop true [3] (exSs G (callF G P (n + 1)) (c_row_of_b0 I)) ((e :: l).map (encR s st)) [a, b, .v v, x] = forLoop true [3] (exSs G (callF G P (n + 1)) (c_row_of_b0 I)) (l.map (encR s st)) [a, b, .v v, .v (encR s st e)] := by
        rw [List.map_cons]
        show ((exSs G (callF G P (n + 1)) (c_row_of_b0 I) [a, b, .v v, .v (encR s st e)]).bind _) = _
        rw [ex, c]
        rfl
      rw [q, List.find?_cons, c]
      exact rowof_loop hP hv a b l _
def rowV (s : Stt) (st : Std) (v : D) : D := match evOf s st v with
  | some e => encR s st e
  | none => .none
theorem rowof_ok (hP : HHist G P I) (h : Vd s st) {v : D} (hv : SeqAt.shaped v = true) : callF G P (n + 5) I.f_row_of [s.enc, encS st, v] = some (.ok (rowV s st v) false []) := by
  have r := rows_ok (n := n) hP.toHEvent h
  have w : denw G (callF G P (n + 4)) (.seq (.call I.f_event_rows (.cons (.var 0) (.cons (.var 1) .nil)))) [.v s.enc, .v (encS st), .v v, .no] = some ((steps s st).map (encR s st), [.v s.enc, .v (encS st), .v v, .no]) := by
    simp [denw, den, dens, getV, endCall, r]
  rcases rowof_loop (n := n + 3) (s := s) (st := st) hP hv (.v s.enc) (.v (encS st)) (steps s st) .no with ⟨e, e1, e2⟩ | ⟨e1, y, e2⟩
  · have q : rowV s st v = encR s st e := by unfold rowV evOf; rw [e1]
    rw [q]
    exact (callF_run (fl := .rt (encR s st e) false [.v s.enc, .v (encS st), .v v, .v (encR s st e)]) hP.rowof rfl (run_nx' (run_fo w e2) rfl)).trans rfl
  · have q : rowV s st v = .none := by unfold rowV evOf; rw [e1]
    rw [q]
    exact (callF_run (fl := .rt .none false [.v s.enc, .v (encS st), .v v, y]) hP.rowof rfl (run_nx (run_fo w e2) (run_rt rfl))).trans rfl
/-- a value that is not asked wrongly whether it is an event -/
def EvOk (v : D) : Prop := SeqAt.shaped v = true
theorem led_loop (hP : HHist G P I) (a b : Sl) : ∀ (vs : List D) (st : Std) (rows : List D) (x y : Sl), Vd s st → (∀ v ∈ vs, EvOk v) → rows.length + vs.length ≤ 1000 →
    match ledR s st vs with
    | some r => ∃ x' y', forLoop true [2] (exSs G (callF G P (n + 5)) (c_led_b0 I)) vs [.v s.enc, b, x, .v (encS st), .v (.list rows), y] = some (.nx [.v s.enc, b, x', .v (encS r.2), .v (.list (rows ++ r.1)), y'])
    | none => ∃ q, forLoop true [2] (exSs G (callF G P (n + 5)) (c_led_b0 I)) vs [.v s.enc, b, x, .v (encS st), .v (.list rows), y] = some (.rt .none false q)
  | [], st, rows, x, y, _, _, _ => ⟨x, y, by rw [List.append_nil]; rfl⟩
  | v :: vs, st, rows, x, y, h, hv, hl => by
    have r := rowof_ok (n := n) hP h (hv v List.mem_cons_self)
    unfold ledR
    cases c : evOf s st v with
    | none =>
      have q : rowV s st v = .none := by unfold rowV; rw [c]
      rw [q] at r
      refine ⟨[.v s.enc, b, .v v, .v (encS st), .v (.list rows), .v .none], ?_⟩
      show ((exSs G (callF G P (n + 5)) (c_led_b0 I) [.v s.enc, b, .v v, .v (encS st), .v (.list rows), y]).bind _) = _
      have e : exSs G (callF G P (n + 5)) (c_led_b0 I) [.v s.enc, b, .v v, .v (encS st), .v (.list rows), y] = some (.rt .none false [.v s.enc, b, .v v, .v (encS st), .v (.list rows), .v .none]) := by
        simp [c_led_b0, exSs, exS, den, dens, getV, setV, endCall, r, cmpD, isNoneD, boolOf]
      rw [e]
      rfl
    | some e =>
      have q : rowV s st v = encR s st e := by unfold rowV; rw [c]
      rw [q] at r
      have b1 : binD .Add (.list rows) (.list [encR s st e]) = some (.list (rows ++ [encR s st e])) := binLst (by rw [List.length_cons] at hl; simp; unfold lim; omega)
      have ex : exSs G (callF G P (n + 5)) (c_led_b0 I) [.v s.enc, b, .v v, .v (encS st), .v (.list rows), y] = some (.nx [.v s.enc, b, .v v, .v (encS (act s st e)), .v (.list (rows ++ [encR s st e])), .v (encR s st e)]) := by
        have n1 : cmpD .Is (encR s st e) .none = some false := rfl
        simp [c_led_b0, exSs, exS, denP, den, dens, getV, setV, setP, endCall, r, n1, boolOf, row1, b1, lim]
      have ih := led_loop hP a b vs (act s st e) (rows ++ [encR s st e]) (.v v) (.v (encR s st e)) (h.act (evOf_mem c)) (fun u hu => hv u (List.mem_cons_of_mem _ hu)) (by rw [List.length_cons] at hl; simp; omega)
      have step : forLoop true [2] (exSs G (callF G P (n + 5)) (c_led_b0 I)) (v :: vs) [.v s.enc, b, x, .v (encS st), .v (.list rows), y] = forLoop true [2] (exSs G (callF G P (n + 5)) (c_led_b0 I)) vs [.v s.enc, b, .v v, .v (encS (act s st e)), .v (.list (rows ++ [encR s st e])), .v (encR s st e)] := by
        show ((exSs G (callF G P (n + 5)) (c_led_b0 I) [.v s.enc, b, .v v, .v (encS st), .v (.list rows), y]).bind _) = _
        rw [ex]
        rfl
      rw [step]
      show (match (ledR s (act s st e) vs).map (fun r => (encR s st e :: r.1, r.2)) with | some r => _ | none => _)
      cases c2 : ledR s (act s st e) vs with
      | none => rw [c2] at ih; exact ih
      | some r2 =>
        rw [c2] at ih
        obtain ⟨x2, y2, ih⟩ := ih
        refine ⟨x2, y2, ih.trans ?_⟩
        rw [List.append_assoc]
        rfl
def ledD (s : Stt) (vs : List D) : D := match ledR s (beginS s) vs with
  | some r => .list r.1
  | none => .none
theorem led_ok (hP : HHist G P I) (h : s.Ok) {vs : List D} (hv : ∀ v ∈ vs, EvOk v) (hl : vs.length ≤ 1000) : callF G P (n + 6) I.f_led [s.enc, .tuple vs] = some (.ok (ledD s vs) false []) := by
  have b := begin_ok (G := G) (n := n + 4) hP.toHEvent h
  have lp := led_loop (n := n) hP .no (.v (.tuple vs)) vs (beginS s) [] .no .no (beginS_vd h) hv (by simpa using hl)
  have e1 : exS G (callF G P (n + 5)) (.par [3, 4] (.cons (.call I.f_begin (.cons (.var 0) .nil)) (.cons (.lst .nil) .nil)) [false, false]) [.v s.enc, .v (.tuple vs), .no, .no, .no, .no] = some (.nx [.v s.enc, .v (.tuple vs), .no, .v (encS (beginS s)), .v (.list []), .no]) := by
    simp [exS, denP, den, dens, getV, endCall, b, lim, setP]
  have w : denw G (callF G P (n + 5)) (.seq (.var 1)) [.v s.enc, .v (.tuple vs), .no, .v (encS (beginS s)), .v (.list []), .no] = some (vs, [.v s.enc, .v (.tuple vs), .no, .v (encS (beginS s)), .v (.list []), .no]) := rfl
  unfold ledD
  cases c : ledR s (beginS s) vs with
  | none =>
    rw [c] at lp
    obtain ⟨q, lp⟩ := lp
    exact (callF_run (fl := .rt .none false q) hP.led rfl (run_nx e1 (run_nx' (run_fo w lp) rfl))).trans rfl
  | some r =>
    rw [c] at lp
    obtain ⟨x, y, lp⟩ := lp
    rw [List.nil_append] at lp
    exact (callF_run (fl := .rt (.list r.1) false _) hP.led rfl (run_nx e1 (run_nx (run_fo w lp) (run_rt rfl)))).trans rfl
def isHist (s : Stt) (v : D) : Bool := match v with
  | .tuple vs => decide (vs.length ≤ 60) && (ledR s (beginS s) vs).isSome
  | _ => false
theorem ihv_ok (hP : HHist G P I) (h : s.Ok) {v : D} (nd : isDictD v = false) (hv : ∀ vs, v = .tuple vs → vs.length ≤ 60 → ∀ v ∈ vs, EvOk v) : callF G P (n + 7) I.f_is_history_value [s.enc, v] = some (.ok (.bool (isHist s v)) false []) := by
  refine (callF_run (fl := .rt (.bool (isHist s v)) false [.v s.enc, .v v]) hP.ihv rfl (run_rt (x_ret ?_))).trans rfl
  have no : ∀ v : D, isDictD v = false → isTy .tuple v = false → isHist s v = false → den G (callF G P (n + 6)) (.and (.isi (.var 1) .tuple) (.and (.cmp .LtE (.blt .len (.cons (.var 1) .nil)) (.glb I.g_MOST_EVENTS)) (.cmp .IsNot (.call I.f_led (.cons (.var 0) (.cons (.var 1) .nil))) (.cst .none)))) [.v s.enc, .v v] = some (.bool (isHist s v), [.v s.enc, .v v]) := fun v e0 e1 e2 => by
    rw [e2]
    simp [den, getV, boolOf, e0, e1]
  match v with
  | .none => exact no _ rfl rfl rfl
  | .bool _ => exact no _ rfl rfl rfl
  | .int _ => exact no _ rfl rfl rfl
  | .str _ => exact no _ rfl rfl rfl
  | .list _ => exact no _ rfl rfl rfl
  | .dict _ => cases nd
  | .tuple vs =>
    have e1 : bltD .len [.tuple vs] = some (.int vs.length) := rfl
    have e0 : isTy .tuple (.tuple vs) = true := rfl
    show den G (callF G P (n + 6)) (.and (.isi (.var 1) .tuple) (.and (.cmp .LtE (.blt .len (.cons (.var 1) .nil)) (.glb I.g_MOST_EVENTS)) (.cmp .IsNot (.call I.f_led (.cons (.var 0) (.cons (.var 1) .nil))) (.cst .none)))) [.v s.enc, .v (.tuple vs)] = _
    by_cases c : vs.length ≤ 60
    · have r := led_ok (n := n) hP h (hv vs rfl c) (by omega)
      have c' : (vs.length : Int) ≤ 60 := by omega
      have q : isNoneD (ledD s vs) = (ledR s (beginS s) vs).isNone := by
        unfold ledD
        cases ledR s (beginS s) vs <;> rfl
      simp [den, dens, getV, boolOf, e0, e1, hP.most, cmpD, c', endCall, r, isHist, c]
      exact q
    · have c' : ¬ (vs.length : Int) ≤ 60 := by omega
      simp [den, dens, getV, boolOf, e0, e1, hP.most, cmpD, c', isHist, c]
end
end Pv

/-! Histories that are possible: the program's functions, the law's drawing of one and its stands. -/
namespace Pv
open PySem L2
/-- possible events, one after another, from a stand to another -/
inductive Path (s : Stt) : Std → List Ev → Std → Prop
  | nil {st} : Path s st [] st
  | cons {st e hs st'} : e ∈ steps s st → Path s (act s st e) hs st' → Path s st (e :: hs) st'
/-- all stands ahead of, between and behind events -/
def standsL (s : Stt) : Std → List Ev → List Std
  | st, [] => [st]
  | st, e :: hs => st :: standsL s (act s st e) hs
section
variable {s : Stt} {st st' : Std} {hs : List Ev}
theorem Path.vd (p : Path s st hs st') (h : Vd s st) : Vd s st' := by
  induction p with
  | nil => exact h
  | cons he _ ih => exact ih (h.act he)
theorem Path.snoc {e : Ev} (p : Path s st hs st') (he : e ∈ steps s st') : Path s st (hs ++ [e]) (act s st' e) := by
  induction p with
  | nil => exact .cons he .nil
  | cons h _ ih => exact .cons h (ih he)
theorem Path.take (p : Path s st hs st') : ∀ i, i ≤ hs.length → ∃ z, (standsL s st hs)[i]? = some z ∧ Path s st (hs.take i) z := by
  induction p with
  | nil => exact fun i hi => ⟨_, by
      have : i = 0 := by simpa using hi
      subst this; rfl, by
      have : i = 0 := by simpa using hi
      subst this; exact .nil⟩
  | @cons st e hs st' he p ih =>
    intro i hi
    cases i with
    | zero => exact ⟨st, rfl, .nil⟩
    | succ i =>
      obtain ⟨z, h1, h2⟩ := ih i (by simpa using hi)
      exact ⟨z, h1, .cons he h2⟩
theorem Path.last (p : Path s st hs st') : (standsL s st hs)[hs.length]? = some st' := by
  induction p with
  | nil => rfl
  | cons he p ih => exact ih
theorem standsL_len : ∀ (hs : List Ev) (st : Std), (standsL s st hs).length = hs.length + 1
  | [], _ => rfl
  | e :: hs, st => by
    unfold standsL
    rw [List.length_cons, standsL_len hs, List.length_cons]
theorem Path.led (p : Path s st hs st') : ∃ rows, ledR s st (hs.map Ev.enc) = some (rows, st') ∧ rows.length = hs.length ∧ (hs ≠ [] → ∃ z e, rows.getLast? = some (encR s z e) ∧ act s z e = st') := by
  induction p with
  | nil => exact ⟨[], rfl, rfl, fun h => absurd rfl h⟩
  | @cons st e hs st' he p ih =>
    obtain ⟨rows, h1, h2, h3⟩ := ih
    refine ⟨encR s st e :: rows, ?_, by rw [List.length_cons, List.length_cons, h2], fun _ => ?_⟩
    · rw [List.map_cons]
      unfold ledR
      rw [evOf_ev he]
      show ((ledR s (act s st e) (hs.map Ev.enc)).map _) = _
      rw [h1]
      rfl
    · cases hs with
      | nil =>
        have hr : rows = [] := List.length_eq_zero_iff.mp h2
        subst hr
        cases p
        exact ⟨st, e, rfl, rfl⟩
      | cons e2 hs =>
        obtain ⟨z, e', h4, h5⟩ := h3 (by simp)
        refine ⟨z, e', ?_, h5⟩
        cases rows with
        | nil => cases h4
        | cons r rows => exact h4
theorem evOk_ev (e : Ev) : EvOk e.enc := shaped_ev e
end
theorem atI_last {xs : List D} {x : D} (h : xs.getLast? = some x) : atI xs (-1) = some x := by
  cases xs with
  | nil => cases h
  | cons y r =>
    unfold atI ixN
    rw [if_neg (by omega), if_pos (by rw [List.length_cons]; omega)]
    rw [List.getLast?_eq_getElem?] at h
    show (y :: r)[((-1 : Int) + ((y :: r).length : Int)).toNat]? = _
    rw [← h]
    congr 1
    rw [List.length_cons]
    omega
theorem ne_nil {xs : List D} (h : SeqAt.shaped (.list xs) = true) : cmpD .NotEq (.list xs) (.list []) = some (!xs.isEmpty) := by
  have e0 : SeqAt.shaped (.list []) = true := by decide +kernel
  show (eqD (.list xs) (.list [])).map _ = _
  have e1 : eqD (.list xs) (.list []) = some (PyData.eqv (.list xs) (.list [])) := by
    show (if _ then _ else _) = _
    rw [if_pos ⟨h, e0⟩]
  rw [e1]
  cases xs <;> rfl
theorem lay_row (s : Stt) (st : Std) (e : Ev) : (encR s st e).canLay0 = true := by
  unfold encR
  rw [PyData.canLay0, PyData.canLayAll0, PyData.canLayAll0, lay_ev, lay_st]
  rfl
theorem layAll_of : ∀ {xs : List D}, (∀ x ∈ xs, x.canLay0 = true) → PyData.canLayAll0 xs = true
  | [], _ => rfl
  | x :: xs, h => by
    rw [PyData.canLayAll0, h x List.mem_cons_self, layAll_of fun y hy => h y (List.mem_cons_of_mem _ hy)]
    rfl
theorem depthAll_of {n : Nat} : ∀ {xs : List D}, (∀ x ∈ xs, x.depth ≤ n) → PyData.depthAll xs ≤ n
  | [], _ => Nat.zero_le _
  | x :: xs, h => by
    rw [PyData.depthAll]
    exact Nat.max_le.mpr ⟨h x List.mem_cons_self, depthAll_of fun y hy => h y (List.mem_cons_of_mem _ hy)⟩
theorem shaped_list {xs : List D} (h : ∀ x ∈ xs, x.canLay0 = true ∧ x.depth ≤ 63) : SeqAt.shaped (.list xs) = true := by
  refine shaped_of ?_ ?_
  · rw [PyData.canLay0]
    exact layAll_of fun x hx => (h x hx).1
  · have := depthAll_of fun x hx => (h x hx).2
    rw [PyData.depth]
    omega
theorem shaped_rows (s : Stt) (st : Std) (l : List Ev) : SeqAt.shaped (.list (l.map (encR s st))) = true := shaped_list fun x hx => by
  obtain ⟨e, _, rfl⟩ := List.mem_map.mp hx
  exact ⟨lay_row s st e, by have := depth_row s st e; omega⟩
theorem ledR_lay {s : Stt} : ∀ {vs : List D} {st : Std} {r : List D × Std}, ledR s st vs = some r → ∀ x ∈ r.1, x.canLay0 = true ∧ x.depth ≤ 63
  | [], st, r, h => by cases h; exact fun x hx => by cases hx
  | v :: vs, st, r, h => by
    unfold ledR at h
    obtain ⟨e, h1, h⟩ := bind_some h
    obtain ⟨r2, h2, rfl⟩ := map_some h
    intro x hx
    rcases List.mem_cons.mp hx with rfl | hx
    · exact ⟨lay_row s st e, by have := depth_row s st e; omega⟩
    · exact ledR_lay h2 x hx
structure HBehind (G : List D) (P : List Df) (I : Ix) : Prop extends HHist G P I where
  needh : P[I.f_need_history]? = some (c_need_history I)
  ish : P[I.f_is_history]? = some (c_is_history I)
  behind : P[I.f_stand_behind]? = some (c_stand_behind I)
  at_ : P[I.f_events_at]? = some (c_events_at I)
section
variable {G : List D} {P : List Df} {I : Ix} {n : Nat} {s : Stt} {st : Std} {hs : List Ev}
theorem isHist_path (p : Path s (beginS s) hs st) (hl : hs.length ≤ 60) : isHist s (.tuple (hs.map Ev.enc)) = true := by
  obtain ⟨rows, h1, _, _⟩ := p.led
  show (decide ((hs.map Ev.enc).length ≤ 60) && (ledR s (beginS s) (hs.map Ev.enc)).isSome) = true
  rw [h1, List.length_map, decide_eq_true hl]
  rfl
theorem needh_ok (hP : HHist G P I) (hn : P[I.f_need_history]? = some (c_need_history I)) (h : s.Ok) (p : Path s (beginS s) hs st) (hl : hs.length ≤ 60) : callF G P (n + 8) I.f_need_history [s.enc, .tuple (hs.map Ev.enc)] = some (.ok (encS st) false []) := by
  have ev : ∀ v ∈ hs.map Ev.enc, EvOk v := fun v hv => by
    obtain ⟨e, _, rfl⟩ := List.mem_map.mp hv
    exact evOk_ev e
  have r1 := need_ok (n := n + 4) hP.toHStreet h
  have r2 := ihv_ok (n := n) hP h (v := .tuple (hs.map Ev.enc)) rfl fun vs e _ => by cases e; exact ev
  rw [isHist_path p hl] at r2
  have r3 := led_ok (n := n + 1) hP h (vs := hs.map Ev.enc) ev (by rw [List.length_map]; omega)
  have r4 := begin_ok (G := G) (n := n + 6) hP.toHEvent h
  obtain ⟨rows, h1, h2, h3⟩ := p.led
  have el : ledD s (hs.map Ev.enc) = .list rows := by unfold ledD; rw [h1]
  rw [el] at r3
  have sh : SeqAt.shaped (.list rows) = true := shaped_list (ledR_lay h1)
  have nn := ne_nil sh
  have i1 : exS G (callF G P (n + 7)) (.exp (.call I.f_need_street (.cons (.var 0) .nil))) [.v s.enc, .v (.tuple (hs.map Ev.enc)), .no] = some (.nx [.v s.enc, .v (.tuple (hs.map Ev.enc)), .no]) := by
    simp [exS, den, dens, getV, endCall, r1]
  have i2 : exS G (callF G P (n + 7)) (.ife (.not (.call I.f_is_history_value (.cons (.var 0) (.cons (.var 1) .nil)))) (.cons .nev .nil) .nil) [.v s.enc, .v (.tuple (hs.map Ev.enc)), .no] = some (.nx [.v s.enc, .v (.tuple (hs.map Ev.enc)), .no]) := by
    simp [exS, exSs, den, dens, getV, boolOf, endCall, r2]
  have i3 : exS G (callF G P (n + 7)) (.set 2 (.call I.f_led (.cons (.var 0) (.cons (.var 1) .nil)))) [.v s.enc, .v (.tuple (hs.map Ev.enc)), .no] = some (.nx [.v s.enc, .v (.tuple (hs.map Ev.enc)), .v (.list rows)]) := by
    simp [exS, den, dens, getV, setV, endCall, r3]
  refine (callF_run (fl := .rt (encS st) false [.v s.enc, .v (.tuple (hs.map Ev.enc)), .v (.list rows)]) hn rfl (run_nx i1 (run_nx i2 (run_nx i3 (run_rt (x_ret ?_)))))).trans rfl
  cases hs with
  | nil =>
    have hr : rows = [] := List.length_eq_zero_iff.mp h2
    subst hr
    cases p
    simp only [List.isEmpty_nil, Bool.not_true] at nn
    simp [den, dens, getV, nn, boolOf, endCall, r4]
  | cons e hs =>
    obtain ⟨z, e', h4, h5⟩ := h3 (by simp)
    have hr : rows.isEmpty = false := by
      cases rows with
      | nil => cases h4
      | cons _ _ => rfl
    rw [hr] at nn
    have q : idxD (.list rows) (.int (-1)) = some (encR s z e') := atI_last h4
    simp [den, dens, getV, nn, boolOf, intOf, q, row1, h5]
theorem behind_ok (hP : HBehind G P I) (h : s.Ok) (p : Path s (beginS s) hs st) (hl : hs.length ≤ 60) : callF G P (n + 9) I.f_stand_behind [s.enc, .tuple (hs.map Ev.enc)] = some (.ok (encS st) false []) := by
  have r := needh_ok (n := n) hP.toHHist hP.needh h p hl
  refine (callF_run (fl := .rt (encS st) false [.v s.enc, .v (.tuple (hs.map Ev.enc))]) hP.behind rfl (run_rt (x_ret ?_))).trans rfl
  have e : startS (c_stand_behind I).N.length (c_stand_behind I).dk [s.enc, .tuple (hs.map Ev.enc)] = [.v s.enc, .v (.tuple (hs.map Ev.enc))] := rfl
  rw [e]
  simp [den, dens, getV, endCall, r]
theorem ish_ok (hP : HBehind G P I) (h : s.Ok) (p : Path s (beginS s) hs st) (hl : hs.length ≤ 60) : callF G P (n + 8) I.f_is_history [s.enc, .tuple (hs.map Ev.enc)] = some (.ok (.bool true) false []) := by
  have ev : ∀ v ∈ hs.map Ev.enc, EvOk v := fun v hv => by
    obtain ⟨e, _, rfl⟩ := List.mem_map.mp hv
    exact evOk_ev e
  have r1 := need_ok (n := n + 4) hP.toHStreet h
  have r2 := ihv_ok (n := n) hP.toHHist h (v := .tuple (hs.map Ev.enc)) rfl fun vs e _ => by cases e; exact ev
  rw [isHist_path p hl] at r2
  refine (callF_run (fl := .rt (.bool true) false [.v s.enc, .v (.tuple (hs.map Ev.enc))]) hP.ish rfl (run_nx (s1 := [.v s.enc, .v (.tuple (hs.map Ev.enc))]) ?_ (run_rt (x_ret ?_)))).trans rfl
  · simp [exS, den, dens, getV, endCall, r1, startS, c_is_history]
  · simp [den, dens, getV, endCall, r2]
theorem evs_lc {F : Nat → List D → Option CR} {fi : Nat} {xs : SS} {w : Wk} {i : Nat} {l : List Ev} (hw : denw G F w xs = some (l.map (encR s st), xs)) (hl : l.length ≤ lim) (hi : i < xs.length) (hx : xs[i]? = some .no) :
    den G F (.lc w [i] true [i] .no (.idx (.var i) (.cst (.int 0)))) xs = some (.list (l.map Ev.enc), xs) := by
  have w0 : wipeS xs [i] = xs := by
    show xs.set i .no = xs
    exact List.ext_getElem? fun j => by
      rw [List.getElem?_set]
      by_cases c : i = j
      · subst c; rw [if_pos rfl, if_pos hi, hx]
      · rw [if_neg c]
  have gi : ∀ x : D, getV (xs.set i (.v x)) i = some x := fun x => by
    unfold getV
    rw [List.getElem?_set, if_pos rfl, if_pos hi]
  rw [den_lc_pure (xs := l.map (encR s st)) (fun x => xs.set i (.v x)) (fun _ => true) (fun x => match x with | .tuple (z :: _) => z | _ => .none) hw (by rw [List.length_map]; exact hl) (fun x _ => ?_) (fun x hx => rfl) (fun x hx2 _ => ?_) (fun x _ => ?_) ?_]
  · rw [List.filter_eq_self.mpr (fun _ _ => rfl), List.map_map]
    rfl
  · rw [w0]
    show xs.set i (keepV xs[i]?) = xs
    rw [hx]
    exact w0
  · rw [w0]
    show setV xs i x = _
    unfold setV
    rw [if_pos hi]
  · obtain ⟨z, _, rfl⟩ := List.mem_map.mp hx2
    simp [den, gi, row0]
    rfl
  · show (xs.set i (.v x)).set i .no = xs.set i .no
    rw [List.set_set]
theorem at_ok (hP : HBehind G P I) (h : s.Ok) (p : Path s (beginS s) hs st) (hl : hs.length ≤ 60) : callF G P (n + 9) I.f_events_at [s.enc, .tuple (hs.map Ev.enc)] = some (.ok (.list ((steps s st).map Ev.enc)) false []) := by
  have hv := p.vd (beginS_vd h)
  have r := needh_ok (n := n) hP.toHHist hP.needh h p hl
  have r2 := rows_ok (n := n + 4) hP.toHEvent hv
  have l1 := steps_len s st
  have l2 := hv.m
  refine (callF_run (fl := .rt (.list ((steps s st).map Ev.enc)) false [.v s.enc, .v (.tuple (hs.map Ev.enc)), .v (encS st), .no]) hP.at_ rfl (run_nx (s1 := [.v s.enc, .v (.tuple (hs.map Ev.enc)), .v (encS st), .no]) ?_ (run_rt (x_ret ?_)))).trans rfl
  · simp [exS, den, dens, getV, setV, endCall, r, startS, c_events_at]
  · unfold c_events_at_e0
    refine evs_lc (fi := 0) (s := s) (st := st) ?_ (by unfold lim; omega) (by show 3 < 4; omega) rfl
    simp [denw, den, dens, getV, endCall, r2]
end
end Pv

/-! Dicts whose keys tell things apart; the stands that come about, plainly. -/
namespace Pv
open PySem L2
/-- things as keys -/
structure KEnc (α : Type) where
  enc : α → D
  key : α → NestedKey
  kd : ∀ a, keyD (enc a) = some (key a)
  inj : ∀ a b, key a = key b → a = b
  ok : (∀ a, tupKey (enc a) = true) ∨ (∀ a, tupKey (enc a) = false ∧ isStrD (enc a) = true)
section
variable {α : Type} [DecidableEq α] (E : KEnc α)
def kvE (l : List (α × D)) : List (D × D) := l.map fun p => (E.enc p.1, p.2)
variable {E}
theorem kv_app (l m : List (α × D)) : kvE E (l ++ m) = kvE E l ++ kvE E m := List.map_append
theorem keyOk_E (l : List (α × D)) (a : α) : keyOk (kvE E l) (E.enc a) = some (E.key a) := by
  unfold keyOk kvE
  rcases E.ok with h | h
  · rw [if_pos (h a), if_pos]
    · exact E.kd a
    · rw [List.all_eq_true]
      intro p hp
      obtain ⟨q, _, rfl⟩ := List.mem_map.mp hp
      exact h _
  · rw [if_neg (by rw [(h a).1]; decide), if_pos (h a).2, if_pos]
    · exact E.kd a
    · rw [List.all_eq_true]
      intro p hp
      obtain ⟨q, _, rfl⟩ := List.mem_map.mp hp
      exact (h _).2
theorem key_iff (a b : α) : (keyD (E.enc b) = some (E.key a)) ↔ b = a := by
  rw [E.kd]
  constructor
  · intro h; injection h with h; exact E.inj _ _ h
  · intro h; rw [h]
theorem kvLook_E (l : List (α × D)) (a : α) : kvLook (kvE E l) (E.key a) = (l.find? fun p => decide (p.1 = a)).map (·.2) := by
  unfold kvLook kvE
  induction l with
  | nil => rfl
  | cons p l ih =>
    rw [List.map_cons, List.find?_cons, List.find?_cons]
    by_cases c : p.1 = a
    · rw [decide_eq_true c, decide_eq_true ((key_iff a p.1).mpr c)]
      rfl
    · rw [decide_eq_false c, decide_eq_false (fun z => c ((key_iff a p.1).mp z))]
      exact ih
theorem find_isSome {l : List (α × D)} {a : α} : ((l.find? fun p => decide (p.1 = a)).map (·.2)).isSome = decide (a ∈ l.map (·.1)) := by
  rw [Option.isSome_map, Bool.eq_iff_iff, List.find?_isSome, decide_eq_true_eq, List.mem_map]
  simp
theorem dIn_E (l : List (α × D)) (a : α) : dInD (kvE E l) (E.enc a) = some (decide (a ∈ l.map (·.1))) := by
  unfold dInD
  rw [keyOk_E]
  show some (kvLook _ _).isSome = _
  rw [kvLook_E, find_isSome]
theorem dGet_E (l : List (α × D)) (a : α) : dGetD (kvE E l) (E.enc a) = (l.find? fun p => decide (p.1 = a)).map (·.2) := by
  unfold dGetD
  rw [keyOk_E]
  exact kvLook_E l a
theorem dPut_new {l : List (α × D)} {a : α} {v : D} (h : a ∉ l.map (·.1)) (hl : l.length < 100000) : dPutD (kvE E l) (E.enc a) v = some (kvE E (l ++ [(a, v)])) := by
  unfold dPutD
  rw [keyOk_E]
  show (if (kvE E l).length < 100000 then _ else _) = _
  rw [if_pos (by unfold kvE; rw [List.length_map]; exact hl), if_neg, kv_app]
  · rfl
  · rw [kvLook_E, find_isSome, decide_eq_false h]
    decide
theorem dPut_old {l : List (α × D)} {a : α} {v : D} (h : a ∈ l.map (·.1)) (hl : l.length < 100000) : dPutD (kvE E l) (E.enc a) v = some (kvE E (l.map fun p => if p.1 = a then (p.1, v) else p)) := by
  unfold dPutD
  rw [keyOk_E]
  show (if (kvE E l).length < 100000 then _ else _) = _
  rw [if_pos (by unfold kvE; rw [List.length_map]; exact hl), if_pos]
  · congr 1
    unfold kvRepl kvE
    rw [List.map_map, List.map_map]
    refine List.map_congr_left fun p _ => ?_
    show (if keyD (E.enc p.1) = some (E.key a) then (E.enc p.1, v) else (E.enc p.1, p.2)) = (E.enc (if p.1 = a then (p.1, v) else p).1, (if p.1 = a then (p.1, v) else p).2)
    by_cases c : p.1 = a
    · rw [if_pos c, if_pos ((key_iff a p.1).mpr c)]
    · rw [if_neg c, if_neg (fun z => c ((key_iff a p.1).mp z))]
  · rw [kvLook_E, find_isSome, decide_eq_true h]
/-- a dict whose values are told by the keys -/
abbrev kvF (E : KEnc α) (f : α → D) (ks : List α) : List (D × D) := kvE E (ks.map fun a => (a, f a))
theorem keys_kvF (f : α → D) (ks : List α) : (ks.map fun a => (a, f a)).map (·.1) = ks := by rw [List.map_map]; exact List.map_id _
theorem fIn (f : α → D) (ks : List α) (a : α) : dInD (kvF E f ks) (E.enc a) = some (decide (a ∈ ks)) := by rw [dIn_E, keys_kvF]
theorem find_F {f : α → D} {a : α} : ∀ {ks : List α}, a ∈ ks → ((ks.map fun b => (b, f b)).find? fun p => decide (p.1 = a)) = some (a, f a)
  | b :: ks, h => by
    rw [List.map_cons, List.find?_cons]
    by_cases c : b = a
    · rw [decide_eq_true (show (b, f b).1 = a from c), c]
    · rw [decide_eq_false (show ¬ (b, f b).1 = a from c)]
      exact find_F ((List.mem_cons.mp h).resolve_left fun z => c z.symm)
theorem fGet {f : α → D} {ks : List α} {a : α} (h : a ∈ ks) : dGetD (kvF E f ks) (E.enc a) = some (f a) := by
  rw [dGet_E, find_F h]
  rfl
theorem fPut {f : α → D} {ks : List α} {a : α} (h : a ∉ ks) (hl : ks.length < 100000) : dPutD (kvF E f ks) (E.enc a) (f a) = some (kvF E f (ks ++ [a])) := by
  rw [dPut_new (by rw [keys_kvF]; exact h) (by rw [List.length_map]; exact hl)]
  unfold kvF
  rw [List.map_append]
  rfl
theorem fPut_old {f : α → D} {ks : List α} {a : α} (h : a ∈ ks) (hl : ks.length < 100000) : dPutD (kvF E f ks) (E.enc a) (f a) = some (kvF E f ks) := by
  rw [dPut_old (by rw [keys_kvF]; exact h) (by rw [List.length_map]; exact hl), List.map_map]
  congr 2
  refine List.map_congr_left fun b _ => ?_
  show (if b = a then (b, f a) else (b, f b)) = (b, f b)
  by_cases c : b = a
  · rw [if_pos c, c]
  · rw [if_neg c]
theorem keys_kvE (f : α → D) (ks : List α) : (kvF E f ks).map (·.1) = ks.map E.enc := by
  unfold kvF kvE
  rw [List.map_map, List.map_map]
  rfl
theorem len_kvF (f : α → D) (ks : List α) : (kvF E f ks).length = ks.length := by
  unfold kvF kvE
  rw [List.length_map, List.length_map]
theorem kvF_congr {f g : α → D} {ks : List α} (h : ∀ a ∈ ks, f a = g a) : kvF E f ks = kvF E g ks := by
  unfold kvF
  rw [List.map_congr_left fun a ha => by rw [h a ha]]
end
/-! stands as keys -/
def kH (t : Hm) : NestedKey := .tup [.num (if t.inn then 1 else 0), .text (ownW t.own), .text t.spr.w]
def kS (st : Std) : NestedKey := .tup (st.map kH)
theorem keyDs_map {α : Type} {f : α → D} {k : α → NestedKey} (h : ∀ a, keyD (f a) = some (k a)) : ∀ l : List α, keyDs (l.map f) = some (l.map k)
  | [] => by simp [keyDs]
  | a :: l => by simp [keyDs, h, keyDs_map h l]
theorem keyD_tup {α : Type} {f : α → D} {k : α → NestedKey} (h : ∀ a, keyD (f a) = some (k a)) (l : List α) : keyD (.tuple (l.map f)) = some (.tup (l.map k)) := by
  simp [keyD, keyDs_map h l]
theorem keyD_hm (t : Hm) : keyD t.enc = some (kH t) := by
  simp [Hm.enc, keyD, keyDs, kH]
theorem keyD_st (st : Std) : keyD (encS st) = some (kS st) := keyD_tup keyD_hm st
theorem ownW_inj {a b : Bool} (h : ownW a = ownW b) : a = b := by
  cases a <;> cases b <;> first | rfl | exact absurd h (by decide)
theorem spw_inj {a b : Spw} (h : a.w = b.w) : a = b := by
  cases a <;> cases b <;> first | rfl | exact absurd h (by decide)
theorem kH_inj {a b : Hm} (h : kH a = kH b) : a = b := by
  obtain ⟨a1, a2, a3⟩ := a
  obtain ⟨b1, b2, b3⟩ := b
  simp only [kH, NestedKey.tup.injEq, List.cons.injEq, NestedKey.num.injEq, NestedKey.text.injEq, and_true] at h
  obtain ⟨h1, h2, h3⟩ := h
  rw [ownW_inj h2, spw_inj h3]
  cases a1 <;> cases b1 <;> first | rfl | exact absurd h1 (by simp)
theorem kS_inj (a b : Std) (h : kS a = kS b) : a = b := by
  unfold kS at h
  injection h with h
  exact map_inj kH_inj h
theorem depthAll_map {α : Type} {k : α → NestedKey} {n : Nat} (h : ∀ a, (k a).depth ≤ n) : ∀ l : List α, NestedKey.depthAll (l.map k) ≤ n
  | [] => by simp [NestedKey.depthAll]
  | a :: l => by
    rw [List.map_cons, NestedKey.depthAll]
    exact Nat.max_le.mpr ⟨h a, depthAll_map h l⟩
theorem tupKey_of {xs : List D} {k : NestedKey} (h : keyD (.tuple xs) = some k) (hd : k.depth ≤ 8) : tupKey (.tuple xs) = true := by
  unfold tupKey
  rw [h]
  simp [isTupD, hd]
theorem kH_depth (t : Hm) : (kH t).depth ≤ 1 := by simp [kH, NestedKey.depth, NestedKey.depthAll]
theorem kS_depth (st : Std) : (kS st).depth ≤ 2 := by
  unfold kS
  rw [NestedKey.depth]
  exact Nat.succ_le_succ (depthAll_map kH_depth st)
def kStd : KEnc Std where
  enc := encS
  key := kS
  kd := keyD_st
  inj := kS_inj
  ok := .inl fun st => tupKey_of (keyD_st st) (Nat.le_trans (kS_depth st) (by decide))
/-! ### the stands that come about -/
def Kd.isGo : Kd → Bool
  | .go _ => true | _ => false
def stepsL (s : Stt) (lot : List Nat) (st : Std) : List Ev := (steps s st).filter fun e => !e.kd.isGo || !decide (e.k ∈ lot)
theorem stepsL_mem {s : Stt} {lot : List Nat} {st : Std} {e : Ev} (h : e ∈ stepsL s lot st) : e ∈ steps s st := (List.mem_filter.mp h).1
theorem stepsL_len (s : Stt) (lot : List Nat) (st : Std) : (stepsL s lot st).length ≤ 6 * st.length := Nat.le_trans (List.length_filter_le _ _) (steps_len s st)
theorem stepsL_nil (s : Stt) (st : Std) : stepsL s [] st = steps s st := by
  unfold stepsL
  refine List.filter_eq_self.mpr fun e _ => ?_
  simp
abbrev Wy := Std × List Ev
section
variable (s : Stt) (lot : List Nat)
/-- what follows a stand that is reached on a way -/
def nextW (x : Wy) : List Wy := (stepsL s lot x.1).map fun e => (act s x.1 e, x.2 ++ [e])
def gTurn (q : List Wy × List Wy) (x : Wy) : List Wy × List Wy := if x.1 ∈ q.1.map (·.1) then q else (q.1 ++ [x], q.2 ++ nextW s lot x)
def gLevel (W L : List Wy) : List Wy × List Wy := L.foldl (gTurn s lot) (W, [])
def gLoop : Nat → List Wy → List Wy → Option (List Wy)
  | 0, _, _ => none
  | _ + 1, W, [] => some W
  | n + 1, W, x :: L => gLoop n (gLevel s lot W (x :: L)).1 (gLevel s lot W (x :: L)).2
end
/-- homes as they may be, of a stand -/
def allH : List Hm := [⟨true, false, .place⟩, ⟨true, false, .none⟩, ⟨true, false, .inside⟩, ⟨true, false, .gone⟩] ++ [true, false].flatMap fun b => [Spw.place, .none, .inside, .pocket, .gone].map fun c => ⟨false, b, c⟩
def allT : Nat → List Std
  | 0 => [[]]
  | m + 1 => (allT m).flatMap fun t => allH.map fun h => h :: t
theorem allT_mem : ∀ {st : Std}, (∀ t ∈ st, t.inn = true → t.own = false ∧ t.spr ≠ .pocket) → st ∈ allT st.length
  | [], _ => List.mem_singleton.mpr rfl
  | t :: st, h => by
    refine List.mem_flatMap.mpr ⟨st, allT_mem fun u hu => h u (List.mem_cons_of_mem _ hu), List.mem_map.mpr ⟨t, ?_, rfl⟩⟩
    have q := h t List.mem_cons_self
    obtain ⟨a, b, c⟩ := t
    cases a
    · cases b <;> cases c <;> decide
    · obtain ⟨q1, q2⟩ := q rfl
      have q1 : b = false := q1
      subst q1
      cases c <;> first | decide | exact absurd rfl q2
theorem vd_allT {s : Stt} {st : Std} (h : Vd s st) : st ∈ allT 2 ∨ st ∈ allT 3 := by
  have q : st ∈ allT st.length := allT_mem fun t ht hi => by
    obtain ⟨k, hk, e⟩ := List.mem_iff_getElem.mp ht
    have := ((h.tri k hk).1)
    unfold tA at this
    rw [List.getD_eq_getElem?_getD, List.getElem?_eq_getElem hk] at this
    rw [e] at this
    exact this hi
  rcases h.m with m | m <;> rw [m] at q
  · exact .inl q
  · exact .inr q
theorem len_le_of_sub {α : Type} [DecidableEq α] : ∀ {l r : List α}, l.Nodup → (∀ x ∈ l, x ∈ r) → l.length ≤ r.length
  | [], r, _, _ => Nat.zero_le _
  | x :: l, r, h, hs => by
    rw [List.nodup_cons] at h
    have hx := hs x List.mem_cons_self
    have ih := len_le_of_sub (l := l) (r := r.erase x) h.2 fun y hy => (List.mem_erase_of_ne fun z => h.1 (by rw [← z]; exact hy)).mpr (hs y (List.mem_cons_of_mem _ hy))
    rw [List.length_erase_of_mem hx] at ih
    have : 0 < r.length := List.length_pos_of_mem hx
    rw [List.length_cons]
    omega
theorem allT_len : (allT 2).length = 196 ∧ (allT 3).length = 2744 := by decide +kernel
theorem vd_len {s : Stt} {l : List Std} (hn : l.Nodup) (h : ∀ st ∈ l, Vd s st) : l.length ≤ 2940 := by
  have := len_le_of_sub (r := allT 2 ++ allT 3) hn fun st hs => List.mem_append.mpr (vd_allT (h st hs))
  rw [List.length_append, allT_len.1, allT_len.2] at this
  exact this
end Pv

/-! Loops over lists of things; what holds of the stands that come about. -/
namespace Pv
open PySem L2
section
variable {G : List D} {F : Nat → List D → Option CR}
theorem den_lc_map {α : Type} {l : List α} {w : Wk} {tg own : List Nat} {one : Bool} {c : Exo} {e : Ex} {st : SS} (f : α → D) (g : α → SS) (cd : α → Bool) (v : α → D) (hw : denw G F w st = some (l.map f, st)) (hl : l.length ≤ lim)
    (ha : ∀ a ∈ l, asgT one tg (f a) (wipeS st own) = some (g a)) (ht : ∀ a ∈ l, dent G F c (g a) = some (cd a, g a)) (he : ∀ a ∈ l, cd a = true → den G F e (g a) = some (v a, g a)) (hg : ∀ a ∈ l, wipeS (g a) own = wipeS st own) (hb : backS st (wipeS st own) own = st) :
    den G F (.lc w tg one own c e) st = some (.list ((l.filter cd).map v), st) := by
  have lp : ∀ {l : List α}, (∀ a ∈ l, asgT one tg (f a) (wipeS st own) = some (g a)) → (∀ a ∈ l, dent G F c (g a) = some (cd a, g a)) → (∀ a ∈ l, cd a = true → den G F e (g a) = some (v a, g a)) → (∀ a ∈ l, wipeS (g a) own = wipeS st own) →
      lcLoop tg one own (dent G F c) (den G F e) (l.map f) (wipeS st own) = some ((l.filter cd).map v, wipeS st own) := by
    intro l
    induction l with
    | nil => intros; rfl
    | cons x xs ih =>
      intro ha ht he hg
      have ih := ih (fun y h => ha y (List.mem_cons_of_mem _ h)) (fun y h => ht y (List.mem_cons_of_mem _ h)) (fun y h => he y (List.mem_cons_of_mem _ h)) (fun y h => hg y (List.mem_cons_of_mem _ h))
      have m := List.mem_cons_self (a := x) (l := xs)
      have eh := hg x m
      rw [List.map_cons]
      unfold lcLoop
      rw [ha x m]
      show ((dent G F c (g x)).bind _) = _
      rw [ht x m]
      cases hc : cd x with
      | false =>
        show lcLoop tg one own _ _ (xs.map f) (wipeS (g x) own) = _
        rw [eh, ih, List.filter_cons, hc]
        rfl
      | true =>
        show ((den G F e (g x)).bind _) = _
        rw [he x m hc]
        show ((lcLoop tg one own _ _ (xs.map f) (wipeS (g x) own)).bind _) = _
        rw [eh, ih, List.filter_cons, hc]
        rfl
  unfold den
  rw [hw]
  show (if (l.map f).length ≤ lim then _ else _) = _
  rw [if_pos (by rw [List.length_map]; exact hl), lp ha ht he hg]
  show some (_, backS st (wipeS st own) own) = _
  rw [hb]
/-- a loop that makes one state of another -/
theorem forLoop_fold {α τ : Type} (f : α → D) {one : Bool} {tg : List Nat} {b : SS → Option Fl} (S : τ → List α → SS → Prop) (step : τ → α → τ) : ∀ {l : List α} {q : τ} {st : SS}, S q l st →
    (∀ a r q st, S q (a :: r) st → ∃ s1 s2, asgT one tg (f a) st = some s1 ∧ (b s1 = some (.nx s2) ∨ b s1 = some (.ct s2)) ∧ S (step q a) r s2) → ∃ st', forLoop one tg b (l.map f) st = some (.nx st') ∧ S (l.foldl step q) [] st'
  | [], q, st, h, _ => ⟨st, rfl, h⟩
  | a :: l, q, st, h, hs => by
    obtain ⟨s1, s2, e1, e2, h2⟩ := hs a l q st h
    obtain ⟨st', e3, h3⟩ := forLoop_fold f S step h2 hs
    refine ⟨st', ?_, h3⟩
    rw [List.map_cons]
    unfold forLoop
    rw [e1]
    show ((b s1).bind _) = _
    rcases e2 with e2 | e2 <;> rw [e2] <;> exact e3
theorem wh_go {c : SS → Option (Bool × SS)} {b : SS → Option Fl} {n : Nat} {st s1 s2 : SS} (h : c st = some (true, s1)) (h2 : b s1 = some (.nx s2)) : whLoop c b (n + 1) st = whLoop c b n s2 := by
  simp [whLoop, h, h2]
theorem wh_end {c : SS → Option (Bool × SS)} {b : SS → Option Fl} {n : Nat} {st s1 : SS} (h : c st = some (false, s1)) : whLoop c b (n + 1) st = some (.nx s1) := by
  simp [whLoop, h]
theorem run_wh {c : Ex} {b : Sms} {st s1 : SS} (h : whLoop (fun st => (den G F c st).bind boolOf) (exSs G F b) wfuel st = some (.nx s1)) : exS G F (.whl c b) st = some (.nx s1) := by
  unfold exS
  exact h
end
/-- a way from the first stand, while some stay in -/
inductive PathL (s : Stt) (lot : List Nat) : List Ev → Std → Prop
  | nil : PathL s lot [] (beginS s)
  | snoc {hs st e} : PathL s lot hs st → e ∈ stepsL s lot st → PathL s lot (hs ++ [e]) (act s st e)
section
variable {s : Stt} {lot : List Nat}
theorem PathL.vd (ok : s.Ok) {hs : List Ev} {st : Std} (p : PathL s lot hs st) : Vd s st := by
  induction p with
  | nil => exact beginS_vd ok
  | snoc _ he ih => exact ih.act (stepsL_mem he)
/-- found, to be looked at, for later -/
structure GI (s : Stt) (lot : List Nat) (W R N : List Wy) : Prop where
  nd : (W.map (·.1)).Nodup
  path : ∀ x ∈ W ++ R ++ N, PathL s lot x.2 x.1
  cl : ∀ x ∈ W, ∀ e ∈ stepsL s lot x.1, act s x.1 e ∈ (W ++ R ++ N).map (·.1)
  bg : beginS s ∈ (W ++ R ++ N).map (·.1)
theorem mem_next {x y : Wy} : y ∈ nextW s lot x ↔ ∃ e ∈ stepsL s lot x.1, y = (act s x.1 e, x.2 ++ [e]) := by
  unfold nextW
  rw [List.mem_map]
  constructor
  · rintro ⟨e, h, rfl⟩; exact ⟨e, h, rfl⟩
  · rintro ⟨e, h, rfl⟩; exact ⟨e, h, rfl⟩
theorem GI.turn {W R N : List Wy} {x : Wy} (h : GI s lot W (x :: R) N) : GI s lot (gTurn s lot (W, N) x).1 R (gTurn s lot (W, N) x).2 := by
  unfold gTurn
  by_cases c : x.1 ∈ W.map (·.1)
  · rw [if_pos c]
    have sub : ∀ z, z ∈ (W ++ (x :: R) ++ N).map (·.1) → z ∈ (W ++ R ++ N).map (·.1) := fun z hz => by
      simp only [List.map_append, List.map_cons, List.mem_append, List.mem_cons] at hz ⊢
      rcases hz with (h | h | h) | h
      · exact .inl (.inl h)
      · exact .inl (.inl (by rw [h]; exact c))
      · exact .inl (.inr h)
      · exact .inr h
    refine ⟨h.nd, fun y hy => h.path y ?_, fun y hy e he => sub _ (h.cl y hy e he), sub _ h.bg⟩
    simp only [List.mem_append, List.mem_cons] at hy ⊢
    rcases hy with (h | h) | h
    · exact .inl (.inl h)
    · exact .inl (.inr (.inr h))
    · exact .inr h
  · rw [if_neg c]
    have px := h.path x (by simp)
    have sub : ∀ z, z ∈ (W ++ (x :: R) ++ N).map (·.1) → z ∈ (W ++ [x] ++ R ++ (N ++ nextW s lot x)).map (·.1) := fun z hz => by
      simp only [List.map_append, List.map_cons, List.map_nil, List.mem_append, List.mem_cons] at hz ⊢
      rcases hz with (h | h | h) | h
      · exact .inl (.inl (.inl h))
      · exact .inl (.inl (.inr (.inl h)))
      · exact .inl (.inr h)
      · exact .inr (.inl h)
    refine ⟨?_, fun y hy => ?_, fun y hy e he => ?_, sub _ h.bg⟩
    · rw [List.map_append, List.map_cons, List.map_nil, List.nodup_append]
      refine ⟨h.nd, by simp, fun a ha b hb => ?_⟩
      rw [List.mem_singleton.mp hb]
      exact fun z => c (by rw [← z]; exact ha)
    · simp only [List.mem_append, List.mem_cons, List.mem_nil_iff, or_false] at hy
      rcases hy with ((h1 | h1) | h1) | h1 | h1
      · exact h.path y (by simp [h1])
      · rw [h1]; exact px
      · exact h.path y (by simp [h1])
      · exact h.path y (by simp [h1])
      · obtain ⟨e, he, rfl⟩ := mem_next.mp h1
        exact .snoc px he
    · rcases List.mem_append.mp hy with hy | hy
      · exact sub _ (h.cl y hy e he)
      · rw [List.mem_singleton.mp hy] at he ⊢
        exact List.mem_map.mpr ⟨_, List.mem_append_right _ (List.mem_append_right _ (mem_next.mpr ⟨e, he, rfl⟩)), rfl⟩
theorem GI.rot {W N : List Wy} (h : GI s lot W [] N) : GI s lot W N [] := by
  refine ⟨h.nd, fun x hx => h.path x (by simpa using hx), fun x hx e he => ?_, ?_⟩
  · have := h.cl x hx e he
    simpa using this
  · have := h.bg
    simpa using this
theorem PathL.len (ok : s.Ok) {hs : List Ev} {st : Std} (p : PathL s lot hs st) : st.length ≤ 3 ∧ (stepsL s lot st).length ≤ 18 := by
  have := (p.vd ok).m
  have l := stepsL_len s lot st
  omega
theorem GI.fold (ok : s.Ok) {W0 : List Wy} : ∀ {R W N : List Wy}, GI s lot W R N → N.length + 18 * W0.length ≤ 18 * W.length →
    GI s lot (R.foldl (gTurn s lot) (W, N)).1 [] (R.foldl (gTurn s lot) (W, N)).2 ∧ (R.foldl (gTurn s lot) (W, N)).2.length + 18 * W0.length ≤ 18 * (R.foldl (gTurn s lot) (W, N)).1.length
  | [], W, N, h, hl => ⟨h, hl⟩
  | x :: R, W, N, h, hl => by
    rw [List.foldl_cons]
    have hx := ((h.path x (by simp)).len ok).2
    have ht := h.turn
    have e : gTurn s lot (W, N) x = ((gTurn s lot (W, N) x).1, (gTurn s lot (W, N) x).2) := rfl
    rw [e]
    refine GI.fold ok ht ?_
    unfold gTurn
    split
    · exact hl
    · show (N ++ nextW s lot x).length + _ ≤ 18 * (W ++ [x]).length
      have : (nextW s lot x).length = (stepsL s lot x.1).length := List.length_map _
      rw [List.length_append, List.length_append, this, List.length_singleton]
      omega
theorem GI.wlen (ok : s.Ok) {W R N : List Wy} (h : GI s lot W R N) : W.length ≤ 2940 := by
  have := vd_len h.nd fun st hst => by
    obtain ⟨x, hx, rfl⟩ := List.mem_map.mp hst
    exact (h.path x (by simp [hx])).vd ok
  rwa [List.length_map] at this
theorem GI.level (ok : s.Ok) {W L : List Wy} (h : GI s lot W L []) : GI s lot (gLevel s lot W L).1 (gLevel s lot W L).2 [] ∧ (gLevel s lot W L).2.length + 18 * W.length ≤ 18 * (gLevel s lot W L).1.length := by
  obtain ⟨h1, h2⟩ := GI.fold ok (W0 := W) h (by simp)
  exact ⟨h1.rot, h2⟩
theorem gLoop_total (ok : s.Ok) : ∀ (n : Nat) {W L : List Wy}, GI s lot W L [] → 2942 ≤ n + W.length → ∃ W', gLoop s lot n W L = some W' ∧ GI s lot W' [] []
  | 0, W, L, h, hn => by have := h.wlen ok; omega
  | n + 1, W, [], h, hn => ⟨W, rfl, h⟩
  | n + 1, W, x :: L, h, hn => by
    obtain ⟨h1, h2⟩ := h.level ok
    show ∃ W', gLoop s lot n (gLevel s lot W (x :: L)).1 (gLevel s lot W (x :: L)).2 = some W' ∧ _
    by_cases c : W.length < (gLevel s lot W (x :: L)).1.length
    · exact gLoop_total ok n h1 (by omega)
    · have e : (gLevel s lot W (x :: L)).2 = [] := List.length_eq_zero_iff.mp (by omega)
      rw [e] at h1 ⊢
      have := h.wlen ok
      obtain ⟨m, rfl⟩ : ∃ m, n = m + 1 := ⟨n - 1, by omega⟩
      exact ⟨_, rfl, h1⟩
theorem GI.start (s : Stt) (lot : List Nat) : GI s lot [] [(beginS s, [])] [] :=
  ⟨List.nodup_nil, fun x hx => (by simp at hx; subst hx; exact .nil), fun x hx => (by cases hx), by simp⟩
/-- all stands that come about, nearest first, each with the way to it -/
theorem graph_ex (ok : s.Ok) (lot : List Nat) : ∃ W, gLoop s lot wfuel [] [(beginS s, [])] = some W ∧ GI s lot W [] [] := gLoop_total ok wfuel (GI.start s lot) (by unfold wfuel; omega)
end
end Pv

/-! The law's stands along a history; its drawing of a history. -/
namespace Pv
open PySem L2
structure HLhist (P : List Df) (I : Ix) : Prop extends HLev P I where
  led : (P[I.f_l_led]?).map (fun d => (d.N.length, d.np, d.dk, d.body)) = some (5, 2, false, (c_l_led I).body)
  hist : P[I.f_l_history]? = some (c_l_history I)
section
variable {G : List D} {P : List Df} {I : Ix} {n : Nat} {s : Stt} {st st' : Std} {hs : List Ev}
theorem lled_loop (hP : HLev P I) (a b : Sl) : ∀ (hs : List Ev) (st st' : Std) (ds : List D) (x : Sl), Vd s st → Path s st hs st' → ds.length + hs.length ≤ 1000 →
    ∃ y, forLoop true [3] (exSs G (callF G P (n + 4)) (c_l_led_b1 I)) (hs.map Ev.enc) [.v s.enc, b, .own (ds ++ [encS st]), x, .no] = some (.nx [.v s.enc, b, .own (ds ++ (standsL s st hs).map encS), y, .no])
  | [], st, st', ds, x, h, p, hl => ⟨x, rfl⟩
  | e :: hs, st, st', ds, x, h, p, hl => by
    cases p with
    | cons he p =>
    have r := lsteps_ok (G := G) (n := n) hP h
    have l1 := steps_len s st
    have l2 := h.m
    have lst : idxD (.list (ds ++ [encS st])) (.int (-1)) = some (encS st) := by
      show atI _ _ = _
      refine atI_last ?_
      rw [List.getLast?_append]
      rfl
    have lc : den G (callF G P (n + 4)) (c_l_led_e0 I) [.v s.enc, b, .own (ds ++ [encS st]), .v e.enc, .no] = some (.list (((steps s st).filter fun y => decide (y = e)).map (encR s st)), [.v s.enc, b, .own (ds ++ [encS st]), .v e.enc, .no]) := by
      unfold c_l_led_e0
      rw [den_lc_pure (xs := (steps s st).map (encR s st)) (fun z => [.v s.enc, b, .own (ds ++ [encS st]), .v e.enc, .v z]) (fun z => match z with | .tuple (y :: _) => PyData.eqv y e.enc | _ => false) id ?_ (by rw [List.length_map]; unfold lim; omega) (fun z _ => rfl) (fun z hz => ?_) (fun z _ _ => rfl) (fun z _ => rfl) rfl]
      · rw [List.filter_map, List.map_id]
        have : ((fun z => match z with | PyData.tuple (y :: _) => PyData.eqv y e.enc | _ => false) ∘ encR s st) = fun y => decide (y = e) := by
          funext y
          exact eqv_ev y e
        rw [this]
      · simp [denw, den, dens, getV, getO, intOf, lst, endCall, r, wipeS]
      · obtain ⟨y, _, rfl⟩ := List.mem_map.mp hz
        simp [dent, den, getV, row0, ceq, eqD_ev, boolOf]
        exact (eqv_ev y e).symm
    have hd := head_at (s := s) (st := st) he
    have q : den G (callF G P (n + 4)) (.idx (.idx (c_l_led_e0 I) (.cst (.int 0))) (.cst (.int 1))) [.v s.enc, b, .own (ds ++ [encS st]), .v e.enc, .no] = some (encS (act s st e), [.v s.enc, b, .own (ds ++ [encS st]), .v e.enc, .no]) := e_idx (e_idx lc rfl hd) rfl row1
    have ex : exSs G (callF G P (n + 4)) (c_l_led_b1 I) [.v s.enc, b, .own (ds ++ [encS st]), .v e.enc, .no] = some (.nx [.v s.enc, b, .own (ds ++ [encS st] ++ [encS (act s st e)]), .v e.enc, .no]) := by
      refine run_nx (s1 := [.v s.enc, b, .own (ds ++ [encS st] ++ [encS (act s st e)]), .v e.enc, .no]) ?_ rfl
      have hb : (ds ++ [encS st]).length < lim := by rw [List.length_append]; simp at hl ⊢; unfold lim; omega
      unfold exS
      show (some _).bind _ = _
      show ((den G (callF G P (n + 4)) (.idx (.idx (c_l_led_e0 I) (.cst (.int 0))) (.cst (.int 1))) [.v s.enc, b, .own (ds ++ [encS st]), .v e.enc, .no]).bind _) = _
      rw [q]
      show (if (ds ++ [encS st]).length < lim then _ else _) = _
      rw [if_pos hb]
      rfl
    obtain ⟨y, ih⟩ := lled_loop hP a b hs (act s st e) st' (ds ++ [encS st]) (.v e.enc) (h.act he) p (by simp at hl ⊢; omega)
    refine ⟨y, ?_⟩
    rw [List.map_cons]
    show ((exSs G (callF G P (n + 4)) (c_l_led_b1 I) [.v s.enc, b, .own (ds ++ [encS st]), .v e.enc, .no]).bind _) = _
    rw [ex]
    show forLoop true [3] (exSs G (callF G P (n + 4)) (c_l_led_b1 I)) (hs.map Ev.enc) [.v s.enc, b, .own (ds ++ [encS st] ++ [encS (act s st e)]), .v e.enc, .no] = _
    rw [ih, List.append_assoc]
    rfl
theorem lled_ok (hP : HLhist P I) (h : s.Ok) (p : Path s (beginS s) hs st) (hl : hs.length ≤ 900) : callF G P (n + 5) I.f_l_led [s.enc, .tuple (hs.map Ev.enc)] = some (.ok (.list ((standsL s (beginS s) hs).map encS)) true []) := by
  have b := lbegin_ok (G := G) (n := n + 3) hP.toHLev h
  obtain ⟨y, lp⟩ := lled_loop (G := G) (n := n) hP.toHLev .no (.v (.tuple (hs.map Ev.enc))) hs (beginS s) st [] .no (beginS_vd h) p (by simp; omega)
  obtain ⟨d, e1, e2⟩ := map_some hP.led
  have e3 : d.N.length = 5 := congrArg (·.1) e2
  have e4 : d.np = 2 := congrArg (·.2.1) e2
  have e5 : d.dk = false := congrArg (·.2.2.1) e2
  have e6 : d.body = (c_l_led I).body := congrArg (·.2.2.2) e2
  have go : exSs G (callF G P (n + 4)) (c_l_led I).body (startS 5 false [s.enc, .tuple (hs.map Ev.enc)]) = some (.rt (.list ((standsL s (beginS s) hs).map encS)) true [.v s.enc, .v (.tuple (hs.map Ev.enc)), .own ((standsL s (beginS s) hs).map encS), y, .no]) := by
    refine run_nx (s1 := [.v s.enc, .v (.tuple (hs.map Ev.enc)), .own [encS (beginS s)], .no, .no]) ?_ (run_nx (run_fo (items := hs.map Ev.enc) (s1 := [.v s.enc, .v (.tuple (hs.map Ev.enc)), .own [encS (beginS s)], .no, .no]) rfl lp) (run_rt rfl))
    simp [exS, denF, dens, den, getV, endCall, b, lim, startS]
  refine (callF_run (fl := .rt (.list ((standsL s (beginS s) hs).map encS)) true [.v s.enc, .v (.tuple (hs.map Ev.enc)), .own ((standsL s (beginS s) hs).map encS), y, .no]) e1 (by rw [e4]; rfl) (by rw [e3, e5, e6]; exact go)).trans (by rw [e5]; rfl)
theorem lhist_ok (hD : HDraw P I) (hP : HLhist P I) (h : s.Ok) {k many : Nat} {dk : List D} (hm : many ≤ 1000) (hk : k + many ≤ 1000000) (hd : DeckOk k dk) :
    ∃ (hs : List Ev) (st : Std) (dk' : List D), Path s (beginS s) hs st ∧ hs.length ≤ many ∧ callF G P (n + 5) I.f_l_history [.list dk, s.enc, .int many] = some (.ok (.tuple (hs.map Ev.enc)) false dk') ∧ DeckOk (k + many) dk' := by
  have b := lbegin_ok (G := G) (n := n + 3) hP.toHLev h
  let S := fun (d : List D) (t : Sl) (z : Std) (hs : List Ev) (x y : Sl) => [Sl.own d, .v s.enc, .v (.int many), t, .v (encS z), .v (.tuple (hs.map Ev.enc)), x, y]
  obtain ⟨st', e4, h4⟩ := forLoop_inv (one := true) (tg := [3]) (items := rngL 0 many) (k := 0) (b := exSs G (callF G P (n + 4)) (c_l_history_b0 I))
    (fun i q => ∃ d t z hs x y, q = S d t z hs x y ∧ Path s (beginS s) hs z ∧ hs.length ≤ i ∧ DeckOk (k + i) d) (st := S dk .no (beginS s) [] .no .no) ⟨dk, .no, beginS s, [], .no, .no, rfl, .nil, Nat.le_refl _, hd⟩
    (fun i x q hi hq => by
      obtain ⟨hi2, rfl⟩ := rngL_get0 hi
      obtain ⟨d, t, z, hs, x, y, rfl, p, hl, hd⟩ := hq
      rw [Nat.zero_add] at hl hd ⊢
      have hv := p.vd (beginS_vd h)
      have r := lsteps_ok (G := G) (n := n) hP.toHLev hv
      have nn := ne_nil (shaped_rows s z (steps s z))
      cases c : steps s z with
      | nil =>
        rw [c] at r nn
        simp only [List.map_nil, List.isEmpty_nil, Bool.not_true] at nn r
        refine ⟨_, S d (.v (.int i)) z hs (.v (.list [])) y, rfl, .inl (run_nx (s1 := S d (.v (.int i)) z hs (.v (.list [])) y) ?_ (run_nx (s1 := S d (.v (.int i)) z hs (.v (.list [])) y) ?_ rfl)), d, _, z, hs, _, y, rfl, p, by omega, hd.mono (by omega)⟩
        · simp [exS, den, dens, getV, setV, endCall, r, S]
        · simp [exS, exSs, den, dens, getV, boolOf, nn, S, lim]
      | cons e0 l0 =>
        have ne : steps s z ≠ [] := by rw [c]; simp
        have hne : (steps s z).map (encR s z) ≠ [] := by simpa using ne
        have l1 := steps_len s z
        have l2 := hv.m
        obtain ⟨x1, d2, hx, e1, hd2⟩ := one_ok (G := G) (n := n + 2) hD (xs := (steps s z).map (encR s z)) (by omega) hd hne (by rw [List.length_map]; omega)
        obtain ⟨e, he, rfl⟩ := List.mem_map.mp hx
        have hi0 : ((steps s z).map (encR s z)).isEmpty = false := by rw [c]; rfl
        rw [hi0] at nn
        have b1 : binD .Add (.tuple (hs.map Ev.enc)) (.tuple [e.enc]) = some (.tuple ((hs ++ [e]).map Ev.enc)) := by rw [binTup (by simp; unfold lim; omega)]; simp
        refine ⟨_, S d2 (.v (.int i)) (act s z e) (hs ++ [e]) (.v (.list ((steps s z).map (encR s z)))) (.v (encR s z e)), rfl, .inl (run_nx (s1 := S d (.v (.int i)) z hs (.v (.list ((steps s z).map (encR s z)))) y) ?_ (run_nx (s1 := S d2 (.v (.int i)) (act s z e) (hs ++ [e]) (.v (.list ((steps s z).map (encR s z)))) (.v (encR s z e))) ?_ rfl)), d2, _, _, _, _, _, rfl, p.snoc he, by simp; omega, hd2.mono (by omega)⟩
        · generalize (steps s z).map (encR s z) = R at *
          simp [exS, den, dens, getV, setV, endCall, r, S]
        · generalize (steps s z).map (encR s z) = R at *
          have b2 : binD .Add (.tuple (hs.map Ev.enc)) (.tuple [e.enc]) = some (.tuple (hs.map Ev.enc ++ [e.enc])) := by rw [b1]; simp
          simp [exS, exSs, denP, den, dens, getV, getO, setV, setP, boolOf, nn, S, lim, endCallD, e1, row0, row1, b2])
  rw [rngL_len, Nat.zero_add] at h4
  obtain ⟨d, t, z, hs, x, y, rfl, p, hl, hd⟩ := h4
  refine ⟨hs, z, d, p, hl, (callF_run (fl := .rt (.tuple (hs.map Ev.enc)) false (S d t z hs x y)) hP.hist rfl
    (run_nx (s1 := S dk .no (beginS s) [] .no .no) ?_ (run_nx (run_fo (items := rngL 0 many) (s1 := S dk .no (beginS s) [] .no .no) (w_rng1 (i := many) rfl rfl (by omega)) e4) (run_rt rfl)))).trans rfl, hd⟩
  simp [exS, denP, dens, den, getV, endCall, b, lim, startS, c_l_history, setP, S]
end
end Pv

/-! The program's graph, the law's. -/
namespace Pv
open PySem L2
def lotD (lot : List Nat) : D := .tuple (lot.map fun k : Nat => PyData.int (k : Int))
theorem shaped_int (i : Int) : SeqAt.shaped (.int i) = true := shaped_of rfl (by simp [PyData.depth])
theorem notin_lot {lot : List Nat} {k : Nat} : cmpD .NotIn (.int k) (lotD lot) = some (!decide (k ∈ lot)) := by
  show (inD _ _).map _ = _
  unfold inD
  rw [if_pos ⟨shaped_int _, shaped_list fun x hx => by
    obtain ⟨j, _, rfl⟩ := List.mem_map.mp hx
    exact ⟨rfl, by simp [PyData.depth]⟩⟩]
  show some _ = _
  congr 2
  rw [Bool.eq_iff_iff, List.any_eq_true, decide_eq_true_eq]
  constructor
  · rintro ⟨x, hx, e⟩
    obtain ⟨j, hj, rfl⟩ := List.mem_map.mp hx
    have : (j : Int) = k := by simpa [PyData.eqv] using e
    rw [← Int.ofNat.inj this]
    exact hj
  · intro h
    exact ⟨_, List.mem_map.mpr ⟨k, h, rfl⟩, by simp [PyData.eqv]⟩
theorem ev_wd (e : Ev) : idxD e.enc (.int 0) = some (.str e.kd.wd) := by
  obtain ⟨k, n⟩ := e
  cases k <;> rfl
theorem ev_k (e : Ev) : idxD e.enc (.int 1) = some (.int e.k) := by
  obtain ⟨k, n⟩ := e
  cases k <;> rfl
theorem wd_go (k : Kd) : decide (k.wd = Str.ofString "go") = k.isGo := by
  cases k with
  | go b => simp [Kd.wd, Kd.isGo]
  | _ => decide
theorem sIn (f : Std → D) (ks : List Std) (a : Std) : dInD (kvF kStd f ks) (encS a) = some (decide (a ∈ ks)) := by
  rw [show dInD (kvF kStd f ks) (encS a) = _ from fIn (E := kStd) f ks a]
  congr
theorem sGet {f : Std → D} {ks : List Std} {a : Std} (h : a ∈ ks) : dGetD (kvF kStd f ks) (encS a) = some (f a) := fGet (E := kStd) h
theorem sPut {f : Std → D} {ks : List Std} {a : Std} (h : a ∉ ks) (hl : ks.length < 100000) : dPutD (kvF kStd f ks) (encS a) (f a) = some (kvF kStd f (ks ++ [a])) := fPut (E := kStd) h hl
def fG (s : Stt) (lot : List Nat) (st : Std) : D := .list ((stepsL s lot st).map (encR s st))
structure HGraph (G : List D) (P : List Df) (I : Ix) : Prop extends HEvent G P I where
  graph : P[I.f_graph_of]? = some (c_graph_of I)
section
variable {G : List D} {P : List Df} {I : Ix} {n : Nat} {s : Stt} {lot : List Nat}
def gS (s : Stt) (lot : List Nat) (l3 : D) (q : List Wy × List Wy) (x5 x6 : Sl) : SS :=
  [.v s.enc, .v (lotD lot), .dic (kvF kStd (fG s lot) (q.1.map (·.1))), .v l3, .own (q.2.map fun x => encS x.1), x5, x6, .no]
theorem graph_e0 {F : Nat → List D → Option CR} {st : Std} (hl : st.length ≤ 3) (a c d f g : Sl) :
    den G F (c_graph_of_e0 I) [a, .v (lotD lot), c, d, f, g, .v (.list ((steps s st).map (encR s st))), .no] = some (fG s lot st, [a, .v (lotD lot), c, d, f, g, .v (.list ((steps s st).map (encR s st))), .no]) := by
  unfold c_graph_of_e0 fG
  have l1 := steps_len s st
  refine den_lc_map (l := steps s st) (encR s st) (fun e => [a, .v (lotD lot), c, d, f, g, .v (.list ((steps s st).map (encR s st))), .v (encR s st e)]) (fun e => !e.kd.isGo || !decide (e.k ∈ lot)) (encR s st) rfl (by unfold lim; omega) (fun _ _ => rfl) (fun e _ => ?_) (fun _ _ _ => rfl) (fun _ _ => rfl) rfl
  have w := wd_go e.kd
  have z : cmpD .NotEq (.str e.kd.wd) (.str (Str.ofString "go")) = some (!e.kd.isGo) := by
    simp [cmpD, eqS, w]
  have y := notin_lot (lot := lot) (k := e.k)
  cases q : e.kd.isGo <;> rw [q] at z <;> simp [dent, den, getV, row0, ev_wd, ev_k, z, y, boolOf]
theorem graph_e1 {F : Nat → List D → Option CR} {st : Std} {ks : List Std} (hl : st.length ≤ 3) (hs : st ∈ ks) (a b d f g : Sl) :
    den G F (c_graph_of_e1 I) [a, b, .dic (kvF kStd (fG s lot) ks), d, f, .v (encS st), g, .no] = some (.list ((stepsL s lot st).map fun e => encS (act s st e)), [a, b, .dic (kvF kStd (fG s lot) ks), d, f, .v (encS st), g, .no]) := by
  unfold c_graph_of_e1
  have l1 := stepsL_len s lot st
  have gt := sGet (f := fG s lot) hs
  have r := den_lc_map (G := G) (F := F) (one := true) (tg := [7]) (own := [7]) (c := .no) (w := .seq (.dIdx 2 (.var 5))) (e := .idx (.var 7) (.cst (.int 1))) (l := stepsL s lot st) (st := [a, b, .dic (kvF kStd (fG s lot) ks), d, f, .v (encS st), g, .no]) (encR s st) (fun e => [a, b, .dic (kvF kStd (fG s lot) ks), d, f, .v (encS st), g, .v (encR s st e)]) (fun _ => true) (fun e => encS (act s st e)) ?_ (by unfold lim; omega) (fun _ _ => rfl) (fun _ _ => rfl) (fun e _ _ => ?_) (fun _ _ => rfl) rfl
  · rw [List.filter_eq_self.mpr fun _ _ => rfl] at r
    exact r
  · simp [denw, den, getV, getK, gt, fG]
  · simp [den, getV, row1]
theorem graph_turn (hP : HGraph G P I) (ok : s.Ok) {l3 : D} {q : List Wy × List Wy} {x : Wy} {r W0 : List Wy} (x6 : Sl) (h : GI s lot q.1 (x :: r) q.2) (hl : q.2.length + 18 * W0.length ≤ 18 * q.1.length) :
    ∃ y6, exSs G (callF G P (n + 4)) (c_graph_of_b2 I) (gS s lot l3 q (.v (encS x.1)) x6) = some (.nx (gS s lot l3 (gTurn s lot q x) (.v (encS x.1)) y6)) := by
  have px := h.path x (by simp)
  have vx := px.vd ok
  obtain ⟨lx, l18⟩ := px.len ok
  have r := rows_ok (G := G) (n := n) hP.toHEvent vx
  have wl := h.wlen ok
  have di := sIn (fG s lot) (q.1.map (·.1)) x.1
  unfold gTurn
  by_cases c : x.1 ∈ q.1.map (·.1)
  · rw [if_pos c]
    rw [decide_eq_true c] at di
    refine ⟨x6, run_nx (s1 := gS s lot l3 q (.v (encS x.1)) x6) ?_ rfl⟩
    simp [exS, exSs, den, getV, getK, boolOf, gS, di]
  · rw [if_neg c]
    rw [decide_eq_false c] at di
    have pu := sPut (f := fG s lot) c (by rw [List.length_map]; omega)
    let R : Sl := .v (.list ((steps s x.1).map (encR s x.1)))
    refine ⟨R, run_nx (s1 := gS s lot l3 (q.1 ++ [x], q.2 ++ nextW s lot x) (.v (encS x.1)) R) ?_ rfl⟩
    have e0 := graph_e0 (G := G) (I := I) (F := callF G P (n + 4)) (s := s) (lot := lot) lx (.v s.enc) (.dic (kvF kStd (fG s lot) (q.1.map (·.1)))) (.v l3) (.own (q.2.map fun x => encS x.1)) (.v (encS x.1))
    have e1 := graph_e1 (G := G) (I := I) (F := callF G P (n + 4)) (s := s) (lot := lot) (ks := q.1.map (·.1) ++ [x.1]) lx (by simp) (.v s.enc) (.v (lotD lot)) (.v l3) (.own (q.2.map fun x => encS x.1)) R
    have eN : (q.2 ++ nextW s lot x).map (fun x => encS x.1) = q.2.map (fun x => encS x.1) ++ (stepsL s lot x.1).map fun e => encS (act s x.1 e) := by
      rw [List.map_append]
      unfold nextW
      rw [List.map_map]
      rfl
    have eW : (q.1 ++ [x]).map (·.1) = q.1.map (·.1) ++ [x.1] := by rw [List.map_append]; rfl
    unfold gS
    dsimp only
    rw [eN, eW]
    have hN : (q.2.map fun x => encS x.1).length + ((stepsL s lot x.1).map fun e => encS (act s x.1 e)).length ≤ lim := by
      rw [List.length_map, List.length_map]
      unfold lim
      omega
    generalize (q.2.map fun x => encS x.1) = N at *
    have ef : den G (callF G P (n + 4)) (c_graph_of_e1 I) [.v s.enc, .v (lotD lot), .dic (kvF kStd (fG s lot) (q.1.map (·.1) ++ [x.1])), .v l3, .own N, .v (encS x.1), R, .no] = _ := e1
    generalize q.1.map (·.1) = ks at *
    generalize ((stepsL s lot x.1).map fun e => encS (act s x.1 e)) = A at *
    have s6 : exS G (callF G P (n + 4)) (.set 6 (.call I.f_event_rows (.cons (.var 0) (.cons (.var 5) .nil)))) [.v s.enc, .v (lotD lot), .dic (kvF kStd (fG s lot) ks), .v l3, .own N, .v (encS x.1), x6, .no] = some (.nx [.v s.enc, .v (lotD lot), .dic (kvF kStd (fG s lot) ks), .v l3, .own N, .v (encS x.1), R, .no]) := by
      simp [exS, den, dens, getV, setV, endCall, r, R]
    have s2 : exS G (callF G P (n + 4)) (.putD 2 (.var 5) (c_graph_of_e0 I)) [.v s.enc, .v (lotD lot), .dic (kvF kStd (fG s lot) ks), .v l3, .own N, .v (encS x.1), R, .no] = some (.nx [.v s.enc, .v (lotD lot), .dic (kvF kStd (fG s lot) (ks ++ [x.1])), .v l3, .own N, .v (encS x.1), R, .no]) := by
      unfold exS
      rw [e0]
      simp [den, getV, getK, pu, R]
    have s4 : exS G (callF G P (n + 4)) (.augL 4 (c_graph_of_e1 I)) [.v s.enc, .v (lotD lot), .dic (kvF kStd (fG s lot) (ks ++ [x.1])), .v l3, .own N, .v (encS x.1), R, .no] = some (.nx [.v s.enc, .v (lotD lot), .dic (kvF kStd (fG s lot) (ks ++ [x.1])), .v l3, .own (N ++ A), .v (encS x.1), R, .no]) := by
      have eF : denF G (callF G P (n + 4)) (c_graph_of_e1 I) [.v s.enc, .v (lotD lot), .dic (kvF kStd (fG s lot) (ks ++ [x.1])), .v l3, .own N, .v (encS x.1), R, .no] = some (A, [.v s.enc, .v (lotD lot), .dic (kvF kStd (fG s lot) (ks ++ [x.1])), .v l3, .own N, .v (encS x.1), R, .no]) := by
        obtain ⟨ds, h1, h2⟩ := den_lc ef
        injection h1 with h1
        subst h1
        exact h2
      unfold exS
      show (some N).bind _ = _
      show ((denF G (callF G P (n + 4)) (c_graph_of_e1 I) _).bind _) = _
      rw [eF]
      show (if N.length + A.length ≤ lim then _ else _) = _
      rw [if_pos hN]
      rfl
    have tt : den G (callF G P (n + 4)) (.dIn true 2 (.var 5)) [.v s.enc, .v (lotD lot), .dic (kvF kStd (fG s lot) ks), .v l3, .own N, .v (encS x.1), x6, .no] = some (.bool true, [.v s.enc, .v (lotD lot), .dic (kvF kStd (fG s lot) ks), .v l3, .own N, .v (encS x.1), x6, .no]) := by
      simp [den, getV, getK, di]
    unfold exS
    rw [tt]
    show exSs G _ _ _ = _
    exact run_nx s6 (run_nx s2 (run_nx s4 rfl))
theorem graph_level (hP : HGraph G P I) (ok : s.Ok) {W L : List Wy} (h : GI s lot W L []) (x4 x5 x6 : Sl) : ∃ y5 y6,
    exSs G (callF G P (n + 4)) (c_graph_of_b3 I) [.v s.enc, .v (lotD lot), .dic (kvF kStd (fG s lot) (W.map (·.1))), .v (.list (L.map fun x => encS x.1)), x4, x5, x6, .no] =
      some (.nx [.v s.enc, .v (lotD lot), .dic (kvF kStd (fG s lot) ((gLevel s lot W L).1.map (·.1))), .v (.list ((gLevel s lot W L).2.map fun x => encS x.1)), .no, y5, y6, .no]) := by
  obtain ⟨st', e1, y5, y6, rfl, h2, h3⟩ := forLoop_fold (fun x : Wy => encS x.1) (one := true) (tg := [5]) (b := exSs G (callF G P (n + 4)) (c_graph_of_b2 I))
    (fun q r st => ∃ x5 x6, st = gS s lot (.list (L.map fun x => encS x.1)) q x5 x6 ∧ GI s lot q.1 r q.2 ∧ q.2.length + 18 * W.length ≤ 18 * q.1.length) (gTurn s lot) (l := L) (q := (W, [])) (st := gS s lot (.list (L.map fun x => encS x.1)) (W, []) x5 x6) ⟨_, _, rfl, h, by simp⟩
    (fun x r q st hq => by
      obtain ⟨x5, x6, rfl, h1, h2⟩ := hq
      obtain ⟨y6, e⟩ := graph_turn (G := G) (n := n) hP ok (l3 := .list (L.map fun x => encS x.1)) x6 h1 h2
      refine ⟨_, _, rfl, .inl e, _, _, rfl, h1.turn, ?_⟩
      have l18 := ((h1.path x (by simp)).len ok).2
      unfold gTurn
      split
      · exact h2
      · show (q.2 ++ nextW s lot x).length + _ ≤ 18 * (q.1 ++ [x]).length
        have : (nextW s lot x).length = (stepsL s lot x.1).length := List.length_map _
        rw [List.length_append, List.length_append, this, List.length_singleton]
        omega)
  refine ⟨y5, y6, run_nx (s1 := gS s lot (.list (L.map fun x => encS x.1)) (W, []) x5 x6) ?_ (run_nx (run_fo (items := L.map fun x => encS x.1) (s1 := gS s lot (.list (L.map fun x => encS x.1)) (W, []) x5 x6) rfl e1) (run_nx (s1 := [.v s.enc, .v (lotD lot), .dic (kvF kStd (fG s lot) ((gLevel s lot W L).1.map (·.1))), .v (.list ((gLevel s lot W L).2.map fun x => encS x.1)), .no, y5, y6, .no]) rfl rfl))⟩
  simp [exS, denF, dens, gS, lim]
theorem lay_sts (L : List Wy) : SeqAt.shaped (.list (L.map fun x => encS x.1)) = true := shaped_list fun x hx => by
  obtain ⟨y, _, rfl⟩ := List.mem_map.mp hx
  exact ⟨lay_st _, by have := depth_st y.1; unfold encS; simp only [PyData.depth]; omega⟩
theorem graph_loop (hP : HGraph G P I) (ok : s.Ok) : ∀ (m : Nat) {W L W' : List Wy} (x4 x5 x6 : Sl), GI s lot W L [] → gLoop s lot m W L = some W' → ∃ y4 y5 y6,
    whLoop (fun st => (den G (callF G P (n + 4)) (.cmp .NotEq (.var 3) (.lst .nil)) st).bind boolOf) (exSs G (callF G P (n + 4)) (c_graph_of_b3 I)) m [.v s.enc, .v (lotD lot), .dic (kvF kStd (fG s lot) (W.map (·.1))), .v (.list (L.map fun x => encS x.1)), x4, x5, x6, .no] =
      some (.nx [.v s.enc, .v (lotD lot), .dic (kvF kStd (fG s lot) (W'.map (·.1))), .v (.list []), y4, y5, y6, .no])
  | 0, W, L, W', x4, x5, x6, h, e => by cases e
  | m + 1, W, [], W', x4, x5, x6, h, e => by
    cases e
    have nn := ne_nil (lay_sts [])
    refine ⟨x4, x5, x6, wh_end ?_⟩
    simp only [List.map_nil] at nn
    simp [den, dens, getV, nn, boolOf, lim]
  | m + 1, W, x :: L, W', x4, x5, x6, h, e => by
    obtain ⟨y5, y6, e1⟩ := graph_level (G := G) (n := n) hP ok h x4 x5 x6
    obtain ⟨z4, z5, z6, e2⟩ := graph_loop hP ok m .no y5 y6 (h.level ok).1 e
    have nn := ne_nil (lay_sts (x :: L))
    refine ⟨z4, z5, z6, (wh_go (s1 := [.v s.enc, .v (lotD lot), .dic (kvF kStd (fG s lot) (W.map (·.1))), .v (.list ((x :: L).map fun x => encS x.1)), x4, x5, x6, .no]) ?_ e1).trans e2⟩
    rw [List.map_cons] at nn ⊢
    simp [den, dens, getV, nn, boolOf, lim]
/-- the stands of the graph, with ways -/
noncomputable def waysOf (s : Stt) (lot : List Nat) : List Wy := (gLoop s lot wfuel [] [(beginS s, [])]).getD []
noncomputable def keysOf (s : Stt) (lot : List Nat) : List Std := (waysOf s lot).map (·.1)
theorem ways_eq (ok : s.Ok) : gLoop s lot wfuel [] [(beginS s, [])] = some (waysOf s lot) ∧ GI s lot (waysOf s lot) [] [] := by
  obtain ⟨W, h1, h2⟩ := graph_ex ok lot
  unfold waysOf
  rw [h1]
  exact ⟨rfl, h2⟩
theorem graph_ok (hP : HGraph G P I) (ok : s.Ok) : callF G P (n + 5) I.f_graph_of [s.enc, lotD lot] = some (.ok (.dict (kvF kStd (fG s lot) (keysOf s lot))) false []) := by
  obtain ⟨w1, w2⟩ := ways_eq (lot := lot) ok
  have b := begin_ok (G := G) (n := n + 3) hP.toHEvent ok
  obtain ⟨y4, y5, y6, e⟩ := graph_loop (G := G) (n := n) hP ok wfuel .no .no .no (GI.start s lot) w1
  refine (callF_run (fl := .rt (.dict (kvF kStd (fG s lot) (keysOf s lot))) false _) hP.graph rfl (run_nx (s1 := [.v s.enc, .v (lotD lot), .dic [], .v (.list [encS (beginS s)]), .no, .no, .no, .no]) ?_ (run_nx (run_wh e) (run_rt rfl)))).trans rfl
  simp [exS, denP, denK, den, dens, getV, endCall, b, setP, startS, lim, c_graph_of]
end
end Pv

/-! The law's stands with ways. -/
namespace Pv
open PySem L2
def wyD (x : Wy) : D := .tuple [encS x.1, .tuple (x.2.map Ev.enc)]
def wV (s : Stt) (lot : List Nat) (x : Wy) : D := .tuple [fG s lot x.1, .tuple (x.2.map Ev.enc)]
def lgD (s : Stt) (lot : List Nat) (W : List Wy) : List (D × D) := kvE kStd (W.map fun x => (x.1, wV s lot x))
theorem find_nd {α : Type} {f : Wy → α} : ∀ {W : List Wy} {x : Wy}, (W.map (·.1)).Nodup → x ∈ W → ((W.map fun y => (y.1, f y)).find? fun p => decide (p.1 = x.1)) = some (x.1, f x)
  | y :: W, x, nd, h => by
    rw [List.map_cons, List.nodup_cons] at nd
    rw [List.map_cons, List.find?_cons]
    by_cases c : y.1 = x.1
    · rw [decide_eq_true (show (y.1, f y).1 = x.1 from c)]
      rcases List.mem_cons.mp h with h | h
      · rw [h]
      · exact absurd (List.mem_map.mpr ⟨x, h, c.symm⟩) nd.1
    · rw [decide_eq_false (show ¬ (y.1, f y).1 = x.1 from c)]
      rcases List.mem_cons.mp h with h | h
      · exact absurd (by rw [h]) c
      · exact find_nd nd.2 h
section
variable {s : Stt} {lot : List Nat}
theorem keys_lg (W : List Wy) : (W.map fun x => (x.1, wV s lot x)).map (·.1) = W.map (·.1) := by rw [List.map_map]; rfl
theorem lgIn (W : List Wy) (a : Std) : dInD (lgD s lot W) (encS a) = some (decide (a ∈ W.map (·.1))) := by
  unfold lgD
  rw [show dInD (kvE kStd (W.map fun x => (x.1, wV s lot x))) (encS a) = _ from dIn_E (E := kStd) _ a]
  congr 1
  rw [keys_lg]
  congr
theorem lgGet {W : List Wy} {x : Wy} (nd : (W.map (·.1)).Nodup) (h : x ∈ W) : dGetD (lgD s lot W) (encS x.1) = some (wV s lot x) := by
  unfold lgD
  rw [show dGetD (kvE kStd (W.map fun x => (x.1, wV s lot x))) (encS x.1) = _ from dGet_E (E := kStd) _ x.1]
  rw [find_nd (f := wV s lot) nd h]
  rfl
theorem lgPut {W : List Wy} {x : Wy} (h : x.1 ∉ W.map (·.1)) (hl : W.length < 100000) : dPutD (lgD s lot W) (encS x.1) (wV s lot x) = some (lgD s lot (W ++ [x])) := by
  unfold lgD
  rw [show dPutD (kvE kStd (W.map fun x => (x.1, wV s lot x))) (encS x.1) (wV s lot x) = _ from dPut_new (E := kStd) (by rw [keys_lg]; exact h) (by rw [List.length_map]; exact hl), List.map_append]
  rfl
end
structure HLAll (P : List Df) (I : Ix) : Prop extends HLev P I where
  all : P[I.f_l_all]? = some (c_l_all I)
section
variable {G : List D} {P : List Df} {I : Ix} {n : Nat} {s : Stt} {lot : List Nat}
def aS (s : Stt) (lot : List Nat) (l3 : D) (q : List Wy × List Wy) (x5 x6 x7 : Sl) : SS :=
  [.v s.enc, .v (lotD lot), .dic (lgD s lot q.1), .v l3, .v (.list (q.2.map wyD)), x5, x6, x7, .no]
theorem lall_e0 (hP : HLAll P I) {st : Std} (hv : Vd s st) (c d f g i : Sl) :
    den G (callF G P (n + 4)) (c_l_all_e0 I) [.v s.enc, .v (lotD lot), c, d, f, .v (encS st), g, i, .no] = some (fG s lot st, [.v s.enc, .v (lotD lot), c, d, f, .v (encS st), g, i, .no]) := by
  unfold c_l_all_e0 fG
  have l1 := steps_len s st
  have hm := hv.m
  have r := lsteps_ok (G := G) (n := n) hP.toHLev hv
  refine den_lc_map (l := steps s st) (encR s st) (fun e => [.v s.enc, .v (lotD lot), c, d, f, .v (encS st), g, i, .v (encR s st e)]) (fun e => !e.kd.isGo || !decide (e.k ∈ lot)) (encR s st) ?_ (by unfold lim; omega) (fun _ _ => rfl) (fun e _ => ?_) (fun _ _ _ => rfl) (fun _ _ => rfl) rfl
  · simp [denw, den, dens, getV, endCall, r]
  · have w := wd_go e.kd
    have z : cmpD .NotEq (.str e.kd.wd) (.str (Str.ofString "go")) = some (!e.kd.isGo) := by
      simp [cmpD, eqS, w]
    have y := notin_lot (lot := lot) (k := e.k)
    cases q : e.kd.isGo <;> rw [q] at z <;> simp [dent, den, getV, row0, ev_wd, ev_k, z, y, boolOf]
theorem lall_e1 {F : Nat → List D → Option CR} {x : Wy} (hl : (stepsL s lot x.1).length ≤ 18) (hw : x.2.length ≤ 90000) (a b c d f g : Sl) :
    den G F (c_l_all_e1 I) [a, b, c, d, f, g, .v (.tuple (x.2.map Ev.enc)), .v (fG s lot x.1), .no] = some (.list ((nextW s lot x).map wyD), [a, b, c, d, f, g, .v (.tuple (x.2.map Ev.enc)), .v (fG s lot x.1), .no]) := by
  unfold c_l_all_e1
  have r := den_lc_map (G := G) (F := F) (one := true) (tg := [8]) (own := [8]) (c := .no) (w := .seq (.var 7)) (e := .tup (.cons (.idx (.var 8) (.cst (.int 1))) (.cons (.bin .Add (.var 6) (.tup (.cons (.idx (.var 8) (.cst (.int 0))) .nil))) .nil))) (l := stepsL s lot x.1) (st := [a, b, c, d, f, g, .v (.tuple (x.2.map Ev.enc)), .v (fG s lot x.1), .no]) (encR s x.1) (fun e => [a, b, c, d, f, g, .v (.tuple (x.2.map Ev.enc)), .v (fG s lot x.1), .v (encR s x.1 e)]) (fun _ => true) (fun e => wyD (act s x.1 e, x.2 ++ [e])) rfl (by unfold lim; omega) (fun _ _ => rfl) (fun _ _ => rfl) (fun e _ _ => ?_) (fun _ _ => rfl) rfl
  · rw [List.filter_eq_self.mpr fun _ _ => rfl] at r
    unfold nextW
    rw [List.map_map]
    exact r
  · have b1 : binD .Add (.tuple (x.2.map Ev.enc)) (.tuple [e.enc]) = some (.tuple ((x.2 ++ [e]).map Ev.enc)) := by rw [binTup (by simp; unfold lim; omega)]; simp
    simp only [den, dens, getV]
    simp [row0, row1, wyD, b1, lim]
theorem lall_turn (hP : HLAll P I) (ok : s.Ok) {l3 : D} {q : List Wy × List Wy} {x : Wy} {r W0 : List Wy} (x7 : Sl) (h : GI s lot q.1 (x :: r) q.2) (hl : q.2.length + 18 * W0.length ≤ 18 * q.1.length) (hx : x.2.length ≤ 3000) :
    ∃ y7, exSs G (callF G P (n + 4)) (c_l_all_b2 I) (aS s lot l3 q (.v (encS x.1)) (.v (.tuple (x.2.map Ev.enc))) x7) = some (.nx (aS s lot l3 (gTurn s lot q x) (.v (encS x.1)) (.v (.tuple (x.2.map Ev.enc))) y7)) := by
  have px := h.path x (by simp)
  have vx := px.vd ok
  obtain ⟨lx, l18⟩ := px.len ok
  have wl := h.wlen ok
  have di := lgIn (s := s) (lot := lot) q.1 x.1
  unfold gTurn
  by_cases c : x.1 ∈ q.1.map (·.1)
  · rw [if_pos c]
    rw [decide_eq_true c] at di
    refine ⟨x7, run_nx (s1 := aS s lot l3 q (.v (encS x.1)) (.v (.tuple (x.2.map Ev.enc))) x7) ?_ rfl⟩
    simp [exS, exSs, den, getV, getK, boolOf, aS, di]
  · rw [if_neg c]
    rw [decide_eq_false c] at di
    have pu := lgPut (s := s) (lot := lot) c (by omega)
    refine ⟨.v (fG s lot x.1), run_nx (s1 := aS s lot l3 (q.1 ++ [x], q.2 ++ nextW s lot x) (.v (encS x.1)) (.v (.tuple (x.2.map Ev.enc))) (.v (fG s lot x.1))) ?_ rfl⟩
    have e0 := lall_e0 (G := G) (n := n) (lot := lot) hP vx (.dic (lgD s lot q.1)) (.v l3) (.v (.list (q.2.map wyD))) (.v (.tuple (x.2.map Ev.enc))) x7
    have e1 := lall_e1 (G := G) (I := I) (F := callF G P (n + 4)) (s := s) (lot := lot) (x := x) l18 (by omega) (.v s.enc) (.v (lotD lot)) (.dic (lgD s lot (q.1 ++ [x]))) (.v l3) (.v (.list (q.2.map wyD))) (.v (encS x.1))
    have eN : (q.2 ++ nextW s lot x).map wyD = q.2.map wyD ++ (nextW s lot x).map wyD := List.map_append
    have hn : (nextW s lot x).length ≤ 18 := by unfold nextW; rw [List.length_map]; exact l18
    have b2 : binD .Add (.list (q.2.map wyD)) (.list ((nextW s lot x).map wyD)) = some (.list (q.2.map wyD ++ (nextW s lot x).map wyD)) := binLst (by rw [List.length_map, List.length_map]; unfold lim; omega)
    unfold aS
    dsimp only
    rw [eN]
    unfold wV at pu
    generalize q.2.map wyD = N at *
    generalize (nextW s lot x).map wyD = A at *
    generalize lgD s lot (q.1 ++ [x]) = K2 at *
    generalize lgD s lot q.1 = K1 at *
    have tt : den G (callF G P (n + 4)) (.dIn true 2 (.var 5)) [.v s.enc, .v (lotD lot), .dic K1, .v l3, .v (.list N), .v (encS x.1), .v (.tuple (x.2.map Ev.enc)), x7, .no] = some (.bool true, [.v s.enc, .v (lotD lot), .dic K1, .v l3, .v (.list N), .v (encS x.1), .v (.tuple (x.2.map Ev.enc)), x7, .no]) := by
      simp [den, getV, getK, di]
    unfold exS
    rw [tt]
    show exSs G _ _ _ = _
    refine run_nx (x_set e0 (by show 7 < 9; omega)) (run_nx (s1 := [.v s.enc, .v (lotD lot), .dic K2, .v l3, .v (.list N), .v (encS x.1), .v (.tuple (x.2.map Ev.enc)), .v (fG s lot x.1), .no]) ?_ (run_nx (x_set (e_bin rfl e1 b2) (by show 4 < 9; omega)) rfl))
    simp [exS, den, dens, getV, getK, pu, lim]
theorem lall_level (hP : HLAll P I) (ok : s.Ok) {W L : List Wy} (h : GI s lot W L []) (hs : ∀ x ∈ L, x.2.length ≤ 3000) (x4 x5 x6 x7 : Sl) : ∃ y5 y6 y7,
    exSs G (callF G P (n + 4)) (c_l_all_b3 I) [.v s.enc, .v (lotD lot), .dic (lgD s lot W), .v (.list (L.map wyD)), x4, x5, x6, x7, .no] =
      some (.nx [.v s.enc, .v (lotD lot), .dic (lgD s lot (gLevel s lot W L).1), .v (.list ((gLevel s lot W L).2.map wyD)), .v (.list ((gLevel s lot W L).2.map wyD)), y5, y6, y7, .no]) := by
  obtain ⟨st', e1, y5, y6, y7, rfl, h2, h3, h4⟩ := forLoop_fold wyD (one := false) (tg := [5, 6]) (b := exSs G (callF G P (n + 4)) (c_l_all_b2 I))
    (fun q r st => ∃ x5 x6 x7, st = aS s lot (.list (L.map wyD)) q x5 x6 x7 ∧ GI s lot q.1 r q.2 ∧ q.2.length + 18 * W.length ≤ 18 * q.1.length ∧ ∀ x ∈ r, x.2.length ≤ 3000) (gTurn s lot) (l := L) (q := (W, [])) (st := aS s lot (.list (L.map wyD)) (W, []) x5 x6 x7) ⟨_, _, _, rfl, h, by simp, hs⟩
    (fun x r q st hq => by
      obtain ⟨x5, x6, x7, rfl, h1, h2, h3⟩ := hq
      obtain ⟨y7, e⟩ := lall_turn (G := G) (n := n) hP ok (l3 := .list (L.map wyD)) x7 h1 h2 (h3 x List.mem_cons_self)
      refine ⟨_, _, rfl, .inl e, _, _, _, rfl, h1.turn, ?_, fun y hy => h3 y (List.mem_cons_of_mem _ hy)⟩
      have l18 := ((h1.path x (by simp)).len ok).2
      unfold gTurn
      split
      · exact h2
      · show (q.2 ++ nextW s lot x).length + _ ≤ 18 * (q.1 ++ [x]).length
        have : (nextW s lot x).length = (stepsL s lot x.1).length := List.length_map _
        rw [List.length_append, List.length_append, this, List.length_singleton]
        omega)
  refine ⟨y5, y6, y7, run_nx (s1 := aS s lot (.list (L.map wyD)) (W, []) x5 x6 x7) ?_ (run_nx (run_fo (items := L.map wyD) (s1 := aS s lot (.list (L.map wyD)) (W, []) x5 x6 x7) rfl e1) (run_nx (s1 := [.v s.enc, .v (lotD lot), .dic (lgD s lot (gLevel s lot W L).1), .v (.list ((gLevel s lot W L).2.map wyD)), .v (.list ((gLevel s lot W L).2.map wyD)), y5, y6, y7, .no]) rfl rfl))⟩
  simp [exS, den, dens, setV, aS, lim]
end
section
variable {s : Stt} {lot : List Nat}
theorem fold_mono : ∀ (L W N : List Wy), W.length ≤ (L.foldl (gTurn s lot) (W, N)).1.length
  | [], W, N => Nat.le_refl _
  | x :: L, W, N => by
    rw [List.foldl_cons]
    have e : gTurn s lot (W, N) x = ((gTurn s lot (W, N) x).1, (gTurn s lot (W, N) x).2) := rfl
    rw [e]
    refine Nat.le_trans ?_ (fold_mono L _ _)
    unfold gTurn
    split
    · exact Nat.le_refl _
    · show W.length ≤ (W ++ [x]).length
      rw [List.length_append]; omega
theorem fold_next : ∀ (L W N : List Wy) (y : Wy), y ∈ (L.foldl (gTurn s lot) (W, N)).2 → y ∈ N ∨ ((∃ x ∈ L, y ∈ nextW s lot x) ∧ W.length < (L.foldl (gTurn s lot) (W, N)).1.length)
  | [], W, N, y, h => .inl h
  | x :: L, W, N, y, h => by
    rw [List.foldl_cons] at h ⊢
    have e : gTurn s lot (W, N) x = ((gTurn s lot (W, N) x).1, (gTurn s lot (W, N) x).2) := rfl
    rw [e] at h ⊢
    have m := fold_mono (s := s) (lot := lot) L (gTurn s lot (W, N) x).1 (gTurn s lot (W, N) x).2
    rcases fold_next L _ _ y h with h1 | ⟨⟨z, hz, h1⟩, h2⟩
    · unfold gTurn at h1 m ⊢
      by_cases c : x.1 ∈ W.map (·.1)
      · rw [if_pos c] at h1
        exact .inl h1
      · rw [if_neg c] at h1 m ⊢
        rcases List.mem_append.mp h1 with h1 | h1
        · exact .inl h1
        · refine .inr ⟨⟨x, List.mem_cons_self, h1⟩, ?_⟩
          have m : (W ++ [x]).length ≤ _ := m
          rw [List.length_append, List.length_singleton] at m
          exact m
    · refine .inr ⟨⟨z, List.mem_cons_of_mem _ hz, h1⟩, ?_⟩
      unfold gTurn at h2 ⊢
      split at h2
      · rename_i c
        rw [if_pos c]
        exact h2
      · rename_i c
        rw [if_neg c]
        have h2 : (W ++ [x]).length < _ := h2
        rw [List.length_append, List.length_singleton] at h2
        omega
theorem level_short {W L : List Wy} (h : ∀ x ∈ L, x.2.length ≤ W.length) : ∀ y ∈ (gLevel s lot W L).2, y.2.length ≤ (gLevel s lot W L).1.length := fun y hy => by
  rcases fold_next L W [] y hy with h1 | ⟨⟨x, hx, h1⟩, h2⟩
  · cases h1
  · obtain ⟨e, _, rfl⟩ := mem_next.mp h1
    have := h x hx
    show (x.2 ++ [e]).length ≤ _
    rw [List.length_append, List.length_singleton]
    exact Nat.le_trans (Nat.succ_le_succ this) h2
end
section
variable {G : List D} {P : List Df} {I : Ix} {n : Nat} {s : Stt} {lot : List Nat}
theorem lay_evs (l : List Ev) : PyData.canLay0 (.tuple (l.map Ev.enc)) = true ∧ PyData.depth (.tuple (l.map Ev.enc)) ≤ 3 := by
  constructor
  · rw [PyData.canLay0]
    exact layAll_of fun x hx => by obtain ⟨e, _, rfl⟩ := List.mem_map.mp hx; exact lay_ev e
  · simp only [PyData.depth]
    have := depthAll_of (n := 2) (xs := l.map Ev.enc) fun x hx => by obtain ⟨e, _, rfl⟩ := List.mem_map.mp hx; exact depth_ev e
    omega
theorem lay_wys (L : List Wy) : SeqAt.shaped (.list (L.map wyD)) = true := shaped_list fun x hx => by
  obtain ⟨y, _, rfl⟩ := List.mem_map.mp hx
  obtain ⟨h1, h2⟩ := lay_evs y.2
  refine ⟨?_, ?_⟩
  · unfold wyD
    rw [PyData.canLay0, PyData.canLayAll0, PyData.canLayAll0, PyData.canLayAll0, lay_st, h1]
    rfl
  · have h3 := depth_st y.1
    unfold wyD encS
    simp only [PyData.depth, PyData.depthAll] at h2 ⊢
    omega
theorem lall_loop (hP : HLAll P I) (ok : s.Ok) : ∀ (m : Nat) {W L W' : List Wy} (x4 x5 x6 x7 : Sl), GI s lot W L [] → (∀ x ∈ L, x.2.length ≤ W.length) → gLoop s lot m W L = some W' → ∃ y4 y5 y6 y7,
    whLoop (fun st => (den G (callF G P (n + 4)) (.cmp .NotEq (.var 3) (.lst .nil)) st).bind boolOf) (exSs G (callF G P (n + 4)) (c_l_all_b3 I)) m [.v s.enc, .v (lotD lot), .dic (lgD s lot W), .v (.list (L.map wyD)), x4, x5, x6, x7, .no] =
      some (.nx [.v s.enc, .v (lotD lot), .dic (lgD s lot W'), .v (.list []), y4, y5, y6, y7, .no])
  | 0, W, L, W', x4, x5, x6, x7, h, hs, e => by cases e
  | m + 1, W, [], W', x4, x5, x6, x7, h, hs, e => by
    cases e
    have nn := ne_nil (lay_wys [])
    refine ⟨x4, x5, x6, x7, wh_end ?_⟩
    simp only [List.map_nil] at nn
    simp [den, dens, getV, nn, boolOf, lim]
  | m + 1, W, x :: L, W', x4, x5, x6, x7, h, hs, e => by
    have wl := h.wlen ok
    obtain ⟨y5, y6, y7, e1⟩ := lall_level (G := G) (n := n) hP ok h (fun x hx => Nat.le_trans (hs x hx) (by omega)) x4 x5 x6 x7
    obtain ⟨z4, z5, z6, z7, e2⟩ := lall_loop hP ok m (.v (.list ((gLevel s lot W (x :: L)).2.map wyD))) y5 y6 y7 (h.level ok).1 (level_short hs) e
    have nn := ne_nil (lay_wys (x :: L))
    refine ⟨z4, z5, z6, z7, (wh_go (s1 := [.v s.enc, .v (lotD lot), .dic (lgD s lot W), .v (.list ((x :: L).map wyD)), x4, x5, x6, x7, .no]) ?_ e1).trans e2⟩
    rw [List.map_cons] at nn ⊢
    simp [den, dens, getV, nn, boolOf, lim]
theorem lall_ok (hP : HLAll P I) (ok : s.Ok) : callF G P (n + 5) I.f_l_all [s.enc, lotD lot] = some (.ok (.dict (lgD s lot (waysOf s lot))) false []) := by
  obtain ⟨w1, w2⟩ := ways_eq (lot := lot) ok
  have b := lbegin_ok (G := G) (n := n + 3) hP.toHLev ok
  obtain ⟨y4, y5, y6, y7, e⟩ := lall_loop (G := G) (n := n) hP ok wfuel .no .no .no .no (GI.start s lot) (by simp) w1
  refine (callF_run (fl := .rt (.dict (lgD s lot (waysOf s lot))) false _) hP.all rfl (run_nx (s1 := [.v s.enc, .v (lotD lot), .dic [], .v (.list [.tuple [encS (beginS s), .tuple []]]), .no, .no, .no, .no, .no]) ?_ (run_nx (run_wh e) (run_rt rfl)))).trans rfl
  simp [exS, denP, denK, den, dens, getV, endCall, b, setP, startS, lim, c_l_all]
end
end Pv

/-! Who can still come in: the program's dict, the law's. -/
namespace Pv
open PySem L2
section
variable (s : Stt) (lot : List Nat) (k : Nat)
def okH (R : List Std) (st : Std) : Bool := (stepsL s lot st).any fun e => decide (e = ⟨.enter, k⟩) || decide (act s st e ∈ R)
def hTurn (R : List Std) (st : Std) : List Std := if st ∈ R then R else if okH s lot k R st then R ++ [st] else R
def hPass (ks R : List Std) : List Std := ks.foldl (hTurn s lot k) R
def hLoop (ks : List Std) : Nat → List Std → Option (List Std)
  | 0, _ => none
  | n + 1, R => if (hPass s lot k ks R).length = R.length then some (hPass s lot k ks R) else hLoop ks n (hPass s lot k ks R)
end
section
variable {s : Stt} {lot : List Nat} {k : Nat}
structure HI (ks R : List Std) : Prop where
  nd : R.Nodup
  sub : ∀ st ∈ R, st ∈ ks
theorem HI.turn {ks R : List Std} {st : Std} (h : HI ks R) (hs : st ∈ ks) : HI ks (hTurn s lot k R st) := by
  unfold hTurn
  split
  · exact h
  · rename_i c
    split
    · refine ⟨?_, fun z hz => ?_⟩
      · rw [List.nodup_append]
        exact ⟨h.nd, by simp, fun a ha b hb => by rw [List.mem_singleton.mp hb]; exact fun z => c (by rw [← z]; exact ha)⟩
      · rcases List.mem_append.mp hz with hz | hz
        · exact h.sub z hz
        · rw [List.mem_singleton.mp hz]; exact hs
    · exact h
theorem HI.pass {ks : List Std} : ∀ {l R : List Std}, HI ks R → (∀ st ∈ l, st ∈ ks) → HI ks (l.foldl (hTurn s lot k) R)
  | [], _, h, _ => h
  | st :: l, _, h, hs => HI.pass (l := l) (h.turn (hs st List.mem_cons_self)) fun z hz => hs z (List.mem_cons_of_mem _ hz)
theorem turn_mono {R : List Std} {st : Std} : R.length ≤ (hTurn s lot k R st).length := by
  unfold hTurn
  split
  · exact Nat.le_refl _
  · split
    · rw [List.length_append]; omega
    · exact Nat.le_refl _
theorem pass_mono : ∀ (l R : List Std), R.length ≤ (l.foldl (hTurn s lot k) R).length
  | [], _ => Nat.le_refl _
  | st :: l, R => Nat.le_trans turn_mono (pass_mono l _)
theorem HI.len {ks R : List Std} (h : HI ks R) : R.length ≤ ks.length := len_le_of_sub h.nd h.sub
theorem hLoop_total {ks : List Std} : ∀ (n : Nat) {R : List Std}, HI ks R → ks.length + 1 ≤ n + R.length → ∃ R', hLoop s lot k ks n R = some R' ∧ HI ks R'
  | 0, R, h, hn => by have := h.len; omega
  | n + 1, R, h, hn => by
    have h1 : HI ks (hPass s lot k ks R) := h.pass fun _ z => z
    unfold hLoop
    by_cases c : (hPass s lot k ks R).length = R.length
    · rw [if_pos c]; exact ⟨_, rfl, h1⟩
    · rw [if_neg c]
      have := pass_mono (s := s) (lot := lot) (k := k) ks R
      have e : (ks.foldl (hTurn s lot k) R).length = (hPass s lot k ks R).length := rfl
      exact hLoop_total n h1 (by omega)
end
/-- the stands among ks from which a home is entered sometime -/
noncomputable def hopesOf (s : Stt) (lot : List Nat) (k : Nat) (ks : List Std) : List Std := (hLoop s lot k ks 3000 []).getD []
theorem hopes_eq {s : Stt} {lot : List Nat} {k : Nat} {ks : List Std} (h : ks.length ≤ 2940) : hLoop s lot k ks 3000 [] = some (hopesOf s lot k ks) ∧ HI ks (hopesOf s lot k ks) := by
  obtain ⟨R, h1, h2⟩ := hLoop_total (s := s) (lot := lot) (k := k) (ks := ks) 3000 ⟨List.nodup_nil, fun _ z => by cases z⟩ (by simp; omega)
  unfold hopesOf
  rw [h1]
  exact ⟨rfl, h2⟩
theorem hLoop_more {s : Stt} {lot : List Nat} {k : Nat} {ks : List Std} : ∀ {n : Nat} {R R' : List Std} (m : Nat), hLoop s lot k ks n R = some R' → hLoop s lot k ks (n + m) R = some R'
  | 0, R, R', m, h => by cases h
  | n + 1, R, R', m, h => by
    rw [show n + 1 + m = n + m + 1 by omega]
    unfold hLoop at h ⊢
    split at h
    · rename_i c; rw [if_pos c]; exact h
    · rename_i c; rw [if_neg c]; exact hLoop_more m h
/-- a dict of truths -/
abbrev hopD (R : List Std) : List (D × D) := kvF kStd (fun _ => .bool true) R
theorem boolsD_map {α : Type} (p : α → Bool) : ∀ l : List α, boolsD (l.map fun a => .bool (p a)) = some (l.map p)
  | [] => rfl
  | a :: l => by
    rw [List.map_cons]
    show (boolsD _).map _ = _
    rw [boolsD_map p l]
    rfl
theorem any_map {α : Type} (p : α → Bool) (l : List α) : bltD .any [.list (l.map fun a => .bool (p a))] = some (.bool (l.any p)) := by
  show (boolsD _).map _ = _
  rw [boolsD_map]
  show some (PyData.bool ((l.map p).any id)) = _
  rw [List.any_map]
  rfl
theorem all_map {α : Type} (p : α → Bool) (l : List α) : bltD .all [.list (l.map fun a => .bool (p a))] = some (.bool (l.all p)) := by
  show (boolsD _).map _ = _
  rw [boolsD_map]
  show some (PyData.bool ((l.map p).all id)) = _
  rw [List.all_map]
  rfl
def entD (k : Nat) : D := .tuple [.str (Str.ofString "enter"), .int k]
theorem eq_ent (e : Ev) (k : Nat) : eqD e.enc (entD k) = some (decide (e = ⟨.enter, k⟩)) := eqD_ev e ⟨.enter, k⟩
theorem e_dLen {G : List D} {F : Nat → List D → Option CR} {k m : Nat} {st : SS} {kvs : List (D × D)} (h : getK st k = some kvs) (hl : kvs.length = m) (h2 : m ≤ lim) : den G F (.dLen k) st = some (.int m, st) := by
  unfold den
  rw [h]
  show (if kvs.length ≤ lim then some (PyData.int (kvs.length : Nat), st) else none) = _
  rw [if_pos (by omega), hl]
theorem e_cmp {G : List D} {F : Nat → List D → Option CR} {op : CmpOp} {a b : Ex} {st s1 s2 : SS} {x y : D} {c : Bool} (h1 : den G F a st = some (x, s1)) (h2 : den G F b s1 = some (y, s2)) (e : cmpD op x y = some c) : den G F (.cmp op a b) st = some (.bool c, s2) := by
  simp [den, h1, h2, e]
structure HHope (P : List Df) (I : Ix) : Prop where
  hope : P[I.f_hopeful]? = some (c_hopeful I)
section
variable {G : List D} {P : List Df} {I : Ix} {n : Nat} {s : Stt} {lot : List Nat} {k : Nat}
def pgD (s : Stt) (lot : List Nat) (ks : List Std) : List (D × D) := kvF kStd (fG s lot) ks
theorem hope_e0 {F : Nat → List D → Option CR} {st : Std} {l : List Ev} (hl : l.length ≤ 18) (R : List Std) (a c d : Sl) :
    den G F (c_hopeful_e0 I) [a, .v (.int k), .dic (hopD R), c, d, .v (.list (l.map (encR s st))), .no, .no] = some (.list (l.map fun e => .bool (decide (e = ⟨.enter, k⟩) || decide (act s st e ∈ R))), [a, .v (.int k), .dic (hopD R), c, d, .v (.list (l.map (encR s st))), .no, .no]) := by
  unfold c_hopeful_e0
  have r := den_lc_map (G := G) (F := F) (one := false) (tg := [6, 7]) (own := [6, 7]) (c := .no) (w := .seq (.var 5)) (e := (.or (.cmp .Eq (.var 6) (.tup (.cons (.cst (.str (Str.ofString "enter"))) (.cons (.var 1) .nil)))) (.dIn false 2 (.var 7)))) (l := l) (st := [a, .v (.int k), .dic (hopD R), c, d, .v (.list (l.map (encR s st))), .no, .no]) (encR s st) (fun e => [a, .v (.int k), .dic (hopD R), c, d, .v (.list (l.map (encR s st))), .v e.enc, .v (encS (act s st e))]) (fun _ => true) (fun e => .bool (decide (e = ⟨.enter, k⟩) || decide (act s st e ∈ R))) rfl (by unfold lim; omega) (fun _ _ => rfl) (fun _ _ => rfl) (fun e _ _ => ?_) (fun _ _ => rfl) rfl
  · rw [List.filter_eq_self.mpr fun _ _ => rfl] at r
    exact r
  · have q1 := eq_ent e k
    unfold entD at q1
    have q2 := sIn (fun _ => .bool true) R (act s st e)
    cases c1 : decide (e = ⟨.enter, k⟩) <;> rw [c1] at q1 <;> simp [den, dens, getV, getK, ceq, q1, q2, boolOf, lim]
theorem hope_turn {ks R : List Std} {st : Std} (hs : st ∈ ks) (hl : (stepsL s lot st).length ≤ 18) (hR : R.length ≤ 3000) {F : Nat → List D → Option CR} (m x5 : Sl) :
    ∃ y5, exSs G F (c_hopeful_b1 I) [.v (.dict (pgD s lot ks)), .v (.int k), .dic (hopD R), m, .v (encS st), x5, .no, .no] = some (.nx [.v (.dict (pgD s lot ks)), .v (.int k), .dic (hopD (hTurn s lot k R st)), m, .v (encS st), y5, .no, .no]) := by
  have q2 := sIn (fun _ => .bool true) R st
  have g1 : dGetD (pgD s lot ks) (encS st) = some (fG s lot st) := sGet hs
  let l : List Ev := if st ∈ R then [] else stepsL s lot st
  have s5 : exS G F (.set 5 (.ite (.dIn true 2 (.var 4)) (.idx (.var 0) (.var 4)) (.lst .nil))) [.v (.dict (pgD s lot ks)), .v (.int k), .dic (hopD R), m, .v (encS st), x5, .no, .no] = some (.nx [.v (.dict (pgD s lot ks)), .v (.int k), .dic (hopD R), m, .v (encS st), .v (.list (l.map (encR s st))), .no, .no]) := by
    by_cases c : st ∈ R
    · rw [decide_eq_true c] at q2
      have el : l = [] := if_pos c
      rw [el]
      simp [exS, den, dens, getV, getK, setV, boolOf, q2, lim]
    · rw [decide_eq_false c] at q2
      have el : l = stepsL s lot st := if_neg c
      rw [el]
      simp [exS, den, dens, getV, getK, setV, boolOf, q2, idxD, g1, fG]
  have ll : l.length ≤ 18 := by
    show (if st ∈ R then [] else stepsL s lot st).length ≤ 18
    split
    · exact Nat.zero_le _
    · exact hl
  have e0 := hope_e0 (G := G) (I := I) (F := F) (k := k) (s := s) (st := st) ll R (.v (.dict (pgD s lot ks))) m (.v (encS st))
  have an : den G F (.blt .any (.cons (c_hopeful_e0 I) .nil)) [.v (.dict (pgD s lot ks)), .v (.int k), .dic (hopD R), m, .v (encS st), .v (.list (l.map (encR s st))), .no, .no] = some (.bool (l.any fun e => decide (e = ⟨.enter, k⟩) || decide (act s st e ∈ R)), [.v (.dict (pgD s lot ks)), .v (.int k), .dic (hopD R), m, .v (encS st), .v (.list (l.map (encR s st))), .no, .no]) := e_blt1 e0 (any_map _ _)
  have ht : hTurn s lot k R st = if (l.any fun e => decide (e = ⟨.enter, k⟩) || decide (act s st e ∈ R)) = true then R ++ [st] else R := by
    unfold hTurn
    by_cases c : st ∈ R
    · have el : l = [] := if_pos c
      rw [if_pos c, el]
      rfl
    · have el : l = stepsL s lot st := if_neg c
      rw [if_neg c, el]
      rfl
  refine ⟨_, run_nx s5 (run_nx (s1 := [.v (.dict (pgD s lot ks)), .v (.int k), .dic (hopD (hTurn s lot k R st)), m, .v (encS st), .v (.list (l.map (encR s st))), .no, .no]) ?_ rfl)⟩
  rw [ht]
  unfold exS
  rw [an]
  cases c : l.any fun e => decide (e = ⟨.enter, k⟩) || decide (act s st e ∈ R) with
  | false => rfl
  | true =>
    have nR : st ∉ R := fun z => by
      have el : l = [] := if_pos z
      rw [el] at c
      cases c
    have pu := sPut (f := fun _ => .bool true) nR (by omega)
    show exSs G F _ _ = _
    refine run_nx (s1 := [.v (.dict (pgD s lot ks)), .v (.int k), .dic (hopD (R ++ [st])), m, .v (encS st), .v (.list (l.map (encR s st))), .no, .no]) ?_ rfl
    simp [exS, den, getV, getK, pu]
theorem hope_pass {ks : List Std} (h18 : ∀ st ∈ ks, (stepsL s lot st).length ≤ 18) (hk : ks.length ≤ 2940) {R : List Std} (hR : HI ks R) {F : Nat → List D → Option CR} (x3 x4 x5 : Sl) : ∃ y4 y5,
    exSs G F (c_hopeful_b2 I) [.v (.dict (pgD s lot ks)), .v (.int k), .dic (hopD R), x3, x4, x5, .no, .no] = some (.nx [.v (.dict (pgD s lot ks)), .v (.int k), .dic (hopD (hPass s lot k ks R)), .v (.int R.length), y4, y5, .no, .no]) := by
  obtain ⟨st', e1, y4, y5, rfl, _, _⟩ := forLoop_fold encS (one := true) (tg := [4]) (b := exSs G F (c_hopeful_b1 I))
    (fun Q r st => ∃ x4 x5, st = [.v (.dict (pgD s lot ks)), .v (.int k), .dic (hopD Q), .v (.int R.length), x4, x5, .no, .no] ∧ HI ks Q ∧ ∀ z ∈ r, z ∈ ks) (hTurn s lot k) (l := ks) (q := R) (st := [.v (.dict (pgD s lot ks)), .v (.int k), .dic (hopD R), .v (.int R.length), x4, x5, .no, .no]) ⟨_, _, rfl, hR, fun _ z => z⟩
    (fun z r Q st hq => by
      obtain ⟨x4, x5, rfl, h1, h2⟩ := hq
      have hz := h2 z List.mem_cons_self
      have := h1.len
      obtain ⟨y5, e⟩ := hope_turn (G := G) (I := I) (F := F) (k := k) hz (h18 z hz) (R := Q) (by omega) (.v (.int R.length)) x5
      exact ⟨_, _, rfl, .inl e, _, _, rfl, h1.turn hz, fun y hy => h2 y (List.mem_cons_of_mem _ hy)⟩)
  have hl := hR.len
  have dl : (kvF kStd (fun _ => PyData.bool true) R).length = R.length := len_kvF _ _
  have w : denw G F (.seq (.var 0)) [.v (.dict (pgD s lot ks)), .v (.int k), .dic (hopD R), .v (.int R.length), x4, x5, .no, .no] = some (ks.map encS, [.v (.dict (pgD s lot ks)), .v (.int k), .dic (hopD R), .v (.int R.length), x4, x5, .no, .no]) := by
    show some ((pgD s lot ks).map (·.1), _) = _
    rw [show (pgD s lot ks).map (·.1) = ks.map kStd.enc from keys_kvE _ _]
    rfl
  refine ⟨y4, y5, run_nx (s1 := [.v (.dict (pgD s lot ks)), .v (.int k), .dic (hopD R), .v (.int R.length), x4, x5, .no, .no]) ?_ (run_nx (run_fo w e1) rfl)⟩
  exact x_set (e_dLen rfl dl (by unfold lim; omega)) (by show 3 < 8; omega)
theorem hope_loop {ks : List Std} (h18 : ∀ st ∈ ks, (stepsL s lot st).length ≤ 18) (hk : ks.length ≤ 2940) {F : Nat → List D → Option CR} : ∀ (m : Nat) {R R' : List Std} (j : Int) (x4 x5 : Sl), HI ks R → j < R.length → hLoop s lot k ks m R = some R' → ∃ y3 y4 y5,
    whLoop (fun st => (den G F (.cmp .Lt (.var 3) (.dLen 2)) st).bind boolOf) (exSs G F (c_hopeful_b2 I)) (m + 1) [.v (.dict (pgD s lot ks)), .v (.int k), .dic (hopD R), .v (.int j), x4, x5, .no, .no] = some (.nx [.v (.dict (pgD s lot ks)), .v (.int k), .dic (hopD R'), y3, y4, y5, .no, .no])
  | 0, R, R', j, x4, x5, h, hj, e => by cases e
  | m + 1, R, R', j, x4, x5, h, hj, e => by
    obtain ⟨y4, y5, e1⟩ := hope_pass (G := G) (I := I) (k := k) (F := F) h18 hk h (.v (.int j)) x4 x5
    have dl : ∀ R : List Std, (kvF kStd (fun _ => PyData.bool true) R).length = R.length := fun R => len_kvF _ _
    have tst : ∀ {R : List Std} (hR : R.length ≤ 3000) (j : Int) (x4 x5 : Sl), (den G F (.cmp .Lt (.var 3) (.dLen 2)) [.v (.dict (pgD s lot ks)), .v (.int k), .dic (hopD R), .v (.int j), x4, x5, .no, .no]).bind boolOf = some (decide (j < R.length), [.v (.dict (pgD s lot ks)), .v (.int k), .dic (hopD R), .v (.int j), x4, x5, .no, .no]) := fun {R} hR j x4 x5 => by
      rw [e_cmp (x := .int j) rfl (e_dLen rfl (dl R) (by unfold lim; omega)) rfl]
      rfl
    have hl := h.len
    have h1 : HI ks (hPass s lot k ks R) := h.pass fun _ z => z
    have hl1 := h1.len
    have t1 := tst (R := R) (by omega) j x4 x5
    rw [decide_eq_true hj] at t1
    unfold hLoop at e
    split at e
    · rename_i c
      cases e
      have t2 := tst (R := hPass s lot k ks R) (by omega) R.length y4 y5
      rw [decide_eq_false (by omega)] at t2
      exact ⟨_, _, _, (wh_go t1 e1).trans (wh_end t2)⟩
    · rename_i c
      have := pass_mono (s := s) (lot := lot) (k := k) ks R
      have e' : (ks.foldl (hTurn s lot k) R).length = (hPass s lot k ks R).length := rfl
      obtain ⟨z3, z4, z5, e2⟩ := hope_loop h18 hk m R.length y4 y5 h1 (by omega) e
      exact ⟨z3, z4, z5, (wh_go t1 e1).trans e2⟩
theorem hope_ok (hP : HHope P I) {ks : List Std} (h18 : ∀ st ∈ ks, (stepsL s lot st).length ≤ 18) (hk : ks.length ≤ 2940) : callF G P (n + 1) I.f_hopeful [.dict (pgD s lot ks), .int k] = some (.ok (.dict (hopD (hopesOf s lot k ks))) false []) := by
  obtain ⟨e0, _⟩ := hopes_eq (s := s) (lot := lot) (k := k) hk
  obtain ⟨y3, y4, y5, e⟩ := hope_loop (G := G) (I := I) (F := callF G P n) (k := k) h18 hk (3000 + 96999) (R := []) (-1) .no .no ⟨List.nodup_nil, fun _ z => by cases z⟩ (by simp) (hLoop_more 96999 e0)
  refine (callF_run (fl := .rt (.dict (hopD (hopesOf s lot k ks))) false _) hP.hope rfl (run_nx (s1 := [.v (.dict (pgD s lot ks)), .v (.int k), .dic [], .v (.int (-1)), .no, .no, .no, .no]) ?_ (run_nx (run_wh e) (run_rt rfl)))).trans rfl
  simp [exS, denP, denK, den, getV, intOf, setP, startS, c_hopeful]
end
end Pv

/-! The law's hopes. -/
namespace Pv
open PySem L2
theorem ex_ife {G : List D} {F : Nat → List D → Option CR} {c : Ex} {a b : Sms} {st s1 : SS} {v : Bool} {r : Option Fl} (h : den G F c st = some (.bool v, s1)) (h2 : (if v then exSs G F a s1 else exSs G F b s1) = r) : exS G F (.ife c a b) st = r := by
  unfold exS
  rw [h]
  cases v <;> exact h2
structure HLHope (P : List Df) (I : Ix) : Prop where
  hopes : P[I.f_l_hopes]? = some (c_l_hopes I)
section
variable {G : List D} {P : List Df} {I : Ix} {n : Nat} {s : Stt} {lot : List Nat} {k : Nat}
def lhS (gd : D) (k : Nat) (R : List Std) (g : Bool) (st : Std) (hit : Bool) (x5 x6 : Sl) : SS :=
  [.v gd, .v (.int k), .dic (hopD (if hit then R ++ [st] else R)), .v (.bool (g || hit)), .v (encS st), x5, x6]
theorem lhope_in {F : Nat → List D → Option CR} (gd : D) {R : List Std} {st : Std} (hst : st ∉ R) (hR : R.length ≤ 3000) (g : Bool) (l : List Ev) (x5 x6 : Sl) : ∃ y5 y6,
    forLoop false [5, 6] (exSs G F (c_l_hopes_b0 I)) (l.map (encR s st)) (lhS gd k R g st false x5 x6) = some (.nx (lhS gd k R g st (l.any fun e => decide (e = ⟨.enter, k⟩) || decide (act s st e ∈ R)) y5 y6)) := by
  have st1 : ∀ (e : Ev) (hit : Bool) (x5 x6 : Sl), ∃ s2, exSs G F (c_l_hopes_b0 I) [.v gd, .v (.int k), .dic (hopD (if hit then R ++ [st] else R)), .v (.bool (g || hit)), .v (encS st), .v e.enc, .v (encS (act s st e))] = some (.nx s2) ∧ s2 = lhS gd k R g st (hit || (decide (e = ⟨.enter, k⟩) || decide (act s st e ∈ R))) (.v e.enc) (.v (encS (act s st e))) := fun e hit x5 x6 => by
    refine ⟨_, ?_, rfl⟩
    have q1 := eq_ent e k
    unfold entD at q1
    have q2 := sIn (fun _ => .bool true) (if hit then R ++ [st] else R) (act s st e)
    have tst : den G F (.or (.cmp .Eq (.var 5) (.tup (.cons (.cst (.str (Str.ofString "enter"))) (.cons (.var 1) .nil)))) (.dIn false 2 (.var 6))) [.v gd, .v (.int k), .dic (hopD (if hit then R ++ [st] else R)), .v (.bool (g || hit)), .v (encS st), .v e.enc, .v (encS (act s st e))] = some (.bool (decide (e = ⟨.enter, k⟩) || decide (act s st e ∈ (if hit then R ++ [st] else R))), [.v gd, .v (.int k), .dic (hopD (if hit then R ++ [st] else R)), .v (.bool (g || hit)), .v (encS st), .v e.enc, .v (encS (act s st e))]) := by
      cases c1 : decide (e = ⟨.enter, k⟩) <;> rw [c1] at q1 <;> simp [den, dens, getV, getK, ceq, q1, q2, boolOf, lim]
    refine run_nx (s1 := lhS gd k R g st (hit || (decide (e = ⟨.enter, k⟩) || decide (act s st e ∈ R))) (.v e.enc) (.v (encS (act s st e)))) (ex_ife tst ?_) rfl
    cases hit with
    | true =>
      have pu : dPutD (hopD (R ++ [st])) (encS st) (.bool true) = some (hopD (R ++ [st])) := fPut_old (E := kStd) (f := fun _ => .bool true) (by simp) (by rw [List.length_append, List.length_singleton]; omega)
      have tk : tupKey (encS st) = true := tupKey_of (keyD_st st) (Nat.le_trans (kS_depth st) (by decide))
      cases c : (decide (e = ⟨.enter, k⟩) || decide (act s st e ∈ (if true then R ++ [st] else R))) with
      | false => simp [exSs, lhS]
      | true => simp [exSs, exS, mPutDS, dens, den, getV, getK, setV, pu, tk, lhS]
    | false =>
      have pu := sPut (f := fun _ => .bool true) hst (by omega)
      have tk : tupKey (encS st) = true := tupKey_of (keyD_st st) (Nat.le_trans (kS_depth st) (by decide))
      have e0 : (if false = true then R ++ [st] else R) = R := rfl
      rw [e0]
      cases c : (decide (e = ⟨.enter, k⟩) || decide (act s st e ∈ R)) with
      | false => simp [exSs, lhS]
      | true => simp [exSs, exS, mPutDS, dens, den, getV, getK, setV, pu, tk, lhS]
  obtain ⟨st', e1, y5, y6, e2⟩ := forLoop_fold (encR s st) (one := false) (tg := [5, 6]) (b := exSs G F (c_l_hopes_b0 I))
    (fun (hit : Bool) r q => ∃ x5 x6, q = lhS gd k R g st hit x5 x6) (fun hit e => hit || (decide (e = ⟨.enter, k⟩) || decide (act s st e ∈ R))) (l := l) (q := false) (st := lhS gd k R g st false x5 x6) ⟨_, _, rfl⟩
    (fun e r hit q hq => by
      obtain ⟨x5, x6, rfl⟩ := hq
      obtain ⟨s2, e3, e4⟩ := st1 e hit x5 x6
      exact ⟨_, s2, rfl, .inl e3, _, _, e4⟩)
  have fo : ∀ (l : List Ev) (b : Bool), l.foldl (fun hit e => hit || (decide (e = ⟨.enter, k⟩) || decide (act s st e ∈ R))) b = (b || l.any fun e => decide (e = ⟨.enter, k⟩) || decide (act s st e ∈ R)) := by
    intro l
    induction l with
    | nil => intro b; simp
    | cons a l ih => intro b; rw [List.foldl_cons, ih, List.any_cons, Bool.or_assoc]
  rw [e1, e2, fo, Bool.false_or]
  exact ⟨y5, y6, rfl⟩
theorem lhope_turn {F : Nat → List D → Option CR} {W : List Wy} (nd : (W.map (·.1)).Nodup) {x : Wy} (hx : x ∈ W) {R : List Std} (hR : R.length ≤ 3000) (g : Bool) (x5 x6 : Sl) : ∃ y5 y6,
    exSs G F (c_l_hopes_b1 I) [.v (.dict (lgD s lot W)), .v (.int k), .dic (hopD R), .v (.bool g), .v (encS x.1), x5, x6] =
      some (.nx [.v (.dict (lgD s lot W)), .v (.int k), .dic (hopD (hTurn s lot k R x.1)), .v (.bool (g || decide (R.length < (hTurn s lot k R x.1).length))), .v (encS x.1), y5, y6]) := by
  have q2 := sIn (fun _ => .bool true) R x.1
  have g1 := lgGet (s := s) (lot := lot) nd hx
  have tst : den G F (.dIn true 2 (.var 4)) [.v (.dict (lgD s lot W)), .v (.int k), .dic (hopD R), .v (.bool g), .v (encS x.1), x5, x6] = some (.bool (!decide (x.1 ∈ R)), [.v (.dict (lgD s lot W)), .v (.int k), .dic (hopD R), .v (.bool g), .v (encS x.1), x5, x6]) := by
    simp [den, getV, getK, q2]
  unfold hTurn
  by_cases c : x.1 ∈ R
  · rw [if_pos c]
    rw [decide_eq_true c] at tst
    refine ⟨x5, x6, run_nx (ex_ife tst rfl) ?_⟩
    simp [exSs]
  · rw [if_neg c]
    rw [decide_eq_false c] at tst
    obtain ⟨y5, y6, e⟩ := lhope_in (G := G) (I := I) (F := F) (s := s) (k := k) (.dict (lgD s lot W)) c hR g (stepsL s lot x.1) x5 x6
    have w : denw G F (.seq (.idx (.idx (.var 0) (.var 4)) (.cst (.int 0)))) [.v (.dict (lgD s lot W)), .v (.int k), .dic (hopD R), .v (.bool g), .v (encS x.1), x5, x6] = some ((stepsL s lot x.1).map (encR s x.1), [.v (.dict (lgD s lot W)), .v (.int k), .dic (hopD R), .v (.bool g), .v (encS x.1), x5, x6]) := by
      have i2 : idxD (wV s lot x) (.int 0) = some (fG s lot x.1) := rfl
      have i1 : idxD (.dict (lgD s lot W)) (encS x.1) = some (wV s lot x) := g1
      have d1 : den G F (.idx (.idx (.var 0) (.var 4)) (.cst (.int 0))) [.v (.dict (lgD s lot W)), .v (.int k), .dic (hopD R), .v (.bool g), .v (encS x.1), x5, x6] = some (fG s lot x.1, [.v (.dict (lgD s lot W)), .v (.int k), .dic (hopD R), .v (.bool g), .v (encS x.1), x5, x6]) := e_idx (e_idx rfl rfl i1) rfl i2
      unfold denw
      rw [d1]
      rfl
    have e0 : lhS (.dict (lgD s lot W)) k R g x.1 false x5 x6 = [.v (.dict (lgD s lot W)), .v (.int k), .dic (hopD R), .v (.bool g), .v (encS x.1), x5, x6] := by
      unfold lhS
      rw [Bool.or_false]
      rfl
    rw [e0] at e
    refine ⟨y5, y6, run_nx (ex_ife tst (run_nx (run_fo w e) rfl)) ?_⟩
    unfold okH lhS
    show some _ = _
    cases q : (stepsL s lot x.1).any fun e => decide (e = ⟨.enter, k⟩) || decide (act s x.1 e ∈ R) with
    | false => simp
    | true => simp
theorem lhope_pass {W : List Wy} (nd : (W.map (·.1)).Nodup) (hk : W.length ≤ 2940) {R : List Std} (hR : HI (W.map (·.1)) R) {F : Nat → List D → Option CR} (x3 x4 x5 x6 : Sl) : ∃ y4 y5 y6,
    exSs G F (c_l_hopes_b2 I) [.v (.dict (lgD s lot W)), .v (.int k), .dic (hopD R), x3, x4, x5, x6] = some (.nx [.v (.dict (lgD s lot W)), .v (.int k), .dic (hopD (hPass s lot k (W.map (·.1)) R)), .v (.bool (decide (R.length < (hPass s lot k (W.map (·.1)) R).length))), y4, y5, y6]) := by
  obtain ⟨st', e1, y4, y5, y6, e2, _⟩ := forLoop_fold (fun x : Wy => encS x.1) (one := true) (tg := [4]) (b := exSs G F (c_l_hopes_b1 I))
    (fun Q r st => ∃ x4 x5 x6, st = [.v (.dict (lgD s lot W)), .v (.int k), .dic (hopD Q), .v (.bool (decide (R.length < Q.length))), x4, x5, x6] ∧ HI (W.map (·.1)) Q ∧ R.length ≤ Q.length ∧ ∀ z ∈ r, z ∈ W) (fun Q x => hTurn s lot k Q x.1) (l := W) (q := R) (st := [.v (.dict (lgD s lot W)), .v (.int k), .dic (hopD R), .v (.bool false), x4, x5, x6]) ⟨_, _, _, by rw [decide_eq_false (Nat.lt_irrefl _)], hR, Nat.le_refl _, fun _ z => z⟩
    (fun z r Q st hq => by
      obtain ⟨x4, x5, x6, rfl, h1, h2, h3⟩ := hq
      have hz := h3 z List.mem_cons_self
      have := h1.len
      rw [List.length_map] at this
      have mo := turn_mono (s := s) (lot := lot) (k := k) (R := Q) (st := z.1)
      obtain ⟨y5, y6, e⟩ := lhope_turn (G := G) (I := I) (F := F) (s := s) (lot := lot) (k := k) nd hz (R := Q) (by omega) (decide (R.length < Q.length)) x5 x6
      refine ⟨_, _, rfl, .inl e, .v (encS z.1), y5, y6, ?_, h1.turn (List.mem_map.mpr ⟨z, hz, rfl⟩), Nat.le_trans h2 mo, fun y hy => h3 y (List.mem_cons_of_mem _ hy)⟩
      have eb : (decide (R.length < Q.length) || decide (Q.length < (hTurn s lot k Q z.1).length)) = decide (R.length < (hTurn s lot k Q z.1).length) := by
        rw [Bool.eq_iff_iff]
        simp only [Bool.or_eq_true, decide_eq_true_eq]
        omega
      rw [eb])
  have fm : ∀ (l : List Wy) (Q : List Std), l.foldl (fun Q x => hTurn s lot k Q x.1) Q = (l.map (·.1)).foldl (hTurn s lot k) Q := by
    intro l
    induction l with
    | nil => intro Q; rfl
    | cons a l ih => intro Q; rw [List.foldl_cons, ih]; rfl
  have w : denw G F (.seq (.var 0)) [.v (.dict (lgD s lot W)), .v (.int k), .dic (hopD R), .v (.bool false), x4, x5, x6] = some (W.map fun x => encS x.1, [.v (.dict (lgD s lot W)), .v (.int k), .dic (hopD R), .v (.bool false), x4, x5, x6]) := by
    show some ((lgD s lot W).map (·.1), _) = _
    unfold lgD kvE
    rw [List.map_map, List.map_map]
    rfl
  refine ⟨y4, y5, y6, run_nx (s1 := [.v (.dict (lgD s lot W)), .v (.int k), .dic (hopD R), .v (.bool false), x4, x5, x6]) rfl (run_nx (run_fo w e1) ?_)⟩
  rw [e2, fm]
  rfl
theorem lhope_loop {W : List Wy} (nd : (W.map (·.1)).Nodup) (hk : W.length ≤ 2940) {F : Nat → List D → Option CR} : ∀ (m : Nat) {R R' : List Std} (x4 x5 x6 : Sl), HI (W.map (·.1)) R → hLoop s lot k (W.map (·.1)) m R = some R' → ∃ y3 y4 y5 y6,
    whLoop (fun st => (den G F (.var 3) st).bind boolOf) (exSs G F (c_l_hopes_b2 I)) (m + 1) [.v (.dict (lgD s lot W)), .v (.int k), .dic (hopD R), .v (.bool true), x4, x5, x6] = some (.nx [.v (.dict (lgD s lot W)), .v (.int k), .dic (hopD R'), y3, y4, y5, y6])
  | 0, R, R', x4, x5, x6, h, e => by cases e
  | m + 1, R, R', x4, x5, x6, h, e => by
    obtain ⟨y4, y5, y6, e1⟩ := lhope_pass (G := G) (I := I) (s := s) (lot := lot) (k := k) (F := F) nd hk h (.v (.bool true)) x4 x5 x6
    have h1 : HI (W.map (·.1)) (hPass s lot k (W.map (·.1)) R) := h.pass fun _ z => z
    have mo := pass_mono (s := s) (lot := lot) (k := k) (W.map (·.1)) R
    have e' : ((W.map (·.1)).foldl (hTurn s lot k) R).length = (hPass s lot k (W.map (·.1)) R).length := rfl
    unfold hLoop at e
    split at e
    · rename_i c
      cases e
      rw [decide_eq_false (by omega)] at e1
      exact ⟨_, _, _, _, (wh_go rfl e1).trans (wh_end rfl)⟩
    · rename_i c
      rw [decide_eq_true (by omega)] at e1
      obtain ⟨z3, z4, z5, z6, e2⟩ := lhope_loop nd hk m y4 y5 y6 h1 e
      exact ⟨z3, z4, z5, z6, (wh_go rfl e1).trans e2⟩
theorem lhope_ok (hP : HLHope P I) {W : List Wy} (nd : (W.map (·.1)).Nodup) (hk : W.length ≤ 2940) : callF G P (n + 1) I.f_l_hopes [.dict (lgD s lot W), .int k] = some (.ok (.dict (hopD (hopesOf s lot k (W.map (·.1))))) false []) := by
  obtain ⟨e0, _⟩ := hopes_eq (s := s) (lot := lot) (k := k) (ks := W.map (·.1)) (by rw [List.length_map]; exact hk)
  obtain ⟨y3, y4, y5, y6, e⟩ := lhope_loop (G := G) (I := I) (F := callF G P n) (k := k) nd hk (3000 + 96999) (R := []) .no .no .no ⟨List.nodup_nil, fun _ z => by cases z⟩ (hLoop_more 96999 e0)
  refine (callF_run (fl := .rt (.dict (hopD (hopesOf s lot k (W.map (·.1))))) false _) hP.hopes rfl (run_nx (s1 := [.v (.dict (lgD s lot W)), .v (.int k), .dic [], .v (.bool true), .no, .no, .no]) ?_ (run_nx (run_wh e) (run_rt rfl)))).trans rfl
  simp [exS, denP, denK, den, getV, setP, startS, c_l_hopes]
end
end Pv

/-! Rings of spares; who is barred. -/
namespace Pv
open PySem L2
theorem rng_map : ∀ (n : Nat) (lo : Int), rngL lo n = (List.range n).map fun k : Nat => PyData.int (lo + k)
  | 0, lo => rfl
  | n + 1, lo => by
    show PyData.int lo :: rngL (lo + 1) n = _
    rw [rng_map n (lo + 1), List.range_succ_eq_map, List.map_cons, List.map_map]
    congr 1
    · simp
    · refine List.map_congr_left fun k _ => ?_
      show PyData.int _ = PyData.int _
      congr 1
      simp
      omega
theorem rng0 (n : Nat) : rngL 0 n = (List.range n).map fun k : Nat => PyData.int (k : Int) := by
  rw [rng_map]
  refine List.map_congr_left fun k _ => ?_
  rw [Int.zero_add]
theorem fl_nx {one : Bool} {tg : List Nat} {b : SS → Option Fl} {x : D} {xs : List D} {st s1 s2 : SS} (h1 : asgT one tg x st = some s1) (h2 : b s1 = some (.nx s2)) : forLoop one tg b (x :: xs) st = forLoop one tg b xs s2 := by simp [forLoop, h1, h2]
theorem fl_rt {one : Bool} {tg : List Nat} {b : SS → Option Fl} {x : D} {xs : List D} {st s1 s2 : SS} {v : D} {fr : Bool} (h1 : asgT one tg x st = some s1) (h2 : b s1 = some (.rt v fr s2)) : forLoop one tg b (x :: xs) st = some (.rt v fr s2) := by simp [forLoop, h1, h2]
/-- a loop that looks for one -/
theorem forLoop_any {α : Type} (f : α → D) (p : α → Bool) {one : Bool} {tg : List Nat} {b : SS → Option Fl} {v : D} {fr : Bool} (S : List α → SS → Prop) : ∀ {l : List α} {st : SS}, S l st →
    (∀ a r st, S (a :: r) st → ∃ s1, asgT one tg (f a) st = some s1 ∧ ((p a = true ∧ ∃ s2, b s1 = some (.rt v fr s2)) ∨ (p a = false ∧ ∃ s2, b s1 = some (.nx s2) ∧ S r s2))) →
    (l.any p = true ∧ ∃ s2, forLoop one tg b (l.map f) st = some (.rt v fr s2)) ∨ (l.any p = false ∧ ∃ s2, forLoop one tg b (l.map f) st = some (.nx s2) ∧ S [] s2)
  | [], st, h, _ => .inr ⟨rfl, st, rfl, h⟩
  | a :: l, st, h, hs => by
    obtain ⟨s1, e1, h1⟩ := hs a l st h
    rw [List.map_cons, List.any_cons]
    rcases h1 with ⟨hp, s2, e2⟩ | ⟨hp, s2, e2, h2⟩
    · exact .inl ⟨by rw [hp]; rfl, s2, fl_rt e1 e2⟩
    · rw [hp, Bool.false_or, fl_nx e1 e2]
      exact forLoop_any f p S h2 hs
theorem wh_rt {c : SS → Option (Bool × SS)} {b : SS → Option Fl} {n : Nat} {st s1 s2 : SS} {d : D} {fr : Bool} (h : c st = some (true, s1)) (h2 : b s1 = some (.rt d fr s2)) : whLoop c b (n + 1) st = some (.rt d fr s2) := by
  simp [whLoop, h, h2]
/-! ### rings -/
/-- the home in which the spare hangs of one who is stuck -/
def nxt (s : Stt) (st : Std) (h : Nat) : Option Nat := if (tA st h).stuck && (tA st h).spr == .place && decide (0 ≤ spA s h) then some (spA s h).toNat else none
def rwalk (f : Nat → Option Nat) (home : Nat) : Nat → Nat → Bool
  | 0, _ => false
  | j + 1, here => match f here with
    | none => false
    | some h => if h = home then true else rwalk f home j h
def lwalk (f : Nat → Option Nat) : Nat → List Nat → Nat → List Nat × Nat
  | 0, met, here => (met, here)
  | j + 1, met, here => if here ∈ met then (met, here) else match f here with
    | none => (met, here)
    | some h => lwalk f j (met ++ [here]) h
def ringP (f : Nat → Option Nat) (m : Nat) : Bool := (List.range m).any fun k => rwalk f k (m + 1) k
def ringL (f : Nat → Option Nat) (m : Nat) : Bool := (List.range m).any fun k => decide ((lwalk f (m + 1) [] k).2 = k) && !(lwalk f (m + 1) [] k).1.isEmpty
def fOf (l : List (Option Nat)) (k : Nat) : Option Nat := l.getD k none
theorem rings2 : ([none, some 0, some 1].all fun a => [none, some 0, some 1].all fun b => ringP (fOf [a, b]) 2 == ringL (fOf [a, b]) 2) = true := by decide +kernel
theorem rings3 : ([none, some 0, some 1, some 2].all fun a => [none, some 0, some 1, some 2].all fun b => [none, some 0, some 1, some 2].all fun c => ringP (fOf [a, b, c]) 3 == ringL (fOf [a, b, c]) 3) = true := by decide +kernel
theorem nxt_lt {s : Stt} {st : Std} (h : Vd s st) {k j : Nat} (hk : k < st.length) (e : nxt s st k = some j) : j < st.length := by
  unfold nxt at e
  split at e
  · rename_i c
    cases e
    simp only [Bool.and_eq_true, decide_eq_true_eq] at c
    exact (h.ix_p hk c.2 |> fun _ => by have := (h.sp hk).2.1; omega)
  · cases e
theorem nxt_out {s : Stt} {st : Std} {k : Nat} (hk : ¬ k < st.length) : nxt s st k = none := by
  unfold nxt
  have e : tA st k = ⟨true, false, .none⟩ := by
    unfold tA
    rw [List.getD_eq_getElem?_getD, List.getElem?_eq_none (by omega)]
    rfl
  rw [e]
  rfl
theorem nxt_fOf {s : Stt} {st : Std} : nxt s st = fOf ((List.range st.length).map (nxt s st)) := by
  funext k
  unfold fOf
  by_cases c : k < st.length
  · rw [List.getD_eq_getElem?_getD, List.getElem?_map, List.getElem?_range c]
    rfl
  · rw [nxt_out c, List.getD_eq_getElem?_getD, List.getElem?_eq_none (by rw [List.length_map, List.length_range]; omega)]
    rfl
theorem mem_opt2 {o : Option Nat} (h : ∀ j, o = some j → j < 2) : o ∈ [none, some 0, some 1] := by
  cases o with
  | none => simp
  | some j => have := h j rfl; match j, this with | 0, _ => simp | 1, _ => simp
theorem mem_opt3 {o : Option Nat} (h : ∀ j, o = some j → j < 3) : o ∈ [none, some 0, some 1, some 2] := by
  cases o with
  | none => simp
  | some j => have := h j rfl; match j, this with | 0, _ => simp | 1, _ => simp | 2, _ => simp
theorem rings_eq {s : Stt} {st : Std} (h : Vd s st) : ringP (nxt s st) st.length = ringL (nxt s st) st.length := by
  rcases h.m with m | m
  · have e : (List.range st.length).map (nxt s st) = [nxt s st 0, nxt s st 1] := by rw [m]; rfl
    rw [nxt_fOf, e, m]
    have r := rings2
    rw [List.all_eq_true] at r
    have r := r _ (mem_opt2 fun j q => by have := nxt_lt h (k := 0) (by omega) q; omega)
    rw [List.all_eq_true] at r
    exact beq_iff_eq.mp (r _ (mem_opt2 fun j q => by have := nxt_lt h (k := 1) (by omega) q; omega))
  · have e : (List.range st.length).map (nxt s st) = [nxt s st 0, nxt s st 1, nxt s st 2] := by rw [m]; rfl
    rw [nxt_fOf, e, m]
    have r := rings3
    rw [List.all_eq_true] at r
    have r := r _ (mem_opt3 fun j q => by have := nxt_lt h (k := 0) (by omega) q; omega)
    rw [List.all_eq_true] at r
    have r := r _ (mem_opt3 fun j q => by have := nxt_lt h (k := 1) (by omega) q; omega)
    rw [List.all_eq_true] at r
    exact beq_iff_eq.mp (r _ (mem_opt3 fun j q => by have := nxt_lt h (k := 2) (by omega) q; omega))
structure HRing (G : List D) (P : List Df) (I : Ix) : Prop extends HGraph G P I where
  ring : P[I.f_has_ring]? = some (c_has_ring I)
section
variable {G : List D} {P : List Df} {I : Ix} {n : Nat} {s : Stt} {st : Std} {k : Nat}
theorem ring_test (hP : HRing G P I) (h : Vd s st) {home here many : Nat} (hk : here < st.length) (hm : many ≤ 10) :
    (den G (callF G P (n + 2)) (.and (.cmp .LtE (.var 4) (.blt .len (.cons (.var 1) .nil))) (.and (.call I.f_is_stuck (.cons (.idx (.var 1) (.var 3)) .nil)) (.and (.cmp .Eq (.idx (.idx (.var 1) (.var 3)) (.cst (.int 2))) (.cst (.str (Str.ofString "place")))) (.cmp .GtE (.idx (.idx (.var 0) (.cst (.int 0))) (.var 3)) (.cst (.int 0)))))) [.v s.enc, .v (encS st), .v (.int home), .v (.int here), .v (.int many)]).bind boolOf
      = some (decide (many ≤ st.length) && (nxt s st here).isSome, [.v s.enc, .v (encS st), .v (.int home), .v (.int here), .v (.int many)]) := by
  have f1 := h.ix_st hk
  have f3 := h.ix_sp hk
  have p0 := stuck_ok (G := G) (n := n) hP.toHEvent (t := tA st here)
  have w2 : eqD (.str (tA st here).spr.w) (.str (Str.ofString "place")) = some ((tA st here).spr == .place) := eqW (b := .place)
  have e1 : bltD .len [encS st] = some (.int st.length) := by show some (PyData.int (List.length _)) = _; rw [List.length_map]
  unfold nxt
  by_cases c0 : many ≤ st.length
  · have c0' : (many : Int) ≤ st.length := by omega
    cases c1 : (tA st here).stuck
    · rw [c1] at p0
      simp [den, dens, getV, boolOf, endCall, f1, e1, cmpD, c0', c0, p0]
    · rw [c1] at p0
      cases c2 : ((tA st here).spr == .place)
      · rw [c2] at w2
        simp [den, dens, getV, boolOf, endCall, f1, e1, cmpD, c0', c0, p0, hm2, w2]
      · rw [c2] at w2
        cases c3 : decide (0 ≤ spA s here)
        · have c3' : ¬ 0 ≤ spA s here := by simpa using c3
          simp [den, dens, getV, boolOf, endCall, f1, f3, st0, e1, cmpD, c0', c0, p0, hm2, w2, c3']
        · have c3' : 0 ≤ spA s here := by simpa using c3
          simp [den, dens, getV, boolOf, endCall, f1, f3, st0, e1, cmpD, c0', c0, p0, hm2, w2, c3']
  · have c0' : ¬ (many : Int) ≤ st.length := by omega
    simp [den, dens, getV, boolOf, e1, cmpD, c0', c0]
theorem ring_walk (hP : HRing G P I) (h : Vd s st) {home : Nat} (hh : home < st.length) : ∀ (j here many c : Nat), here < st.length → many + j = st.length + 1 →
    (rwalk (nxt s st) home j here = true ∧ ∃ s2, whLoop (fun q => (den G (callF G P (n + 2)) (.and (.cmp .LtE (.var 4) (.blt .len (.cons (.var 1) .nil))) (.and (.call I.f_is_stuck (.cons (.idx (.var 1) (.var 3)) .nil)) (.and (.cmp .Eq (.idx (.idx (.var 1) (.var 3)) (.cst (.int 2))) (.cst (.str (Str.ofString "place")))) (.cmp .GtE (.idx (.idx (.var 0) (.cst (.int 0))) (.var 3)) (.cst (.int 0)))))) q).bind boolOf) (exSs G (callF G P (n + 2)) (c_has_ring_b0 I)) (j + c + 1) [.v s.enc, .v (encS st), .v (.int home), .v (.int here), .v (.int many)] = some (.rt (.bool true) false s2)) ∨
    (rwalk (nxt s st) home j here = false ∧ ∃ x3 x4, whLoop (fun q => (den G (callF G P (n + 2)) (.and (.cmp .LtE (.var 4) (.blt .len (.cons (.var 1) .nil))) (.and (.call I.f_is_stuck (.cons (.idx (.var 1) (.var 3)) .nil)) (.and (.cmp .Eq (.idx (.idx (.var 1) (.var 3)) (.cst (.int 2))) (.cst (.str (Str.ofString "place")))) (.cmp .GtE (.idx (.idx (.var 0) (.cst (.int 0))) (.var 3)) (.cst (.int 0)))))) q).bind boolOf) (exSs G (callF G P (n + 2)) (c_has_ring_b0 I)) (j + c + 1) [.v s.enc, .v (encS st), .v (.int home), .v (.int here), .v (.int many)] = some (.nx [.v s.enc, .v (encS st), .v (.int home), x3, x4]))
  | 0, here, many, c, hk, hm => by
    have t := ring_test (G := G) (n := n) (home := home) hP h hk (many := many) (by have := h.m; omega)
    rw [decide_eq_false (by omega), Bool.false_and] at t
    exact .inr ⟨rfl, .v (.int here), .v (.int many), wh_end t⟩
  | j + 1, here, many, c, hk, hm => by
    have t := ring_test (G := G) (n := n) (home := home) hP h hk (many := many) (by have := h.m; omega)
    rw [decide_eq_true (show many ≤ st.length by omega), Bool.true_and] at t
    cases e : nxt s st here with
    | none =>
      rw [e] at t
      refine .inr ⟨by unfold rwalk; rw [e], .v (.int here), .v (.int many), ?_⟩
      rw [show j + 1 + c + 1 = (j + 1 + c) + 1 by omega]
      exact wh_end t
    | some h' =>
      rw [e] at t
      have hl := nxt_lt h hk e
      have e2 : spA s here = (h' : Int) := by
        unfold nxt at e
        split at e
        · rename_i cc
          injection e with e
          simp only [Bool.and_eq_true, decide_eq_true_eq] at cc
          omega
        · cases e
      have f3 := h.ix_sp hk
      rw [e2] at f3
      have w3 : eqD (.int (h' : Int)) (.int (home : Int)) = some (decide (h' = home)) := by
        show some (decide ((h' : Int) = home)) = _
        congr 1
        rw [Bool.eq_iff_iff, decide_eq_true_eq, decide_eq_true_eq]
        omega
      have s1 : exS G (callF G P (n + 2)) (.par [3, 4] (.cons (.idx (.idx (.var 0) (.cst (.int 0))) (.var 3)) (.cons (.bin .Add (.var 4) (.cst (.int 1))) .nil)) [false, false]) [.v s.enc, .v (encS st), .v (.int home), .v (.int here), .v (.int many)] = some (.nx [.v s.enc, .v (encS st), .v (.int home), .v (.int h'), .v (.int ((many + 1 : Nat) : Int))]) := by
        simp [exS, denP, den, getV, setP, st0, f3, addI]
      by_cases q : h' = home
      · refine .inl ⟨by unfold rwalk; rw [e]; exact if_pos q, [.v s.enc, .v (encS st), .v (.int home), .v (.int h'), .v (.int ((many + 1 : Nat) : Int))], ?_⟩
        rw [show j + 1 + c + 1 = (j + 1 + c) + 1 by omega]
        refine wh_rt t (run_nx s1 ?_)
        rw [decide_eq_true q] at w3
        simp [exSs, exS, den, getV, boolOf, cmpD, w3]
      · rw [decide_eq_false q] at w3
        have b : exSs G (callF G P (n + 2)) (c_has_ring_b0 I) [.v s.enc, .v (encS st), .v (.int home), .v (.int here), .v (.int many)] = some (.nx [.v s.enc, .v (encS st), .v (.int home), .v (.int h'), .v (.int ((many + 1 : Nat) : Int))]) := by
          refine run_nx s1 ?_
          simp [exSs, exS, den, getV, boolOf, cmpD, w3]
        have ih := ring_walk hP h hh j h' (many + 1) c hl (by omega)
        have er : rwalk (nxt s st) home (j + 1) here = rwalk (nxt s st) home j h' := by
          show (match nxt s st here with | none => false | some h => if h = home then true else rwalk (nxt s st) home j h) = _
          rw [e]
          exact if_neg q
        rw [er, show j + 1 + c + 1 = (j + c + 1) + 1 by omega]
        rcases ih with ⟨i1, s2, i2⟩ | ⟨i1, x3, x4, i2⟩
        · exact .inl ⟨i1, s2, (wh_go t b).trans i2⟩
        · exact .inr ⟨i1, x3, x4, (wh_go t b).trans i2⟩
theorem ring_ok (hP : HRing G P I) (h : Vd s st) : callF G P (n + 3) I.f_has_ring [s.enc, encS st] = some (.ok (.bool (ringP (nxt s st) st.length)) false []) := by
  have e1 : bltD .len [encS st] = some (.int st.length) := by show some (PyData.int (List.length _)) = _; rw [List.length_map]
  have hm := h.m
  have lp := forLoop_any (fun k : Nat => PyData.int (k : Int)) (fun k => rwalk (nxt s st) k (st.length + 1) k) (one := true) (tg := [2]) (b := exSs G (callF G P (n + 2)) (c_has_ring_b1 I)) (v := .bool true) (fr := false)
    (fun l q => (∀ k ∈ l, k < st.length) ∧ ∃ x2 x3 x4, q = [Sl.v s.enc, .v (encS st), x2, x3, x4]) (l := List.range st.length) (st := [.v s.enc, .v (encS st), .no, .no, .no]) ⟨fun k hk => List.mem_range.mp hk, _, _, _, rfl⟩
    (fun k r q hq => by
      obtain ⟨hk, x2, x3, x4, rfl⟩ := hq
      have hk0 := hk k List.mem_cons_self
      refine ⟨[.v s.enc, .v (encS st), .v (.int k), x3, x4], rfl, ?_⟩
      have s1 : exS G (callF G P (n + 2)) (.par [3, 4] (.cons (.var 2) (.cons (.cst (.int 0)) .nil)) [false, false]) [.v s.enc, .v (encS st), .v (.int k), x3, x4] = some (.nx [.v s.enc, .v (encS st), .v (.int k), .v (.int k), .v (.int ((0 : Nat) : Int))]) := by
        simp [exS, denP, den, getV, setP]
      have wf : wfuel = st.length + 1 + (99998 - st.length) + 1 := by unfold wfuel; omega
      rcases ring_walk (G := G) (n := n) hP h hk0 (st.length + 1) k 0 (99998 - st.length) hk0 (by omega) with ⟨i1, s2, i2⟩ | ⟨i1, y3, y4, i2⟩
      · rw [← wf] at i2
        refine .inl ⟨i1, s2, run_nx s1 (run_rt ?_)⟩
        unfold exS
        exact i2
      · rw [← wf] at i2
        exact .inr ⟨i1, _, run_nx s1 (run_nx (run_wh i2) rfl), fun j hj => hk j (List.mem_cons_of_mem _ hj), _, _, _, rfl⟩)
  have w : denw G (callF G P (n + 2)) (.rng1 (.blt .len (.cons (.var 1) .nil))) [.v s.enc, .v (encS st), .no, .no, .no] = some ((List.range st.length).map fun k : Nat => PyData.int (k : Int), [.v s.enc, .v (encS st), .no, .no, .no]) := by
    rw [← rng0]
    exact w_rng1 (i := st.length) (e_blt1 (x := encS st) rfl e1) rfl (by omega)
  unfold ringP
  rcases lp with ⟨i1, s2, i2⟩ | ⟨i1, s2, i2, i3⟩
  · rw [i1]
    exact (callF_run (fl := .rt (.bool true) false s2) hP.ring rfl (run_nx' (run_fo w i2) rfl)).trans rfl
  · rw [i1]
    exact (callF_run (fl := .rt (.bool false) false s2) hP.ring rfl (run_nx (run_fo w i2) (run_rt rfl))).trans rfl
end
end Pv

/-! The law's rings; who is barred. -/
namespace Pv
open PySem L2
theorem shaped_ints (l : List Nat) : SeqAt.shaped (.list (l.map fun k : Nat => PyData.int (k : Int))) = true := shaped_list fun x hx => by
  obtain ⟨j, _, rfl⟩ := List.mem_map.mp hx
  exact ⟨rfl, by simp [PyData.depth]⟩
theorem in_ints {l : List Nat} {k : Nat} : inD (.int k) (l.map fun k : Nat => PyData.int (k : Int)) = some (decide (k ∈ l)) := by
  unfold inD
  rw [if_pos ⟨shaped_int _, shaped_ints l⟩]
  congr 1
  rw [Bool.eq_iff_iff, List.any_eq_true, decide_eq_true_eq]
  constructor
  · rintro ⟨x, hx, e⟩
    obtain ⟨j, hj, rfl⟩ := List.mem_map.mp hx
    have : (j : Int) = k := by simpa [PyData.eqv] using e
    rw [← Int.ofNat.inj this]
    exact hj
  · intro h
    exact ⟨_, List.mem_map.mpr ⟨k, h, rfl⟩, by simp [PyData.eqv]⟩
structure HLRing (P : List Df) (I : Ix) : Prop extends HLAll P I where
  ringed : P[I.f_l_ringed]? = some (c_l_ringed I)
abbrev intsD (l : List Nat) : List D := l.map fun k : Nat => PyData.int (k : Int)
section
variable {G : List D} {P : List Df} {I : Ix} {n : Nat} {s : Stt} {st : Std} {k : Nat}
abbrev lrC (I : Ix) : Ex := (.and (.oIn true 4 (.var 3)) (.and (.call I.f_l_stuck (.cons (.var 1) (.cons (.var 3) .nil))) (.and (.cmp .Eq (.idx (.idx (.var 1) (.var 3)) (.cst (.int 2))) (.cst (.str (Str.ofString "place")))) (.cmp .GtE (.idx (.idx (.var 0) (.cst (.int 0))) (.var 3)) (.cst (.int 0))))))
theorem lring_test (hP : HLRing P I) (h : Vd s st) {home here : Nat} {met : List Nat} (hk : here < st.length) :
    (den G (callF G P (n + 2)) (lrC I) [.v s.enc, .v (encS st), .v (.int home), .v (.int here), .own (intsD met)]).bind boolOf
      = some (!decide (here ∈ met) && (nxt s st here).isSome, [.v s.enc, .v (encS st), .v (.int home), .v (.int here), .own (intsD met)]) := by
  have f1 := h.ix_st hk
  have f3 := h.ix_sp hk
  have p0 := lstuck_ok (G := G) (n := n + 1) hP.toHLev h hk
  have p0 : callF G P (n + 2) I.f_l_stuck [encS st, .int here] = _ := p0
  have w2 : eqD (.str (tA st here).spr.w) (.str (Str.ofString "place")) = some ((tA st here).spr == .place) := eqW (b := .place)
  have ii := in_ints (l := met) (k := here)
  unfold nxt
  by_cases c0 : here ∈ met
  · rw [decide_eq_true c0] at ii ⊢
    simp [den, getV, getO, boolOf, ii]
  · rw [decide_eq_false c0] at ii ⊢
    cases c1 : (tA st here).stuck
    · rw [c1] at p0
      simp [den, dens, getV, getO, boolOf, endCall, ii, p0]
    · rw [c1] at p0
      cases c2 : ((tA st here).spr == .place)
      · rw [c2] at w2
        simp [den, dens, getV, getO, boolOf, endCall, ii, f1, cmpD, p0, hm2, w2]
      · rw [c2] at w2
        cases c3 : decide (0 ≤ spA s here)
        · have c3' : ¬ 0 ≤ spA s here := by simpa using c3
          simp [den, dens, getV, getO, boolOf, endCall, ii, f1, f3, st0, cmpD, p0, hm2, w2, c3']
        · have c3' : 0 ≤ spA s here := by simpa using c3
          simp [den, dens, getV, getO, boolOf, endCall, ii, f1, f3, st0, cmpD, p0, hm2, w2, c3']
theorem lring_walk (hP : HLRing P I) (h : Vd s st) {home : Nat} : ∀ (j c here : Nat) (met : List Nat), here < st.length → met.length + j = st.length + 1 → met.Nodup → (∀ x ∈ met, x < st.length) →
    whLoop (fun q => (den G (callF G P (n + 2)) (lrC I) q).bind boolOf) (exSs G (callF G P (n + 2)) (c_l_ringed_b0 I)) (j + c + 1) [.v s.enc, .v (encS st), .v (.int home), .v (.int here), .own (intsD met)] =
      some (.nx [.v s.enc, .v (encS st), .v (.int home), .v (.int (lwalk (nxt s st) j met here).2), .own (intsD (lwalk (nxt s st) j met here).1)])
  | 0, c, here, met, hk, hm, nd, lt => by
    have := len_le_of_sub (r := List.range st.length) nd fun x hx => List.mem_range.mpr (lt x hx)
    rw [List.length_range] at this
    omega
  | j + 1, c, here, met, hk, hm, nd, lt => by
    have t := lring_test (G := G) (n := n) (home := home) (met := met) hP h hk
    rw [show j + 1 + c + 1 = (j + c + 1) + 1 by omega]
    by_cases q : here ∈ met
    · rw [decide_eq_true q, Bool.not_true, Bool.false_and] at t
      have e : lwalk (nxt s st) (j + 1) met here = (met, here) := if_pos q
      rw [e]
      exact wh_end t
    · rw [decide_eq_false q, Bool.not_false, Bool.true_and] at t
      have e : lwalk (nxt s st) (j + 1) met here = match nxt s st here with | none => (met, here) | some h => lwalk (nxt s st) j (met ++ [here]) h := if_neg q
      rw [e]
      cases en : nxt s st here with
      | none =>
        rw [en] at t
        exact wh_end t
      | some h' =>
        rw [en] at t
        have hl := nxt_lt h hk en
        have e2 : spA s here = (h' : Int) := by
          unfold nxt at en
          split at en
          · rename_i cc
            injection en with en
            simp only [Bool.and_eq_true, decide_eq_true_eq] at cc
            omega
          · cases en
        have f3 := h.ix_sp hk
        rw [e2] at f3
        have mm := h.m
        have b : exSs G (callF G P (n + 2)) (c_l_ringed_b0 I) [.v s.enc, .v (encS st), .v (.int home), .v (.int here), .own (intsD met)] = some (.nx [.v s.enc, .v (encS st), .v (.int home), .v (.int h'), .own (intsD (met ++ [here]))]) := by
          have hl : (intsD met).length < lim := by rw [List.length_map]; unfold lim; omega
          have e3 : intsD (met ++ [here]) = intsD met ++ [.int here] := List.map_append
          rw [e3]
          refine run_nx (s1 := [.v s.enc, .v (encS st), .v (.int home), .v (.int here), .own (intsD met ++ [.int here])]) ?_ (run_nx (s1 := [.v s.enc, .v (encS st), .v (.int home), .v (.int h'), .own (intsD met ++ [.int here])]) ?_ rfl)
          · generalize intsD met = M at *
            simp [exS, den, getV, getO, hl]
          · simp [exS, den, getV, setV, st0, f3]
        refine (wh_go t b).trans (lring_walk hP h j c h' (met ++ [here]) hl (by rw [List.length_append, List.length_singleton]; omega) ?_ fun x hx => ?_)
        · rw [List.nodup_append]
          exact ⟨nd, by simp, fun a ha b hb => by rw [List.mem_singleton.mp hb]; exact fun z => q (by rw [← z]; exact ha)⟩
        · rcases List.mem_append.mp hx with hx | hx
          · exact lt x hx
          · rw [List.mem_singleton.mp hx]; exact hk
theorem lring_ok (hP : HLRing P I) (h : Vd s st) : callF G P (n + 3) I.f_l_ringed [s.enc, encS st] = some (.ok (.bool (ringP (nxt s st) st.length)) false []) := by
  have e1 : bltD .len [encS st] = some (.int st.length) := by show some (PyData.int (List.length _)) = _; rw [List.length_map]
  have hm := h.m
  rw [rings_eq h]
  have lp := forLoop_any (fun k : Nat => PyData.int (k : Int)) (fun k => decide ((lwalk (nxt s st) (st.length + 1) [] k).2 = k) && !(lwalk (nxt s st) (st.length + 1) [] k).1.isEmpty) (one := true) (tg := [2]) (b := exSs G (callF G P (n + 2)) (c_l_ringed_b1 I)) (v := .bool true) (fr := false)
    (fun l q => (∀ k ∈ l, k < st.length) ∧ ∃ x2 x3 x4, q = [Sl.v s.enc, .v (encS st), x2, x3, x4]) (l := List.range st.length) (st := [.v s.enc, .v (encS st), .no, .no, .no]) ⟨fun k hk => List.mem_range.mp hk, _, _, _, rfl⟩
    (fun k r q hq => by
      obtain ⟨hk, x2, x3, x4, rfl⟩ := hq
      have hk0 := hk k List.mem_cons_self
      refine ⟨[.v s.enc, .v (encS st), .v (.int k), x3, x4], rfl, ?_⟩
      have s1 : exS G (callF G P (n + 2)) (.par [3, 4] (.cons (.var 2) (.cons (.lst .nil) .nil)) [false, true]) [.v s.enc, .v (encS st), .v (.int k), x3, x4] = some (.nx [.v s.enc, .v (encS st), .v (.int k), .v (.int k), .own []]) := by
        simp [exS, denP, denF, den, dens, getV, setP, lim]
      have wf : wfuel = st.length + 1 + (99998 - st.length) + 1 := by unfold wfuel; omega
      have wk := lring_walk (G := G) (n := n) (home := k) hP h (st.length + 1) (99998 - st.length) k [] hk0 (by simp) List.nodup_nil (by simp)
      rw [← wf] at wk
      generalize lwalk (nxt s st) (st.length + 1) [] k = r2 at *
      have w3 : eqD (.int (r2.2 : Int)) (.int (k : Int)) = some (decide (r2.2 = k)) := by
        show some (decide ((r2.2 : Int) = k)) = _
        congr 1
        rw [Bool.eq_iff_iff, decide_eq_true_eq, decide_eq_true_eq]
        omega
      have ise : (intsD r2.1).isEmpty = r2.1.isEmpty := List.isEmpty_map
      have tst : den G (callF G P (n + 2)) (.and (.cmp .Eq (.var 3) (.var 2)) (.oNe 4)) [.v s.enc, .v (encS st), .v (.int k), .v (.int r2.2), .own (intsD r2.1)] = some (.bool (decide (r2.2 = k) && !r2.1.isEmpty), [.v s.enc, .v (encS st), .v (.int k), .v (.int r2.2), .own (intsD r2.1)]) := by
        have sh := shaped_ints r2.1
        rw [← ise]
        cases c : decide (r2.2 = k) <;> rw [c] at w3 <;> simp [den, getV, getO, boolOf, cmpD, w3, sh]
      cases c : (decide (r2.2 = k) && !r2.1.isEmpty) with
      | true =>
        rw [c] at tst
        exact .inl ⟨rfl, _, run_nx s1 (run_nx (run_wh wk) (run_rt (ex_ife tst (run_rt rfl))))⟩
      | false =>
        rw [c] at tst
        exact .inr ⟨rfl, _, run_nx s1 (run_nx (run_wh wk) (run_nx (ex_ife tst rfl) rfl)), fun j hj => hk j (List.mem_cons_of_mem _ hj), _, _, _, rfl⟩)
  have w : denw G (callF G P (n + 2)) (.rng1 (.blt .len (.cons (.var 1) .nil))) [.v s.enc, .v (encS st), .no, .no, .no] = some ((List.range st.length).map fun k : Nat => PyData.int (k : Int), [.v s.enc, .v (encS st), .no, .no, .no]) := by
    rw [← rng0]
    exact w_rng1 (i := st.length) (e_blt1 (x := encS st) rfl e1) rfl (by omega)
  unfold ringL
  rcases lp with ⟨i1, s2, i2⟩ | ⟨i1, s2, i2, i3⟩
  · rw [i1]
    exact (callF_run (fl := .rt (.bool true) false s2) hP.ringed rfl (run_nx' (run_fo w i2) rfl)).trans rfl
  · rw [i1]
    exact (callF_run (fl := .rt (.bool false) false s2) hP.ringed rfl (run_nx (run_fo w i2) (run_rt rfl))).trans rfl
end
/-! ### barred -/
/-- somebody is out who never comes in -/
noncomputable def barAt (s : Stt) (lot : List Nat) (ks : List Std) (st : Std) : Bool := (List.range st.length).any fun k => !(tA st k).inn && !decide (st ∈ hopesOf s lot k ks)
noncomputable def hopesD (s : Stt) (lot : List Nat) (ks : List Std) (m : Nat) : D := .list ((List.range m).map fun k => .dict (hopD (hopesOf s lot k ks)))
theorem hopes_ix {s : Stt} {lot : List Nat} {ks : List Std} {m k : Nat} (h : k < m) : idxD (hopesD s lot ks m) (.int k) = some (.dict (hopD (hopesOf s lot k ks))) := by
  show atI _ _ = _
  rw [Pv.atI_nat (by rw [List.length_map, List.length_range]; exact h), List.getElem?_map, List.getElem?_range h]
  rfl
structure HBarred (G : List D) (P : List Df) (I : Ix) : Prop extends HGraph G P I, HHope P I where
  barred : P[I.f_is_barred]? = some (c_is_barred I)
section
variable {G : List D} {P : List Df} {I : Ix} {n : Nat} {s : Stt} {st : Std} {k : Nat} {lot : List Nat}
theorem bar_e1 {F : Nat → List D → Option CR} (h : Vd s st) (ks : List Std) (a : Sl) :
    den G F (c_is_barred_e1 I) [a, .v (.int st.length), .v (hopesD s lot ks st.length), .no, .v (encS st)] = some (.list ((List.range st.length).map fun k => .bool (!(tA st k).inn && !decide (st ∈ hopesOf s lot k ks))), [a, .v (.int st.length), .v (hopesD s lot ks st.length), .no, .v (encS st)]) := by
  unfold c_is_barred_e1
  have hm := h.m
  have r := den_lc_map (G := G) (F := F) (one := true) (tg := [3]) (own := [3]) (c := .no) (w := .rng1 (.var 1)) (e := (.and (.not (.idx (.idx (.var 4) (.var 3)) (.cst (.int 0)))) (.cmp .NotIn (.var 4) (.idx (.var 2) (.var 3))))) (l := List.range st.length) (st := [a, .v (.int st.length), .v (hopesD s lot ks st.length), .no, .v (encS st)]) (fun k : Nat => PyData.int (k : Int)) (fun k => [a, .v (.int st.length), .v (hopesD s lot ks st.length), .v (.int k), .v (encS st)]) (fun _ => true) (fun k => .bool (!(tA st k).inn && !decide (st ∈ hopesOf s lot k ks))) ?_ (by rw [List.length_range]; unfold lim; omega) (fun _ _ => rfl) (fun _ _ => rfl) (fun k hk _ => ?_) (fun _ _ => rfl) rfl
  · rw [List.filter_eq_self.mpr fun _ _ => rfl] at r
    exact r
  · rw [← rng0]
    exact w_rng1 (i := st.length) rfl rfl (by omega)
  · have hk := List.mem_range.mp hk
    have f1 := h.ix_st hk
    have hx := hopes_ix (s := s) (lot := lot) (ks := ks) hk
    have q := sIn (fun _ => .bool true) (hopesOf s lot k ks) st
    cases c : (tA st k).inn <;> simp [den, getV, boolOf, f1, hm0, c, hx, cmpD, q]
theorem barred_ok (hP : HBarred G P I) {ks : List Std} {m : Nat} (hv : ∀ st ∈ ks, Vd s st ∧ st.length = m) (hne : ks ≠ []) (hk : ks.length ≤ 2940) : callF G P (n + 2) I.f_is_barred [.dict (pgD s lot ks)] = some (.ok (.list ((ks.filter (barAt s lot ks)).map encS)) false []) := by
  have h18 : ∀ st ∈ ks, (stepsL s lot st).length ≤ 18 := fun st hs => by
    have l := stepsL_len s lot st
    have := (hv st hs).1.m
    omega
  obtain ⟨z, r, rfl⟩ : ∃ z r, ks = z :: r := List.exists_cons_of_ne_nil hne
  have hz := hv z List.mem_cons_self
  have hm := hz.1.m
  have lz : (encS z) = .tuple (z.map Hm.enc) := rfl
  generalize eks : z :: r = ks at *
  have s1 : exS G (callF G P (n + 1)) (.set 1 (.blt .len (.cons (.idx (.blt .list (.cons (.var 0) .nil)) (.cst (.int 0))) .nil))) [.v (.dict (pgD s lot ks)), .no, .no, .no, .no] = some (.nx [.v (.dict (pgD s lot ks)), .v (.int m), .no, .no, .no]) := by
    have k1 : bltD .list [.dict (pgD s lot ks)] = some (.list (ks.map encS)) := by
      show some (PyData.list _) = _
      rw [show (pgD s lot ks).map (·.1) = ks.map kStd.enc from keys_kvE _ _]
      rfl
    have k2 : idxD (.list (ks.map encS)) (.int 0) = some (encS z) := by
      rw [← eks]
      show atI _ ((0 : Nat) : Int) = _
      rw [Pv.atI_nat (by simp)]
      rfl
    have k3 : bltD .len [encS z] = some (.int m) := by show some (PyData.int (List.length _)) = _; rw [List.length_map, hz.2]
    let S0 : SS := [.v (.dict (pgD s lot ks)), .no, .no, .no, .no]
    have d1 : den G (callF G P (n + 1)) (.blt .list (.cons (.var 0) .nil)) S0 = some (.list (ks.map encS), S0) := e_blt1 (s1 := S0) rfl k1
    have d2 : den G (callF G P (n + 1)) (.idx (.blt .list (.cons (.var 0) .nil)) (.cst (.int 0))) S0 = some (encS z, S0) := e_idx (s2 := S0) d1 rfl k2
    exact x_set (e_blt1 d2 k3) (by show 1 < 5; omega)
  have e0 : den G (callF G P (n + 1)) (c_is_barred_e0 I) [.v (.dict (pgD s lot ks)), .v (.int m), .no, .no, .no] = some (hopesD s lot ks m, [.v (.dict (pgD s lot ks)), .v (.int m), .no, .no, .no]) := by
    unfold c_is_barred_e0 hopesD
    have r := den_lc_map (G := G) (F := callF G P (n + 1)) (one := true) (tg := [3]) (own := [3]) (c := .no) (w := .rng1 (.var 1)) (e := (.call I.f_hopeful (.cons (.var 0) (.cons (.var 3) .nil)))) (l := List.range m) (st := [.v (.dict (pgD s lot ks)), .v (.int m), .no, .no, .no]) (fun k : Nat => PyData.int (k : Int)) (fun k => [.v (.dict (pgD s lot ks)), .v (.int m), .no, .v (.int k), .no]) (fun _ => true) (fun k => .dict (hopD (hopesOf s lot k ks))) ?_ (by rw [List.length_range]; unfold lim; omega) (fun _ _ => rfl) (fun _ _ => rfl) (fun k hk' _ => ?_) (fun _ _ => rfl) rfl
    · rw [List.filter_eq_self.mpr fun _ _ => rfl] at r
      exact r
    · rw [← rng0]
      exact w_rng1 (i := m) rfl rfl (by omega)
    · have q := hope_ok (G := G) (n := n) (k := k) hP.toHHope h18 hk
      simp [den, dens, getV, endCall, q]
  have e2 : den G (callF G P (n + 1)) (c_is_barred_e2 I) [.v (.dict (pgD s lot ks)), .v (.int m), .v (hopesD s lot ks m), .no, .no] = some (.list ((ks.filter (barAt s lot ks)).map encS), [.v (.dict (pgD s lot ks)), .v (.int m), .v (hopesD s lot ks m), .no, .no]) := by
    unfold c_is_barred_e2
    refine den_lc_map (l := ks) encS (fun z => [.v (.dict (pgD s lot ks)), .v (.int m), .v (hopesD s lot ks m), .no, .v (encS z)]) (barAt s lot ks) encS ?_ (by unfold lim; omega) (fun _ _ => rfl) (fun z hz => ?_) (fun _ _ _ => rfl) (fun _ _ => rfl) rfl
    · show some ((pgD s lot ks).map (·.1), _) = _
      rw [show (pgD s lot ks).map (·.1) = ks.map kStd.enc from keys_kvE _ _]
      rfl
    · obtain ⟨v1, v2⟩ := hv z hz
      have e1 := bar_e1 (G := G) (I := I) (F := callF G P (n + 1)) (lot := lot) v1 ks (.v (.dict (pgD s lot ks)))
      rw [v2] at e1
      have e3 := e_blt1 e1 (any_map _ _)
      unfold dent
      rw [e3]
      unfold barAt
      rw [v2]
      rfl
  refine (callF_run (fl := .rt (.list ((ks.filter (barAt s lot ks)).map encS)) false _) hP.barred rfl (run_nx s1 (run_nx (x_set e0 (by show 2 < 5; omega)) (run_rt (x_ret e2))))).trans rfl
end
end Pv

/-! The harms of a stand. -/
namespace Pv
open PySem L2
abbrev wBar : Str := Str.ofString "barred"
abbrev wLoc : Str := Str.ofString "locked"
abbrev wMis : Str := Str.ofString "missing"
abbrev wRin : Str := Str.ofString "ring"
abbrev wStr : Str := Str.ofString "stranger"
def bl (b : Bool) (w : Str) : List Str := if b then [w] else []
abbrev strsD (l : List Str) : List D := l.map PyData.str
theorem bl_len (b : Bool) (w : Str) : (bl b w).length ≤ 1 := by cases b <;> simp [bl]
section
variable (s : Stt) (st : Std)
def lockedB : Bool := (List.range st.length).any fun k => (tA st k).stuck && (getE s st k).isEmpty
def missB : Bool := (List.range st.length).any fun k => (tA st k).stuck && ((tA st k).spr == .gone || (tA st k).spr == .inside)
def strB : Bool := (List.range st.length).any fun k => (tA st k).spr == .gone
def plainH : List Str := bl (lockedB s st) wLoc ++ bl (missB st) wMis ++ bl (ringP (nxt s st) st.length) wRin ++ bl (strB st) wStr
end
noncomputable def harmsH (s : Stt) (lot : List Nat) (ks : List Std) (st : Std) : List Str := bl (barAt s lot ks st) wBar ++ plainH s st
theorem plainH_len (s : Stt) (st : Std) : (plainH s st).length ≤ 4 := by
  unfold plainH
  simp only [List.length_append]
  have h1 := bl_len (lockedB s st) wLoc
  have h2 := bl_len (missB st) wMis
  have h3 := bl_len (ringP (nxt s st) st.length) wRin
  have h4 := bl_len (strB st) wStr
  omega
theorem enum_map : ∀ (xs : List D) (k : Int), enumL k xs = (List.range xs.length).map fun i : Nat => PyData.tuple [.int (k + i), xs.getD i .none]
  | [], k => rfl
  | x :: xs, k => by
    show PyData.tuple [.int k, x] :: enumL (k + 1) xs = _
    rw [enum_map xs (k + 1), List.length_cons, List.range_succ_eq_map, List.map_cons, List.map_map]
    congr 1
    · simp
    · refine List.map_congr_left fun i _ => ?_
      show PyData.tuple [.int (k + 1 + i), xs.getD i .none] = PyData.tuple [.int (k + ((i + 1 : Nat) : Int)), (x :: xs).getD (i + 1) .none]
      rw [show k + 1 + (i : Int) = k + ((i + 1 : Nat) : Int) by omega]
      rfl
theorem enum_st (st : Std) : enumL 0 (st.map Hm.enc) = (List.range st.length).map fun k : Nat => PyData.tuple [.int (k : Int), (tA st k).enc] := by
  rw [enum_map, List.length_map]
  refine List.map_congr_left fun k hk => ?_
  have hk := List.mem_range.mp hk
  rw [Int.zero_add]
  unfold tA
  rw [List.getD_eq_getElem?_getD, List.getD_eq_getElem?_getD, List.getElem?_map, List.getElem?_eq_getElem hk]
  rfl
theorem st_range (st : Std) : st.map Hm.enc = (List.range st.length).map fun k : Nat => (tA st k).enc := by
  apply List.ext_getElem?
  intro i
  rw [List.getElem?_map, List.getElem?_map]
  by_cases c : i < st.length
  · rw [List.getElem?_range c, List.getElem?_eq_getElem c]
    show some (st[i]).enc = some (tA st i).enc
    unfold tA
    rw [List.getD_eq_getElem?_getD, List.getElem?_eq_getElem c]
    rfl
  · rw [List.getElem?_eq_none (by omega), List.getElem?_eq_none (by rw [List.length_range]; omega)]
    rfl
theorem eq_nil {xs : List D} (h : SeqAt.shaped (.list xs) = true) : cmpD .Eq (.list xs) (.list []) = some xs.isEmpty := by
  have e := ne_nil h
  have e2 : cmpD .NotEq (.list xs) (.list []) = (eqD (.list xs) (.list [])).map (!·) := by simp [cmpD]
  rw [e2] at e
  rw [ceq]
  cases q : eqD (.list xs) (.list []) with
  | none => rw [q] at e; cases e
  | some b =>
    rw [q] at e
    have e : (!b) = !xs.isEmpty := by simpa using e
    rw [show b = xs.isEmpty by cases b <;> cases h2 : xs.isEmpty <;> simp_all]
theorem in_gi (c : Spw) : cmpD .In (.str c.w) (.tuple [.str (Str.ofString "gone"), .str (Str.ofString "inside")]) = some (c == .gone || c == .inside) := by
  cases c <;> decide +kernel
theorem in_ig (c : Spw) : cmpD .In (.str c.w) (.list [.str (Str.ofString "inside"), .str (Str.ofString "gone")]) = some (c == .gone || c == .inside) := by
  cases c <;> decide +kernel
theorem filt_empty {α β : Type} {p : α → Bool} {f : α → β} (l : List α) : (!((l.filter p).map f).isEmpty) = l.any p := by
  induction l with
  | nil => rfl
  | cons a l ih =>
    rw [List.filter_cons, List.any_cons]
    cases c : p a with
    | true => simp
    | false => simpa using ih
theorem e_rep {G : List D} {F : Nat → List D → Option CR} {X : Ex} {st : SS} {b : Bool} (w : Str) (h : den G F X st = some (.bool b, st)) : den G F (.rep (.cons (.cst (.str w)) .nil) (.blt .int (.cons X .nil))) st = some (.list (strsD (bl b w)), st) := by
  have e1 : den G F (.blt .int (.cons X .nil)) st = some (.int (if b then 1 else 0), st) := e_blt1 h rfl
  cases b <;> simp [den, dens, h, bltD, intOf, bl]
theorem b_strs {a b : List Str} (h : a.length + b.length ≤ 100) : binD .Add (.list (strsD a)) (.list (strsD b)) = some (.list (strsD (a ++ b))) := by
  rw [binLst (by rw [List.length_map, List.length_map]; unfold lim; omega)]
  unfold strsD
  rw [List.map_append]
theorem e_ite {G : List D} {F : Nat → List D → Option CR} {c a b : Ex} {st s1 : SS} {v : Bool} {r : Option (D × SS)} (h : den G F c st = some (.bool v, s1)) (h2 : (if v then den G F a s1 else den G F b s1) = r) : den G F (.ite c a b) st = r := by
  unfold den
  rw [h]
  cases v <;> exact h2
structure HPlain (G : List D) (P : List Df) (I : Ix) : Prop extends HBarred G P I, HRing G P I where
  plain : P[I.f_plain_harms]? = some (c_plain_harms I)
  allh : P[I.f_all_harms]? = some (c_all_harms I)
  words : P[I.f_harm_words]? = some (c_harm_words I)
  hm : G[I.g_HARMS]? = some (.tuple [.str wBar, .str wLoc, .str wMis, .str wRin, .str wStr])
section
variable {G : List D} {P : List Df} {I : Ix} {n : Nat} {s : Stt} {st : Std}
abbrev stkD (st : Std) : List D := ((List.range st.length).filter fun k => (tA st k).stuck).map fun k : Nat => PyData.int (k : Int)
theorem plain_e0 (hP : HPlain G P I) (h : Vd s st) (a b c : Sl) : den G (callF G P (n + 3)) (c_plain_harms_e0 I) [a, .v (encS st), b, c, .no, .no] = some (.list (stkD st), [a, .v (encS st), b, c, .no, .no]) := by
  unfold c_plain_harms_e0
  have hm := h.m
  refine den_lc_map (l := List.range st.length) (fun k : Nat => PyData.tuple [.int (k : Int), (tA st k).enc]) (fun k => [a, .v (encS st), b, c, .v (.int k), .v (tA st k).enc]) (fun k => (tA st k).stuck) (fun k : Nat => PyData.int (k : Int)) ?_ (by rw [List.length_range]; unfold lim; omega) (fun _ _ => rfl) (fun k _ => ?_) (fun _ _ _ => rfl) (fun _ _ => rfl) rfl
  · rw [← enum_st]
    rfl
  · have p := stuck_ok (G := G) (n := n + 1) hP.toHEvent (t := tA st k)
    simp [dent, den, dens, getV, endCall, p, boolOf]
theorem plain_e1 (hP : HPlain G P I) (h : Vd s st) (c : Sl) : den G (callF G P (n + 3)) (.blt .any (.cons (c_plain_harms_e1 I) .nil)) [.v s.enc, .v (encS st), .v (.list (stkD st)), c, .no, .no] = some (.bool (lockedB s st), [.v s.enc, .v (encS st), .v (.list (stkD st)), c, .no, .no]) := by
  have hm := h.m
  have r := den_lc_map (G := G) (F := callF G P (n + 3)) (one := true) (tg := [4]) (own := [4]) (c := .no) (w := .seq (.var 2)) (e := (.cmp .Eq (.call I.f_fetch_rows (.cons (.var 0) (.cons (.var 1) (.cons (.var 4) .nil)))) (.lst .nil))) (l := (List.range st.length).filter fun k => (tA st k).stuck) (st := [.v s.enc, .v (encS st), .v (.list (stkD st)), c, .no, .no]) (fun k : Nat => PyData.int (k : Int)) (fun k => [.v s.enc, .v (encS st), .v (.list (stkD st)), c, .v (.int k), .no]) (fun _ => true) (fun k => .bool (getE s st k).isEmpty) rfl
    (Nat.le_trans (List.length_filter_le _ _) (by rw [List.length_range]; unfold lim; omega)) (fun _ _ => rfl) (fun _ _ => rfl) (fun k hk _ => ?_) (fun _ _ => rfl) rfl
  · rw [List.filter_eq_self.mpr fun _ _ => rfl] at r
    have e : den G (callF G P (n + 3)) (.blt .any (.cons (c_plain_harms_e1 I) .nil)) _ = _ := e_blt1 r (any_map _ _)
    rw [e, List.any_filter]
    rfl
  · have hk := List.mem_range.mp (List.mem_filter.mp hk).1
    have p := fetch_ok (G := G) (n := n) hP.toHEvent h hk
    have q := eq_nil (shaped_rows s st (getE s st k))
    rw [List.isEmpty_map] at q
    exact e_cmp (x := .list ((getE s st k).map (encR s st))) (y := .list []) (s1 := [.v s.enc, .v (encS st), .v (.list (stkD st)), c, .v (.int k), .no]) (by simp [den, dens, getV, endCall, p]) rfl q
theorem plain_e2 {F : Nat → List D → Option CR} (h : Vd s st) (a c : Sl) : den G F (.blt .any (.cons (c_plain_harms_e2 I) .nil)) [a, .v (encS st), .v (.list (stkD st)), c, .no, .no] = some (.bool (missB st), [a, .v (encS st), .v (.list (stkD st)), c, .no, .no]) := by
  have hm := h.m
  have r := den_lc_map (G := G) (F := F) (one := true) (tg := [4]) (own := [4]) (c := .no) (w := .seq (.var 2)) (e := (.cmp .In (.idx (.idx (.var 1) (.var 4)) (.cst (.int 2))) (.tup (.cons (.cst (.str (Str.ofString "gone"))) (.cons (.cst (.str (Str.ofString "inside"))) .nil))))) (l := (List.range st.length).filter fun k => (tA st k).stuck) (st := [a, .v (encS st), .v (.list (stkD st)), c, .no, .no]) (fun k : Nat => PyData.int (k : Int)) (fun k => [a, .v (encS st), .v (.list (stkD st)), c, .v (.int k), .no]) (fun _ => true) (fun k => .bool ((tA st k).spr == .gone || (tA st k).spr == .inside)) rfl
    (Nat.le_trans (List.length_filter_le _ _) (by rw [List.length_range]; unfold lim; omega)) (fun _ _ => rfl) (fun _ _ => rfl) (fun k hk _ => ?_) (fun _ _ => rfl) rfl
  · rw [List.filter_eq_self.mpr fun _ _ => rfl] at r
    have e : den G F (.blt .any (.cons (c_plain_harms_e2 I) .nil)) _ = _ := e_blt1 r (any_map _ _)
    rw [e, List.any_filter]
    rfl
  · have hk := List.mem_range.mp (List.mem_filter.mp hk).1
    have f1 := h.ix_st hk
    have q := in_gi (tA st k).spr
    simp [den, dens, getV, f1, hm2, q, lim]
theorem plain_e3 {F : Nat → List D → Option CR} (h : Vd s st) (a b c : Sl) : den G F (.blt .any (.cons (c_plain_harms_e3 I) .nil)) [a, .v (encS st), b, c, .no, .no] = some (.bool (strB st), [a, .v (encS st), b, c, .no, .no]) := by
  have hm := h.m
  have r := den_lc_map (G := G) (F := F) (one := true) (tg := [5]) (own := [5]) (c := .no) (w := .seq (.var 1)) (e := (.cmp .Eq (.idx (.var 5) (.cst (.int 2))) (.cst (.str (Str.ofString "gone"))))) (l := List.range st.length) (st := [a, .v (encS st), b, c, .no, .no]) (fun k : Nat => (tA st k).enc) (fun k => [a, .v (encS st), b, c, .no, .v (tA st k).enc]) (fun _ => true) (fun k => .bool ((tA st k).spr == .gone)) (by rw [← st_range]; rfl)
    (by rw [List.length_range]; unfold lim; omega) (fun _ _ => rfl) (fun _ _ => rfl) (fun k hk _ => ?_) (fun _ _ => rfl) rfl
  · rw [List.filter_eq_self.mpr fun _ _ => rfl] at r
    exact e_blt1 r (any_map _ _)
  · have w2 : eqD (.str (tA st k).spr.w) (.str (Str.ofString "gone")) = some ((tA st k).spr == .gone) := eqW (b := .gone)
    simp [den, getV, hm2, ceq, w2]
theorem plain_ok (hP : HPlain G P I) (h : Vd s st) : callF G P (n + 4) I.f_plain_harms [s.enc, encS st] = some (.ok (.list (strsD (plainH s st))) false []) := by
  have e0 := plain_e0 (G := G) (n := n) hP h (.v s.enc) .no .no
  let L0 := bl (lockedB s st) wLoc
  let L1 := L0 ++ bl (missB st) wMis
  let L2 := L1 ++ bl (ringP (nxt s st) st.length) wRin
  have h1 := bl_len (lockedB s st) wLoc
  have h2 := bl_len (missB st) wMis
  have h3 := bl_len (ringP (nxt s st) st.length) wRin
  have h4 := bl_len (strB st) wStr
  have l1 : L1.length = (bl (lockedB s st) wLoc).length + (bl (missB st) wMis).length := List.length_append
  have l2 : L2.length = L1.length + (bl (ringP (nxt s st) st.length) wRin).length := List.length_append
  have l0 : L0.length = (bl (lockedB s st) wLoc).length := rfl
  let S := fun (l : List Str) => [Sl.v s.enc, .v (encS st), .v (.list (stkD st)), .v (.list (strsD l)), .no, .no]
  have e1 := plain_e1 (G := G) (n := n) hP h .no
  have e2 := plain_e2 (G := G) (I := I) (F := callF G P (n + 3)) h (.v s.enc) (.v (.list (strsD L0)))
  have e3 := plain_e3 (G := G) (I := I) (F := callF G P (n + 3)) h (.v s.enc) (.v (.list (stkD st))) (.v (.list (strsD L2)))
  have rg := ring_ok (G := G) (n := n) hP.toHRing h
  have er : den G (callF G P (n + 3)) (.call I.f_has_ring (.cons (.var 0) (.cons (.var 1) .nil))) (S L1) = some (.bool (ringP (nxt s st) st.length), S L1) := by
    simp [den, dens, getV, endCall, rg, S]
  refine (callF_run (fl := .rt (.list (strsD (plainH s st))) false (S L2)) hP.plain rfl (run_nx (x_set e0 (by show 2 < 6; omega)) (run_nx (s1 := S L0) ?_ (run_nx (s1 := S L1) (x_set (e_bin rfl (e_rep wMis e2) (b_strs (by omega))) (by show 3 < 6; omega)) (run_nx (s1 := S L2) (x_set (e_bin (s1 := S L1) rfl (e_rep wRin er) (b_strs (by omega))) (by show 3 < 6; omega))
    (run_rt (x_ret (e_bin (s1 := S L2) rfl (e_rep wStr e3) (b_strs (by omega)))))))))).trans rfl
  refine x_set (s1 := [Sl.v s.enc, .v (encS st), .v (.list (stkD st)), .no, .no, .no]) (d := .list (strsD L0)) ?_ (by show 3 < 6; omega)
  have e1 : den G (callF G P (n + 3)) (.blt .any (.cons (c_plain_harms_e1 I) .nil)) [.v s.enc, .v (encS st), .v (.list (stkD st)), .no, .no, .no] = _ := e1
  show den G (callF G P (n + 3)) (.ite (.blt .any (.cons (c_plain_harms_e1 I) .nil)) (.lst (.cons (.cst (.str wLoc)) .nil)) (.lst .nil)) _ = some (.list (strsD (bl (lockedB s st) wLoc)), _)
  refine e_ite e1 ?_
  cases lockedB s st <;> simp [den, dens, bl, lim]
end
end Pv

/-! Streets as texts. -/
namespace Pv
open PySem L2
def plW (p : Int) : Str := if p = -2 then Str.ofString "none" else if p = -1 then Str.ofString "mat" else Str.ofString (toString p)
def lnW (q : Int × Hb) : List Str := [Str.ofString "home", plW q.1, if q.2.1 then Str.ofString "forgets" else Str.ofString "takes", if q.2.2.1 then Str.ofString "gives" else Str.ofString "keeps", if q.2.2.2 then Str.ofString "bold" else Str.ofString "shy"]
def lnS (q : Int × Hb) : Str := Txt.join (Str.ofString " ") (lnW q)
def hdS (f : Bool) : Str := if f then Str.ofString "street found" else Str.ofString "street safe"
def Stt.ps (s : Stt) : List (Int × Hb) := s.sp.zip s.ho
def lnsS (s : Stt) : List Str := hdS s.fo :: s.ps.map lnS
def txS (s : Stt) : Str := Txt.join (Str.ofString "\n") (lnsS s)
/-- a place -/
def Pl (p : Int) : Prop := p = -2 ∨ p = -1 ∨ p = 0 ∨ p = 1 ∨ p = 2
theorem Stt.Ok.pl {s : Stt} (h : s.Ok) {q : Int × Hb} (hq : q ∈ s.ps) : Pl q.1 := by
  obtain ⟨h2, h3, h4⟩ := h
  have m : q.1 ∈ s.sp := (List.of_mem_zip hq).1
  obtain ⟨k, hk⟩ := List.mem_iff_getElem?.mp m
  obtain ⟨b1, b2, b3⟩ := h4 k _ hk
  unfold Pl
  omega
theorem ps_sp {s : Stt} (h : s.Ok) : s.ps.map (·.1) = s.sp := by
  unfold Stt.ps
  exact List.map_fst_zip (by have := h.len; omega)
theorem ps_ho {s : Stt} (h : s.Ok) : s.ps.map (·.2) = s.ho := by
  unfold Stt.ps
  exact List.map_snd_zip (by have := h.len; omega)
theorem ps_len {s : Stt} (h : s.Ok) : s.ps.length = s.sp.length := by
  have := congrArg List.length (ps_sp h)
  rwa [List.length_map] at this
theorem pl_cases {P : Int × Hb → Prop} (h : ∀ a b c : Bool, P (-2, a, b, c) ∧ P (-1, a, b, c) ∧ P (0, a, b, c) ∧ P (1, a, b, c) ∧ P (2, a, b, c)) {q : Int × Hb} (hp : Pl q.1) : P q := by
  obtain ⟨p, a, b, c⟩ := q
  obtain ⟨h1, h2, h3, h4, h5⟩ := h a b c
  rcases hp with e | e | e | e | e <;> (have e : p = _ := e; subst e; assumption)
theorem zip_ps : ∀ (sp : List Int) (ho : List Hb), zipL (sp.map PyData.int) (ho.map hab) = (sp.zip ho).map fun q => .tuple [.int q.1, hab q.2]
  | [], ho => by cases ho <;> rfl
  | p :: sp, [] => rfl
  | p :: sp, h :: ho => by
    show PyData.tuple [.int p, hab h] :: zipL (sp.map PyData.int) (ho.map hab) = _
    rw [zip_ps sp ho]
    rfl
theorem join_d {a : Str} : ∀ ys : List Str, txsD (ys.map PyData.str) = some ys
  | [] => rfl
  | y :: ys => by
    show (txsD (ys.map PyData.str)).map (y :: ·) = _
    rw [join_d (a := a) ys]
    rfl
theorem mth_join {a : Str} {ys : List Str} (h : (ys.map (·.length)).sum + ys.length * a.length ≤ lim) : mthD .join (.str a) [.list (ys.map PyData.str)] = some (.str (Txt.join a ys)) := by
  show ((txsD (ys.map PyData.str)).bind fun ys => if (ys.map (·.length)).sum + ys.length * a.length ≤ lim then some (PyData.str (Txt.join a ys)) else none) = _
  rw [join_d (a := a)]
  exact if_pos h
def smallW (q : Int × Hb) : Bool := decide (((lnW q).map (·.length)).sum + (lnW q).length * (Str.ofString " ").length ≤ lim) && decide ((lnS q).length ≤ 100) && !((lnS q).cps.toList.contains 10) && !((lnW q).any fun w => w.cps.toList.contains 32) && (decide (Txt.split (lnS q) (Str.ofString " ") = lnW q))
theorem small_ok {q : Int × Hb} (hp : Pl q.1) : smallW q = true := by
  refine pl_cases (P := fun q => smallW q = true) (fun a b c => ?_) hp
  cases a <;> cases b <;> cases c <;> exact ⟨by decide +kernel, by decide +kernel, by decide +kernel, by decide +kernel, by decide +kernel⟩
theorem small {q : Int × Hb} (hp : Pl q.1) : (((lnW q).map (·.length)).sum + (lnW q).length * (Str.ofString " ").length ≤ lim) ∧ (lnS q).length ≤ 100 ∧ (10 ∉ (lnS q).cps.toList) ∧ Txt.split (lnS q) (Str.ofString " ") = lnW q := by
  have h := small_ok hp
  unfold smallW at h
  simp only [Bool.and_eq_true, decide_eq_true_eq, Bool.not_eq_true', List.contains_eq_mem, decide_eq_false_iff_not] at h
  exact ⟨h.1.1.1.1, h.1.1.1.2, h.1.1.2, h.2⟩
structure HText (G : List D) (P : List Df) (I : Ix) : Prop extends HStreet G P I where
  mat : G[I.g_MAT]? = some (.int (-1))
  part : P[I.f_part_of]? = some (c_part_of I)
  text : P[I.f_text]? = some (c_text I)
  read : P[I.f_read]? = some (c_read I)
section
variable {G : List D} {P : List Df} {I : Ix} {F : Nat → List D → Option CR} {n : Nat} {s : Stt}
theorem plW_ok {p : Int} (hp : Pl p) (st : SS) {i : Nat} (hg : getV st i = some (.int p)) {nn nm : Ex} (h1 : den G F nn st = some (.int (-2), st)) (h2 : den G F nm st = some (.int (-1), st)) :
    den G F (.ite (.cmp .Eq (.var i) nn) (.cst (.str (Str.ofString "none"))) (.ite (.cmp .Eq (.var i) nm) (.cst (.str (Str.ofString "mat"))) (.blt .str (.cons (.var i) .nil)))) st = some (.str (plW p), st) := by
  have hs : bltD .str [.int p] = some (.str (Str.ofString (toString p))) := by
    show (if p.natAbs < 2 ^ 64 then _ else _) = _
    rw [if_pos (by unfold Pl at hp; omega)]
  unfold plW
  by_cases c1 : p = -2
  · simp [den, hg, h1, cmpD, eqD, boolOf, c1]
  · by_cases c2 : p = -1
    · subst c2
      simp [den, hg, h1, h2, cmpD, eqD, boolOf]
    · simp [den, dens, hg, h1, h2, cmpD, eqD, boolOf, c1, c2, hs]
theorem hab0 (h : Hb) : idxD (hab h) (.int 0) = some (.bool h.1) := rfl
theorem hab1 (h : Hb) : idxD (hab h) (.int 1) = some (.bool h.2.1) := rfl
theorem hab2 (h : Hb) : idxD (hab h) (.int 2) = some (.bool h.2.2) := rfl
theorem text_loop (hP : HText G P I) (a b c d : Sl) : ∀ (l : List (Int × Hb)) (L : List Str) (x5 x6 x7 x8 : Sl), (∀ q ∈ l, Pl q.1) → L.length + l.length ≤ 100 →
    ∃ y5 y6 y7 y8, forLoop false [5, 6] (exSs G F (c_text_b0 I)) (l.map fun q => PyData.tuple [.int q.1, hab q.2]) [a, .own (L.map PyData.str), b, c, d, x5, x6, x7, x8] = some (.nx [a, .own ((L ++ l.map lnS).map PyData.str), b, c, d, y5, y6, y7, y8])
  | [], L, x5, x6, x7, x8, _, _ => ⟨x5, x6, x7, x8, by rw [List.map_nil, List.map_nil, List.append_nil]; rfl⟩
  | q :: l, L, x5, x6, x7, x8, hp, hl => by
    rw [List.length_cons] at hl
    obtain ⟨k1, _, _, _⟩ := small (hp q List.mem_cons_self)
    have j := mth_join k1
    have e1 := plW_ok (G := G) (F := F) (i := 5) (nn := .glb I.g_NONE) (nm := .glb I.g_MAT) (hp q List.mem_cons_self) [a, .own (L.map PyData.str), b, c, d, .v (.int q.1), .v (hab q.2), x7, x8] rfl (by simp [den, hP.none]) (by simp [den, hP.mat])
    let W : List D := [.str (if q.2.1 then Str.ofString "forgets" else Str.ofString "takes"), .str (if q.2.2.1 then Str.ofString "gives" else Str.ofString "keeps"), .str (if q.2.2.2 then Str.ofString "bold" else Str.ofString "shy")]
    have e2 : exS G F (.set 8 (.lst (.cons (.ite (.idx (.var 6) (.cst (.int 0))) (.cst (.str (Str.ofString "forgets"))) (.cst (.str (Str.ofString "takes")))) (.cons (.ite (.idx (.var 6) (.cst (.int 1))) (.cst (.str (Str.ofString "gives"))) (.cst (.str (Str.ofString "keeps")))) (.cons (.ite (.idx (.var 6) (.cst (.int 2))) (.cst (.str (Str.ofString "bold"))) (.cst (.str (Str.ofString "shy")))) .nil))))) [a, .own (L.map PyData.str), b, c, d, .v (.int q.1), .v (hab q.2), .v (.str (plW q.1)), x8] = some (.nx [a, .own (L.map PyData.str), b, c, d, .v (.int q.1), .v (hab q.2), .v (.str (plW q.1)), .v (.list W)]) := by
      simp only [exS, den, dens, getV]
      cases h1 : q.2.1 <;> cases h2 : q.2.2.1 <;> cases h3 : q.2.2.2 <;> simp [getV, setV, hab0, hab1, hab2, boolOf, h1, h2, h3, lim, W]
    have bW : binD .Add (.list [.str (Str.ofString "home"), .str (plW q.1)]) (.list W) = some (.list ((lnW q).map PyData.str)) := binLst (by show 2 + 3 ≤ lim; unfold lim; omega)
    have e3 : exS G F (.app 1 (.mth .join (.cst (.str (Str.ofString " "))) (.cons (.bin .Add (.lst (.cons (.cst (.str (Str.ofString "home"))) (.cons (.var 7) .nil))) (.var 8)) .nil))) [a, .own (L.map PyData.str), b, c, d, .v (.int q.1), .v (hab q.2), .v (.str (plW q.1)), .v (.list W)] = some (.nx [a, .own ((L ++ [lnS q]).map PyData.str), b, c, d, .v (.int q.1), .v (hab q.2), .v (.str (plW q.1)), .v (.list W)]) := by
      have hz : (L.map PyData.str).length < lim := by rw [List.length_map]; unfold lim; omega
      have hz : L.length < lim := by rw [List.length_map] at hz; exact hz
      simp only [exS, den, dens, getV, getO]
      simp [getV, getO, bW, j, hz, lim]
      exact ⟨by omega, rfl⟩
    obtain ⟨y5, y6, y7, y8, ih⟩ := text_loop hP a b c d l (L ++ [lnS q]) (.v (.int q.1)) (.v (hab q.2)) (.v (.str (plW q.1))) (.v (.list W)) (fun r hr => hp r (List.mem_cons_of_mem _ hr)) (by rw [List.length_append, List.length_singleton]; omega)
    refine ⟨y5, y6, y7, y8, ?_⟩
    rw [List.append_assoc] at ih
    have eb : exSs G F (c_text_b0 I) [a, .own (L.map PyData.str), b, c, d, .v (.int q.1), .v (hab q.2), x7, x8] = _ := run_nx (x_set e1 (by show 7 < 9; omega)) (run_nx e2 (run_nx e3 rfl))
    exact (fl_nx (one := false) (tg := [5, 6]) (b := exSs G F (c_text_b0 I)) (s1 := [a, .own (L.map PyData.str), b, c, d, .v (.int q.1), .v (hab q.2), x7, x8]) rfl eb).trans ih
theorem join_len (y : Str) : ∀ parts : List Str, (Str.join y parts).length ≤ (parts.map (·.length)).sum + parts.length * y.length
  | [] => Nat.zero_le _
  | [x] => by
    show x.length ≤ _
    simp
  | x :: z :: r => by
    have ih := join_len y (z :: r)
    have e : (Str.join y (x :: z :: r)).length = x.length + y.length + (Str.join y (z :: r)).length := by
      have a : ∀ u v : Str, (u ++ v).length = u.length + v.length := fun u v => by
        have q : ∀ w : Str, w.length = (TL.tl w).length := fun w => by show w.cps.size = w.cps.toList.length; rw [Array.length_toList]
        rw [q, q u, q v, TL.tl_append, List.length_append]
      show (x ++ y ++ Str.join y (z :: r)).length = _
      rw [a, a]
    rw [e, List.map_cons, List.sum_cons, List.length_cons, Nat.succ_mul]
    omega
theorem lns_sum {s : Stt} (h : s.Ok) : ((lnsS s).map (·.length)).sum + (lnsS s).length * (Str.ofString "\n").length ≤ lim := by
  have l1 : ∀ l : List (Int × Hb), (∀ q ∈ l, Pl q.1) → ((l.map lnS).map (·.length)).sum ≤ 100 * l.length := fun l => by
    induction l with
    | nil => exact fun _ => Nat.zero_le _
    | cons q l ih =>
      intro hp
      have a := (small (hp q List.mem_cons_self)).2.1
      have b := ih fun r hr => hp r (List.mem_cons_of_mem _ hr)
      rw [List.map_cons, List.map_cons, List.sum_cons, List.length_cons]
      omega
  have l2 := l1 s.ps fun q hq => h.pl hq
  have l3 := ps_len h
  have l4 := h.two
  have l5 : (hdS s.fo).length ≤ 20 := by cases s.fo <;> decide +kernel
  have l6 : (Str.ofString "\n").length = 1 := by decide +kernel
  unfold lnsS
  rw [List.map_cons, List.sum_cons, List.length_cons, List.length_map, l6]
  unfold lim
  omega
theorem lns_join {s : Stt} (h : s.Ok) : mthD .join (.str (Str.ofString "\n")) [.list ((lnsS s).map PyData.str)] = some (.str (txS s)) := mth_join (lns_sum h)
theorem text_ok (hP : HText G P I) (h : s.Ok) : callF G P (n + 4) I.f_text [s.enc] = some (.ok (.str (txS s)) false []) := by
  have r := need_ok (n := n) hP.toHStreet h
  have l3 := ps_len h
  have l4 := h.two
  obtain ⟨y5, y6, y7, y8, lp⟩ := text_loop (G := G) (F := callF G P (n + 3)) hP (.v s.enc) (.v (.tuple (s.sp.map PyData.int))) (.v (.bool s.fo)) (.v (.tuple (s.ho.map hab))) s.ps [hdS s.fo] .no .no .no .no (fun q hq => h.pl hq) (by simp; omega)
  have e1 : exS G (callF G P (n + 3)) (.exp (.call I.f_need_street (.cons (.var 0) .nil))) [.v s.enc, .no, .no, .no, .no, .no, .no, .no, .no] = some (.nx [.v s.enc, .no, .no, .no, .no, .no, .no, .no, .no]) := by
    simp [exS, den, dens, getV, endCall, r]
  have e3 : exS G (callF G P (n + 3)) (.own 1 (.lst (.cons (.ite (.var 3) (.cst (.str (Str.ofString "street found"))) (.cst (.str (Str.ofString "street safe")))) .nil))) [.v s.enc, .no, .v (.tuple (s.sp.map PyData.int)), .v (.bool s.fo), .v (.tuple (s.ho.map hab)), .no, .no, .no, .no] = some (.nx [.v s.enc, .own ([hdS s.fo].map PyData.str), .v (.tuple (s.sp.map PyData.int)), .v (.bool s.fo), .v (.tuple (s.ho.map hab)), .no, .no, .no, .no]) := by
    cases h1 : s.fo <;> simp [exS, denF, den, dens, getV, boolOf, lim, hdS]
  have w : denw G (callF G P (n + 3)) (.zip (.var 2) (.var 4)) [.v s.enc, .own ([hdS s.fo].map PyData.str), .v (.tuple (s.sp.map PyData.int)), .v (.bool s.fo), .v (.tuple (s.ho.map hab)), .no, .no, .no, .no] = some (s.ps.map fun q => .tuple [.int q.1, hab q.2], [.v s.enc, .own ([hdS s.fo].map PyData.str), .v (.tuple (s.sp.map PyData.int)), .v (.bool s.fo), .v (.tuple (s.ho.map hab)), .no, .no, .no, .no]) := by
    unfold Stt.ps
    rw [← zip_ps]
    rfl
  have jn := lns_join h
  refine (callF_run (fl := .rt (.str (txS s)) false [.v s.enc, .v (.list ((lnsS s).map PyData.str)), .v (.tuple (s.sp.map PyData.int)), .v (.bool s.fo), .v (.tuple (s.ho.map hab)), y5, y6, y7, y8]) hP.text rfl (run_nx e1 (run_nx (s1 := [.v s.enc, .no, .v (.tuple (s.sp.map PyData.int)), .v (.bool s.fo), .v (.tuple (s.ho.map hab)), .no, .no, .no, .no]) rfl (run_nx e3 (run_nx (run_fo w lp) (run_seal rfl (run_rt (x_ret ?_)))))))).trans rfl
  show den G (callF G P (n + 3)) (.mth .join (.cst (.str (Str.ofString "\n"))) (.cons (.var 1) .nil)) [.v s.enc, .v (.list ((lnsS s).map PyData.str)), .v (.tuple (s.sp.map PyData.int)), .v (.bool s.fo), .v (.tuple (s.ho.map hab)), y5, y6, y7, y8] = _
  simp [den, dens, getV, jn]
theorem e_lst2 {a b : Ex} {st s1 s2 : SS} {x y : D} (h1 : den G F a st = some (x, s1)) (h2 : den G F b s1 = some (y, s2)) : den G F (.lst (.cons a (.cons b .nil))) st = some (.list [x, y], s2) := by
  simp [den, dens, h1, h2, lim]
theorem e_mth {m : Mt} {a b : Ex} {st s1 s2 : SS} {x y d : D} (h1 : den G F a st = some (x, s1)) (h2 : den G F b s1 = some (y, s2)) (h3 : mthD m x [y] = some d) : den G F (.mth m a (.cons b .nil)) st = some (d, s2) := by
  simp [den, dens, h1, h2, h3]
theorem x_app {i : Nat} {e : Ex} {st s1 : SS} {d : D} {ds0 ds : List D} (h0 : getO st i = some ds0) (h1 : den G F e st = some (d, s1)) (h2 : getO s1 i = some ds) (hl : ds.length < lim) : exS G F (.app i e) st = some (.nx (s1.set i (.own (ds ++ [d])))) := by
  unfold exS
  rw [h0, h1]
  show ((getO s1 i).bind _) = _
  rw [h2]
  exact if_pos hl
theorem e_orF {a b : Ex} {st s1 s2 : SS} {v : Bool} (h1 : den G F a st = some (.bool false, s1)) (h2 : den G F b s1 = some (.bool v, s2)) : den G F (.or a b) st = some (.bool v, s2) := by
  simp [den, h1, h2, boolOf]
theorem e_tup2 {a b : Ex} {st s1 s2 : SS} {x y : D} (h1 : den G F a st = some (x, s1)) (h2 : den G F b s1 = some (y, s2)) : den G F (.tup (.cons a (.cons b .nil))) st = some (.tuple [x, y], s2) := by
  simp [den, dens, h1, h2, lim]
/-- the law's lines -/
theorem lines_loop (a : Sl) : ∀ (l : List (Int × Hb)) (L : List Str) (x2 x3 x4 : Sl), (∀ q ∈ l, Pl q.1) → L.length + l.length ≤ 100 →
    ∃ y2 y3 y4, forLoop false [2, 3] (exSs G F (c_l_lines_b0 I)) (l.map fun q => PyData.tuple [.int q.1, hab q.2]) [a, .own (L.map PyData.str), x2, x3, x4] = some (.nx [a, .own ((L ++ l.map lnS).map PyData.str), y2, y3, y4])
  | [], L, x2, x3, x4, _, _ => ⟨x2, x3, x4, by rw [List.map_nil, List.map_nil, List.append_nil]; rfl⟩
  | q :: l, L, x2, x3, x4, hp, hl => by
    rw [List.length_cons] at hl
    obtain ⟨k1, _, _, _⟩ := small (hp q List.mem_cons_self)
    have j := mth_join k1
    have e0 := plW_ok (G := G) (F := F) (i := 2) (nn := .neg (.cst (.int 2))) (nm := .neg (.cst (.int 1))) (hp q List.mem_cons_self) [a, .own (L.map PyData.str), .v (.int q.1), .v (hab q.2), x4] rfl (by simp [den, intOf]) (by simp [den, intOf])
    let V : List D := [.str (Str.ofString "home"), .str (plW q.1)]
    let V2 : List D := [.str (if q.2.1 then Str.ofString "forgets" else Str.ofString "takes"), .str (if q.2.2.1 then Str.ofString "gives" else Str.ofString "keeps")]
    let V3 : List D := [.str (if q.2.2.2 then Str.ofString "bold" else Str.ofString "shy")]
    let S := fun x4 : Sl => [a, Sl.own (L.map PyData.str), .v (.int q.1), .v (hab q.2), x4]
    have e1 : den G F (.lst (.cons (.cst (.str (Str.ofString "home"))) (.cons (.ite (.cmp .Eq (.var 2) (.neg (.cst (.int 2)))) (.cst (.str (Str.ofString "none"))) (.ite (.cmp .Eq (.var 2) (.neg (.cst (.int 1)))) (.cst (.str (Str.ofString "mat"))) (.blt .str (.cons (.var 2) .nil)))) .nil))) (S x4) = some (.list V, S x4) := by
      exact e_lst2 rfl e0
    have e2 : den G F (.lst (.cons (.ite (.idx (.var 3) (.cst (.int 0))) (.cst (.str (Str.ofString "forgets"))) (.cst (.str (Str.ofString "takes")))) (.cons (.ite (.idx (.var 3) (.cst (.int 1))) (.cst (.str (Str.ofString "gives"))) (.cst (.str (Str.ofString "keeps")))) .nil))) (S (.v (.list V))) = some (.list V2, S (.v (.list V))) := by
      simp only [den, dens, getV, S]
      cases h1 : q.2.1 <;> cases h2 : q.2.2.1 <;> simp [getV, hab0, hab1, boolOf, h1, h2, lim, V2]
    have b1 : binD .Add (.list V) (.list V2) = some (.list (V ++ V2)) := binLst (by show 2 + 2 ≤ lim; unfold lim; omega)
    have e3 : den G F (.lst (.cons (.ite (.idx (.var 3) (.cst (.int 2))) (.cst (.str (Str.ofString "bold"))) (.cst (.str (Str.ofString "shy")))) .nil)) (S (.v (.list (V ++ V2)))) = some (.list V3, S (.v (.list (V ++ V2)))) := by
      simp only [den, dens, getV, S]
      cases h1 : q.2.2.2 <;> simp [getV, hab2, boolOf, h1, lim, V3]
    have b2 : binD .Add (.list (V ++ V2)) (.list V3) = some (.list ((lnW q).map PyData.str)) := binLst (by show 4 + 1 ≤ lim; unfold lim; omega)
    have hz : (L.map PyData.str).length < lim := by rw [List.length_map]; unfold lim; omega
    have e4 : exS G F (.app 1 (.mth .join (.cst (.str (Str.ofString " "))) (.cons (.bin .Add (.var 4) (.lst (.cons (.ite (.idx (.var 3) (.cst (.int 2))) (.cst (.str (Str.ofString "bold"))) (.cst (.str (Str.ofString "shy")))) .nil))) .nil))) (S (.v (.list (V ++ V2)))) = some (.nx [a, .own ((L ++ [lnS q]).map PyData.str), .v (.int q.1), .v (hab q.2), .v (.list (V ++ V2))]) := by
      have d : den G F (.mth .join (.cst (.str (Str.ofString " "))) (.cons (.bin .Add (.var 4) (.lst (.cons (.ite (.idx (.var 3) (.cst (.int 2))) (.cst (.str (Str.ofString "bold"))) (.cst (.str (Str.ofString "shy")))) .nil))) .nil)) (S (.v (.list (V ++ V2)))) = some (.str (lnS q), S (.v (.list (V ++ V2)))) := by
        exact e_mth rfl (e_bin (op := .Add) (a := .var 4) (st := S (.v (.list (V ++ V2)))) (x := .list (V ++ V2)) (s1 := S (.v (.list (V ++ V2)))) rfl e3 b2) j
      refine (x_app (ds0 := L.map PyData.str) (ds := L.map PyData.str) rfl d rfl hz).trans ?_
      rw [List.map_append]
      rfl
    obtain ⟨y2, y3, y4, ih⟩ := lines_loop a l (L ++ [lnS q]) (.v (.int q.1)) (.v (hab q.2)) (.v (.list (V ++ V2))) (fun r hr => hp r (List.mem_cons_of_mem _ hr)) (by rw [List.length_append, List.length_singleton]; omega)
    refine ⟨y2, y3, y4, ?_⟩
    rw [List.append_assoc] at ih
    have eb : exSs G F (c_l_lines_b0 I) (S x4) = _ := run_nx (x_set e1 (by show 4 < 5; omega)) (run_nx (x_set (e_bin (op := .Add) (a := .var 4) (st := S (.v (.list V))) (x := .list V) (s1 := S (.v (.list V))) rfl e2 b1) (by show 4 < 5; omega)) (run_nx e4 rfl))
    exact (fl_nx (one := false) (tg := [2, 3]) (b := exSs G F (c_l_lines_b0 I)) (s1 := S x4) rfl eb).trans ih
theorem lines_ok (hl : P[I.f_l_lines]? = some (c_l_lines I)) (h : s.Ok) : callF G P (n + 1) I.f_l_lines [s.enc] = some (.ok (.list ((lnsS s).map PyData.str)) true []) := by
  have l3 := ps_len h
  have l4 := h.two
  obtain ⟨y2, y3, y4, lp⟩ := lines_loop (G := G) (F := callF G P n) (I := I) (.v s.enc) s.ps [hdS s.fo] .no .no .no (fun q hq => h.pl hq) (by simp; omega)
  have i0 : idxD s.enc (.int 0) = some (.tuple (s.sp.map PyData.int)) := rfl
  have i1 : idxD s.enc (.int 1) = some (.bool s.fo) := rfl
  have i2 : idxD s.enc (.int 2) = some (.tuple (s.ho.map hab)) := rfl
  have e1 : exS G (callF G P n) (.own 1 (.lst (.cons (.ite (.idx (.var 0) (.cst (.int 1))) (.cst (.str (Str.ofString "street found"))) (.cst (.str (Str.ofString "street safe")))) .nil))) [.v s.enc, .no, .no, .no, .no] = some (.nx [.v s.enc, .own ([hdS s.fo].map PyData.str), .no, .no, .no]) := by
    cases h1 : s.fo <;> simp [exS, denF, den, dens, getV, boolOf, lim, hdS, i1, h1]
  have w : denw G (callF G P n) (.zip (.idx (.var 0) (.cst (.int 0))) (.idx (.var 0) (.cst (.int 2)))) [.v s.enc, .own ([hdS s.fo].map PyData.str), .no, .no, .no] = some (s.ps.map fun q => .tuple [.int q.1, hab q.2], [.v s.enc, .own ([hdS s.fo].map PyData.str), .no, .no, .no]) := by
    unfold Stt.ps
    rw [← zip_ps]
    simp only [denw, den, getV]
    simp [getV, i0, i2]
  exact (callF_run (fl := .rt (.list ((lnsS s).map PyData.str)) true [.v s.enc, .own ((lnsS s).map PyData.str), y2, y3, y4]) hl rfl (run_nx e1 (run_nx (run_fo w lp) (run_rt rfl)))).trans rfl
theorem split_line {q : Int × Hb} (hp : Pl q.1) : mthD .split (.str (lnS q)) [.str (Str.ofString " ")] = some (.list ((lnW q).map PyData.str)) := by
  obtain ⟨_, k2, _, k4⟩ := small hp
  have l1 : ((Str.ofString " ").length == 0) = false := by decide +kernel
  show (if ((Str.ofString " ").length == 0) = false ∧ (lnS q).length ≤ lim then some (PyData.list ((Txt.split (lnS q) (Str.ofString " ")).map .str)) else none) = _
  rw [if_pos ⟨l1, by unfold lim; omega⟩, k4]
def isL : D := .tuple [.list [.str (Str.ofString "street"), .str (Str.ofString "found")], .list [.str (Str.ofString "street"), .str (Str.ofString "safe")]]
def f2 : D := .tuple [.str (Str.ofString "forgets"), .str (Str.ofString "takes")]
def f3 : D := .tuple [.str (Str.ofString "gives"), .str (Str.ofString "keeps")]
def f4 : D := .tuple [.str (Str.ofString "bold"), .str (Str.ofString "shy")]
abbrev w2 (b : Bool) : Str := if b then Str.ofString "forgets" else Str.ofString "takes"
abbrev w3 (b : Bool) : Str := if b then Str.ofString "gives" else Str.ofString "keeps"
abbrev w4 (b : Bool) : Str := if b then Str.ofString "bold" else Str.ofString "shy"
def plKv : List (Str × Int) := [((Str.ofString "none"), (-2)), ((Str.ofString "mat"), (-1)), ((Str.ofString "0"), 0), ((Str.ofString "1"), 1), ((Str.ofString "2"), 2)]
theorem words_ok : (∀ b, cmpD .NotIn (.str (w2 b)) f2 = some false ∧ cmpD .Eq (.str (w2 b)) (.str (Str.ofString "forgets")) = some b) ∧ (∀ b, cmpD .NotIn (.str (w3 b)) f3 = some false ∧ cmpD .Eq (.str (w3 b)) (.str (Str.ofString "gives")) = some b) ∧ (∀ b, cmpD .NotIn (.str (w4 b)) f4 = some false ∧ cmpD .Eq (.str (w4 b)) (.str (Str.ofString "bold")) = some b) := by
  refine ⟨fun b => ?_, fun b => ?_, fun b => ?_⟩ <;> cases b <;> exact ⟨by decide +kernel, by decide +kernel⟩
theorem plKv_ok {p : Int} (hp : Pl p) : plKv.lookup (plW p) = some p := by
  rcases hp with rfl | rfl | rfl | rfl | rfl <;> decide +kernel
theorem notSt_ok {q : Int × Hb} (hp : Pl q.1) : cmpD .In (.list ((lnW q).map PyData.str)) isL = some false := by
  refine pl_cases (P := fun q => cmpD .In (.list ((lnW q).map PyData.str)) isL = some false) (fun a b c => ?_) hp
  cases a <;> cases b <;> cases c <;> exact ⟨by decide +kernel, by decide +kernel, by decide +kernel, by decide +kernel, by decide +kernel⟩
def partD (q : Int × Hb) : D := .tuple [.str (Str.ofString "home"), .tuple [.int q.1, hab q.2]]
theorem part_ok (hP : P[I.f_part_of]? = some (c_part_of I)) {q : Int × Hb} (hp : Pl q.1) : callF G P (n + 1) I.f_part_of [.str (lnS q)] = some (.ok (partD q) false []) := by
  obtain ⟨a2, a3, a4⟩ := words_ok
  have k0 := split_line hp
  have k1 := notSt_ok hp
  have k2 := plKv_ok hp
  obtain ⟨p, b2, b3, b4⟩ := q
  have k2 : plKv.lookup (plW p) = some p := k2
  have i0 : idxD (.list ((lnW (p, b2, b3, b4)).map PyData.str)) (.int 0) = some (.str (Str.ofString "home")) := rfl
  have i1 : idxD (.list ((lnW (p, b2, b3, b4)).map PyData.str)) (.int 1) = some (.str (plW p)) := rfl
  have i2 : idxD (.list ((lnW (p, b2, b3, b4)).map PyData.str)) (.int 2) = some (.str (w2 b2)) := rfl
  have i3 : idxD (.list ((lnW (p, b2, b3, b4)).map PyData.str)) (.int 3) = some (.str (w3 b3)) := rfl
  have i4 : idxD (.list ((lnW (p, b2, b3, b4)).map PyData.str)) (.int 4) = some (.str (w4 b4)) := rfl
  have ln : bltD .len [.list ((lnW (p, b2, b3, b4)).map PyData.str)] = some (.int 5) := rfl
  have n0 : cmpD .NotEq (.str (Str.ofString "home")) (.str (Str.ofString "home")) = some false := by decide +kernel
  have n1 : cmpD .NotEq (.int 5) (.int 5) = some false := by decide +kernel
  generalize (lnW (p, b2, b3, b4)).map PyData.str = WS at *
  generalize lnS (p, b2, b3, b4) = LS at *
  have tl1 : ∀ F st, den G F (.tup (.cons (.lst (.cons (.cst (.str (Str.ofString "street"))) (.cons (.cst (.str (Str.ofString "found"))) .nil))) (.cons (.lst (.cons (.cst (.str (Str.ofString "street"))) (.cons (.cst (.str (Str.ofString "safe"))) .nil))) .nil))) st = some (isL, st) := fun F st => by simp [den, dens, lim, isL]
  have tl2 : ∀ F st (a b : Str), den G F (.tup (.cons (.cst (.str a)) (.cons (.cst (.str b)) .nil))) st = some (.tuple [.str a, .str b], st) := fun F st a b => by simp [den, dens, lim]
  let S : SS := [.v (.str LS), .v (.list WS)]
  have v0 : ∀ F (i : Int) d, idxD (.list WS) (.int i) = some d → den G F (.idx (.var 1) (.cst (.int i))) S = some (d, S) := fun F i d h => e_idx rfl rfl h
  have u0 : exS G (callF G P n) (.set 1 (.mth .split (.var 0) (.cons (.cst (.str (Str.ofString " "))) .nil))) [.v (.str LS), .no] = some (.nx S) := x_set (e_mth (s1 := [.v (.str LS), .no]) (s2 := [.v (.str LS), .no]) rfl rfl k0) (by show 1 < 2; omega)
  refine (callF_run (fl := .rt (partD (p, b2, b3, b4)) false S) hP rfl (run_nx (s1 := S) u0 (run_nx (s1 := S) (ex_ife (v := false) (s1 := S) (e_cmp rfl (tl1 _ _) k1) rfl) (run_nx (s1 := S) (ex_ife (v := false) (s1 := S) ?_ rfl) (run_nx (s1 := S) (ex_ife (v := false) (s1 := S) ?_ rfl) (run_rt (x_ret ?_))))))).trans rfl
  · have c1 := e_cmp (F := callF G P n) (v0 _ 0 _ i0) (y := .str (Str.ofString "home")) (s2 := S) (b := .cst (.str (Str.ofString "home"))) rfl n0
    have c2 : den G (callF G P n) (.cmp .NotEq (.blt .len (.cons (.var 1) .nil)) (.cst (.int 5))) S = some (.bool false, S) := e_cmp (e_blt1 (s1 := S) (x := .list WS) rfl ln) rfl n1
    have c3 : den G (callF G P n) (.gIn true (Str.ofString "PLACES") plKv (.idx (.var 1) (.cst (.int 1)))) S = some (.bool false, S) := by
      unfold den
      rw [v0 _ 1 _ i1]
      show some (PyData.bool (true != (plKv.lookup (plW p)).isSome), S) = _
      rw [k2]
      rfl
    have c4 := e_cmp (F := callF G P n) (v0 _ 2 _ i2) (tl2 _ S (Str.ofString "forgets") (Str.ofString "takes")) (a2 b2).1
    exact e_orF c1 (e_orF c2 (e_orF c3 c4))
  · have c1 := e_cmp (F := callF G P n) (v0 _ 3 _ i3) (tl2 _ S (Str.ofString "gives") (Str.ofString "keeps")) (a3 b3).1
    have c2 := e_cmp (F := callF G P n) (v0 _ 4 _ i4) (tl2 _ S (Str.ofString "bold") (Str.ofString "shy")) (a4 b4).1
    exact e_orF c1 c2
  · have c2 := e_cmp (F := callF G P n) (v0 _ 2 _ i2) (y := .str (Str.ofString "forgets")) (s2 := S) (b := .cst (.str (Str.ofString "forgets"))) rfl (a2 b2).2
    have c3 := e_cmp (F := callF G P n) (v0 _ 3 _ i3) (y := .str (Str.ofString "gives")) (s2 := S) (b := .cst (.str (Str.ofString "gives"))) rfl (a3 b3).2
    have c4 := e_cmp (F := callF G P n) (v0 _ 4 _ i4) (y := .str (Str.ofString "bold")) (s2 := S) (b := .cst (.str (Str.ofString "bold"))) rfl (a4 b4).2
    have c1 : den G (callF G P n) (.gIdx (Str.ofString "PLACES") plKv (.idx (.var 1) (.cst (.int 1)))) S = some (.int p, S) := by
      unfold den
      rw [v0 _ 1 _ i1]
      show ((plKv.lookup (plW p)).map fun i => (PyData.int i, S)) = _
      rw [k2]
      rfl
    exact e_tup2 rfl (e_tup2 c1 (e_tup3 c2 c3 c4))
def partH (f : Bool) : D := .tuple [.str (Str.ofString "street"), .bool f]
theorem head_ok (hP : P[I.f_part_of]? = some (c_part_of I)) (f : Bool) : callF G P (n + 1) I.f_part_of [.str (hdS f)] = some (.ok (partH f) false []) := by
  let W : D := .list [.str (Str.ofString "street"), .str (if f then Str.ofString "found" else Str.ofString "safe")]
  have k0 : mthD .split (.str (hdS f)) [.str (Str.ofString " ")] = some W := by
    have q : Txt.split (hdS f) (Str.ofString " ") = [Str.ofString "street", if f then Str.ofString "found" else Str.ofString "safe"] := by cases f <;> decide +kernel
    have l1 : ((Str.ofString " ").length == 0) = false := by decide +kernel
    have l2 : (hdS f).length ≤ lim := by cases f <;> decide +kernel
    show (if ((Str.ofString " ").length == 0) = false ∧ (hdS f).length ≤ lim then some (PyData.list ((Txt.split (hdS f) (Str.ofString " ")).map .str)) else none) = _
    rw [if_pos ⟨l1, l2⟩, q]
    rfl
  have k1 : cmpD .In W isL = some true := by cases f <;> decide +kernel
  have k2 : cmpD .Eq (.str (if f then Str.ofString "found" else Str.ofString "safe")) (.str (Str.ofString "found")) = some f := by cases f <;> decide +kernel
  have i1 : idxD W (.int 1) = some (.str (if f then Str.ofString "found" else Str.ofString "safe")) := rfl
  generalize hdS f = HF at *
  have tl1 : ∀ F st, den G F (.tup (.cons (.lst (.cons (.cst (.str (Str.ofString "street"))) (.cons (.cst (.str (Str.ofString "found"))) .nil))) (.cons (.lst (.cons (.cst (.str (Str.ofString "street"))) (.cons (.cst (.str (Str.ofString "safe"))) .nil))) .nil))) st = some (isL, st) := fun F st => by simp [den, dens, lim, isL]
  have u0 : exS G (callF G P n) (.set 1 (.mth .split (.var 0) (.cons (.cst (.str (Str.ofString " "))) .nil))) [.v (.str HF), .no] = some (.nx [.v (.str HF), .v W]) := x_set (e_mth (s1 := [.v (.str HF), .no]) (s2 := [.v (.str HF), .no]) rfl rfl k0) (by show 1 < 2; omega)
  generalize W = W at *
  exact (callF_run (fl := .rt (partH f) false [.v (.str HF), .v W]) hP rfl (run_nx u0 (run_rt (ex_ife (v := true) (s1 := [.v (.str HF), .v W]) (e_cmp rfl (tl1 _ _) k1) (run_rt (x_ret (e_tup2 rfl (e_cmp (e_idx (x := W) (y := .int 1) rfl rfl i1) rfl k2)))))))).trans rfl
theorem tx_split {s : Stt} (h : s.Ok) : mthD .split (.str (txS s)) [.str (Str.ofString "\n")] = some (.list ((lnsS s).map PyData.str)) := by
  have l1 : ((Str.ofString "\n").length == 0) = false := by decide +kernel
  have q : Txt.split (txS s) (Str.ofString "\n") = lnsS s := by
    refine TL.split_join (s := 10) (S := []) (by decide +kernel) (by decide +kernel) (by unfold lnsS; simp) fun x hx => ?_
    unfold lnsS at hx
    rcases List.mem_cons.mp hx with rfl | hx
    · cases s.fo <;> decide +kernel
    · obtain ⟨r, hr, rfl⟩ := List.mem_map.mp hx
      exact (small (h.pl hr)).2.2.1
  have l2 : (txS s).length ≤ lim := by
    have a := lns_sum h
    unfold txS
    rw [TL.join_eq]
    exact Nat.le_trans (join_len (Str.ofString "\n") (lnsS s)) a
  show (if ((Str.ofString "\n").length == 0) = false ∧ (txS s).length ≤ lim then some (PyData.list ((Txt.split (txS s) (Str.ofString "\n")).map .str)) else none) = _
  rw [if_pos ⟨l1, l2⟩, q]
/-- the parts of a text -/
def opL (s : Stt) : Option (Int × Hb) → Str
  | none => hdS s.fo
  | some q => lnS q
def opD (s : Stt) : Option (Int × Hb) → D
  | none => partH s.fo
  | some q => partD q
def rwD (q : Int × Hb) : D := .tuple [.int q.1, hab q.2]
theorem read_ok (hP : HText G P I) (h : s.Ok) : callF G P (n + 4) I.f_read [.str (txS s)] = some (.ok s.enc false []) := by
  let l : List (Option (Int × Hb)) := none :: s.ps.map some
  have el : (lnsS s).map PyData.str = l.map fun o => .str (opL s o) := by
    unfold lnsS
    rw [List.map_cons, List.map_map, List.map_cons, List.map_map]
    rfl
  have l3 := ps_len h
  have l4 := h.two
  have hln : l.length ≤ 4 := by show (s.ps.map some).length + 1 ≤ 4; rw [List.length_map]; omega
  have lp : ∀ o ∈ l, o = none ∨ ∃ q, o = some q ∧ q ∈ s.ps := fun o ho => by
    rcases List.mem_cons.mp ho with e | ho
    · exact .inl e
    · obtain ⟨q, hq, rfl⟩ := List.mem_map.mp ho
      exact .inr ⟨q, rfl, hq⟩
  have sp := tx_split h
  rw [el] at sp
  let PT : List D := l.map (opD s)
  have ePT : PT = partH s.fo :: s.ps.map partD := by
    show opD s none :: (s.ps.map some).map (opD s) = _
    rw [List.map_map]
    rfl
  let R : List D := s.ps.map rwD
  generalize txS s = TX at *
  let F := callF G P (n + 3)
  have e0 : den G F (c_read_e0 I) [.v (.str TX), .no, .no, .no, .no, .no, .no] = some (.list PT, [.v (.str TX), .no, .no, .no, .no, .no, .no]) := by
    unfold c_read_e0
    have r := den_lc_map (G := G) (F := F) (one := true) (tg := [4]) (own := [4]) (c := .no) (w := .seq (.mth .split (.var 0) (.cons (.cst (.str (Str.ofString "\n"))) .nil))) (e := .call I.f_part_of (.cons (.var 4) .nil)) (l := l) (st := [.v (.str TX), .no, .no, .no, .no, .no, .no]) (fun o => .str (opL s o)) (fun o => [.v (.str TX), .no, .no, .no, .v (.str (opL s o)), .no, .no]) (fun _ => true) (opD s) ?_ (by unfold lim; omega) (fun _ _ => rfl) (fun _ _ => rfl) (fun o ho _ => ?_) (fun _ _ => rfl) rfl
    · rw [List.filter_eq_self.mpr fun _ _ => rfl] at r
      exact r
    · unfold denw
      rw [e_mth (s1 := [.v (.str TX), .no, .no, .no, .no, .no, .no]) (s2 := [.v (.str TX), .no, .no, .no, .no, .no, .no]) rfl rfl sp]
      rfl
    · rcases lp o ho with rfl | ⟨q, rfl, hq⟩
      · have := head_ok (G := G) (n := n + 2) hP.part s.fo
        have : F I.f_part_of [.str (opL s none)] = some (.ok (partH s.fo) false []) := this
        simp [den, dens, getV, endCall, this, opD]
      · have := part_ok (G := G) (n := n + 2) hP.part (h.pl hq)
        have : F I.f_part_of [.str (opL s (some q))] = some (.ok (partD q) false []) := this
        simp [den, dens, getV, endCall, this, opD]
  have shp : SeqAt.shaped (.list PT) = true := shaped_list fun d hd => by
    obtain ⟨o, ho, rfl⟩ := List.mem_map.mp hd
    have s1 : ∀ x : Str, PyData.strOk x = true → True := fun _ _ => True.intro
    rcases lp o ho with rfl | ⟨q, rfl, hq⟩
    · have z : ∀ f : Bool, (partH f).canLay0 = true ∧ (partH f).depth ≤ 63 := fun f => by cases f <;> exact ⟨by decide +kernel, by decide +kernel⟩
      exact z s.fo
    · refine pl_cases (P := fun q => (partD q).canLay0 = true ∧ (partD q).depth ≤ 63) (fun a b c => ?_) (h.pl hq)
      cases a <;> cases b <;> cases c <;> exact ⟨⟨by decide +kernel, by decide +kernel⟩, ⟨by decide +kernel, by decide +kernel⟩, ⟨by decide +kernel, by decide +kernel⟩, ⟨by decide +kernel, by decide +kernel⟩, ⟨by decide +kernel, by decide +kernel⟩⟩
  have nn : cmpD .In .none (.list PT) = some false := by
    have e1 : SeqAt.shaped .none = true := by decide +kernel
    show (if SeqAt.shaped .none = true ∧ SeqAt.shaped (.list PT) = true then some (PT.any fun z => PyData.eqv z .none) else none) = _
    rw [if_pos ⟨e1, shp⟩]
    congr 1
    rw [List.any_eq_false]
    intro d hd
    obtain ⟨o, ho, rfl⟩ := List.mem_map.mp hd
    rcases lp o ho with rfl | ⟨q, rfl, hq⟩ <;> exact Bool.false_ne_true
  have sl : slD (.list PT) (some 1) none = some (.list (s.ps.map partD)) := by
    have e : cutD PT (some ((1 : Nat) : Int)) none = PT.drop 1 := cut_from
    have e : cutD PT (some 1) none = PT.drop 1 := e
    show some (PyData.list (cutD PT (some 1) none)) = _
    rw [e, ePT]
    rfl
  let S1 : SS := [.v (.str TX), .v (.list PT), .no, .no, .no, .no, .no]
  have hh : cmpD .Eq (.str (Str.ofString "home")) (.str (Str.ofString "home")) = some true := by decide +kernel
  have e1 : den G F (c_read_e1 I) S1 = some (.list R, S1) := by
    unfold c_read_e1
    have r := den_lc_map (G := G) (F := F) (one := true) (tg := [5]) (own := [5]) (c := .e (.cmp .Eq (.idx (.var 5) (.cst (.int 0))) (.cst (.str (Str.ofString "home"))))) (w := .seq (.sl (.var 1) (.e (.cst (.int 1))) .no)) (e := .idx (.var 5) (.cst (.int 1))) (l := s.ps) (st := S1) partD (fun q => [.v (.str TX), .v (.list PT), .no, .no, .no, .v (partD q), .no]) (fun _ => true) rwD ?_ (by unfold lim; omega) (fun _ _ => rfl) (fun q _ => ?_) (fun _ _ _ => rfl) (fun _ _ => rfl) rfl
    · rw [List.filter_eq_self.mpr fun _ _ => rfl] at r
      exact r
    · unfold denw
      rw [e_sl (s1 := S1) (s2 := S1) (s3 := S1) (x := .list PT) (l := some 1) (h := none) rfl rfl rfl sl]
      rfl
    · have i0 : idxD (partD q) (.int 0) = some (.str (Str.ofString "home")) := rfl
      simp [dent, den, getV, i0, hh, boolOf]
  let S2 : SS := [.v (.str TX), .v (.list PT), .v (.list R), .no, .no, .no, .no]
  have e3 : den G F (c_read_e3 I) S2 = some (.list (s.sp.map PyData.int), S2) := by
    unfold c_read_e3
    have r := den_lc_map (G := G) (F := F) (one := true) (tg := [6]) (own := [6]) (c := .no) (w := .seq (.var 2)) (e := .idx (.var 6) (.cst (.int 0))) (l := s.ps) (st := S2) rwD (fun q => [.v (.str TX), .v (.list PT), .v (.list R), .no, .no, .no, .v (rwD q)]) (fun _ => true) (fun q => .int q.1) rfl (by unfold lim; omega) (fun _ _ => rfl) (fun q _ => rfl) (fun _ _ _ => rfl) (fun _ _ => rfl) rfl
    rw [List.filter_eq_self.mpr fun _ _ => rfl] at r
    rw [r, ← ps_sp h, List.map_map]
    rfl
  have e2 : den G F (c_read_e2 I) S2 = some (.list (s.ho.map hab), S2) := by
    unfold c_read_e2
    have r := den_lc_map (G := G) (F := F) (one := true) (tg := [6]) (own := [6]) (c := .no) (w := .seq (.var 2)) (e := .idx (.var 6) (.cst (.int 1))) (l := s.ps) (st := S2) rwD (fun q => [.v (.str TX), .v (.list PT), .v (.list R), .no, .no, .no, .v (rwD q)]) (fun _ => true) (fun q => hab q.2) rfl (by unfold lim; omega) (fun _ _ => rfl) (fun q _ => rfl) (fun _ _ _ => rfl) (fun _ _ => rfl) rfl
    rw [List.filter_eq_self.mpr fun _ _ => rfl] at r
    rw [r, ← ps_ho h, List.map_map]
    rfl
  have i0 : idxD (.list PT) (.int 0) = some (partH s.fo) := by
    rw [ePT]
    show atI _ ((0 : Nat) : Int) = _
    rw [Pv.atI_nat (by simp)]
    rfl
  have j0 : idxD (partH s.fo) (.int 0) = some (.str (Str.ofString "street")) := rfl
  have j1 : idxD (partH s.fo) (.int 1) = some (.bool s.fo) := rfl
  have ix0 : den G F (.idx (.var 1) (.cst (.int 0))) S2 = some (partH s.fo, S2) := e_idx (x := .list PT) (y := .int 0) rfl rfl i0
  have b1 : bltD .tuple [.list (s.sp.map PyData.int)] = some (.tuple (s.sp.map PyData.int)) := rfl
  have b2 : bltD .tuple [.list (s.ho.map hab)] = some (.tuple (s.ho.map hab)) := rfl
  have e4 := e_tup3 (e_blt1 e3 b1) (e_idx (b := .cst (.int 1)) (y := .int 1) (s2 := S2) ix0 rfl j1) (e_blt1 e2 b2)
  let S3 : SS := [.v (.str TX), .v (.list PT), .v (.list R), .v s.enc, .no, .no, .no]
  have ix3 : den G F (.idx (.var 1) (.cst (.int 0))) S3 = some (partH s.fo, S3) := e_idx (x := .list PT) (y := .int 0) rfl rfl i0
  have n1 : cmpD .NotEq (.str (Str.ofString "street")) (.str (Str.ofString "street")) = some false := by decide +kernel
  have lr : bltD .len [.list R] = some (.int s.ps.length) := by show some (PyData.int (List.length _)) = _; rw [List.length_map]
  have lP : bltD .len [.list PT] = some (.int (s.ps.length + 1)) := by show some (PyData.int (List.length _)) = _; rw [ePT, List.length_cons, List.length_map]; rfl
  have n2 : cmpD .NotEq (.int s.ps.length) (.int (s.ps.length + 1 - 1)) = some false := by
    show some (!decide ((s.ps.length : Int) = s.ps.length + 1 - 1)) = _
    rw [decide_eq_true (by omega)]
    rfl
  have sv : F I.f_is_street_value [s.enc] = some (.ok (.bool true) false []) := street_val (n := n + 1) hP.toHStreet h
  have n3 : den G F (.not (.call I.f_is_street_value (.cons (.var 3) .nil))) S3 = some (.bool false, S3) := by
    simp [den, dens, getV, endCall, sv, boolOf, S3]
  refine (callF_run (fl := .rt s.enc false S3) hP.read rfl (run_nx (s1 := [.v (.str TX), .no, .no, .no, .no, .no, .no]) rfl (run_nx (x_set e0 (by show 1 < 7; omega)) (run_nx (s1 := S1) (ex_ife (v := false) (s1 := S1) (e_cmp (s1 := S1) rfl rfl nn) rfl) (run_nx (s1 := S2) (x_set e1 (by show 2 < 7; omega)) (run_nx (s1 := S3) (x_set e4 (by show 3 < 7; omega)) (run_nx (s1 := S3) (ex_ife (v := false) (s1 := S3) ?_ rfl) (run_rt rfl)))))))).trans rfl
  have q2 : den G F (.blt .len (.cons (.var 2) .nil)) S3 = some (.int s.ps.length, S3) := e_blt1 (s1 := S3) (x := .list R) rfl lr
  have q1 : den G F (.bin .Sub (.blt .len (.cons (.var 1) .nil)) (.cst (.int 1))) S3 = some (.int (s.ps.length + 1 - 1), S3) := e_bin (x := .int (s.ps.length + 1)) (y := .int 1) (s1 := S3) (s2 := S3) (e_blt1 (s1 := S3) (x := .list PT) rfl lP) rfl rfl
  have q0 : den G F (.cmp .NotEq (.idx (.idx (.var 1) (.cst (.int 0))) (.cst (.int 0))) (.cst (.str (Str.ofString "street")))) S3 = some (.bool false, S3) := e_cmp (s1 := S3) (s2 := S3) (y := .str (Str.ofString "street")) (e_idx (y := .int 0) (s1 := S3) (s2 := S3) ix3 rfl j0) rfl n1
  exact e_orF q0 (e_orF (e_cmp q2 q1 n2) n3)
end
end Pv

/-! Dicts: the rules. -/
namespace Pv
open PySem L2 PySem.Spec PyProof.Rows
variable [HashW]
/-- in every heap that is held as H, the value is the key -/
def KeyV (X : Cx) (H : Hp) (y : V) (nk : NestedKey) : Prop := ∀ (pins : List (Addr × Obj)) (σ : L2.St) (s : Shared) (u : Value), Inv X pins σ H s → RelV y u → NestedIs s.heap nk u
inductive KeysV (X : Cx) (H : Hp) : List V → List NestedKey → Prop
  | nil : KeysV X H [] []
  | cons {v nk ks nks} : KeyV X H v nk → nk.depth ≤ 8 → KeysV X H ks nks → KeysV X H (v :: ks) (nk :: nks)
/-- a dict with tuples as keys -/
structure DTup (X : Cx) (H : Hp) (a : Addr) (o : Obj) (nks : List NestedKey) (ks vs : List V) (bs : List Addr) : Prop where
  at_ : H a = some (xO a o)
  dc : DCt o nks ks vs
  sm : (a == sysModules) = false
  rf : Refs ks bs
  ky : KeysV X H ks nks
/-- a dict with texts as keys -/
structure DStr (H : Hp) (a : Addr) (o : Obj) (nks : List NestedKey) (ks vs : List V) : Prop where
  at_ : H a = some (xO a o)
  dc : DCt o nks ks vs
  sm : (a == sysModules) = false
  tx : ∀ nk ∈ nks, ∃ x, nk = .text x
section
variable {X : Cx} {pins : List (Addr × Obj)} {σ : L2.St} {H : Hp} {s : Shared} {a b : Addr} {o : Obj} {nks : List NestedKey} {ks vs : List V} {bs : List Addr} {nk : NestedKey} {A : Around} {E : Value → Shared → Prop}
theorem inv_get (I : Inv X pins σ H s) (h : H a = some (xO a o)) : s.heap.get? a = some o := xO_get (P := X.prog) (w := X.w) (I.hok a _ h)
theorem keys_all (I : Inv X pins σ H s) : ∀ {xs : List (NestedKey × Addr × Value)} {ks : List V}, Refs ks (xs.map (·.2.1)) → KeysV X H ks (xs.map (·.1)) → ∀ x ∈ xs, (nestedKind X.prog X.w).is s.heap x.1 x.2.1
  | [], _, _, _, x, hx => by cases hx
  | y :: xs, _, rf, ky, x, hx => by
    cases rf with
    | cons rf =>
      cases ky with
      | cons k1 k2 k3 =>
        rcases List.mem_cons.mp hx with rfl | hx
        · exact ⟨k1 pins σ s _ I rfl, k2⟩
        · exact keys_all I rf k3 x hx
theorem DTup.keyed (hw : ∀ k, HashW.hf k = k.hash X.w) (d : DTup X H a o nks ks vs bs) (I : Inv X pins σ H s) :
    ∃ xs, s.heap.DictOfH (nestedKind X.prog X.w) a xs ∧ xs.map (·.1) = nks ∧ xs.map (·.2.1) = bs ∧ Vals vs (xs.map (·.2.2)) := by
  obtain ⟨es, ep, e1, e2, e3⟩ := d.dc.ex
  obtain ⟨xs, q1, q2, q3, q4⟩ := e3.keyed (P := X.prog) hw d.rf
  refine ⟨xs, ⟨o, es, ep, inv_get I d.at_, e1, e2, q1, ?_, by rw [q2]; exact d.dc.nd⟩, q2, q3, q4⟩
  subst q2
  subst q3
  exact keys_all I d.rf d.ky
theorem DTup.typeIs (d : DTup X H a o nks ks vs bs) (I : Inv X pins σ H s) : s.TypeIs (.ref a) "dict" := by
  obtain ⟨es, ep, e1, _⟩ := d.dc.ex
  exact ⟨o, inv_get I d.at_, e1.1⟩
theorem DStr.typeIs (d : DStr H a o nks ks vs) (I : Inv X pins σ H s) : s.TypeIs (.ref a) "dict" := by
  obtain ⟨es, ep, e1, _⟩ := d.dc.ex
  exact ⟨o, inv_get I d.at_, e1.1⟩
end
/-! texts as keys -/
def txOf : NestedKey → Str
  | .text x => x
  | _ => Str.ofString ""
section
variable {P : Program} {w : World}
theorem Ent.strs {nks : List NestedKey} {ks vs : List V} {es : List DictEntry} (hw : ∀ k, HashW.hf k = k.hash w) (h : Ent nks ks vs es) (tx : ∀ nk ∈ nks, ∃ x, nk = .text x) (kt : ks = nks.map fun nk => V.str (txOf nk)) :
    ∃ kvs : List (Str × Value), kvs.map (fun p => NestedKey.text p.1) = nks ∧ Vals vs (kvs.map (·.2)) ∧ Pairs (strKind P w) es kvs ∧ ∀ e ∈ es, ∃ k, (strKind P w).is k e.key = true ∧ e.hash = (strKind P w).hash k := by
  induction h with
  | nil => exact ⟨[], rfl, .nil, .nil, fun e he => by cases he⟩
  | @cons nk k v e nks ks vs es h1 h2 h3 h4 ih =>
    obtain ⟨x, rfl⟩ := tx nk List.mem_cons_self
    rw [List.map_cons] at kt
    injection kt with k1 k2
    subst k1
    obtain ⟨kvs, q1, q2, q3, q4⟩ := ih (fun z hz => tx z (List.mem_cons_of_mem _ hz)) k2
    obtain ⟨t, ht⟩ : ∃ t, e.key = .str x t := h1
    have hk : (strKind P w).is x e.key = true := by rw [ht]; exact strKind_is P w x t
    refine ⟨(x, e.val) :: kvs, by rw [List.map_cons, q1], .cons h2 q2, .cons hk rfl q3, fun f hf => ?_⟩
    rcases List.mem_cons.mp hf with rfl | hf
    · exact ⟨x, hk, by rw [h3, hw]; rfl⟩
    · exact q4 f hf
theorem strs_ent (hw : ∀ k, HashW.hf k = k.hash w) : ∀ {kvs : List (Str × Value)} {es : List DictEntry} {vs : List V}, Pairs (strKind P w) es kvs → (∀ e ∈ es, ∃ k, (strKind P w).is k e.key = true ∧ e.hash = (strKind P w).hash k) → Vals vs (kvs.map (·.2)) →
    Ent (kvs.map fun p => NestedKey.text p.1) (kvs.map fun p => V.str p.1) vs es
  | [], _, _, p, h, r => by cases p; cases r; exact .nil
  | (x, v0) :: kvs, _, _, p, h, r => by
    cases p with
    | @cons e _ es _ h1 h2 h3 =>
      cases r with
      | @cons v u vs us r1 r2 =>
        have h1 : (strKind P w).is x e.key = true := h1
        have h2 : e.val = v0 := h2
        refine .cons ?_ (by rw [h2]; exact r1) ?_ (strs_ent hw h3 (fun f hf => h f (List.mem_cons_of_mem _ hf)) r2)
        · obtain ⟨t, ht⟩ := Value.isStrOf_shape (show Value.isStrOf x e.key = true from h1)
          exact ⟨t, ht⟩
        · obtain ⟨k, hk, hh⟩ := h e List.mem_cons_self
          have : k = x := (strKind P w).inj _ _ _ hk h1
          subst this
          rw [hh, hw]
          rfl
theorem look_strs {x : Str} : ∀ {kvs : List (Str × Value)} {vs : List V}, Vals vs (kvs.map (·.2)) → RelO (lookV (kvs.map fun p => NestedKey.text p.1) vs (.text x)) (valueAt kvs x)
  | [], _, h => by cases h; exact True.intro
  | (y, u0) :: kvs, _, h => by
    cases h with
    | @cons v u vs us h1 h2 =>
      have ih := look_strs (x := x) h2
      show RelO (if NestedKey.text y = .text x then some v else lookV (kvs.map fun p => NestedKey.text p.1) vs (.text x)) _
      by_cases c : y = x
      · rw [if_pos (by rw [c])]
        have : valueAt ((y, u0) :: kvs) x = some u0 := by simp [valueAt, List.find?_cons, c]
        rw [this]
        exact h1
      · rw [if_neg fun z => c (by injection z)]
        have : valueAt ((y, u0) :: kvs) x = valueAt kvs x := by simp [valueAt, List.find?_cons, c]
        rw [this]
        exact ih
theorem repl_strs {x : Str} {v : V} {u : Value} (r : RelV v u) : ∀ {kvs : List (Str × Value)} {vs : List V}, Vals vs (kvs.map (·.2)) → Vals (replV (kvs.map fun p => NestedKey.text p.1) vs (.text x) v) ((kvs.map fun kv => if kv.1 = x then (kv.1, u) else kv).map (·.2))
  | [], _, h => by cases h; exact .nil
  | (y, u0) :: kvs, _, h => by
    cases h with
    | @cons v0 u1 vs us h1 h2 =>
      show Vals ((if NestedKey.text y = .text x then v else v0) :: replV (kvs.map fun p => NestedKey.text p.1) vs (.text x) v) (_ :: _)
      refine .cons ?_ (repl_strs r h2)
      by_cases c : y = x
      · rw [if_pos (by rw [c])]
        dsimp only
        rw [if_pos c]
        exact r
      · rw [if_neg fun z => c (by injection z)]
        dsimp only
        rw [if_neg c]
        exact h1
end
end Pv

/-! Dicts: operations. -/
namespace Pv
open PySem L2 PySem.Spec PyProof.Rows
variable [HashW]
structure DStrK (H : Hp) (a : Addr) (o : Obj) (nks : List NestedKey) (ks vs : List V) : Prop extends DStr H a o nks ks vs where
  kt : ks = nks.map fun nk => V.str (txOf nk)
def putN (nks : List NestedKey) (nk : NestedKey) : List NestedKey := if nk ∈ nks then nks else nks ++ [nk]
def putK (nks : List NestedKey) (ks : List V) (nk : NestedKey) (y : V) : List V := if nk ∈ nks then ks else ks ++ [y]
def putV (nks : List NestedKey) (vs : List V) (nk : NestedKey) (v : V) : List V := if nk ∈ nks then replV nks vs nk v else vs ++ [v]
section
variable {X : Cx} {pins : List (Addr × Obj)} {σ : L2.St} {H : Hp} {s : Shared} {a b : Addr} {o : Obj} {nks : List NestedKey} {ks vs : List V} {bs : List Addr} {nk : NestedKey} {A : Around} {E : Value → Shared → Prop}
theorem DStrK.of (hw : ∀ k, HashW.hf k = k.hash X.w) (d : DStrK H a o nks ks vs) (I : Inv X pins σ H s) : ∃ kvs : List (Str × Value), s.heap.DictOf (strKind X.prog X.w) a kvs ∧ kvs.map (fun p => NestedKey.text p.1) = nks ∧ Vals vs (kvs.map (·.2)) := by
  obtain ⟨es, ep, e1, e2, e3⟩ := d.dc.ex
  obtain ⟨kvs, q1, q2, q3, q4⟩ := e3.strs (P := X.prog) hw d.tx d.kt
  refine ⟨kvs, ⟨o, es, ep, inv_get I d.at_, e1, e2, fun e he => q4 e (by simpa using he), q3, ?_⟩, q1, q2⟩
  have nd := d.dc.nd
  rw [← q1] at nd
  have : kvs.map (fun p => NestedKey.text p.1) = (kvs.map (·.1)).map NestedKey.text := by rw [List.map_map]; rfl
  rw [this] at nd
  exact (List.pairwise_map.mp nd).imp fun h e => h (by rw [e])
theorem look_mem : ∀ {nks : List NestedKey} {vs : List V}, vs.length = nks.length → ((lookV nks vs nk).isSome = true ↔ nk ∈ nks)
  | [], [], _ => by simp [lookV]
  | [], _ :: _, h => by cases h
  | _ :: _, [], h => by cases h
  | k :: nks, v :: vs, h => by
    have ih := look_mem (nks := nks) (vs := vs) (by simpa using h)
    unfold lookV
    by_cases c : k = nk
    · rw [if_pos c, c]; simp
    · rw [if_neg c, ih, List.mem_cons]
      constructor
      · exact .inr
      · rintro (h | h)
        · exact absurd h.symm c
        · exact h
theorem DCt.vl (d : DCt o nks ks vs) : vs.length = nks.length ∧ ks.length = nks.length := by
  obtain ⟨es, ep, _, _, e⟩ := d.ex
  exact ⟨e.len.2.1, e.len.1⟩
/-- d[y] -/
def rGetT (X : Cx) : R2 := fun x y H Q => ∃ a o nks ks vs bs nk b v, x = .ref a ∧ y = .ref b ∧ DTup X H a o nks ks vs bs ∧ KeyV X H y nk ∧ nk.depth ≤ 8 ∧ lookV nks vs nk = some v ∧ Q v H
def rGetS (X : Cx) : R2 := fun x y H Q => ∃ a o nks ks vs z v, x = .ref a ∧ y = .str z ∧ DStrK H a o nks ks vs ∧ lookV nks vs (.text z) = some v ∧ Q v H
theorem ix_dT (hw : ∀ k, HashW.hf k = k.hash X.w) (hu : X.A.units + 60 < cLine) : IxR X (rGetT X) := by
  intro value slice pins s σ H x y v u Q I rx ry h hs
  obtain ⟨a, o, nks, ks, vs, bs, nk, b, v', rfl, rfl, d, kv, kd, l, q⟩ := h
  cases rx
  have hk := kv pins σ s u I ry
  cases ry
  obtain ⟨xs, dd, q1, q2, q3⟩ := d.keyed hw I
  have lk := look_keyed (nk := nk) q3
  rw [q1, l] at lk
  obtain ⟨u', hu', ru'⟩ := RelO.some_of lk
  obtain ⟨p, hp, hp2⟩ := Option.map_eq_some_iff.mp hu'
  refine tail_any (d.typeIs I) F.slot_dict_getitem.lookup (wpAny_getItem_heap (knd := nestedKind X.prog X.w) (show X.A.in1.units + 8 < cLine by show X.A.units + 1 + 8 < cLine; omega) ⟨hk, kd⟩ dd hp ?_) hs
  rw [hp2]
  exact ⟨v', H, I.tok _, ru', q⟩
theorem ix_dS (hw : ∀ k, HashW.hf k = k.hash X.w) : IxR X (rGetS X) := by
  intro value slice pins s σ H x y v u Q I rx ry h hs
  obtain ⟨a, o, nks, ks, vs, z, v', rfl, rfl, d, l, q⟩ := h
  cases rx
  obtain ⟨t, rfl⟩ := ry
  obtain ⟨kvs, dd, q1, q3⟩ := d.of hw I
  have lk := look_strs (x := z) q3
  rw [q1, l] at lk
  obtain ⟨u', hu', ru'⟩ := RelO.some_of lk
  exact tail_any (d.typeIs I) F.slot_dict_getitem.lookup (wpAny_getItem_of (strKind_is X.prog X.w z t) dd.mapOf hu' ⟨v', H, I.tok _, ru', q⟩) hs
/-- y in d, y not in d -/
def rDInT (X : Cx) (neg : Bool) : R2 := fun y x H Q => ∃ a o nks ks vs bs nk b, x = .ref a ∧ y = .ref b ∧ DTup X H a o nks ks vs bs ∧ KeyV X H y nk ∧ nk.depth ≤ 8 ∧ Q (.bl (neg != decide (nk ∈ nks))) H
def rDInS (X : Cx) (neg : Bool) : R2 := fun y x H Q => ∃ a o nks ks vs z, x = .ref a ∧ y = .str z ∧ DStrK H a o nks ks vs ∧ Q (.bl (neg != decide (NestedKey.text z ∈ nks))) H
theorem isSome_eq {α : Type} {o : Option α} {p : Prop} [Decidable p] (h : o.isSome = true ↔ p) : o.isSome = decide p := by
  by_cases c : p
  · rw [decide_eq_true c, h.mpr c]
  · rw [decide_eq_false c]
    cases e : o.isSome with
    | false => rfl
    | true => exact absurd (h.mp e) c
theorem op_inDT (hw : ∀ k, HashW.hf k = k.hash X.w) (hu : X.A.units + 60 < cLine) : OpR X (compareOp .In) (rDInT X false) := by
  intro pins s σ H y x u v Q I ry rx h
  obtain ⟨a, o, nks, ks, vs, bs, nk, b, rfl, rfl, d, kv, kd, q⟩ := h
  cases rx
  have hk := kv pins σ s u I ry
  cases ry
  obtain ⟨xs, dd, q1, q2, q3⟩ := d.keyed hw I
  have lk := look_keyed (nk := nk) q3
  rw [q1] at lk
  refine wpAny_in_heap (knd := nestedKind X.prog X.w) (show X.A.in1.units + 8 < cLine by show X.A.units + 1 + 8 < cLine; omega) ⟨hk, kd⟩ d.sm dd ?_
  have e := RelO.isSome_eq lk
  rw [Option.isSome_map] at e
  rw [← e, isSome_eq (look_mem d.dc.vl.1)]
  exact ⟨.bl (decide (nk ∈ nks)), H, I.tok _, rfl, by rw [Bool.false_bne] at q; exact q⟩
theorem op_ninDT (hw : ∀ k, HashW.hf k = k.hash X.w) (hu : X.A.units + 60 < cLine) : OpR X (compareOp .NotIn) (rDInT X true) := by
  intro pins s σ H y x u v Q I ry rx h
  obtain ⟨a, o, nks, ks, vs, bs, nk, b, rfl, rfl, d, kv, kd, q⟩ := h
  cases rx
  have hk := kv pins σ s u I ry
  cases ry
  obtain ⟨xs, dd, q1, q2, q3⟩ := d.keyed hw I
  have lk := look_keyed (nk := nk) q3
  rw [q1] at lk
  refine wpAny_notIn_heap (knd := nestedKind X.prog X.w) (show X.A.in1.units + 8 < cLine by show X.A.units + 1 + 8 < cLine; omega) ⟨hk, kd⟩ d.sm dd ?_
  have e := RelO.isSome_eq lk
  rw [Option.isSome_map] at e
  rw [← e, isSome_eq (look_mem d.dc.vl.1)]
  exact ⟨.bl (!decide (nk ∈ nks)), H, I.tok _, rfl, by rw [Bool.true_bne] at q; exact q⟩
theorem op_inDS (hw : ∀ k, HashW.hf k = k.hash X.w) : OpR X (compareOp .In) (rDInS X false) := by
  intro pins s σ H y x u v Q I ry rx h
  obtain ⟨a, o, nks, ks, vs, z, rfl, rfl, d, q⟩ := h
  cases rx
  obtain ⟨t, rfl⟩ := ry
  obtain ⟨kvs, dd, q1, q3⟩ := d.of hw I
  have lk := look_strs (x := z) q3
  rw [q1] at lk
  refine wpAny_in_of (strKind_is X.prog X.w z t) d.sm dd.mapOf ?_
  rw [← RelO.isSome_eq lk, isSome_eq (look_mem d.dc.vl.1)]
  exact ⟨.bl (decide (NestedKey.text z ∈ nks)), H, I.tok _, rfl, by rw [Bool.false_bne] at q; exact q⟩
theorem op_ninDS (hw : ∀ k, HashW.hf k = k.hash X.w) : OpR X (compareOp .NotIn) (rDInS X true) := by
  intro pins s σ H y x u v Q I ry rx h
  obtain ⟨a, o, nks, ks, vs, z, rfl, rfl, d, q⟩ := h
  cases rx
  obtain ⟨t, rfl⟩ := ry
  obtain ⟨kvs, dd, q1, q3⟩ := d.of hw I
  have lk := look_strs (x := z) q3
  rw [q1] at lk
  refine wpAny_notIn_of (strKind_is X.prog X.w z t) d.sm dd.mapOf ?_
  rw [← RelO.isSome_eq lk, isSome_eq (look_mem d.dc.vl.1)]
  exact ⟨.bl (!decide (NestedKey.text z ∈ nks)), H, I.tok _, rfl, by rw [Bool.true_bne] at q; exact q⟩
/-! d[y] = v -/
theorem putN_nd (h : nks.Nodup) : (putN nks nk).Nodup := by
  unfold putN
  split
  · exact h
  · rename_i c
    rw [List.nodup_append]
    exact ⟨h, by simp, fun x hx y hy e => c (by rw [List.mem_singleton] at hy; rw [← hy, ← e]; exact hx)⟩
theorem putN_len : (putN nks nk).length ≤ nks.length + 1 := by
  unfold putN
  split
  · omega
  · simp
def rPutT (X : Cx) : V → V → V → Hp → (Hp → Prop) → Prop := fun x y v H Q => ∃ a o nks ks vs bs nk b, x = .ref a ∧ y = .ref b ∧ DTup X H a o nks ks vs bs ∧ KeyV X H y nk ∧ nk.depth ≤ 8 ∧ nks.length < 1000000 ∧
  ∀ o', DCt o' (putN nks nk) (putK nks ks nk y) (putV nks vs nk v) → Q (upd H a (xO a o'))
def rPutS (X : Cx) : V → V → V → Hp → (Hp → Prop) → Prop := fun x y v H Q => ∃ a o nks ks vs z, x = .ref a ∧ y = .str z ∧ DStrK H a o nks ks vs ∧ nks.length < 1000000 ∧
  ∀ o', DCt o' (putN nks (.text z)) (putK nks ks (.text z) y) (putV nks vs (.text z) v) → Q (upd H a (xO a o'))
theorem xO_write {h' : Heap} {t' : Nat} {o' : Obj} (I : Inv X pins σ H s) (h : H a = some (xO a o)) (hs : Heap.SameBut a s.heap h') (he : h'.get? a = some o') : Inv X pins σ (upd H a (xO a o')) { s with heap := h', toks := t' } :=
  I.write (x := a) (e := a) (by rw [h]; exact True.intro) (.inl rfl) (fun b q hb z => (hs.2 b hb).trans z) ⟨_, he⟩ (xO_ok he)
theorem refs_map : ∀ {xs : List (NestedKey × Addr × Value)} {ks : List V}, Refs ks (xs.map (·.2.1)) → ks = xs.map fun x => V.ref x.2.1
  | [], _, h => by cases h; rfl
  | x :: xs, _, h => by
    cases h with
    | cons h => rw [refs_map h]; rfl
theorem atKey_mem {xs : List (NestedKey × Addr × Value)} {nk : NestedKey} : (atKey xs nk).isSome = true ↔ nk ∈ xs.map (·.1) := by
  unfold atKey
  rw [Option.isSome_map, List.find?_isSome]
  simp
theorem set_dT (hw : ∀ k, HashW.hf k = k.hash X.w) (hu : X.A.units + 60 < cLine) : PSet X (rPutT X) := by
  intro pins s σ H x y v xv yv u Q I rx ry rv h
  obtain ⟨a, o, nks, ks, vs, bs, nk, b, rfl, rfl, d, kv, kd, hl, q⟩ := h
  cases rx
  have hk := kv pins σ s yv I ry
  cases ry
  obtain ⟨xs, dd, q1, q2, q3⟩ := d.keyed hw I
  have hxl : xs.length = nks.length := by rw [← q1, List.length_map]
  refine wpAny_setItem_heap (knd := nestedKind X.prog X.w) (hsz := by have := d.dc.sz; have := sizeM; omega) (show X.A.in1.units + 8 < cLine by show X.A.units + 1 + 8 < cLine; omega) ⟨hk, kd⟩ dd fun h' dd' hs => ?_
  obtain ⟨o', es, ep, g1, g2, g3, g4, _, _⟩ := dd'
  refine ⟨_, xO_write I d.at_ hs g1, q o' ⟨⟨es, ep, g2, g3, ?_⟩, putN_nd d.dc.nd, by have := putN_len (nks := nks) (nk := nk); omega⟩⟩
  rw [g4]
  have hks := refs_map (by rw [q2]; exact d.rf)
  unfold putN putK putV storedH
  by_cases c : nk ∈ nks
  · rw [if_pos c, if_pos c, if_pos c, if_pos (by rw [atKey_mem, q1]; exact c)]
    have e := keyed_ent (P := X.prog) (xs := xs.map (putAt nk u)) hw (by have := repl_keyed (nk := nk) rv q3; rw [q1] at this; exact this)
    have e1 : (xs.map (putAt nk u)).map (·.1) = nks := by rw [← q1, List.map_map]; refine List.map_congr_left fun x _ => ?_; show (putAt nk u x).1 = x.1; unfold putAt; split <;> rfl
    have e2 : (xs.map (putAt nk u)).map (fun x => V.ref x.2.1) = ks := by rw [hks, List.map_map]; refine List.map_congr_left fun x _ => ?_; show V.ref (putAt nk u x).2.1 = V.ref x.2.1; unfold putAt; split <;> rfl
    rw [e1, e2] at e
    exact e
  · rw [if_neg c, if_neg c, if_neg c, if_neg (by rw [atKey_mem, q1]; exact c)]
    have q3' : Vals (vs ++ [v]) ((xs ++ [(nk, b, u)]).map (·.2.2)) := by
      rw [List.map_append]
      exact q3.append (.cons rv .nil)
    have e := keyed_ent (P := X.prog) (xs := xs ++ [(nk, b, u)]) hw q3'
    rw [List.map_append, List.map_append, q1, ← hks] at e
    exact e
theorem set_dS (hw : ∀ k, HashW.hf k = k.hash X.w) : PSet X (rPutS X) := by
  intro pins s σ H x y v xv yv u Q I rx ry rv h
  obtain ⟨a, o, nks, ks, vs, z, rfl, rfl, d, hl, q⟩ := h
  cases rx
  obtain ⟨t, rfl⟩ := ry
  obtain ⟨kvs, dd, q1, q3⟩ := d.of hw I
  have hxl : kvs.length = nks.length := by rw [← q1, List.length_map]
  refine wpAny_setItem_pairs (hsz := by have := d.dc.sz; have := sizeM; omega) (strKind_is X.prog X.w z t) dd fun h' dd' hs => ?_
  obtain ⟨o', es, ep, g1, g2, g3, g4, g5, g6⟩ := dd'
  refine ⟨_, xO_write I d.at_ hs g1, q o' ⟨⟨es, ep, g2, g3, ?_⟩, putN_nd d.dc.nd, by have := putN_len (nks := nks) (nk := .text z); omega⟩⟩
  have hks : ks = kvs.map fun p => V.str p.1 := by rw [d.kt, ← q1, List.map_map]; rfl
  have mem : NestedKey.text z ∈ nks ↔ (kvs.any fun kv => decide (kv.1 = z)) = true := by
    rw [← q1, List.mem_map, List.any_eq_true]
    constructor
    · rintro ⟨p, hp, e⟩
      exact ⟨p, hp, by injection e with e; simp [e]⟩
    · rintro ⟨p, hp, e⟩
      exact ⟨p, hp, by simp at e; rw [e]⟩
  have ke : ∀ e ∈ es.toList, ∃ k, (strKind X.prog X.w).is k e.key = true ∧ e.hash = (strKind X.prog X.w).hash k := fun e he => g4 e (by simpa using he)
  unfold stored at g5
  unfold putN putK putV
  by_cases c : NestedKey.text z ∈ nks
  · rw [if_pos c, if_pos c, if_pos c]
    rw [if_pos (mem.mp c)] at g5
    have e := strs_ent hw g5 ke (by have := repl_strs (x := z) rv q3; exact this)
    have e1 : (kvs.map fun kv => if kv.1 = z then (kv.1, u) else kv).map (fun p => NestedKey.text p.1) = nks := by rw [← q1, List.map_map]; refine List.map_congr_left fun x _ => ?_; show NestedKey.text (if x.1 = z then (x.1, u) else x).1 = _; split <;> rfl
    have e2 : (kvs.map fun kv => if kv.1 = z then (kv.1, u) else kv).map (fun p => V.str p.1) = ks := by rw [hks, List.map_map]; refine List.map_congr_left fun x _ => ?_; show V.str (if x.1 = z then (x.1, u) else x).1 = _; split <;> rfl
    rw [e1, e2, q1] at e
    exact e
  · rw [if_neg c, if_neg c, if_neg c]
    rw [if_neg fun z => c (mem.mpr z)] at g5
    have q3' : Vals (vs ++ [v]) ((kvs ++ [(z, u)]).map (·.2)) := by
      rw [List.map_append]
      exact q3.append (.cons rv .nil)
    have e := strs_ent hw g5 ke q3'
    rw [List.map_append, List.map_append, q1, ← hks] at e
    exact e
end
end Pv

/-! Dicts: len, list, walks, displays. -/
namespace Pv
open PySem L2 PySem.Spec PyProof.Rows
variable [HashW]
/-- a dict of any keys -/
structure DAny (H : Hp) (a : Addr) (o : Obj) (nks : List NestedKey) (ks vs : List V) : Prop where
  at_ : H a = some (xO a o)
  dc : DCt o nks ks vs
  sm : (a == sysModules) = false
theorem Ent.at : ∀ {nks : List NestedKey} {ks vs : List V} {es : List DictEntry} {i : Nat} {k : V}, Ent nks ks vs es → ks[i]? = some k → ∃ e, es[i]? = some e ∧ RelV k e.key
  | _, _, _, _, _, _, .nil, h => by simp at h
  | _, _, _, _, 0, _, .cons h1 _ _ _, h => by simp at h; subst h; exact ⟨_, rfl, h1⟩
  | _, _, _, _, i + 1, _, .cons _ _ _ r, h => Ent.at (i := i) r (by simpa using h)
theorem Ent.keys : ∀ {nks : List NestedKey} {ks vs : List V} {es : List DictEntry}, Ent nks ks vs es → Vals ks (es.map (·.key))
  | _, _, _, _, .nil => .nil
  | _, _, _, _, .cons h1 _ _ r => .cons h1 (Ent.keys r)
theorem line_nat : (1000000 : Int) < 2 ^ 63 := by decide
section
variable {X : Cx}
theorem call_len_d : CallR X (.builtin "len") (fun xs H Q => ∃ a o nks ks vs, xs = [.ref a] ∧ DAny H a o nks ks vs ∧ Q (.int nks.length) H) := by
  intro pins s σ H xs us Q I r h
  obtain ⟨a, o, nks, ks, vs, rfl, d, q⟩ := h
  obtain ⟨u, rfl, rx⟩ := vals1 r
  cases rx
  obtain ⟨es, ep, e1, e2, e3⟩ := d.dc.ex
  have g := inv_get I d.at_
  have dr : s.heap.DictRaw a es ep := ⟨o, g, e1, e2⟩
  have hl : es.size = nks.length := by rw [← Array.length_toList]; exact e3.len.2.2
  have hz := d.dc.sz
  refine call_len_slot (n := (nks.length : Int)) dr.typeIs F.slot_dict_len (fun Q' hq => call_len_raw d.sm dr (by rw [hl]; exact hq)) (by omega) (by have := line_nat; omega) ?_
  exact ⟨.int nks.length, H, I.tok _, ⟨_, rfl⟩, q⟩
theorem call_list_d (hc : X.calm = true) : CallR X (.type "list") (fun xs H Q => ∃ a o nks ks vs, xs = [.ref a] ∧ DAny H a o nks ks vs ∧ ∀ p, H p = none → Q (.ref p) (upd H p (.lst ks))) := by
  intro pins s σ H xs us Q I r h
  obtain ⟨a, o, nks, ks, vs, rfl, d, q⟩ := h
  obtain ⟨u, rfl, rx⟩ := vals1 r
  cases rx
  obtain ⟨es, ep, e1, e2, e3⟩ := d.dc.ex
  have g := inv_get I d.at_
  have hl : es.size = nks.length := by rw [← Array.length_toList]; exact e3.len.2.2
  have hz := d.dc.sz
  have hm := sizeM
  refine PySem.W.kdl_call (kdl_raw d.sm e1 e2) (I.ok.hd hc) g (by omega) fun h' tk acc' c' kp e it => ?_
  have ea : acc'.toList = es.toList.map (·.key) := by
    apply List.ext_getElem?
    intro j
    rw [List.getElem?_map]
    cases hj : acc'.toList[j]? with
    | none =>
      have h1 := List.getElem?_eq_none_iff.mp hj
      rw [Array.length_toList, it.1] at h1
      rw [List.getElem?_eq_none (by rw [Array.length_toList]; omega)]
      rfl
    | some v =>
      obtain ⟨en, hen, hv⟩ := it.2 j v (by rw [← Array.getElem?_toList]; exact hj)
      rw [Array.getElem?_toList, hen, hv]
      rfl
  have rv : Vals ks acc'.toList := by rw [ea]; exact e3.keys
  refine ⟨.ref s.heap.objs.size, _, I.laid (t' := tk) (o := .lst ks) kp (Nat.le_refl _) ?_, rfl, q _ (I.hok.fresh (Nat.le_refl _))⟩
  exact ⟨by rw [e3.len.1]; omega, acc'.toList, c', rv, by rw [Array.toArray_toList]; exact e⟩
end
/-- the keys of the dict, in order -/
def Itx (a : Addr) (o : Obj) (ks : List V) : It :=
  ⟨fun i H => H a = some (xO a o) ∧ i < ks.length, fun i H x H' => H' = H ∧ ks[i]? = some x, fun i H => H a = some (xO a o) ∧ ks.length ≤ i⟩
theorem turn_x {P : Program} {w : World} {K : PySem.W.Frag} {tg : Expr} {a : Addr} {o : Obj} {es : Array DictEntry} {ep : Nat} {nks : List NestedKey} {ks vs : List V} (it : Addr) (hod : o.data = .dict es ep) (he : Ent nks ks vs es.toList) :
    Turn P w K tg (Itx a o ks) [it] it (fun i h => h.IsKeyIter it a i ks.length ep) where
  mem := by simp
  obj := fun i h st b hb => by
    have e : b = it := by simpa using hb
    subst e
    obtain ⟨oi, e, c, dd⟩ := st
    exact ⟨oi, e, fun v z => by rw [dd] at z; cases z⟩
  keep := fun i h h' st k => st.at fun oi e => k it (by simp) oi e
  item := by
    intro X hP hw hK hc i pins s σ H E I hf st hg
    subst hP hw hK
    obtain ⟨hd, hi⟩ := hg
    obtain ⟨f0, f1, f2, f3, f4, f5⟩ := hf it (by simp)
    have hgd := inv_get I hd
    have hsz : es.size = ks.length := by rw [← Array.length_toList, he.len.2.2, he.len.1]
    obtain ⟨en, hen, hkey⟩ := he.at (List.getElem?_eq_getElem hi)
    rw [Array.getElem?_toList] at hen
    refine next_key_item st hgd hod hsz hen fun h' st' sb => ?_
    have I1 : Inv X pins σ H { s with heap := h' } := I.turned (t' := s.toks) (fun b ob hb e => (sb.2 b hb).trans e) f0 f1 f3 f4 f5
    obtain ⟨oi, e, c, dd⟩ := id st'
    exact ⟨en.key, rfl, go_of (s := { s with heap := h' }) e c dd (by decide) ⟨ks[i], H, I1, hkey, ⟨rfl, List.getElem?_eq_getElem hi⟩, st', fun b hb => (hf b hb).1⟩⟩
  done := by
    intro X hP hw hK hc i pins s σ H E I hf st hg
    subst hP hw hK
    obtain ⟨hd, hi⟩ := hg
    obtain ⟨f0, f1, f2, f3, f4, f5⟩ := hf it (by simp)
    have hgd := inv_get I hd
    have hsz : es.size = ks.length := by rw [← Array.length_toList, he.len.2.2, he.len.1]
    exact next_key_end (I.ok.hd hc) st hgd hod hsz hi fun h' eb => ⟨rfl, I.turned (t' := s.toks) (fun b ob hb e => eb b ob hb e) f0 f1 f3 f4 f5⟩
  self := fun A i s Q E st h => by
    refine wpAny_pyIter_slot st.typeIs F.slot_dict_keyiterator_iter (wpAny_call_entry F.slot_dict_keyiterator_iter st.typeIs F.entry_dict_keyiterator_iter ?_ (F.args_dict_keyiterator_iter_1 _))
    show wpAny _ _ (ret (.ref it)) _ _ s
    exact wpAny_pure ⟨_, rfl, "dict_keyiterator", _, st.typeIs, F.slot_dict_keyiterator_next.lookup, h⟩
def iKeysX (td : TE) : TI := fun σ H R => td σ H fun x H1 => ∃ a o nks ks vs, x = .ref a ∧ DAny H1 a o nks ks vs ∧ R (Itx a o ks) H1
section
variable {X : Cx} {tg e : Expr} {td : TE} {pos : Pos}
theorem pi_keysX (he : PE X e td) : PI X tg e (iKeysX td) := by
  refine ⟨fun pins s σ H R I h => ?_⟩
  refine thn (he.run pins s σ H _ I h) fun u s1 ⟨x, H1, I1, rx, a, o, nks, ks, vs, ex, d, q⟩ => ?_
  subst ex
  obtain rfl : u = Value.ref a := rx
  obtain ⟨es, ep, e1, e2, e3⟩ := d.dc.ex
  have hsz : es.size = ks.length := by rw [← Array.length_toList, e3.len.2.2, e3.len.1]
  refine iter_keys d.sm (inv_get I1 d.at_) e1 e2 (pi_one (tk := s1.toks) I1 _ (turn_x _ e2 e3) ⟨_, Heap.get?_push_size _ rfl, rfl, ?_⟩ q)
  rw [hsz] <;> rfl
/-- {} -/
def tNewX : TE := fun _ H Q => ∀ p o, H p = none → DAny (upd H p (xO p o)) p o [] [] [] → Q (.ref p) (upd H p (xO p o))
theorem new_any {H : Hp} {p : Addr} (hs : (p == sysModules) = false) : DAny (upd H p (xO p { cls := .type "dict", data := .dict #[] })) p { cls := .type "dict", data := .dict #[] } [] [] [] :=
  ⟨upd_same, ⟨⟨#[], 0, ⟨rfl, rfl, rfl⟩, rfl, .nil⟩, List.nodup_nil, by simp⟩, hs⟩
theorem inv_sys {pins : List (Addr × Obj)} {σ : L2.St} {H : Hp} {s : Shared} (I : Inv X pins σ H s) : (s.heap.objs.size == sysModules) = false := beq_eq_false_iff_ne.mpr (Ne.symm (Nat.ne_of_lt I.big))
theorem pe_dnewX : PE X (.Dict [] [] pos) tNewX := ⟨fun pins s σ H Q I h =>
  wpAny_Dict_empty ⟨.ref s.heap.objs.size, _, I.laid (a := s.heap.objs.size) (o := xO s.heap.objs.size { cls := .type "dict", data := .dict #[] }) (t' := s.toks) (fun _ _ q => Heap.get?_push_of_some _ q) (Nat.le_refl _) (xO_ok (Heap.get?_push_size _ rfl)), rfl,
    h _ _ (I.hok.fresh (Nat.le_refl _)) (new_any (inv_sys I))⟩⟩
/-- {k: v}, k a tuple -/
def tOneX (X : Cx) (tk tv : TE) : TE := fun σ H Q => ∀ p o, H p = none → DAny (upd H p (xO p o)) p o [] [] [] → tPairs [(tk, tv)] σ (upd H p (xO p o)) fun ps H2 => ∃ y v, ps = [(y, v)] ∧ ∃ nk b, y = .ref b ∧ H2 p = some (xO p o) ∧ KeyV X H2 y nk ∧ nk.depth ≤ 8 ∧
  ∀ o', DCt o' [nk] [y] [v] → Q (.ref p) (upd H2 p (xO p o'))
theorem pe_doneX {k v : Expr} {tk tv : TE} (hw : ∀ k, HashW.hf k = k.hash X.w) (hu : X.A.units + 60 < cLine) (hk : PE X k tk) (hv : PE X v tv) : PE X (.Dict [some k] [v] pos) (tOneX X tk tv) := by
  refine ⟨fun pins s σ H Q I h => ?_⟩
  have I1 := I.laid (a := s.heap.objs.size) (o := xO s.heap.objs.size { cls := .type "dict", data := .dict #[] }) (h' := s.heap.push { cls := .type "dict", data := .dict #[] }) (t' := s.toks) (fun _ _ q => Heap.get?_push_of_some _ q) (Nat.le_refl _) (xO_ok (Heap.get?_push_size _ rfl))
  have h1 := h _ _ (I.hok.fresh (Nat.le_refl _)) (new_any (inv_sys I))
  have pp := pps_cons (pos := pos) hk hv (pps_nil (pos := pos))
  rw [arm_eval_Dict, zip_pairTrees [some k] [v] X.env pos rfl rfl, dictDisplay_pairs _ (by simp [pairTrees]) (by simp [pairTrees])]
  have fin : ∀ (us : List (Value × Value)) (s1 : Shared), (∃ ps H', Inv X pins σ H' s1 ∧ VV ps us ∧ ∃ y v, ps = [(y, v)] ∧ ∃ nk b, y = .ref b ∧ H' s.heap.objs.size = some (xO s.heap.objs.size { cls := .type "dict", data := .dict #[] }) ∧ KeyV X H' y nk ∧ nk.depth ≤ 8 ∧ ∀ o', DCt o' [nk] [y] [v] → Q (.ref s.heap.objs.size) (upd H' s.heap.objs.size (xO s.heap.objs.size o'))) →
      ∃ ps, CarriesH (nestedKind X.prog X.w) s1.heap us ps ∧ s1.heap.DictOfH (nestedKind X.prog X.w) s.heap.objs.size [] ∧ ∀ h' tk, h'.DictOfH (nestedKind X.prog X.w) s.heap.objs.size (storedAllH [] ps) → Heap.SameBut s.heap.objs.size s1.heap h' →
        wpAny (model X.prog X.w) X.A (pure (Value.ref s.heap.objs.size)) (EP X pins σ Q) X.xe { s1 with heap := h', toks := tk } := by
    rintro us s1 ⟨_, H2, I2, rel, y, v', rfl, nk, b, rfl, e2, kv, kd, q⟩
    cases rel with
    | @cons p0 uu ps0 us0 hr ht =>
      cases ht
      obtain ⟨u1, u2⟩ := uu
      obtain ⟨r1, r2⟩ := hr
      have r1 : RelV (.ref b) u1 := r1
      have hk := kv pins σ s1 u1 I2 r1
      cases r1
      refine ⟨[(nk, b, u2)], ⟨rfl, rfl, ⟨hk, kd⟩, True.intro⟩, ?_, fun h' tk dd' hs => wpAny_pure ?_⟩
      · exact ⟨_, #[], 0, inv_get I2 e2, ⟨rfl, rfl, rfl⟩, rfl, rfl, fun x hx => by (cases hx), List.nodup_nil⟩
      · obtain ⟨o', es, ep, g1, g2, g3, g4, _, _⟩ := dd'
        refine ⟨.ref s.heap.objs.size, _, xO_write I2 e2 hs g1, rfl, q o' ⟨⟨es, ep, g2, g3, ?_⟩, by simp, by simp⟩⟩
        rw [g4]
        exact keyed_ent (P := X.prog) (xs := [(nk, b, u2)]) hw (.cons r2 .nil)
  refine wpAny_bind (wpAny_standAt (wpAny_bind (wpAny_subDictH (knd := nestedKind X.prog X.w) (Q := fun d s' => wpAny (model X.prog X.w) X.A (pure (Value.ref d)) (EP X pins σ Q) X.xe s') (show X.A.units + 8 < cLine by omega) (by simp [pairTrees]) ?_)))
  exact thn (pp.run pins _ σ _ _ I1 h1) fun us s1 z => fin us s1 z
end
end Pv

/-! What data a value stands for, in the part of the heap that is not changed in place; what holds of the slots. -/
namespace Pv
open PySem L2

/-! ### heaps with some addresses out of sight -/
def hide (H : Hp) (M : List Addr) : Hp := fun b => if b ∈ M then none else H b
theorem hide_in {H : Hp} {M : List Addr} {b : Addr} (h : b ∈ M) : hide H M b = none := if_pos h
theorem hide_out {H : Hp} {M : List Addr} {b : Addr} (h : b ∉ M) : hide H M b = H b := if_neg h
theorem of_hide {H : Hp} {M : List Addr} {b : Addr} {o : HO} (h : hide H M b = some o) : b ∉ M ∧ H b = some o := by
  by_cases hb : b ∈ M
  · rw [hide_in hb] at h; cases h
  · rw [hide_out hb] at h; exact ⟨hb, h⟩
/-- all but the tables of codes is kept -/
def Le (G G' : Hp) : Prop := ∀ b o, G b = some o → (∀ ps, o ≠ .tbl ps) → G' b = some o
theorem Le.refl (G : Hp) : Le G G := fun _ _ h _ => h
theorem Le.trans {A B C : Hp} (a : Le A B) (b : Le B C) : Le A C := fun x o h n => b x o (a x o h n) n
/-- every object stays -/
def Hx (H H' : Hp) : Prop := ∀ b o, H b = some o → H' b = some o
theorem Hx.refl (H : Hp) : Hx H H := fun _ _ h => h
theorem Hx.trans {A B C : Hp} (a : Hx A B) (b : Hx B C) : Hx A C := fun x o h => b x o (a x o h)
theorem Hx.le {H H' : Hp} (e : Hx H H') : Le H H' := fun b o h _ => e b o h
theorem Hx.new {H : Hp} {p : Addr} {o : HO} (h : H p = none) : Hx H (upd H p o) := fun a u e => by
  rw [upd_ne (ne_of_none e h)]; exact e
theorem Hx.hide {H H' : Hp} (e : Hx H H') (M : List Addr) : Le (hide H M) (hide H' M) := fun b o h _ => by
  obtain ⟨h1, h2⟩ := of_hide h
  rw [hide_out h1]; exact e b o h2
theorem Le.rd {G G' : Hp} {a : Addr} {u : HO} (l : Le G G') (h : Rd G a u) (n : ∀ ps, u ≠ .tbl ps) : Rd G' a u := by
  rcases h with h | ⟨o, h⟩
  · exact .inl (l _ _ h n)
  · exact .inr ⟨o, l _ _ h fun ps z => by cases z⟩
theorem Le.sqL {K : W.Frag} {G G' : Hp} {a : Addr} {xs : List V} (l : Le G G') (h : SqL K G a xs) : SqL K G' a xs := by
  rcases h with h | h
  · exact .inl (l.rd h fun ps z => by cases z)
  · exact .inr h
theorem Le.sqT {K : W.Frag} {G G' : Hp} {a : Addr} {xs : List V} (l : Le G G') (h : SqT K G a xs) : SqT K G' a xs := by
  rcases h with h | h
  · exact .inl (l.rd h fun ps z => by cases z)
  · exact .inr h
end Pv
namespace L2
open PySem Pv
variable [HashW]
mutual
/-- the value stands for the datum -/
inductive Rp (K : W.Frag) (H : Hp) : V → PyData → Prop
  | non : Rp K H .non .none
  | bl (b : Bool) : Rp K H (.bl b) (.bool b)
  | int (i : Int) : Rp K H (.int i) (.int i)
  | str (x : Str) : Rp K H (.str x) (.str x)
  | lst {a : Addr} {xs : List V} {ds : List PyData} : SqL K H a xs → RpAll K H xs ds → Rp K H (.ref a) (.list ds)
  | tup {a : Addr} {xs : List V} {ds : List PyData} : SqT K H a xs → RpAll K H xs ds → Rp K H (.ref a) (.tuple ds)
  | dct {a : Addr} {o : Obj} {nks : List NestedKey} {ks vs : List V} {kvs : List (PyData × PyData)} : H a = some (xO a o) → (a == sysModules) = false → DCt o nks ks vs → RpKv K H nks ks vs kvs → Rp K H (.ref a) (.dict kvs)
inductive RpAll (K : W.Frag) (H : Hp) : List V → List PyData → Prop
  | nil : RpAll K H [] []
  | cons {v : V} {vs : List V} {d : PyData} {ds : List PyData} : Rp K H v d → RpAll K H vs ds → RpAll K H (v :: vs) (d :: ds)
inductive RpKv (K : W.Frag) (H : Hp) : List NestedKey → List V → List V → List (PyData × PyData) → Prop
  | nil : RpKv K H [] [] [] []
  | cons {nk : NestedKey} {nks : List NestedKey} {k v : V} {ks vs : List V} {d e : PyData} {kvs : List (PyData × PyData)} : keyD d = some nk → Rp K H k d → Rp K H v e → RpKv K H nks ks vs kvs → RpKv K H (nk :: nks) (k :: ks) (v :: vs) ((d, e) :: kvs)
end
mutual
theorem Rp.dp {K : W.Frag} {G : Hp} : ∀ {v : V} {d : PyData}, d.canLay0 = true → Rp K G v d → Dp K G v d
  | _, _, _, .non => .non
  | _, _, _, .bl b => .bl b
  | _, _, _, .int i => .int i
  | _, _, _, .str x => .str x
  | _, _, e, .lst h a => .lst h (RpAll.dp (by rw [PyData.canLay0] at e; exact e) a)
  | _, _, e, .tup h a => .tup h (RpAll.dp (by rw [PyData.canLay0] at e; exact e) a)
  | _, _, e, .dct _ _ _ _ => by rw [PyData.canLay0] at e; cases e
theorem RpAll.dp {K : W.Frag} {G : Hp} : ∀ {vs : List V} {ds : List PyData}, PyData.canLayAll0 ds = true → RpAll K G vs ds → DpAll K G vs ds
  | _, _, _, .nil => .nil
  | _, _, e, .cons h r => by
    rw [PyData.canLayAll0, Bool.and_eq_true] at e
    exact .cons (Rp.dp e.1 h) (RpAll.dp e.2 r)
end
mutual
theorem Rp.dpA {K : W.Frag} {G : Hp} : ∀ {v : V} {d : PyData}, W.alike d d = true → Rp K G v d → Dp K G v d
  | _, _, _, .non => .non
  | _, _, _, .bl b => .bl b
  | _, _, _, .int i => .int i
  | _, _, _, .str x => .str x
  | _, _, e, .lst h a => .lst h (RpAll.dpA (by rw [W.alike] at e; exact e) a)
  | _, _, e, .tup h a => .tup h (RpAll.dpA (by rw [W.alike] at e; exact e) a)
  | _, _, e, .dct _ _ _ _ => by simp [W.alike] at e
theorem RpAll.dpA {K : W.Frag} {G : Hp} : ∀ {vs : List V} {ds : List PyData}, W.alikeAll ds ds = true → RpAll K G vs ds → DpAll K G vs ds
  | _, _, _, .nil => .nil
  | _, _, e, .cons h r => by
    rw [W.alikeAll, Bool.and_eq_true] at e
    exact .cons (Rp.dpA e.1 h) (RpAll.dpA e.2 r)
end
mutual
theorem Rp.le {K : W.Frag} {G G' : Hp} (l : Le G G') : ∀ {v : V} {d : D}, Rp K G v d → Rp K G' v d
  | _, _, .non => .non
  | _, _, .bl b => .bl b
  | _, _, .int i => .int i
  | _, _, .str x => .str x
  | _, _, .lst h a => .lst (l.sqL h) (RpAll.le l a)
  | _, _, .tup h a => .tup (l.sqT h) (RpAll.le l a)
  | _, _, .dct h s c r => .dct (l _ _ h xO_tbl) s c (RpKv.le l r)
theorem RpAll.le {K : W.Frag} {G G' : Hp} (l : Le G G') : ∀ {vs : List V} {ds : List D}, RpAll K G vs ds → RpAll K G' vs ds
  | _, _, .nil => .nil
  | _, _, .cons h r => .cons (Rp.le l h) (RpAll.le l r)
theorem RpKv.le {K : W.Frag} {G G' : Hp} (l : Le G G') : ∀ {nks : List NestedKey} {ks vs : List V} {kvs : List (D × D)}, RpKv K G nks ks vs kvs → RpKv K G' nks ks vs kvs
  | _, _, _, _, .nil => .nil
  | _, _, _, _, .cons e h h2 r => .cons e (Rp.le l h) (Rp.le l h2) (RpKv.le l r)
end
end L2
namespace Pv
open PySem L2
theorem hide_le (H : Hp) (M : List Addr) : Le (hide H M) H := fun b o h _ => (of_hide h).2
theorem hide_sub {H : Hp} {M M' : List Addr} (s : ∀ a ∈ M', a ∈ M) : Le (hide H M) (hide H M') := fun b o h _ => by
  obtain ⟨h1, h2⟩ := of_hide h
  rw [hide_out fun z => h1 (s b z)]; exact h2
end Pv
namespace L2
open PySem Pv
variable [HashW]
section
variable {K : W.Frag} {G : Hp}
theorem RpAll.length : ∀ {vs : List V} {ds : List D}, RpAll K G vs ds → vs.length = ds.length
  | _, _, .nil => rfl
  | _, _, .cons _ r => by rw [List.length_cons, List.length_cons, RpAll.length r]
theorem RpAll.get : ∀ {vs : List V} {ds : List D} {i : Nat} {d : D}, RpAll K G vs ds → ds[i]? = some d → ∃ v, vs[i]? = some v ∧ Rp K G v d
  | _, _, _, _, .nil, h => by simp at h
  | _, _, 0, _, .cons h _, e => by simp at e; subst e; exact ⟨_, rfl, h⟩
  | _, _, i + 1, _, .cons _ r, e => RpAll.get (i := i) r (by simpa using e)
theorem RpAll.get' : ∀ {vs : List V} {ds : List D} {i : Nat} {v : V}, RpAll K G vs ds → vs[i]? = some v → ∃ d, ds[i]? = some d ∧ Rp K G v d
  | _, _, _, _, .nil, h => by simp at h
  | _, _, 0, _, .cons h _, e => by simp at e; subst e; exact ⟨_, rfl, h⟩
  | _, _, i + 1, _, .cons _ r, e => RpAll.get' (i := i) r (by simpa using e)
theorem RpAll.app : ∀ {vs ws : List V} {ds es : List D}, RpAll K G vs ds → RpAll K G ws es → RpAll K G (vs ++ ws) (ds ++ es)
  | _, _, _, _, .nil, s => s
  | _, _, _, _, .cons h r, s => .cons h (RpAll.app r s)
theorem RpAll.drop : ∀ {vs : List V} {ds : List D} (n : Nat), RpAll K G vs ds → RpAll K G (vs.drop n) (ds.drop n)
  | _, _, 0, r => r
  | _, _, _ + 1, .nil => .nil
  | _, _, n + 1, .cons _ r => RpAll.drop n r
theorem RpAll.take : ∀ {vs : List V} {ds : List D} (n : Nat), RpAll K G vs ds → RpAll K G (vs.take n) (ds.take n)
  | _, _, 0, r => .nil
  | _, _, _ + 1, .nil => .nil
  | _, _, n + 1, .cons h r => .cons h (RpAll.take n r)
theorem RpAll.rep {vs : List V} {ds : List D} (r : RpAll K G vs ds) : ∀ n : Nat, RpAll K G (List.replicate n vs).flatten (List.replicate n ds).flatten
  | 0 => .nil
  | n + 1 => by
    rw [List.replicate_succ, List.replicate_succ, List.flatten_cons, List.flatten_cons]
    exact r.app (RpAll.rep r n)
theorem RpAll.set : ∀ {vs : List V} {ds : List D} (i : Nat) {v : V} {d : D}, RpAll K G vs ds → Rp K G v d → RpAll K G (vs.set i v) (ds.set i d)
  | _, _, _, _, _, .nil, _ => .nil
  | _, _, 0, _, _, .cons _ r, h => .cons h r
  | _, _, i + 1, _, _, .cons g r, h => .cons g (RpAll.set i r h)
theorem Rp.tup_inv {v : V} {ds : List D} (h : Rp K G v (.tuple ds)) : ∃ a vs, v = .ref a ∧ SqT K G a vs ∧ RpAll K G vs ds := by
  cases h with
  | tup s a => exact ⟨_, _, rfl, s, a⟩
theorem Rp.lst_inv {v : V} {ds : List D} (h : Rp K G v (.list ds)) : ∃ a vs, v = .ref a ∧ SqL K G a vs ∧ RpAll K G vs ds := by
  cases h with
  | lst s a => exact ⟨_, _, rfl, s, a⟩
theorem Rp.int_inv {v : V} {i : Int} (h : Rp K G v (.int i)) : v = .int i := by cases h; rfl
theorem Rp.bl_inv {v : V} {b : Bool} (h : Rp K G v (.bool b)) : v = .bl b := by cases h; rfl
theorem Rp.str_inv {v : V} {x : Str} (h : Rp K G v (.str x)) : v = .str x := by cases h; rfl
theorem Rp.non_inv {v : V} (h : Rp K G v .none) : v = .non := by cases h; rfl
theorem RpAll.nil_inv {vs : List V} (h : RpAll K G vs []) : vs = [] := by cases h; rfl
theorem RpAll.cons_inv {vs : List V} {d : D} {ds : List D} (h : RpAll K G vs (d :: ds)) : ∃ v ws, vs = v :: ws ∧ Rp K G v d ∧ RpAll K G ws ds := by
  cases h with
  | cons a b => exact ⟨_, _, rfl, a, b⟩
end

end L2
namespace Pv
open PySem L2
variable [HashW]
/-! ### what holds of the slots -/
/-- of one call: the addresses out of sight for it, those among them that it may change, the heap at its entry -/
structure Cc where
  M0 : List Addr
  I : List Addr
  H0 : Hp
  /-- the tables of codes that the call may let grow -/
  T : Option (List (Addr × Str))
abbrev Ws := List (Nat × Addr)
/-- what stood stays, but at I; a table of codes may grow -/
def Fra (I : List Addr) (H H' : Hp) : Prop := ∀ b o, b ∉ I → H b = some o → ∃ o', H' b = some o' ∧ ((∀ ps, o ≠ .tbl ps) → o' = o)
theorem Fra.hx {I : List Addr} {A B C : Hp} (a : Fra I A B) (e : Hx B C) : Fra I A C := fun b o n h => let ⟨o', q, r⟩ := a b o n h; ⟨o', e _ _ q, r⟩
theorem Fra.refl (I : List Addr) (H : Hp) : Fra I H H := fun b o _ h => ⟨o, h, fun _ => rfl⟩
theorem Fra.no {I : List Addr} {A B : Hp} (a : Fra I A B) {b : Addr} (n : b ∉ I) (h : B b = none) : A b = none := by
  cases q : A b with
  | none => rfl
  | some o =>
    obtain ⟨o', e, _⟩ := a b o n q
    rw [h] at e; cases e
theorem Fra.at {I : List Addr} {A B : Hp} (a : Fra I A B) {b : Addr} {o : HO} (n : b ∉ I) (h : A b = some o) (t : ∀ ps, o ≠ .tbl ps) : B b = some o := by
  obtain ⟨o', e, r⟩ := a b o n h
  rw [e, r t]
def Cc.M (C : Cc) (ws : Ws) : List Addr := C.M0 ++ ws.map (·.2)
abbrev Cc.vis (C : Cc) (ws : Ws) (H : Hp) : Hp := hide H (C.M ws)
/-- what stands behind an own dict -/
structure Dco where
  o : Obj
  nks : List NestedKey
  ks : List V
  vs : List V
structure RpDic (K : W.Frag) (G : Hp) (a : Addr) (c : Dco) (kvs : List (D × D)) : Prop where
  sm : (a == sysModules) = false
  dc : DCt c.o c.nks c.ks c.vs
  kv : RpKv K G c.nks c.ks c.vs kvs
theorem RpDic.le {K : W.Frag} {G G' : Hp} {a : Addr} {c : Dco} {kvs : List (D × D)} (r : RpDic K G a c kvs) (l : Le G G') : RpDic K G' a c kvs := ⟨r.sm, r.dc, r.kv.le l⟩
theorem RpDic.rp {K : W.Frag} {G : Hp} {a : Addr} {c : Dco} {kvs : List (D × D)} (r : RpDic K G a c kvs) (h : G a = some (xO a c.o)) : Rp K G (.ref a) (.dict kvs) := .dct h r.sm r.dc r.kv
/-- the tables of codes are as they were, or in order -/
def TbOk (C : Cc) (ws : Ws) (H : Hp) : Prop := match C.T with
  | none => ∀ b ps, C.H0 b = some (.tbl ps) → H b = some (.tbl ps)
  | some T => LamX.Tabs T (C.vis ws H)
theorem TbOk.step {C : Cc} {ws ws' : Ws} {H H' : Hp} (t : TbOk C ws H) (v : ∀ b o, C.vis ws H b = some o → C.vis ws' H' b = some o) (k : ∀ b ps, H b = some (.tbl ps) → H' b = some (.tbl ps)) : TbOk C ws' H' := by
  unfold TbOk at t ⊢
  cases e : C.T with
  | none =>
    rw [e] at t
    exact fun b ps h => k b ps (t b ps h)
  | some T =>
    rw [e] at t
    exact t.ext v
theorem TbOk.hx {C : Cc} {ws : Ws} {H H' : Hp} (t : TbOk C ws H) (e : Hx H H') : TbOk C ws H' := t.step (fun b o h => by
  obtain ⟨h1, h2⟩ := of_hide h
  show hide _ _ _ = _
  rw [hide_out h1]
  exact e _ _ h2) fun b ps h => e _ _ h
theorem TbOk.sub {C : Cc} {ws ws' : Ws} {H : Hp} (t : TbOk C ws H) (s : ∀ a ∈ C.M ws', a ∈ C.M ws) : TbOk C ws' H := t.step (fun b o h => by
  obtain ⟨h1, h2⟩ := of_hide h
  show hide _ _ _ = _
  rw [hide_out fun z => h1 (s b z)]
  exact h2) fun b ps h => h
theorem TbOk.upd {C : Cc} {ws : Ws} {H : Hp} {p : Addr} {o : HO} (t : TbOk C ws H) (hp : p ∈ C.M ws) (hn : ∃ o, H p = some o ∧ ∀ ps, o ≠ .tbl ps) : TbOk C ws (upd H p o) := t.step (fun b o h => by
  obtain ⟨h1, h2⟩ := of_hide h
  show hide _ _ _ = _
  rw [hide_out h1, upd_ne fun e => h1 (by rw [e]; exact hp)]
  exact h2) fun b ps h => by
  obtain ⟨o1, q1, q2⟩ := hn
  rw [upd_ne fun e => q2 ps (by rw [e, q1] at h; exact Option.some.inj h)]
  exact h
theorem TbOk.lay {C : Cc} {ws : Ws} {H : Hp} {k : Nat} {p : Addr} {o : HO} (t : TbOk C ws H) (h : H p = none) : TbOk C ((k, p) :: ws) (L2.upd H p o) := t.step (fun b o hb => by
  obtain ⟨h1, h2⟩ := of_hide hb
  have ne : b ≠ p := ne_of_none h2 h
  show hide _ _ _ = _
  rw [hide_out fun z => by
    unfold Cc.M at z h1
    simp only [List.map_cons, List.mem_append, List.mem_cons] at z h1
    rcases z with z | z | z
    · exact h1 (.inl z)
    · exact ne z
    · exact h1 (.inr z), upd_ne ne]
  exact h2) fun b ps hb => by
  rw [upd_ne (ne_of_none hb h)]
  exact hb
def SlRep (K : W.Frag) (C : Cc) (ws : Ws) (H : Hp) (i : Nat) : Sl → Option (Option V) → Prop
  | .no, _ => True
  | .v d, o => ∃ v, o = some (some v) ∧ Rp K (C.vis ws H) v d
  | .own ds, o => ∃ a vs, (i, a) ∈ ws ∧ o = some (some (.ref a)) ∧ H a = some (.lst vs) ∧ RpAll K (C.vis ws H) vs ds
  | .dic kvs, o => ∃ a c, (i, a) ∈ ws ∧ o = some (some (.ref a)) ∧ H a = some (xO a c.o) ∧ RpDic K (C.vis ws H) a c kvs
structure SI (K : W.Frag) (C : Cc) (G : Hp) (ws : Ws) (st : SS) (σ : L2.St) (H : Hp) : Prop where
  len : st.length = σ.length
  rep : ∀ i s, st[i]? = some s → SlRep K C ws H i s σ[i]?
  nod : (ws.map (·.2)).Nodup
  frm : Fra C.I C.H0 H
  vis : Le G (C.vis ws H)
  m0 : ∀ a ∈ C.M0, ∃ o, H a = some o
  wsn : ∀ p ∈ ws, p.2 ∉ C.I → C.H0 p.2 = none ∧ p.2 ∉ C.M0
  wst : ∀ p ∈ ws, ∃ o, H p.2 = some o ∧ ∀ ps, o ≠ .tbl ps
  inM : ∀ a ∈ C.I, a ∈ C.M0
  tbs : TbOk C ws H
section
variable {K : W.Frag} {C : Cc} {G : Hp} {ws : Ws} {st : SS} {σ : L2.St} {H H' : Hp}
theorem SI.trk (S : SI K C G ws st σ H) : ∀ a ∈ C.M ws, ∃ o, H a = some o := fun a ha => by
  rcases List.mem_append.mp ha with h | h
  · exact S.m0 a h
  · obtain ⟨p, hp, e⟩ := List.mem_map.mp h
    obtain ⟨vs, q, _⟩ := S.wst p hp
    exact ⟨_, by rw [← e]; exact q⟩
/-- every object is kept -/
theorem SI.ex (S : SI K C G ws st σ H) (e : Hx H H') : SI K C G ws st σ H' where
  len := S.len
  rep := fun i s h => by
    have q := S.rep i s h
    cases s with
    | no => exact True.intro
    | v d => obtain ⟨v, o, r⟩ := q; exact ⟨v, o, r.le (e.hide _)⟩
    | own ds => obtain ⟨a, vs, m, o, h1, r⟩ := q; exact ⟨a, vs, m, o, e _ _ h1, r.le (e.hide _)⟩
    | dic ds => obtain ⟨a, vs, m, o, h1, r⟩ := q; exact ⟨a, vs, m, o, e _ _ h1, r.le (e.hide _)⟩
  nod := S.nod
  frm := S.frm.hx e
  vis := S.vis.trans (e.hide _)
  m0 := fun a h => let ⟨o, q⟩ := S.m0 a h; ⟨o, e _ _ q⟩
  wsn := S.wsn
  wst := fun p h => let ⟨vs, q, n⟩ := S.wst p h; ⟨vs, e _ _ q, n⟩
  inM := S.inM
  tbs := S.tbs.hx e
theorem SI.up (S : SI K C G ws st σ H) : SI K C (C.vis ws H) ws st σ H := ⟨S.len, S.rep, S.nod, S.frm, Le.refl _, S.m0, S.wsn, S.wst, S.inM, S.tbs⟩
theorem SI.down {G' : Hp} (S : SI K C G ws st σ H) (l : Le G' G) : SI K C G' ws st σ H := ⟨S.len, S.rep, S.nod, S.frm, l.trans S.vis, S.m0, S.wsn, S.wst, S.inM, S.tbs⟩
end

/-! ### expressions -/
/-- the reading: from st the value is d, and the slots are st' -/
def tV (K : W.Frag) (C : Cc) (st st' : SS) (d : D) : TE := fun σ H Q => ∃ G ws, SI K C G ws st σ H ∧ ∀ v H2, SI K C G ws st' σ H2 → Rp K (C.vis ws H2) v d → Q v H2
def tVT (K : W.Frag) (C : Cc) (st st' : SS) (b : Bool) : TT := fun σ H Q => ∃ G ws, SI K C G ws st σ H ∧ ∀ H2, SI K C G ws st' σ H2 → Q b H2
def tVA (K : W.Frag) (C : Cc) (st st' : SS) (ds : List D) : TA := fun σ H Q => ∃ G ws, SI K C G ws st σ H ∧ ∀ vs H2, SI K C G ws st' σ H2 → RpAll K (C.vis ws H2) vs ds → Q vs H2
def tVO (K : W.Frag) (C : Cc) (st st' : SS) (o : Option Int) : TO := fun σ H Q => ∃ G ws, SI K C G ws st σ H ∧ ∀ H2, SI K C G ws st' σ H2 → Q o H2
def OkE (X : Cx) (C : Cc) (e : Expr) (m : SS → Option (D × SS)) : Prop := ∀ st d st', m st = some (d, st') → PE X e (tV X.K C st st' d)
def OkT (X : Cx) (C : Cc) (e : Expr) (m : SS → Option (Bool × SS)) : Prop := ∀ st b st', m st = some (b, st') → PT X e (tVT X.K C st st' b)
def OkA (X : Cx) (C : Cc) (es : List Expr) (m : SS → Option (List D × SS)) : Prop := ∀ st ds st', m st = some (ds, st') → PA X es (tVA X.K C st st' ds)
def OkO (X : Cx) (C : Cc) (e : Option Expr) (m : SS → Option (Option Int × SS)) : Prop := ∀ st o st', m st = some (o, st') → PO X e (tVO X.K C st st' o)

end Pv
namespace L2
open PySem Pv
section
variable {X : Cx} {e : Expr} {es : List Expr}
theorem PE.weak {t t' : TE} (h : PE X e t) (w : ∀ σ H Q, t' σ H Q → t σ H Q) : PE X e t' := ⟨fun pins s σ H Q I q => h.run pins s σ H Q I (w σ H Q q)⟩
theorem PT.weak {t t' : TT} (h : PT X e t) (w : ∀ σ H Q, t' σ H Q → t σ H Q) : PT X e t' := ⟨fun pins s σ H Q I q => h.run pins s σ H Q I (w σ H Q q)⟩
theorem PA.weak {t t' : TA} (h : PA X es t) (w : ∀ σ H Q, t' σ H Q → t σ H Q) : PA X es t' := ⟨fun pos pins s σ H Q I q => h.run pos pins s σ H Q I (w σ H Q q)⟩
theorem PO.weak {o : Option Expr} {t t' : TO} (h : PO X o t) (w : ∀ σ H Q, t' σ H Q → t σ H Q) : PO X o t' := ⟨fun pins s σ H Q I q => h.run pins s σ H Q I (w σ H Q q)⟩
theorem PE.never : PE X e fun _ _ _ => False := ⟨fun _ _ _ _ _ _ q => q.elim⟩
theorem PT.never : PT X e fun _ _ _ => False := ⟨fun _ _ _ _ _ _ q => q.elim⟩
theorem PA.never : PA X es fun _ _ _ => False := ⟨fun _ _ _ _ _ _ _ q => q.elim⟩
end

end L2
namespace Pv
open PySem L2
variable [HashW]
/-! ### operations by what they say of data -/
/-- M: what is out of sight (it is tracked) -/
def RD (K : W.Frag) (r : R2) (d1 d2 d : D) : Prop := ∀ (M : List Addr) (H : Hp) (x y : V) (Q : VK), (∀ a ∈ M, ∃ o, H a = some o) → Rp K (hide H M) x d1 → Rp K (hide H M) y d2 → (∀ z H2, Hx H H2 → Rp K (hide H2 M) z d → Q z H2) → r x y H Q
def RU (K : W.Frag) (r : V → Hp → VK → Prop) (d1 d : D) : Prop := ∀ (M : List Addr) (H : Hp) (x : V) (Q : VK), (∀ a ∈ M, ∃ o, H a = some o) → Rp K (hide H M) x d1 → (∀ z H2, Hx H H2 → Rp K (hide H2 M) z d → Q z H2) → r x H Q
def RA (K : W.Frag) (r : List V → Hp → VK → Prop) (ds : List D) (d : D) : Prop := ∀ (M : List Addr) (H : Hp) (xs : List V) (Q : VK), (∀ a ∈ M, ∃ o, H a = some o) → RpAll K (hide H M) xs ds → (∀ z H2, Hx H H2 → Rp K (hide H2 M) z d → Q z H2) → r xs H Q
def OpD (X : Cx) (f : Value → Value → Sem Value) (d1 d2 d : D) : Prop := ∃ r, OpR X f r ∧ RD X.K r d1 d2 d
def IxD (X : Cx) (d1 d2 d : D) : Prop := ∃ r, IxR X r ∧ RD X.K r d1 d2 d
def CaD (X : Cx) (f : Value) (ds : List D) (d : D) : Prop := ∃ r, CallR X f r ∧ RA X.K r ds d

section
variable {K : W.Frag} {M : List Addr} {H : Hp} {p : Addr}
/-- a new address is not out of sight -/
theorem new_out (tr : ∀ a ∈ M, ∃ o, H a = some o) (h : H p = none) : p ∉ M := fun z => by
  obtain ⟨o, e⟩ := tr p z
  rw [h] at e; cases e
theorem new_vis {o : HO} (tr : ∀ a ∈ M, ∃ o, H a = some o) (h : H p = none) : hide (upd H p o) M p = some o := by rw [hide_out (new_out tr h), upd_same]
theorem dp_newT {xs : List V} {ds : List D} (tr : ∀ a ∈ M, ∃ o, H a = some o) (h : H p = none) (r : RpAll K (hide H M) xs ds) : Rp K (hide (upd H p (.tup xs)) M) (.ref p) (.tuple ds) :=
  .tup (SqT.of (new_vis tr h)) (r.le ((Hx.new h).hide M))
theorem dp_newL {xs : List V} {ds : List D} (tr : ∀ a ∈ M, ∃ o, H a = some o) (h : H p = none) (r : RpAll K (hide H M) xs ds) : Rp K (hide (upd H p (.lst xs)) M) (.ref p) (.list ds) :=
  .lst (.inl (Rd.of (new_vis tr h))) (r.le ((Hx.new h).hide M))
theorem sqL_h {a : Addr} {xs : List V} (h : SqL K (hide H M) a xs) : SqL K H a xs := (hide_le H M).sqL h
theorem sqT_h {a : Addr} {xs : List V} (h : SqT K (hide H M) a xs) : SqT K H a xs := (hide_le H M).sqT h
end

section
variable {X : Cx} {C : Cc} {a b c : Expr} {ma mb mc : SS → Option (D × SS)} {pos : Pos}
/-- two, one behind the other, then what is done with both -/
theorem tV_two {K : W.Frag} {st s1 s2 : SS} {d1 d2 d : D} {r : R2} (hr : RD K r d1 d2 d) {σ : L2.St} {H : Hp} {Q : VK} (h : tV K C st s2 d σ H Q) : tOp r (tV K C st s1 d1) (tV K C s1 s2 d2) σ H Q := by
  obtain ⟨G, ws, S, q⟩ := h
  refine ⟨G, ws, S, fun x H1 S1 r1 => ⟨C.vis ws H1, ws, S1.up, fun y H2 S2 r2 => ?_⟩⟩
  have S3 := S2.down S1.vis
  exact hr (C.M ws) H2 x y Q S2.trk (r1.le S2.vis) r2 fun z H3 e r3 => q z H3 (S3.ex e) r3
theorem okE_bin {op : Operator} {f : D → D → Option D} (ha : OkE X C a ma) (hb : OkE X C b mb) (hop : ∀ d1 d2 d, f d1 d2 = some d → OpD X (binaryOp op) d1 d2 d) :
    OkE X C (.BinOp a op b pos) fun st => (ma st).bind fun x => (mb x.2).bind fun y => (f x.1 y.1).map fun d => (d, y.2) := fun st d st' h => by
  obtain ⟨⟨d1, s1⟩, e1, h⟩ := bind_some h
  obtain ⟨⟨d2, s2⟩, e2, h⟩ := bind_some h
  obtain ⟨d3, e3, h⟩ := map_some h
  cases h
  obtain ⟨r, ho, hr⟩ := hop _ _ _ e3
  exact (pe_op ho (ha _ _ _ e1) (hb _ _ _ e2)).weak fun σ H Q q => tV_two hr q
theorem okE_cmp {op : CmpOp} {f : D → D → Option Bool} (ha : OkE X C a ma) (hb : OkE X C b mb) (hop : ∀ d1 d2 k, f d1 d2 = some k → OpD X (compareOp op) d1 d2 (.bool k)) (hm : behindInMarks op b = false) :
    OkE X C (.Compare a [op] [b] pos) fun st => (ma st).bind fun x => (mb x.2).bind fun y => (f x.1 y.1).map fun d => (.bool d, y.2) := fun st d st' h => by
  obtain ⟨⟨d1, s1⟩, e1, h⟩ := bind_some h
  obtain ⟨⟨d2, s2⟩, e2, h⟩ := bind_some h
  obtain ⟨d3, e3, h⟩ := map_some h
  cases h
  obtain ⟨r, ho, hr⟩ := hop _ _ _ e3
  exact (pe_cmpR ho (ha _ _ _ e1) (hb _ _ _ e2) hm).weak fun σ H Q q => tV_two hr q
theorem okE_ix {f : D → D → Option D} (ha : OkE X C a ma) (hb : OkE X C b mb) (hop : ∀ d1 d2 d, f d1 d2 = some d → IxD X d1 d2 d) (hp : PlainIx b) :
    OkE X C (.Subscript a b pos) fun st => (ma st).bind fun x => (mb x.2).bind fun y => (f x.1 y.1).map fun d => (d, y.2) := fun st d st' h => by
  obtain ⟨⟨d1, s1⟩, e1, h⟩ := bind_some h
  obtain ⟨⟨d2, s2⟩, e2, h⟩ := bind_some h
  obtain ⟨d3, e3, h⟩ := map_some h
  cases h
  obtain ⟨r, ho, hr⟩ := hop _ _ _ e3
  exact (pe_ix ho (ha _ _ _ e1) (hb _ _ _ e2) hp).weak fun σ H Q q => tV_two hr q
theorem okE_un {op : UnaryOp} {f : D → Option D} (ha : OkE X C a ma) (hop : ∀ d1 d, f d1 = some d → ∃ r, UnR X (unaryOp op) r ∧ RU X.K r d1 d) :
    OkE X C (.UnaryOp op a pos) fun st => (ma st).bind fun x => (f x.1).map fun d => (d, x.2) := fun st d st' h => by
  obtain ⟨⟨d1, s1⟩, e1, h⟩ := bind_some h
  obtain ⟨d3, e3, h⟩ := map_some h
  cases h
  obtain ⟨r, ho, hr⟩ := hop _ _ e3
  refine (pe_un ho (ha _ _ _ e1)).weak fun σ H Q q => ?_
  obtain ⟨G, ws, S, q⟩ := q
  exact ⟨G, ws, S, fun x H1 S1 r1 => hr (C.M ws) H1 x Q S1.trk r1 fun z H3 e r3 => q z H3 (S1.ex e) r3⟩
theorem okE_const {v : V} {d : D} (h : PE X a (tC v)) (hd : ∀ H, Rp X.K H v d) : OkE X C a fun st => some (d, st) := fun st d' st' e => by
  cases e
  refine h.weak fun σ H Q q => ?_
  obtain ⟨G, ws, S, q⟩ := q
  exact q v H S (hd _)
theorem okE_var {i : Nat} (h : PE X a (tVar i)) : OkE X C a fun st => (getV st i).map fun d => (d, st) := fun st d st' e => by
  obtain ⟨d1, e1, h1⟩ := map_some e
  cases h1
  refine h.weak fun σ H Q q => ?_
  obtain ⟨G, ws, S, q⟩ := q
  unfold getV at e1
  split at e1
  · rename_i d2 hs
    cases e1
    obtain ⟨v, o, r⟩ := S.rep i _ hs
    exact ⟨v, o, q v H S r⟩
  · cases e1
theorem okA_nil : OkA X C [] fun st => some ([], st) := fun st ds st' h => by
  cases h
  refine pa_nil.weak fun σ H Q q => ?_
  obtain ⟨G, ws, S, q⟩ := q
  exact q [] H S .nil
theorem okA_cons {es : List Expr} {mr : SS → Option (List D × SS)} (ha : OkE X C a ma) (hr : OkA X C es mr) (hs : starEach (a :: es) X.env = (false, eval a X.env) :: starEach es X.env) :
    OkA X C (a :: es) fun st => (ma st).bind fun x => (mr x.2).map fun y => (x.1 :: y.1, y.2) := fun st ds st' h => by
  obtain ⟨⟨d1, s1⟩, e1, h⟩ := bind_some h
  obtain ⟨⟨d2, s2⟩, e2, h⟩ := map_some h
  cases h
  refine (pa_cons (ha _ _ _ e1) (hr _ _ _ e2) hs).weak fun σ H Q q => ?_
  obtain ⟨G, ws, S, q⟩ := q
  exact ⟨G, ws, S, fun x H1 S1 r1 => ⟨C.vis ws H1, ws, S1.up, fun xs H2 S2 r2 => q (x :: xs) H2 (S2.down S1.vis) (.cons (r1.le S2.vis) r2)⟩⟩
theorem okE_tup {es : List Expr} {k : Nat} {m : SS → Option (List D × SS)} (h : OkA X C es m) : OkE X C (.Tuple es k pos) fun st => (m st).bind fun r => if r.1.length ≤ lim then some (.tuple r.1, r.2) else none := fun st d st' e => by
  obtain ⟨⟨ds, s1⟩, e1, e⟩ := bind_some e
  split at e
  · rename_i hl
    cases e
    refine (pe_tup (h _ _ _ e1)).weak fun σ H Q q => ?_
    obtain ⟨G, ws, S, q⟩ := q
    refine ⟨G, ws, S, fun xs H1 S1 r1 => ⟨?_, fun p hp => q _ _ (S1.ex (Hx.new hp)) (dp_newT S1.trk hp r1)⟩⟩
    rw [r1.length]; exact Nat.le_trans hl (by decide)
  · cases e
theorem okE_lst {es : List Expr} {m : SS → Option (List D × SS)} (h : OkA X C es m) : OkE X C (.List es pos) fun st => (m st).bind fun r => if r.1.length ≤ lim then some (.list r.1, r.2) else none := fun st d st' e => by
  obtain ⟨⟨ds, s1⟩, e1, e⟩ := bind_some e
  split at e
  · rename_i hl
    cases e
    refine (pe_lst (h _ _ _ e1)).weak fun σ H Q q => ?_
    obtain ⟨G, ws, S, q⟩ := q
    refine ⟨G, ws, S, fun xs H1 S1 r1 => ⟨?_, fun p hp => q _ _ (S1.ex (Hx.new hp)) (dp_newL S1.trk hp r1)⟩⟩
    rw [r1.length]; exact Nat.le_trans hl (by decide)
  · cases e
/-- a bool, as a test -/
theorem okT_val (ha : OkE X C a ma) (he : ∀ whole, isTrue a X.env whole = (do let v ← whole; standAt a.pos; holding [v] (truthy v))) : OkT X C a fun st => (ma st).bind boolOf := fun st b st' h => by
  obtain ⟨⟨d1, s1⟩, e1, h⟩ := bind_some h
  cases d1 with
  | bool k =>
    cases h
    refine (pt_val (ha _ _ _ e1) he).weak fun σ H Q q => ?_
    obtain ⟨G, ws, S, q⟩ := q
    exact ⟨G, ws, S, fun x H1 S1 r1 => ⟨_, r1.bl_inv, q H1 S1⟩⟩
  | _ => cases h
theorem okT_cmp {op : CmpOp} {f : D → D → Option Bool} (ha : OkE X C a ma) (hb : OkE X C b mb) (hop : ∀ d1 d2 k, f d1 d2 = some k → OpD X (compareOp op) d1 d2 (.bool k)) (hm : behindInMarks op b = false) :
    OkT X C (.Compare a [op] [b] pos) fun st => ((ma st).bind fun x => (mb x.2).bind fun y => (f x.1 y.1).map fun d => ((.bool d : D), y.2)).bind boolOf := fun st k st' h => by
  obtain ⟨⟨d0, s0⟩, e0, h⟩ := bind_some h
  obtain ⟨⟨d1, s1⟩, e1, e0⟩ := bind_some e0
  obtain ⟨⟨d2, s2⟩, e2, e0⟩ := bind_some e0
  obtain ⟨d3, e3, e0⟩ := map_some e0
  cases e0
  cases h
  obtain ⟨r, ho, hr⟩ := hop _ _ _ e3
  refine (pt_cmpR ho (ha _ _ _ e1) (hb _ _ _ e2) hm).weak fun σ H Q q => ?_
  obtain ⟨G, ws, S, q⟩ := q
  exact tV_two hr ⟨G, ws, S, fun v H2 S2 r2 => ⟨_, r2.bl_inv, q H2 S2⟩⟩
theorem okE_chain {o1 o2 : CmpOp} {f g : D → D → Option Bool} (ha : OkE X C a ma) (hb : OkE X C b mb) (hc : OkE X C c mc) (h1 : ∀ d1 d2 k, f d1 d2 = some k → OpD X (compareOp o1) d1 d2 (.bool k)) (h2 : ∀ d1 d2 k, g d1 d2 = some k → OpD X (compareOp o2) d1 d2 (.bool k)) (hm : lastMarks [o1, o2] [b, c] = false) :
    OkE X C (.Compare a [o1, o2] [b, c] pos) fun st => (ma st).bind fun x => (mb x.2).bind fun y => (f x.1 y.1).bind fun k =>
      if k then (mc y.2).bind fun z => (g y.1 z.1).map fun k => (.bool k, z.2) else some (.bool false, y.2) := fun st d st' h => by
  obtain ⟨⟨d1, s1⟩, e1, h⟩ := bind_some h
  obtain ⟨⟨d2, s2⟩, e2, h⟩ := bind_some h
  obtain ⟨k, e3, h⟩ := bind_some h
  obtain ⟨r, ho, hr⟩ := h1 _ _ _ e3
  cases k with
  | true =>
    rw [if_pos rfl] at h
    obtain ⟨⟨d4, s4⟩, e4, h⟩ := bind_some h
    obtain ⟨k2, e5, h⟩ := map_some h
    cases h
    obtain ⟨r', ho', hr'⟩ := h2 _ _ _ e5
    refine (pe_chain ho ho' (ha _ _ _ e1) (hb _ _ _ e2) (hc _ _ _ e4) hm).weak fun σ H Q q => ?_
    obtain ⟨G, ws, S, q⟩ := q
    refine ⟨G, ws, S, fun x H1 S1 r1 => ⟨C.vis ws H1, ws, S1.up, fun y H2 S2 r2 => ?_⟩⟩
    refine hr (C.M ws) H2 x y _ S2.trk (r1.le S2.vis) r2 fun z H3 e r3 => ⟨true, r3.bl_inv, ?_⟩
    rw [if_pos rfl]
    have S3 := (S2.down S1.vis).ex e
    have S3' := S2.ex e
    refine ⟨C.vis ws H3, ws, S3.up, fun w H4 S4 r4 => ?_⟩
    refine hr' (C.M ws) H4 y w _ S4.trk (r2.le ((e.hide _).trans S4.vis)) r4 fun z2 H5 e5 r5 => ?_
    exact q z2 H5 ((S4.down S3.vis).ex e5) r5
  | false =>
    rw [if_neg Bool.false_ne_true] at h
    cases h
    refine (pe_chain (c := c) (r' := fun _ _ _ _ => False) ho (fun _ _ _ _ _ _ _ _ _ _ _ _ z => z.elim) (ha _ _ _ e1) (hb _ _ _ e2) (PE.never (e := c)) hm).weak fun σ H Q q => ?_
    obtain ⟨G, ws, S, q⟩ := q
    refine ⟨G, ws, S, fun x H1 S1 r1 => ⟨C.vis ws H1, ws, S1.up, fun y H2 S2 r2 => ?_⟩⟩
    refine hr (C.M ws) H2 x y _ S2.trk (r1.le S2.vis) r2 fun z H3 e r3 => ⟨false, r3.bl_inv, ?_⟩
    rw [if_neg Bool.false_ne_true]
    exact q _ H3 ((S2.down S1.vis).ex e) (.bl false)
theorem okT_chain {o1 o2 : CmpOp} {f g : D → D → Option Bool} (ha : OkE X C a ma) (hb : OkE X C b mb) (hc : OkE X C c mc) (h1 : ∀ d1 d2 k, f d1 d2 = some k → OpD X (compareOp o1) d1 d2 (.bool k)) (h2 : ∀ d1 d2 k, g d1 d2 = some k → OpD X (compareOp o2) d1 d2 (.bool k)) (hm : lastMarks [o1, o2] [b, c] = false) :
    OkT X C (.Compare a [o1, o2] [b, c] pos) fun st => ((ma st).bind fun x => (mb x.2).bind fun y => (f x.1 y.1).bind fun k =>
      if k then (mc y.2).bind fun z => (g y.1 z.1).map fun k => ((.bool k : D), z.2) else some (.bool false, y.2)).bind boolOf := fun st b' st' h => by
  obtain ⟨⟨d0, s0⟩, e0, h0⟩ := bind_some h
  obtain ⟨⟨d1, s1⟩, e1, h⟩ := bind_some e0
  obtain ⟨⟨d2, s2⟩, e2, h⟩ := bind_some h
  obtain ⟨k, e3, h⟩ := bind_some h
  obtain ⟨r, ho, hr⟩ := h1 _ _ _ e3
  cases k with
  | true =>
    rw [if_pos rfl] at h
    obtain ⟨⟨d4, s4⟩, e4, h⟩ := bind_some h
    obtain ⟨k2, e5, h⟩ := map_some h
    cases h
    cases h0
    obtain ⟨r', ho', hr'⟩ := h2 _ _ _ e5
    refine (pt_chain ho ho' (ha _ _ _ e1) (hb _ _ _ e2) (hc _ _ _ e4) hm).weak fun σ H Q q => ?_
    obtain ⟨G, ws, S, q⟩ := q
    refine ⟨G, ws, S, fun x H1 S1 r1 => ⟨C.vis ws H1, ws, S1.up, fun y H2 S2 r2 => ?_⟩⟩
    refine hr (C.M ws) H2 x y _ S2.trk (r1.le S2.vis) r2 fun z H3 e r3 => ⟨true, r3.bl_inv, ?_⟩
    rw [if_pos rfl]
    have S3 := (S2.down S1.vis).ex e
    refine ⟨C.vis ws H3, ws, S3.up, fun w H4 S4 r4 => ?_⟩
    refine hr' (C.M ws) H4 y w _ S4.trk (r2.le ((e.hide _).trans S4.vis)) r4 fun z2 H5 e5 r5 => ⟨_, r5.bl_inv, ?_⟩
    exact q H5 ((S4.down S3.vis).ex e5)
  | false =>
    rw [if_neg Bool.false_ne_true] at h
    cases h
    cases h0
    refine (pt_chain (c := c) (r' := fun _ _ _ _ => False) ho (fun _ _ _ _ _ _ _ _ _ _ _ _ z => z.elim) (ha _ _ _ e1) (hb _ _ _ e2) (PE.never (e := c)) hm).weak fun σ H Q q => ?_
    obtain ⟨G, ws, S, q⟩ := q
    refine ⟨G, ws, S, fun x H1 S1 r1 => ⟨C.vis ws H1, ws, S1.up, fun y H2 S2 r2 => ?_⟩⟩
    refine hr (C.M ws) H2 x y _ S2.trk (r1.le S2.vis) r2 fun z H3 e r3 => ⟨false, r3.bl_inv, ?_⟩
    rw [if_neg Bool.false_ne_true]
    exact ⟨false, rfl, q H3 ((S2.down S1.vis).ex e)⟩
end
end Pv

/-! Connectives, tests, slices, calls, the lists that are changed in place. -/
namespace Pv
open PySem L2
variable [HashW]
def OkP (X : Cx) (C : Cc) (e : Expr) (m : SS → Option (Bool × SS)) : Prop := ∀ st b st', m st = some (b, st') → PW X e (tVT X.K C st st' b)
section
variable {X : Cx} {e : Expr}
theorem PW_weak {t t' : TT} (h : PW X e t) (w : ∀ σ H Q, t' σ H Q → t σ H Q) : PW X e t' := ⟨fun wh pins s σ H Q I q => h.run wh pins s σ H Q I (w σ H Q q)⟩
theorem PW_never : PW X e fun _ _ _ => False := ⟨fun _ _ _ _ _ _ _ q => q.elim⟩
end
theorem boolOf_some {x : D × SS} {b : Bool} {st : SS} (h : boolOf x = some (b, st)) : x = (.bool b, st) := by
  obtain ⟨d, s⟩ := x
  cases d with
  | bool k => cases h; rfl
  | _ => cases h
theorem intOf_some {x : D × SS} {b : Int} {st : SS} (h : intOf x = some (b, st)) : x = (.int b, st) := by
  obtain ⟨d, s⟩ := x
  cases d with
  | int k => cases h; rfl
  | _ => cases h
section
variable {X : Cx} {C : Cc} {a b c : Expr} {rest : List Expr} {ma mb mc : SS → Option (D × SS)} {pos : Pos}
abbrev tm (m : SS → Option (D × SS)) : SS → Option (Bool × SS) := fun st => (m st).bind boolOf
theorem tm_some {m : SS → Option (D × SS)} {st st' : SS} {b : Bool} (h : tm m st = some (b, st')) : m st = some (.bool b, st') := by
  obtain ⟨x, e, h⟩ := bind_some h
  rw [boolOf_some h] at e
  exact e
theorem tm_of {m : SS → Option (D × SS)} {st st' : SS} {b : Bool} (h : m st = some (.bool b, st')) : tm m st = some (b, st') := by
  show (m st).bind boolOf = _
  rw [h]; rfl
/-! not -/
theorem okE_not (ha : OkE X C a ma) : OkE X C (.UnaryOp .Not a pos) fun st => (ma st).bind fun x => (boolOf x).map fun b => (.bool (!b.1), b.2) := fun st d st' h => by
  obtain ⟨x, e1, h⟩ := bind_some h
  obtain ⟨⟨k, s⟩, e2, h⟩ := map_some h
  rw [boolOf_some e2] at e1
  cases h
  refine (pe_not (ha _ _ _ e1)).weak fun σ H Q q => ?_
  obtain ⟨G, ws, S, q⟩ := q
  exact ⟨G, ws, S, fun x H1 S1 r1 => ⟨k, r1.bl_inv, q _ H1 S1 (.bl _)⟩⟩
theorem okT_not (ha : OkT X C a (tm ma)) : OkT X C (.UnaryOp .Not a pos) (tm fun st => (ma st).bind fun x => (boolOf x).map fun b => (.bool (!b.1), b.2)) := fun st d st' h => by
  have h := tm_some h
  obtain ⟨x, e1, h⟩ := bind_some h
  obtain ⟨⟨k, s⟩, e2, h⟩ := map_some h
  rw [boolOf_some e2] at e1
  have h' := Prod.mk.inj h
  have hk : (!k) = d := PyData.bool.inj h'.1
  have hs : s = st' := h'.2
  subst hk hs
  refine (pt_not (ha _ _ _ (tm_of e1))).weak fun σ H Q q => ?_
  obtain ⟨G, ws, S, q⟩ := q
  exact ⟨G, ws, S, fun H1 S1 => q H1 S1⟩
/-! and, or -/
abbrev mAnd (ma mb : SS → Option (D × SS)) : SS → Option (D × SS) := fun st => (ma st).bind fun x => (boolOf x).bind fun c => if c.1 then mb c.2 else some (.bool false, c.2)
abbrev mOr (ma mb : SS → Option (D × SS)) : SS → Option (D × SS) := fun st => (ma st).bind fun x => (boolOf x).bind fun c => if c.1 then some (.bool true, c.2) else mb c.2
theorem mAnd_some {st st' : SS} {d : D} (h : mAnd ma mb st = some (d, st')) : (∃ s, ma st = some (.bool true, s) ∧ mb s = some (d, st')) ∨ (ma st = some (.bool false, st') ∧ d = .bool false) := by
  obtain ⟨x, e1, h⟩ := bind_some h
  obtain ⟨⟨k, s⟩, e2, h⟩ := bind_some h
  rw [boolOf_some e2] at e1
  cases k with
  | true => exact .inl ⟨s, e1, h⟩
  | false => cases h; exact .inr ⟨e1, rfl⟩
theorem mOr_some {st st' : SS} {d : D} (h : mOr ma mb st = some (d, st')) : (∃ s, ma st = some (.bool false, s) ∧ mb s = some (d, st')) ∨ (ma st = some (.bool true, st') ∧ d = .bool true) := by
  obtain ⟨x, e1, h⟩ := bind_some h
  obtain ⟨⟨k, s⟩, e2, h⟩ := bind_some h
  rw [boolOf_some e2] at e1
  cases k with
  | false => exact .inl ⟨s, e1, h⟩
  | true => cases h; exact .inr ⟨e1, rfl⟩
theorem okE_and (ha : OkE X C a ma) (hb : OkE X C (.BoolOp .And (b :: rest) pos) mb) : OkE X C (.BoolOp .And (a :: b :: rest) pos) (mAnd ma mb) := fun st d st' h => by
  rcases mAnd_some h with ⟨s, e1, e2⟩ | ⟨e1, rfl⟩
  · refine (pe_and (ha _ _ _ e1) (hb _ _ _ e2)).weak fun σ H Q q => ?_
    obtain ⟨G, ws, S, q⟩ := q
    refine ⟨G, ws, S, fun x H1 S1 r1 => ⟨true, r1.bl_inv, ?_⟩⟩
    refine iteT ?_
    exact ⟨C.vis ws H1, ws, S1.up, fun v H2 S2 r2 => q v H2 (S2.down S1.vis) r2⟩
  · refine (pe_and (ha _ _ _ e1) (PE.never (e := .BoolOp .And (b :: rest) pos))).weak fun σ H Q q => ?_
    obtain ⟨G, ws, S, q⟩ := q
    refine ⟨G, ws, S, fun x H1 S1 r1 => ⟨false, r1.bl_inv, ?_⟩⟩
    refine iteF ?_
    exact q _ H1 S1 (.bl _)
theorem okE_or (ha : OkE X C a ma) (hb : OkE X C (.BoolOp .Or (b :: rest) pos) mb) : OkE X C (.BoolOp .Or (a :: b :: rest) pos) (mOr ma mb) := fun st d st' h => by
  rcases mOr_some h with ⟨s, e1, e2⟩ | ⟨e1, rfl⟩
  · refine (pe_or (ha _ _ _ e1) (hb _ _ _ e2)).weak fun σ H Q q => ?_
    obtain ⟨G, ws, S, q⟩ := q
    refine ⟨G, ws, S, fun x H1 S1 r1 => ⟨false, r1.bl_inv, ?_⟩⟩
    refine iteF ?_
    exact ⟨C.vis ws H1, ws, S1.up, fun v H2 S2 r2 => q v H2 (S2.down S1.vis) r2⟩
  · refine (pe_or (ha _ _ _ e1) (PE.never (e := .BoolOp .Or (b :: rest) pos))).weak fun σ H Q q => ?_
    obtain ⟨G, ws, S, q⟩ := q
    refine ⟨G, ws, S, fun x H1 S1 r1 => ⟨true, r1.bl_inv, ?_⟩⟩
    refine iteT ?_
    exact q _ H1 S1 (.bl _)
theorem okE_one {op : BoolOp} (ha : OkE X C a ma) : OkE X C (.BoolOp op [a] pos) ma := fun st d st' h => pe_one (ha _ _ _ h)
theorem okP_and (ha : OkT X C a (tm ma)) (hb : OkP X C (.BoolOp .And (b :: rest) pos) (tm mb)) : OkP X C (.BoolOp .And (a :: b :: rest) pos) (tm (mAnd ma mb)) := fun st d st' h => by
  rcases mAnd_some (tm_some h) with ⟨s, e1, e2⟩ | ⟨e1, e2⟩
  · refine PW_weak (pw_and (ha _ _ _ (tm_of e1)) (hb _ _ _ (tm_of e2))) fun σ H Q q => ?_
    obtain ⟨G, ws, S, q⟩ := q
    refine ⟨G, ws, S, fun H1 S1 => ?_⟩
    refine iteT ?_
    exact ⟨C.vis ws H1, ws, S1.up, fun H2 S2 => q H2 (S2.down S1.vis)⟩
  · cases e2
    refine PW_weak (pw_and (ha _ _ _ (tm_of e1)) (PW_never (e := .BoolOp .And (b :: rest) pos))) fun σ H Q q => ?_
    obtain ⟨G, ws, S, q⟩ := q
    refine ⟨G, ws, S, fun H1 S1 => ?_⟩
    refine iteF ?_
    exact q H1 S1
theorem okP_or (ha : OkT X C a (tm ma)) (hb : OkP X C (.BoolOp .Or (b :: rest) pos) (tm mb)) : OkP X C (.BoolOp .Or (a :: b :: rest) pos) (tm (mOr ma mb)) := fun st d st' h => by
  rcases mOr_some (tm_some h) with ⟨s, e1, e2⟩ | ⟨e1, e2⟩
  · refine PW_weak (pw_or (ha _ _ _ (tm_of e1)) (hb _ _ _ (tm_of e2))) fun σ H Q q => ?_
    obtain ⟨G, ws, S, q⟩ := q
    refine ⟨G, ws, S, fun H1 S1 => ?_⟩
    refine iteF ?_
    exact ⟨C.vis ws H1, ws, S1.up, fun H2 S2 => q H2 (S2.down S1.vis)⟩
  · cases e2
    refine PW_weak (pw_or (ha _ _ _ (tm_of e1)) (PW_never (e := .BoolOp .Or (b :: rest) pos))) fun σ H Q q => ?_
    obtain ⟨G, ws, S, q⟩ := q
    refine ⟨G, ws, S, fun H1 S1 => ?_⟩
    refine iteT ?_
    exact q H1 S1
theorem okP_and1 (ha : OkT X C a (tm ma)) : OkP X C (.BoolOp .And [a] pos) (tm ma) := fun st d st' h => pw_and1 (ha _ _ _ h)
theorem okP_or1 (ha : OkT X C a (tm ma)) : OkP X C (.BoolOp .Or [a] pos) (tm ma) := fun st d st' h => pw_or1 (ha _ _ _ h)
theorem OkP.t {m : SS → Option (Bool × SS)} (h : OkP X C a m) : OkT X C a m := fun st b st' e => (h st b st' e).pt
/-! a if t else b -/
abbrev mIte (mc ma mb : SS → Option (D × SS)) : SS → Option (D × SS) := fun st => (mc st).bind fun x => (boolOf x).bind fun c => if c.1 then ma c.2 else mb c.2
theorem mIte_some {st st' : SS} {d : D} (h : mIte mc ma mb st = some (d, st')) : ∃ k s, mc st = some (.bool k, s) ∧ (if k then ma s else mb s) = some (d, st') := by
  obtain ⟨x, e1, h⟩ := bind_some h
  obtain ⟨⟨k, s⟩, e2, h⟩ := bind_some h
  rw [boolOf_some e2] at e1
  exact ⟨k, s, e1, h⟩
theorem okE_ite (hc : OkT X C c (tm mc)) (ha : OkE X C a ma) (hb : OkE X C b mb) : OkE X C (.IfExp c a b pos) (mIte mc ma mb) := fun st d st' h => by
  obtain ⟨k, s, e1, e2⟩ := mIte_some h
  cases k with
  | true =>
    refine (pe_ifExp (hc _ _ _ (tm_of e1)) (ha _ _ _ e2) (PE.never (e := b))).weak fun σ H Q q => ?_
    obtain ⟨G, ws, S, q⟩ := q
    refine ⟨G, ws, S, fun H1 S1 => ?_⟩
    refine iteT ?_
    exact ⟨C.vis ws H1, ws, S1.up, fun v H2 S2 r2 => q v H2 (S2.down S1.vis) r2⟩
  | false =>
    refine (pe_ifExp (hc _ _ _ (tm_of e1)) (PE.never (e := a)) (hb _ _ _ e2)).weak fun σ H Q q => ?_
    obtain ⟨G, ws, S, q⟩ := q
    refine ⟨G, ws, S, fun H1 S1 => ?_⟩
    refine iteF ?_
    exact ⟨C.vis ws H1, ws, S1.up, fun v H2 S2 r2 => q v H2 (S2.down S1.vis) r2⟩
def tIfT (t u w : TT) : TT := fun σ H Q => t σ H fun c H1 => if c = true then u σ H1 Q else w σ H1 Q
theorem pt_ifExp {t u w : TT} (hc : PT X c t) (ha : PT X a u) (hb : PT X b w) : PT X (.IfExp c a b pos) (tIfT t u w) := by
  refine ⟨fun pins s σ H Q I h => ?_⟩
  have e : isTrue (.IfExp c a b pos) X.env (eval (.IfExp c a b pos) X.env) = (do if ← isTrue c X.env (eval c X.env) then isTrue a X.env (eval a X.env) else isTrue b X.env (eval b X.env)) := by rw [PySem.isTrue]
  rw [e]
  refine wpAny_bind (thn (hc.run pins s σ H _ I h) fun k s1 ⟨H1, I1, q⟩ => ?_)
  cases k with
  | true =>
    rw [if_pos rfl] at q
    rw [if_pos rfl]
    exact ha.run pins s1 σ H1 Q I1 q
  | false =>
    rw [if_neg Bool.false_ne_true] at q
    rw [if_neg Bool.false_ne_true]
    exact hb.run pins s1 σ H1 Q I1 q
theorem okT_ite (hc : OkT X C c (tm mc)) (ha : OkT X C a (tm ma)) (hb : OkT X C b (tm mb)) : OkT X C (.IfExp c a b pos) (tm (mIte mc ma mb)) := fun st d st' h => by
  obtain ⟨k, s, e1, e2⟩ := mIte_some (tm_some h)
  cases k with
  | true =>
    refine (pt_ifExp (hc _ _ _ (tm_of e1)) (ha _ _ _ (tm_of e2)) (PT.never (e := b))).weak fun σ H Q q => ?_
    obtain ⟨G, ws, S, q⟩ := q
    refine ⟨G, ws, S, fun H1 S1 => ?_⟩
    refine iteT ?_
    exact ⟨C.vis ws H1, ws, S1.up, fun H2 S2 => q H2 (S2.down S1.vis)⟩
  | false =>
    refine (pt_ifExp (hc _ _ _ (tm_of e1)) (PT.never (e := a)) (hb _ _ _ (tm_of e2))).weak fun σ H Q q => ?_
    obtain ⟨G, ws, S, q⟩ := q
    refine ⟨G, ws, S, fun H1 S1 => ?_⟩
    refine iteF ?_
    exact ⟨C.vis ws H1, ws, S1.up, fun H2 S2 => q H2 (S2.down S1.vis)⟩
/-! slices -/
theorem okO_no : OkO X C none fun st => some (none, st) := fun st o st' h => by
  cases h
  refine po_none.weak fun σ H Q q => ?_
  obtain ⟨G, ws, S, q⟩ := q
  exact q H S
theorem okO_e (ha : OkE X C a ma) : OkO X C (some a) fun st => (ma st).bind fun x => (intOf x).map fun i => (some i.1, i.2) := fun st o st' h => by
  obtain ⟨x, e1, h⟩ := bind_some h
  obtain ⟨⟨k, s⟩, e2, h⟩ := map_some h
  rw [intOf_some e2] at e1
  cases h
  refine (po_some (ha _ _ _ e1)).weak fun σ H Q q => ?_
  obtain ⟨G, ws, S, q⟩ := q
  exact ⟨G, ws, S, fun x H1 S1 r1 => ⟨k, r1.int_inv, q H1 S1⟩⟩
def SlD (X : Cx) (d1 : D) (lo hi : Option Int) (d : D) : Prop := ∃ r, SlR X r ∧ ∀ (M : List Addr) (H : Hp) (x : V) (Q : VK), (∀ a ∈ M, ∃ o, H a = some o) → Rp X.K (hide H M) x d1 → (∀ z H2, Hx H H2 → Rp X.K (hide H2 M) z d → Q z H2) → r x lo hi H Q
theorem okE_sl {lo hi : Option Expr} {ml mh : SS → Option (Option Int × SS)} {p2 : Pos} {f : D → Option Int → Option Int → Option D} (ha : OkE X C a ma) (hl : OkO X C lo ml) (hh : OkO X C hi mh) (hf : ∀ d1 l h d, f d1 l h = some d → SlD X d1 l h d) :
    OkE X C (.Subscript a (.Slice lo hi none p2) pos) fun st => (ma st).bind fun x => (ml x.2).bind fun l => (mh l.2).bind fun h => (f x.1 l.1 h.1).map fun d => (d, h.2) := fun st d st' h => by
  obtain ⟨⟨d1, s1⟩, e1, h⟩ := bind_some h
  obtain ⟨⟨l, s2⟩, e2, h⟩ := bind_some h
  obtain ⟨⟨u, s3⟩, e3, h⟩ := bind_some h
  obtain ⟨d4, e4, h⟩ := map_some h
  cases h
  obtain ⟨r, ho, hr⟩ := hf _ _ _ _ e4
  refine (pe_slice ho (ha _ _ _ e1) (hl _ _ _ e2) (hh _ _ _ e3)).weak fun σ H Q q => ?_
  obtain ⟨G, ws, S, q⟩ := q
  refine ⟨G, ws, S, fun x H1 S1 r1 => ⟨C.vis ws H1, ws, S1.up, fun H2 S2 => ⟨C.vis ws H2, ws, S2.up, fun H3 S3 => ?_⟩⟩⟩
  have S3' := (S3.down S2.vis).down S1.vis
  exact hr (C.M ws) H3 x Q S3.trk (r1.le (S2.vis.trans S3.vis)) fun z H4 e r4 => q z H4 (S3'.ex e) r4
/-! builtins -/
theorem nostar_cons {e : Expr} {es : List Expr} {env : Env} (h : ∀ x p, e ≠ .Starred x p) : starEach (e :: es) env = (false, eval e env) :: starEach es env := by
  cases e <;> first | rfl | exact absurd rfl (h _ _)
def noStar : Expr → Bool
  | .Starred _ _ => false | _ => true
theorem noStar_ne {e : Expr} (h : noStar e = true) : ∀ x p, e ≠ .Starred x p := fun x p z => by subst z; cases h
theorem plain_args : ∀ {es : List Expr} {env : Env} {pos : Pos}, es.all noStar = true → (backTo pos (starEach es env)).any (·.1) = false
  | [], _, _, _ => by simp [starEach, backTo]
  | e :: es, env, pos, h => by
    rw [List.all_cons, Bool.and_eq_true] at h
    rw [nostar_cons (noStar_ne h.1)]
    have ih := plain_args (es := es) (env := env) (pos := pos) h.2
    unfold backTo at ih ⊢
    rw [List.map_cons, List.any_cons, ih]
    rfl
theorem okE_blt {x : Str} {p : Pos} {es : List Expr} {m : SS → Option (List D × SS)} {f : List D → Option D} {id : String} (hg : Gl X x) (hm : X.mg x = none) (hv : bootBuiltins x = some (.builtin id)) (hn : x ≠ "__name__") (hdb : (x == ("__debug__" : Str)) = false)
    (h : OkA X C (a :: es) m) (hf : ∀ ds d, f ds = some d → CaD X (.builtin id) ds d) (hs : (a :: es).all noStar = true) : OkE X C (.Call (.Name x p) (a :: es) [] pos) fun st => (m st).bind fun r => (f r.1).map fun d => (d, r.2) := fun st d st' e => by
  obtain ⟨⟨ds, s1⟩, e1, e⟩ := bind_some e
  obtain ⟨d2, e2, e⟩ := map_some e
  cases e
  obtain ⟨r, ho, hr⟩ := hf _ _ e2
  have hs2 := hs
  rw [List.all_cons, Bool.and_eq_true] at hs2
  refine (pe_callB ho hg hm hv (h _ _ _ e1) hn hdb (nostar_cons (noStar_ne hs2.1)) (plain_args hs2.2)).weak fun σ H Q q => ?_
  obtain ⟨G, ws, S, q⟩ := q
  exact ⟨G, ws, S, fun xs H1 S1 r1 => hr (C.M ws) H1 xs Q S1.trk r1 fun z H3 e r3 => q z H3 (S1.ex e) r3⟩
theorem okE_bty {x : Str} {p : Pos} {es : List Expr} {m : SS → Option (List D × SS)} {f : List D → Option D} {T : String} (hg : Gl X x) (hm : X.mg x = none) (hv : bootBuiltins x = some (.type T)) (hn : x ≠ "__name__") (hdb : (x == ("__debug__" : Str)) = false)
    (h : OkA X C (a :: es) m) (hf : ∀ ds d, f ds = some d → CaD X (.type T) ds d) (hs : (a :: es).all noStar = true) : OkE X C (.Call (.Name x p) (a :: es) [] pos) fun st => (m st).bind fun r => (f r.1).map fun d => (d, r.2) := fun st d st' e => by
  obtain ⟨⟨ds, s1⟩, e1, e⟩ := bind_some e
  obtain ⟨d2, e2, e⟩ := map_some e
  cases e
  obtain ⟨r, ho, hr⟩ := hf _ _ e2
  have hs2 := hs
  rw [List.all_cons, Bool.and_eq_true] at hs2
  refine (pe_callTy ho hg hm hv (h _ _ _ e1) hn hdb (nostar_cons (noStar_ne hs2.1)) (plain_args hs2.2)).weak fun σ H Q q => ?_
  obtain ⟨G, ws, S, q⟩ := q
  exact ⟨G, ws, S, fun xs H1 S1 r1 => hr (C.M ws) H1 xs Q S1.trk r1 fun z H3 e r3 => q z H3 (S1.ex e) r3⟩

/-! ### the lists that are changed in place -/
theorem getO_some {st : SS} {k : Nat} {ds : List D} (h : getO st k = some ds) : st[k]? = some (.own ds) := by
  unfold getO at h
  split at h
  · rename_i d hs; cases h; exact hs
  · cases h
theorem okE_oLen {x : Str} {i : Nat} {p p2 : Pos} (ha : PE X a (tVar i)) (hg : Gl X "len") (hm : X.mg "len" = none) (hs : noStar a = true) :
    OkE X C (.Call (.Name "len" p) [a] [] pos) fun st => (getO st i).map fun ds => (.int ds.length, st) := fun st d st' h => by
  obtain ⟨ds, e1, h⟩ := map_some h
  cases h
  have hst := getO_some e1
  refine (pe_callB call_len_seq hg hm PySem.boot_len (pa_cons ha pa_nil (nostar_cons (noStar_ne hs))) (by decide) (by decide) (nostar_cons (noStar_ne hs)) (by simp [starEach, backTo])).weak fun σ H Q q => ?_
  obtain ⟨G, ws, S, q⟩ := q
  obtain ⟨a', vs, m, o, hL, r⟩ := S.rep i _ hst
  refine ⟨_, o, a', vs, rfl, .inl (SqL.of hL), ?_⟩
  rw [r.length]
  exact q _ H S (.int _)
theorem okE_oIdx {i : Nat} (ha : PE X a (tVar i)) (hb : OkE X C b mb) (hp : PlainIx b) :
    OkE X C (.Subscript a b pos) fun st => (getO st i).bind fun _ => (mb st).bind fun x => (getO x.2 i).bind fun ds => (idxD (.list ds) x.1).map fun d => (d, x.2) := fun st d st' h => by
  obtain ⟨ds0, e0, h⟩ := bind_some h
  obtain ⟨⟨d1, s1⟩, e1, h⟩ := bind_some h
  obtain ⟨ds, e2, h⟩ := bind_some h
  obtain ⟨d2, e3, h⟩ := map_some h
  cases h
  cases d1 with
  | int k =>
    refine (pe_ix ix_list ha (hb _ _ _ e1) hp).weak fun σ H Q q => ?_
    obtain ⟨G, ws, S, q⟩ := q
    obtain ⟨a1, vs1, m1, o1, hL1, r1⟩ := S.rep i _ (getO_some e0)
    refine ⟨_, o1, G, ws, S, fun v H2 S2 r2 => ?_⟩
    obtain ⟨a', vs, m, o, hL, r⟩ := S2.rep i _ (getO_some e2)
    have ea : a' = a1 := by
      rw [o1] at o
      have := Option.some.inj (Option.some.inj o)
      injection this with this
      exact this.symm
    subst ea
    have e3 : atI ds k = some d := e3
    unfold atI at e3
    obtain ⟨j, e4, e5⟩ := bind_some e3
    obtain ⟨w, e6, r6⟩ := r.get e5
    refine ⟨a', vs, k, w, rfl, r2.int_inv, SqL.of hL, ?_, q w H2 S2 r6⟩
    unfold atI
    rw [r.length, e4]
    exact e6
  | _ => cases e3
theorem shapedL {d : D} (h : SeqAt.shaped d = true) : True := True.intro
end
end Pv

/-! The operations on data are those of the machine. -/
namespace Pv
open PySem L2
variable [HashW]
theorem lim_le {n : Nat} (h : n ≤ lim) : n ≤ sizeLine := Nat.le_trans h (by decide)
section
variable {X : Cx} {pins : List (Addr × Obj)} {σ : L2.St} {H : Hp} {s : Shared}
theorem rdL {l : Addr} {xs : List V} (I : L2.Inv X pins σ H s) (h : SqL X.K H l xs) : xs.length ≤ sizeLine ∧ ∃ its : List Value, Vals xs its ∧ s.heap.IsList l its.toArray := by
  obtain ⟨its, r, ⟨o, n, e, c, _, q⟩, z⟩ := I.list h
  exact ⟨z, its, r, o, e, c, n, q⟩
end
section
variable {X : Cx}
theorem opD_int {f : Value → Value → Sem Value} {Cn : Int → Int → Prop} {g : Int → Int → Int} {i j : Int} (h : OpR X f (rI Cn fun i j => .int (g i j))) (hc : Cn i j) : OpD X f (.int i) (.int j) (.int (g i j)) :=
  ⟨_, h, fun M H x y Q tr hx hy q => ⟨i, j, hx.int_inv, hy.int_inv, hc, q _ H (Hx.refl H) (.int _)⟩⟩
theorem opD_int0 {f : Value → Value → Sem Value} {g : Int → Int → Int} {i j : Int} (h : OpR X f (rI0 fun i j => .int (g i j))) : OpD X f (.int i) (.int j) (.int (g i j)) :=
  ⟨_, h, fun M H x y Q tr hx hy q => ⟨i, j, hx.int_inv, hy.int_inv, q _ H (Hx.refl H) (.int _)⟩⟩
theorem opD_cmp {f : Value → Value → Sem Value} {g : Int → Int → Bool} {i j : Int} (h : OpR X f (rI0 fun i j => .bl (g i j))) : OpD X f (.int i) (.int j) (.bool (g i j)) :=
  ⟨_, h, fun M H x y Q tr hx hy q => ⟨i, j, hx.int_inv, hy.int_inv, q _ H (Hx.refl H) (.bl _)⟩⟩
/-- list + list, also a list that is only read -/
def rCatS (K : W.Frag) : R2 := fun x y H Q => ∃ a b xs ys, x = .ref a ∧ y = .ref b ∧ SqL K H a xs ∧ SqL K H b ys ∧ xs.length + ys.length ≤ sizeLine ∧ ∀ p, H p = none → Q (.ref p) (upd H p (.lst (xs ++ ys)))
theorem op_catS : OpR X (binaryOp .Add) (rCatS X.K) := by
  intro pins s σ H x y v u Q I rx ry ⟨a, b, xs, ys, ex, ey, ha, hb, hz, q⟩
  subst ex ey
  obtain rfl : v = Value.ref a := rx
  obtain rfl : u = Value.ref b := ry
  obtain ⟨_, i1, r1, o1, e1, c1, n1, g1⟩ := rdL I ha
  obtain ⟨_, i2, r2, o2, e2, c2, n2, g2⟩ := rdL I hb
  have l1 := r1.length
  have l2 := r2.length
  obtain ⟨k1, dd1, t1, sl1⟩ := o1
  obtain ⟨k2, dd2, t2, sl2⟩ := o2
  dsimp only at c1 g1 c2 g2
  subst c1 g1 c2 g2
  have ea : i1.toArray ++ i2.toArray = (i1 ++ i2).toArray := by simp
  have fit : i1.toArray.size + i2.toArray.size ≤ sizeLine := by simp; omega
  have row := PyProof.Rows.list_addW a b i1.toArray i2.toArray n1 n2 dd1 dd2 sl1 sl2 fit
  refine concat_meets ⟨_, e1, rfl⟩ ⟨_, e2, rfl⟩ noFill_list_add seq_list_add (PySem.F.slot_list_add) (PySem.F.entry_list_add) (PySem.F.args_list_add_2 _ _) row ⟨e1, e2, ?_⟩
  rw [ea]
  exact ⟨.ref _, _, I.lnew (t' := s.toks) (r1.append r2) (by rw [List.length_append]; exact hz), rfl, q _ I.fresh⟩
theorem bin_ok {op : Operator} {d1 d2 d : D} (h : binD op d1 d2 = some d) : OpD X (binaryOp op) d1 d2 d := by
  unfold binD at h
  split at h
  · cases h; exact opD_int0 op_add
  · split at h
    · rename_i x y hz
      cases h
      exact ⟨_, op_add_str, fun M H a b Q tr hx hy q => ⟨x, y, hx.str_inv, hy.str_inv, lim_le hz, q _ H (Hx.refl H) (.str _)⟩⟩
    · cases h
  · split at h
    · rename_i xs ys hz
      cases h
      refine ⟨_, op_catA, fun M H x y Q tr hx hy q => ?_⟩
      obtain ⟨a, vs, rfl, ha, ra⟩ := hx.tup_inv
      obtain ⟨b, us, rfl, hb, rb⟩ := hy.tup_inv
      refine ⟨a, b, vs, us, rfl, rfl, sqT_h ha, sqT_h hb, by rw [ra.length, rb.length]; exact lim_le hz, fun e => ?_, fun _ e => ?_, fun _ _ p hp => ?_⟩
      · subst e
        cases ra
        exact q _ H (Hx.refl H) (.tup hb rb)
      · subst e
        cases rb
        rw [List.append_nil] at q
        exact q _ H (Hx.refl H) (.tup ha ra)
      · exact q _ _ (Hx.new hp) (dp_newT tr hp (ra.app rb))
    · cases h
  · split at h
    · rename_i xs ys hz
      cases h
      refine ⟨_, op_catS, fun M H x y Q tr hx hy q => ?_⟩
      obtain ⟨a, vs, rfl, ha, ra⟩ := hx.lst_inv
      obtain ⟨b, us, rfl, hb, rb⟩ := hy.lst_inv
      exact ⟨a, b, vs, us, rfl, rfl, sqL_h ha, sqL_h hb, by rw [ra.length, rb.length]; exact lim_le hz, fun p hp => q _ _ (Hx.new hp) (dp_newL tr hp (ra.app rb))⟩
    · cases h
  · cases h; exact opD_int0 op_sub
  · split at h
    · rename_i hc; cases h; exact opD_int op_mul (.inl hc)
    · cases h
  · split at h
    · rename_i xs k hc
      cases h
      refine ⟨_, op_repT, fun M H x y Q tr hx hy q => ?_⟩
      obtain ⟨a, vs, rfl, ha, ra⟩ := hx.tup_inv
      have hl := ra.length
      refine ⟨a, k, vs, rfl, hy.int_inv, sqT_h ha, fun e => ?_, hc.1, hc.2.1, by omega, fun p hp => q _ _ (Hx.new hp) (dp_newT tr hp (ra.rep _))⟩
      subst e
      rw [List.length_nil] at hl
      omega
    · cases h
  · split at h
    · rename_i hc; cases h; exact opD_int (Cn := fun _ j => 0 < j) op_mod hc
    · cases h
  · split at h
    · rename_i hc; cases h; exact opD_int (Cn := CDiv) op_fdiv hc
    · cases h
  · split at h
    · rename_i hc; cases h; exact opD_int (Cn := CPow) op_pow ⟨hc.1, by omega, hc.2.2⟩
    · cases h
  · cases h
/-! == and in -/
theorem eq_shaped {d1 d2 : D} (hu : X.A.units + 64 < cLine) (h1 : SeqAt.shaped d1 = true) (h2 : SeqAt.shaped d2 = true) : OpD X (compareOp .Eq) d1 d2 (.bool (PyData.eqv d1 d2)) :=
  ⟨_, op_eqD hu, fun M H x y Q tr hx hy q => ⟨d1, d2, (hx.le (hide_le H M)).dp (SeqAt.canLay_of_shaped h1), (hy.le (hide_le H M)).dp (SeqAt.canLay_of_shaped h2), h1, h2, q _ H (Hx.refl H) (.bl _)⟩⟩
theorem ne_shaped {d1 d2 : D} (hu : X.A.units + 64 < cLine) (h1 : SeqAt.shaped d1 = true) (h2 : SeqAt.shaped d2 = true) : OpD X (compareOp .NotEq) d1 d2 (.bool (!PyData.eqv d1 d2)) :=
  ⟨_, op_neD hu, fun M H x y Q tr hx hy q => ⟨d1, d2, (hx.le (hide_le H M)).dp (SeqAt.canLay_of_shaped h1), (hy.le (hide_le H M)).dp (SeqAt.canLay_of_shaped h2), h1, h2, q _ H (Hx.refl H) (.bl _)⟩⟩
theorem dec_int {i j : Int} : decide (V.int i = V.int j) = decide (i = j) := by simp
theorem dec_str {i j : Str} : decide (V.str i = V.str j) = decide (i = j) := by simp
theorem dec_bl {i j : Bool} : decide (V.bl i = V.bl j) = decide (i = j) := by simp
theorem eq_ok {d1 d2 : D} {k : Bool} (hu : X.A.units + 64 < cLine) (h : eqD d1 d2 = some k) : OpD X (compareOp .Eq) d1 d2 (.bool k) := by
  unfold eqD at h
  split at h
  · cases h; exact ⟨_, op_eq, fun M H x y Q tr hx hy q => by rw [hx.int_inv, hy.int_inv]; exact ⟨rfl, q _ H (Hx.refl H) (by rw [dec_int]; exact .bl _)⟩⟩
  · cases h; exact ⟨_, op_eq, fun M H x y Q tr hx hy q => by rw [hx.str_inv, hy.str_inv]; exact ⟨rfl, q _ H (Hx.refl H) (by rw [dec_str]; exact .bl _)⟩⟩
  · cases h; exact ⟨_, op_eq, fun M H x y Q tr hx hy q => by rw [hx.bl_inv, hy.bl_inv]; exact ⟨rfl, q _ H (Hx.refl H) (by rw [dec_bl]; exact .bl _)⟩⟩
  · cases h; exact ⟨_, op_eq, fun M H x y Q tr hx hy q => by rw [hx.non_inv, hy.non_inv]; exact ⟨rfl, q _ H (Hx.refl H) (.bl _)⟩⟩
  · split at h
    · rename_i hs; cases h; exact eq_shaped hu hs.1 hs.2
    · cases h
theorem ne_ok {d1 d2 : D} {k : Bool} (hu : X.A.units + 64 < cLine) (h : (eqD d1 d2).map (!·) = some k) : OpD X (compareOp .NotEq) d1 d2 (.bool k) := by
  obtain ⟨k', h, e⟩ := map_some h
  rw [← e]
  clear e
  unfold eqD at h
  split at h
  · cases h; exact ⟨_, op_ne, fun M H x y Q tr hx hy q => by rw [hx.int_inv, hy.int_inv]; exact ⟨rfl, q _ H (Hx.refl H) (by rw [dec_int]; exact .bl _)⟩⟩
  · cases h; exact ⟨_, op_ne, fun M H x y Q tr hx hy q => by rw [hx.str_inv, hy.str_inv]; exact ⟨rfl, q _ H (Hx.refl H) (by rw [dec_str]; exact .bl _)⟩⟩
  · cases h; exact ⟨_, op_ne, fun M H x y Q tr hx hy q => by rw [hx.bl_inv, hy.bl_inv]; exact ⟨rfl, q _ H (Hx.refl H) (by rw [dec_bl]; exact .bl _)⟩⟩
  · cases h; exact ⟨_, op_ne, fun M H x y Q tr hx hy q => by rw [hx.non_inv, hy.non_inv]; exact ⟨rfl, q _ H (Hx.refl H) (.bl _)⟩⟩
  · split at h
    · rename_i hs; cases h; exact ne_shaped hu hs.1 hs.2
    · cases h
def rInT (K : W.Frag) (neg : Bool) : R2 := fun x y H Q => ∃ d ds, Dp K H x d ∧ Dp K H y (.tuple ds) ∧ SeqAt.shaped d = true ∧ SeqAt.shaped (.list ds) = true ∧ Q (.bl (neg != ds.any fun z => PyData.eqv z d)) H
theorem op_inT (hu : X.A.units + 65 < cLine) : OpR X (compareOp .In) (rInT X.K false) := by
  intro pins s σ H x y v u Q I rx ry ⟨d, ds, hd, he, sd, se, q⟩
  obtain ⟨as, r1⟩ := Dp.reads I d x v hd rx
  obtain ⟨bs, r2⟩ := Dp.reads I _ y u he ry
  refine SeqAt.in_tuple_reads r2 r1 (by simpa [SeqAt.shaped, PyData.canLay0] using SeqAt.canLay_of_shaped se) (SeqAt.canLay_of_shaped sd) (PyProof.Rows.room_in_shaped sd hu) ⟨.bl _, H, I, rfl, ?_⟩
  simpa using q
theorem op_ninT (hu : X.A.units + 65 < cLine) : OpR X (compareOp .NotIn) (rInT X.K true) := by
  intro pins s σ H x y v u Q I rx ry ⟨d, ds, hd, he, sd, se, q⟩
  obtain ⟨as, r1⟩ := Dp.reads I d x v hd rx
  obtain ⟨bs, r2⟩ := Dp.reads I _ y u he ry
  refine SeqAt.notIn_tuple_reads r2 r1 (by simpa [SeqAt.shaped, PyData.canLay0] using SeqAt.canLay_of_shaped se) (SeqAt.canLay_of_shaped sd) (PyProof.Rows.room_in_shaped sd hu) ⟨.bl _, H, I, rfl, ?_⟩
  simpa using q
theorem inD_some {x : D} {ys : List D} {k : Bool} (h : inD x ys = some k) : SeqAt.shaped x = true ∧ SeqAt.shaped (.list ys) = true ∧ k = ys.any fun z => PyData.eqv z x := by
  unfold inD at h
  split at h
  · rename_i hs; cases h; exact ⟨hs.1, hs.2, rfl⟩
  · cases h
theorem lay_tl {ys : List D} (h : SeqAt.shaped (.list ys) = true) : (PyData.list ys).canLay0 = true := SeqAt.canLay_of_shaped h
theorem in_ok {x : D} {ys : List D} {k : Bool} (hu : X.A.units + 65 < cLine) (h : inD x ys = some k) : OpD X (compareOp .In) x (.list ys) (.bool k) ∧ OpD X (compareOp .In) x (.tuple ys) (.bool k) ∧ OpD X (compareOp .NotIn) x (.list ys) (.bool !k) ∧ OpD X (compareOp .NotIn) x (.tuple ys) (.bool !k) := by
  obtain ⟨h1, h2, rfl⟩ := inD_some h
  refine ⟨⟨_, op_inD hu, fun M H a b Q tr hx hy q => ?_⟩, ⟨_, op_inT hu, fun M H a b Q tr hx hy q => ?_⟩, ⟨_, op_notInD hu, fun M H a b Q tr hx hy q => ?_⟩, ⟨_, op_ninT hu, fun M H a b Q tr hx hy q => ?_⟩⟩
  · exact ⟨x, ys, (hx.le (hide_le H M)).dp (SeqAt.canLay_of_shaped h1), (hy.le (hide_le H M)).dp (lay_tl h2), h1, h2, q _ H (Hx.refl H) (.bl _)⟩
  · exact ⟨x, ys, (hx.le (hide_le H M)).dp (SeqAt.canLay_of_shaped h1), (hy.le (hide_le H M)).dp (lay_tl h2), h1, h2, q _ H (Hx.refl H) (by rw [Bool.false_bne]; exact .bl _)⟩
  · exact ⟨x, ys, (hx.le (hide_le H M)).dp (SeqAt.canLay_of_shaped h1), (hy.le (hide_le H M)).dp (lay_tl h2), h1, h2, q _ H (Hx.refl H) (.bl _)⟩
  · exact ⟨x, ys, (hx.le (hide_le H M)).dp (SeqAt.canLay_of_shaped h1), (hy.le (hide_le H M)).dp (lay_tl h2), h1, h2, q _ H (Hx.refl H) (by rw [Bool.true_bne]; exact .bl _)⟩
/-! dicts -/
theorem _root_.L2.Rp.dct_inv {K : W.Frag} {G : Hp} {v : V} {kvs : List (D × D)} (h : Rp K G v (.dict kvs)) : ∃ a o nks ks vs, v = .ref a ∧ G a = some (xO a o) ∧ (a == sysModules) = false ∧ DCt o nks ks vs ∧ RpKv K G nks ks vs kvs := by
  cases h with
  | dct h1 h2 h3 h4 => exact ⟨_, _, _, _, _, rfl, h1, h2, h3, h4⟩
section
variable {pins : List (Addr × Obj)} {σ : L2.St} {H : Hp} {s : Shared}
mutual
theorem rp_nested (I : Inv X pins σ H s) : ∀ {v : V} {d : D} {u : Value} {nk : NestedKey}, Rp X.K H v d → keyD d = some nk → RelV v u → NestedIs s.heap nk u
  | _, _, _, _, .non, e, r => by cases r; rw [keyD] at e; cases e; exact .none
  | _, _, _, _, .bl b, e, r => by cases r; rw [keyD] at e; cases e; exact .bool rfl
  | _, _, _, _, .int i, e, r => by obtain ⟨t, rfl⟩ := r; rw [keyD] at e; cases e; exact .int _ _
  | _, _, _, _, .str x, e, r => by obtain ⟨t, rfl⟩ := r; rw [keyD] at e; cases e; exact .text _ _
  | _, _, _, _, .lst _ _, e, r => by rw [keyD] at e; cases e
  | _, _, _, _, .dct _ _ _ _, e, r => by rw [keyD] at e; cases e
  | _, _, _, _, .tup h a, e, r => by
    rw [keyD] at e
    obtain ⟨nks, e1, rfl⟩ := map_some e
    cases r
    obtain ⟨its, ra, ⟨o, g, c, n, dd⟩, _⟩ := I.tuple h
    exact .tup g c dd (by simpa using rp_nestedAll I a e1 ra)
theorem rp_nestedAll (I : Inv X pins σ H s) : ∀ {vs : List V} {ds : List D} {us : List Value} {nks : List NestedKey}, RpAll X.K H vs ds → keyDs ds = some nks → Vals vs us → NestedAll s.heap nks us
  | _, _, _, _, .nil, e, r => by cases r; rw [keyDs] at e; cases e; exact .nil
  | _, _, _, _, .cons h a, e, r => by
    rw [keyDs] at e
    obtain ⟨k, e1, e⟩ := bind_some e
    obtain ⟨ks, e2, rfl⟩ := map_some e
    cases r with
    | cons r1 r2 => exact .cons (rp_nested I h e1 r1) (rp_nestedAll I a e2 r2)
end
end
theorem rp_keyV {H : Hp} {v : V} {d : D} {nk : NestedKey} (h : Rp X.K H v d) (e : keyD d = some nk) : KeyV X H v nk := fun pins σ s u I r => rp_nested I h e r
theorem tupKey_inv {d : D} (h : tupKey d = true) : (∃ xs, d = .tuple xs) ∧ ∀ nk, keyD d = some nk → nk.depth ≤ 8 := by
  unfold tupKey at h
  rw [Bool.and_eq_true] at h
  refine ⟨?_, fun nk e => ?_⟩
  · cases d <;> first | exact ⟨_, rfl⟩ | (exact absurd h.1 (by simp [isTupD]))
  · have h2 := h.2
    rw [e] at h2
    exact of_decide_eq_true h2
theorem kv_tup {H : Hp} {nks : List NestedKey} {ks vs : List V} {kvs : List (D × D)} : RpKv X.K H nks ks vs kvs → (kvs.all fun p => tupKey p.1) = true → ∃ bs, Refs ks bs ∧ KeysV X H ks nks
  | .nil, _ => ⟨[], .nil, .nil⟩
  | .cons e h1 h2 r, h => by
    rw [List.all_cons, Bool.and_eq_true] at h
    obtain ⟨bs, q1, q2⟩ := kv_tup r h.2
    obtain ⟨⟨xs, ex⟩, hd⟩ := tupKey_inv h.1
    have ex : _ = PyData.tuple xs := ex
    subst ex
    obtain ⟨a, us, rfl, _, _⟩ := h1.tup_inv
    exact ⟨a :: bs, .cons q1, .cons (rp_keyV h1 e) (hd _ e) q2⟩
theorem kv_str {K : W.Frag} {H : Hp} {nks : List NestedKey} {ks vs : List V} {kvs : List (D × D)} : RpKv K H nks ks vs kvs → (kvs.all fun p => isStrD p.1) = true → (∀ nk ∈ nks, ∃ x, nk = .text x) ∧ ks = nks.map fun nk => V.str (txOf nk)
  | .nil, _ => ⟨fun _ h => (by cases h), rfl⟩
  | @RpKv.cons _ _ _ nk nks k v ks vs d e kvs ek h1 h2 r, h => by
    rw [List.all_cons, Bool.and_eq_true] at h
    obtain ⟨q1, q2⟩ := kv_str r h.2
    cases d with
    | str x =>
      rw [keyD] at ek
      cases ek
      obtain rfl := h1.str_inv
      refine ⟨fun z hz => ?_, by rw [List.map_cons, ← q2]; rfl⟩
      rcases List.mem_cons.mp hz with rfl | hz
      · exact ⟨x, rfl⟩
      · exact q1 z hz
    | _ => exact absurd h.1 (by simp [isStrD])
theorem kv_look {K : W.Frag} {H : Hp} {nks : List NestedKey} {ks vs : List V} {kvs : List (D × D)} {nk : NestedKey} : RpKv K H nks ks vs kvs → (∀ d, kvLook kvs nk = some d → ∃ v, lookV nks vs nk = some v ∧ Rp K H v d) ∧ (kvLook kvs nk).isSome = decide (nk ∈ nks)
  | .nil => ⟨fun d h => (by simp [kvLook] at h), by simp [kvLook]⟩
  | @RpKv.cons _ _ _ nk' nks k v ks vs d e kvs ek h1 h2 r => by
    obtain ⟨q1, q2⟩ := kv_look (nk := nk) r
    by_cases c : nk' = nk
    · subst c
      have : kvLook ((d, e) :: kvs) nk' = some e := by simp [kvLook, List.find?_cons, ek]
      rw [this]
      refine ⟨fun z hz => ?_, by simp⟩
      cases hz
      exact ⟨v, by simp [lookV], h2⟩
    · have : kvLook ((d, e) :: kvs) nk = kvLook kvs nk := by
        simp only [kvLook, List.find?_cons, ek]
        rw [decide_eq_false (fun z => c (by injection z))]
      rw [this]
      refine ⟨fun z hz => ?_, ?_⟩
      · obtain ⟨w, e1, e2⟩ := q1 z hz
        exact ⟨w, by simp [lookV, c, e1], e2⟩
      · rw [q2]
        congr 1
        simp [List.mem_cons, show ¬ nk = nk' from fun z => c z.symm]
theorem keyOk_inv {kvs : List (D × D)} {d : D} {nk : NestedKey} (h : keyOk kvs d = some nk) : keyD d = some nk ∧ ((tupKey d = true ∧ (kvs.all fun p => tupKey p.1) = true) ∨ (isStrD d = true ∧ (kvs.all fun p => isStrD p.1) = true)) := by
  unfold keyOk at h
  split at h
  · rename_i c
    split at h
    · rename_i c2
      exact ⟨h, .inl ⟨c, c2⟩⟩
    · cases h
  · split at h
    · rename_i c
      split at h
      · rename_i c2
        exact ⟨h, .inr ⟨c, c2⟩⟩
      · cases h
    · cases h
/-- a link between the hash and the World -/
def HashIs (X : Cx) : Prop := ∀ k, HashW.hf k = k.hash X.w
theorem dIn_ok {x : D} {kvs : List (D × D)} {k : Bool} (hw : HashIs X) (hu : X.A.units + 65 < cLine) (h : dInD kvs x = some k) : OpD X (compareOp .In) x (.dict kvs) (.bool k) ∧ OpD X (compareOp .NotIn) x (.dict kvs) (.bool !k) := by
  obtain ⟨nk, e1, rfl⟩ := map_some h
  obtain ⟨e2, e3⟩ := keyOk_inv e1
  rcases e3 with ⟨t1, t2⟩ | ⟨t1, t2⟩
  · have go : ∀ (neg : Bool), RD X.K (rDInT X neg) x (.dict kvs) (.bool (neg != (kvLook kvs nk).isSome)) := fun neg M H v y Q tr hx hy q => by
      obtain ⟨a, o, nks, ks, vs, rfl, g, sm, dc, kv⟩ := (hy.le (hide_le H M)).dct_inv
      obtain ⟨bs, r1, r2⟩ := kv_tup kv t2
      obtain ⟨⟨xs, rfl⟩, hd⟩ := tupKey_inv t1
      have hx' := hx.le (hide_le H M)
      obtain ⟨b, us, rfl, _, _⟩ := hx'.tup_inv
      exact ⟨a, o, nks, ks, vs, bs, nk, b, rfl, rfl, ⟨g, dc, sm, r1, r2⟩, rp_keyV hx' e2, hd _ e2, q _ H (Hx.refl H) (by rw [(kv_look kv).2]; exact .bl _)⟩
    have g1 := go false
    have g2 := go true
    rw [Bool.false_bne] at g1
    rw [Bool.true_bne] at g2
    exact ⟨⟨_, op_inDT hw (by omega), g1⟩, ⟨_, op_ninDT hw (by omega), g2⟩⟩
  · have go : ∀ (neg : Bool), RD X.K (rDInS X neg) x (.dict kvs) (.bool (neg != (kvLook kvs nk).isSome)) := fun neg M H v y Q tr hx hy q => by
      obtain ⟨a, o, nks, ks, vs, rfl, g, sm, dc, kv⟩ := (hy.le (hide_le H M)).dct_inv
      obtain ⟨r1, r2⟩ := kv_str kv t2
      cases x with
      | str z =>
        rw [keyD] at e2
        cases e2
        obtain rfl := hx.str_inv
        exact ⟨a, o, nks, ks, vs, z, rfl, rfl, ⟨⟨g, dc, sm, r1⟩, r2⟩, q _ H (Hx.refl H) (by rw [(kv_look kv).2]; exact .bl _)⟩
      | _ => exact absurd t1 (by simp [isStrD])
    have g1 := go false
    have g2 := go true
    rw [Bool.false_bne] at g1
    rw [Bool.true_bne] at g2
    exact ⟨⟨_, op_inDS hw, g1⟩, ⟨_, op_ninDS hw, g2⟩⟩
theorem dGet_ok {kvs : List (D × D)} {x d : D} (hw : HashIs X) (hu : X.A.units + 65 < cLine) (h : dGetD kvs x = some d) : IxD X (.dict kvs) x d := by
  obtain ⟨nk, e1, e⟩ := bind_some h
  obtain ⟨e2, e3⟩ := keyOk_inv e1
  rcases e3 with ⟨t1, t2⟩ | ⟨t1, t2⟩
  · refine ⟨_, ix_dT hw (by omega), fun M H y v Q tr hy hx q => ?_⟩
    obtain ⟨a, o, nks, ks, vs, rfl, g, sm, dc, kv⟩ := hy.dct_inv
    obtain ⟨w, l1, l2⟩ := (kv_look kv).1 _ e
    have kv' := kv.le (hide_le H M)
    obtain ⟨bs, r1, r2⟩ := kv_tup kv' t2
    obtain ⟨⟨xs, rfl⟩, hd⟩ := tupKey_inv t1
    have hx' := hx.le (hide_le H M)
    obtain ⟨b, us, rfl, _, _⟩ := hx'.tup_inv
    exact ⟨a, o, nks, ks, vs, bs, nk, b, w, rfl, rfl, ⟨(hide_le H M) _ _ g xO_tbl, dc, sm, r1, r2⟩, rp_keyV hx' e2, hd _ e2, l1, q _ H (Hx.refl H) l2⟩
  · refine ⟨_, ix_dS hw, fun M H y v Q tr hy hx q => ?_⟩
    obtain ⟨a, o, nks, ks, vs, rfl, g, sm, dc, kv⟩ := hy.dct_inv
    obtain ⟨w, l1, l2⟩ := (kv_look kv).1 _ e
    obtain ⟨r1, r2⟩ := kv_str kv t2
    cases x with
    | str z =>
      rw [keyD] at e2
      cases e2
      obtain rfl := hx.str_inv
      exact ⟨a, o, nks, ks, vs, z, w, rfl, rfl, ⟨⟨(hide_le H M) _ _ g xO_tbl, dc, sm, r1⟩, r2⟩, l1, q _ H (Hx.refl H) l2⟩
    | _ => exact absurd t1 (by simp [isStrD])
theorem op_isB : OpR X (compareOp .Is) (fun x y H Q => ∃ a b, x = .bl a ∧ y = .bl b ∧ Q (.bl (decide (a = b))) H) := by
  intro pins s σ H x y v u Q I rx ry h
  obtain ⟨a, b, rfl, rfl, q⟩ := h
  cases rx
  cases ry
  cases a <;> cases b <;> exact wpAny_pure (fin_bl I q rfl)
theorem op_notB : OpR X (compareOp .IsNot) (fun x y H Q => ∃ a b, x = .bl a ∧ y = .bl b ∧ Q (.bl (!decide (a = b))) H) := by
  intro pins s σ H x y v u Q I rx ry h
  obtain ⟨a, b, rfl, rfl, q⟩ := h
  cases rx
  cases ry
  cases a <;> cases b <;> exact wpAny_pure (fin_bl I q rfl)
theorem isNone_v {d : D} {H : Hp} {x : V} (h : Rp X.K H x d) : decide (x = .non) = isNoneD d := by cases h <;> rfl
def rLtD (K : W.Frag) : R2 := fun x y H Q => ∃ xs ys, Dp K H x (.tuple xs) ∧ Dp K H y (.tuple ys) ∧ W.alike (.tuple xs) (.tuple ys) = true ∧ PyData.depth (.tuple xs) ≤ 60 ∧ Q (.bl (W.dataLt (.tuple xs) (.tuple ys))) H
theorem op_ltD (hu : X.A.units + 64 < cLine) : OpR X (compareOp .Lt) (rLtD X.K) := by
  intro pins s σ H x y v u Q I rx ry ⟨d, e, hd, he, hal, hde, q⟩
  obtain ⟨as, r1⟩ := Dp.reads I _ x v hd rx
  obtain ⟨bs, r2⟩ := Dp.reads I _ y u he ry
  exact W.rcLt_alike _ _ X.A s v u as bs r1 r2 hal (by intro z; cases z) (by have := Nat.min_le_left (PyData.depth (.tuple d)) (PyData.depth (.tuple e)); omega) _ _ _ _ ⟨.bl _, H, I, rfl, q⟩
theorem cmp_ok {op : CmpOp} {d1 d2 : D} {k : Bool} (hw : HashIs X) (hu : X.A.units + 65 < cLine) (h : cmpD op d1 d2 = some k) : OpD X (compareOp op) d1 d2 (.bool k) := by
  unfold cmpD at h
  split at h
  · exact eq_ok (by omega) h
  · exact ne_ok (by omega) h
  · cases h; exact opD_cmp op_lt
  · cases h; exact opD_cmp op_le
  · cases h; exact opD_cmp op_gt
  · cases h; exact opD_cmp op_ge
  · cases h; exact ⟨_, op_lt_str, fun M H x y Q tr hx hy q => ⟨_, _, hx.str_inv, hy.str_inv, q _ H (Hx.refl H) (.bl _)⟩⟩
  · split at h
    · rename_i hc
      cases h
      exact ⟨_, op_ltD (by omega), fun M H x y Q tr hx hy q => ⟨_, _, (hx.le (hide_le H M)).dpA hc.1.1, (hy.le (hide_le H M)).dpA hc.1.2, hc.2.1, hc.2.2.1, q _ H (Hx.refl H) (.bl _)⟩⟩
    · cases h
  · cases h; exact ⟨_, op_isN, fun M H x y Q tr hx hy q => ⟨hy.non_inv, by rw [isNone_v hx]; exact q _ H (Hx.refl H) (.bl _)⟩⟩
  · cases h; exact ⟨_, op_notN, fun M H x y Q tr hx hy q => ⟨hy.non_inv, by rw [isNone_v hx]; exact q _ H (Hx.refl H) (.bl _)⟩⟩
  · cases h; exact ⟨_, op_isB, fun M H x y Q tr hx hy q => ⟨_, _, hx.bl_inv, hy.bl_inv, q _ H (Hx.refl H) (.bl _)⟩⟩
  · cases h; exact ⟨_, op_notB, fun M H x y Q tr hx hy q => ⟨_, _, hx.bl_inv, hy.bl_inv, q _ H (Hx.refl H) (.bl _)⟩⟩
  · exact (in_ok hu h).1
  · exact (in_ok hu h).2.1
  · obtain ⟨k', h2, e⟩ := map_some h; rw [← e]; exact (in_ok hu h2).2.2.1
  · obtain ⟨k', h2, e⟩ := map_some h; rw [← e]; exact (in_ok hu h2).2.2.2
  · exact (dIn_ok hw hu h).1
  · obtain ⟨k', h2, e⟩ := map_some h; rw [← e]; exact (dIn_ok hw hu h2).2
  · cases h
/-! items, slices -/
theorem atI_rp {K : W.Frag} {G : Hp} {vs : List V} {ds : List D} {i : Int} {d : D} (r : RpAll K G vs ds) (h : atI ds i = some d) : ∃ v, atI vs i = some v ∧ Rp K G v d := by
  unfold atI at h
  obtain ⟨j, e4, e5⟩ := bind_some h
  obtain ⟨w, e6, r6⟩ := r.get e5
  refine ⟨w, ?_, r6⟩
  unfold atI
  rw [r.length, e4]
  exact e6
theorem idx_ok {d1 d2 d : D} (hw : HashIs X) (hu : X.A.units + 65 < cLine) (h : idxD d1 d2 = some d) : IxD X d1 d2 d := by
  unfold idxD at h
  split at h
  · refine ⟨_, ix_tup, fun M H x y Q tr hx hy q => ?_⟩
    obtain ⟨a, vs, rfl, ha, ra⟩ := hx.tup_inv
    obtain ⟨v, e, r⟩ := atI_rp ra h
    exact ⟨a, vs, _, v, rfl, hy.int_inv, sqT_h ha, e, q v H (Hx.refl H) r⟩
  · refine ⟨_, ix_list, fun M H x y Q tr hx hy q => ?_⟩
    obtain ⟨a, vs, rfl, ha, ra⟩ := hx.lst_inv
    obtain ⟨v, e, r⟩ := atI_rp ra h
    exact ⟨a, vs, _, v, rfl, hy.int_inv, sqL_h ha, e, q v H (Hx.refl H) r⟩
  · exact dGet_ok hw hu h
  · cases h
theorem cut_rp {K : W.Frag} {G : Hp} {vs : List V} {ds : List D} (lo hi : Option Int) (r : RpAll K G vs ds) : RpAll K G (cutV vs lo hi) (cutD ds lo hi) := by
  unfold cutV cutD
  rw [r.length]
  exact (r.drop _).take _
theorem cut_whole {α : Type} (xs : List α) (lo hi : Option Int) (h : HT.sIx xs.length 0 lo = 0 ∧ HT.sIx xs.length xs.length hi = xs.length) : (xs.drop (HT.sIx xs.length 0 lo)).take (HT.sIx xs.length xs.length hi - HT.sIx xs.length 0 lo) = xs := by
  rw [h.1, h.2]
  simp
theorem sl_ok {d1 d : D} {lo hi : Option Int} (h : slD d1 lo hi = some d) : SlD X d1 lo hi d := by
  cases d1 with
  | tuple xs =>
    cases h
    refine ⟨_, sl_tupA, fun M H x Q tr hx q => ?_⟩
    obtain ⟨a, vs, rfl, ha, ra⟩ := hx.tup_inv
    refine ⟨a, vs, rfl, sqT_h ha, fun e => ?_, fun _ p hp => q _ _ (Hx.new hp) (dp_newT tr hp (cut_rp lo hi ra))⟩
    have e1 : cutD xs lo hi = xs := cut_whole xs lo hi (by rw [← ra.length]; exact e)
    rw [e1] at q
    exact q _ H (Hx.refl H) (.tup ha ra)
  | list xs =>
    cases h
    refine ⟨_, sl_list, fun M H x Q tr hx q => ?_⟩
    obtain ⟨a, vs, rfl, ha, ra⟩ := hx.lst_inv
    exact ⟨a, vs, rfl, sqL_h ha, fun p hp => q _ _ (Hx.new hp) (dp_newL tr hp (cut_rp lo hi ra))⟩
  | _ => cases h
/-! builtins -/
theorem bools_v {K : W.Frag} {G : Hp} : ∀ {ds : List D} {vs : List V} {bs : List Bool}, RpAll K G vs ds → boolsD ds = some bs → vs = bs.map V.bl
  | [], _, _, r, h => by
    obtain rfl := r.nil_inv
    cases h; rfl
  | .bool b :: ds, _, bs, r, e => by
    obtain ⟨v, ws, rfl, h1, h2⟩ := r.cons_inv
    have e : (boolsD ds).map (b :: ·) = some bs := e
    obtain ⟨bs', e1, e2⟩ := map_some e
    rw [← e2, h1.bl_inv, bools_v h2 e1]
    rfl
  | .none :: _, _, _, _, e => by cases e
  | .int _ :: _, _, _, _, e => by cases e
  | .str _ :: _, _, _, _, e => by cases e
  | .list _ :: _, _, _, _, e => by cases e
  | .tuple _ :: _, _, _, _, e => by cases e
  | .dict _ :: _, _, _, _, e => by cases e
/-- one argument -/
theorem rp1 {K : W.Frag} {G : Hp} {vs : List V} {d : D} (h : RpAll K G vs [d]) : ∃ v, vs = [v] ∧ Rp K G v d := by
  obtain ⟨v, ws, rfl, h1, h2⟩ := h.cons_inv
  obtain rfl := h2.nil_inv
  exact ⟨v, rfl, h1⟩
theorem kv_len {K : W.Frag} {H : Hp} {nks : List NestedKey} {ks vs : List V} {kvs : List (D × D)} : RpKv K H nks ks vs kvs → nks.length = kvs.length
  | .nil => rfl
  | .cons _ _ _ r => by rw [List.length_cons, List.length_cons, kv_len r]
theorem kv_keys {K : W.Frag} {H : Hp} {nks : List NestedKey} {ks vs : List V} {kvs : List (D × D)} : RpKv K H nks ks vs kvs → RpAll K H ks (kvs.map (·.1))
  | .nil => .nil
  | .cons _ h1 _ r => .cons h1 (kv_keys r)
theorem ca_len {d1 d : D} (h : bltD .len [d1] = some d) : CaD X (.builtin "len") [d1] d := by
  cases d1 with
  | list xs =>
    cases h
    refine ⟨_, call_len, fun M H vs Q tr hx q => ?_⟩
    obtain ⟨v, rfl, h1⟩ := rp1 hx
    obtain ⟨a, us, rfl, ha, ra⟩ := h1.lst_inv
    exact ⟨_, us.length, rfl, .inl ⟨us, sqL_h ha, rfl⟩, by rw [ra.length]; exact q _ H (Hx.refl H) (.int _)⟩
  | tuple xs =>
    cases h
    refine ⟨_, call_len, fun M H vs Q tr hx q => ?_⟩
    obtain ⟨v, rfl, h1⟩ := rp1 hx
    obtain ⟨a, us, rfl, ha, ra⟩ := h1.tup_inv
    exact ⟨_, us.length, rfl, .inr ⟨us, sqT_h ha, rfl⟩, by rw [ra.length]; exact q _ H (Hx.refl H) (.int _)⟩
  | str x =>
    have h : (if x.length ≤ lim then some (PyData.int x.length) else none) = some d := h
    split at h
    · rename_i hz
      cases h
      refine ⟨_, call_len, fun M H vs Q tr hx q => ?_⟩
      obtain ⟨v, rfl, h1⟩ := rp1 hx
      obtain rfl := h1.str_inv
      exact ⟨_, x.length, rfl, ⟨lim_le hz, rfl⟩, q _ H (Hx.refl H) (.int _)⟩
    · cases h
  | dict kvs =>
    have h : (if kvs.length ≤ lim then some (PyData.int kvs.length) else none) = some d := h
    split at h
    · cases h
      refine ⟨_, call_len_d, fun M H vs Q tr hx q => ?_⟩
      obtain ⟨v, rfl, h1⟩ := rp1 hx
      obtain ⟨a, o, nks, ks, vs, rfl, g, sm, dc, kv⟩ := h1.dct_inv
      exact ⟨a, o, nks, ks, vs, rfl, ⟨(hide_le H M) _ _ g xO_tbl, dc, sm⟩, by rw [kv_len kv]; exact q _ H (Hx.refl H) (.int _)⟩
    · cases h
  | _ => cases h
end
end Pv

/-! sorted, the other builtins, isinstance, displays times a number. -/
namespace Pv
open PySem L2
variable [HashW]
/-! ### the sort -/
section
variable {X : Cx}
theorem each_of {α β γ : Type} {K : W.Frag} {G : Hp} : ∀ {vs : List V} {us : List Value} {ds : List D}, Vals vs us → RpAll K G vs ds → W.EachIs (fun u d => ∃ v, RelV v u ∧ Rp K G v d) us ds
  | _, _, _, .nil, r => by cases r; exact .nil
  | _, _, _, .cons a b, r => by
    cases r with
    | cons h1 h2 => exact .cons ⟨_, a, h1⟩ (each_of (α := α) (β := β) (γ := γ) b h2)
theorem each_reads {pins : List (Addr × Obj)} {σ : L2.St} {H : Hp} {s : Shared} (I : Inv X pins σ H s) : ∀ {vs : List V} {us : List Value} {ds : List D}, Vals vs us → RpAll X.K H vs ds → (∀ d ∈ ds, W.alike d d = true) → W.EachIs (fun u d => ∃ as, Reads s.heap u d as) us ds
  | _, _, _, .nil, r, _ => by cases r; exact .nil
  | _, _, _, .cons a b, r, h => by
    cases r with
    | cons h1 h2 => exact .cons (Dp.reads I _ _ _ (h1.dpA (h _ List.mem_cons_self)) a) (each_reads I b h2 fun d hd => h d (List.mem_cons_of_mem _ hd))
theorem of_each {K : W.Frag} {G : Hp} : ∀ {us : List Value} {ds : List D}, W.EachIs (fun u d => ∃ v, RelV v u ∧ Rp K G v d) us ds → ∃ vs, Vals vs us ∧ RpAll K G vs ds
  | _, _, .nil => ⟨[], .nil, .nil⟩
  | _, _, .cons ⟨v, h1, h2⟩ t => by
    obtain ⟨vs, r1, r2⟩ := of_each t
    exact ⟨v :: vs, .cons h1 r1, .cons h2 r2⟩
theorem alike_all {xs : List D} (h : allAlike xs = true) : W.AllAlike xs ∧ ∀ d ∈ xs, PyData.depth d ≤ 60 := by
  unfold allAlike at h
  rw [List.all_eq_true] at h
  have h2 : ∀ a ∈ xs, ∀ b ∈ xs, W.alike a b = true ∧ PyData.depth a ≤ 60 := fun a ha b hb => by
    have q := h a ha
    rw [List.all_eq_true] at q
    have q := q b hb
    rw [Bool.and_eq_true, decide_eq_true_eq] at q
    exact q
  exact ⟨fun a ha b hb => (h2 a ha b hb).1, fun d hd => (h2 d hd d hd).2⟩
theorem ca_sorted {d1 d : D} (hu : X.A.units + 100 < cLine) (h : bltD .sorted [d1] = some d) : CaD X (.builtin "sorted") [d1] d := by
  cases d1 with
  | list xs =>
    have h : (if xs.length ≤ lim ∧ allAlike xs = true ∧ (xs.all isTupCons = true ∨ xs.all isIntStr = true) then some (PyData.list (sortD xs)) else none) = some d := h
    split at h
    · rename_i hc
      cases h
      obtain ⟨hz, hal, hk⟩ := hc
      obtain ⟨al, dp⟩ := alike_all hal
      have hsort : (∀ d ∈ xs, ∃ ys, d = PyData.tuple ys) ∨ ∀ d ∈ xs, d ≠ .none ∧ ∀ ys, d ≠ .tuple ys := by
        rcases hk with hk | hk
        · rw [List.all_eq_true] at hk
          refine .inl fun z hz => ?_
          have q := hk z hz
          cases z with
          | tuple ys => exact ⟨ys, rfl⟩
          | _ => cases q
        · rw [List.all_eq_true] at hk
          refine .inr fun z hz => ?_
          have q := hk z hz
          cases z with
          | int i => exact ⟨(by intro e; cases e), (by intro ys e; cases e)⟩
          | str x => exact ⟨(by intro e; cases e), (by intro ys e; cases e)⟩
          | _ => cases q
      refine ⟨fun vs H Q => ∃ a us, vs = [.ref a] ∧ SqL X.K H a us ∧ RpAll X.K H us xs ∧ ∃ M, RpAll X.K (hide H M) us xs ∧ ∀ p ws, H p = none → RpAll X.K (hide H M) ws (sortD xs) → Q (.ref p) (upd H p (.lst ws)), ?_, fun M H vs Q tr hx q => ?_⟩
      · intro pins s σ H vs us Q I rv ⟨a, ws, ev, ha, ra, M, rm, q⟩
        subst ev
        obtain ⟨u, rfl, ru⟩ := vals1 rv
        obtain rfl : u = Value.ref a := ru
        obtain ⟨hz2, its, r, io⟩ := rdL I ha
        have map_id : xs.map (fun d : D => d) = xs := List.map_id' xs
        have er : W.EachIs (fun v d => ∃ as, Reads s.heap v d as) its xs := each_reads I r ra fun d hd => al d hd d hd
        refine W.sorted_mix (vs := its) (bs := xs) (enc := fun d => d) (R := fun u d => ∃ v, RelV v u ∧ Rp X.K (hide H M) v d) io (each_of (α := Unit) (β := Unit) (γ := Unit) r rm) er (by rw [map_id]; exact al) (by rw [map_id]; exact hsort) (lim_le hz)
          (fun b hb => by have := dp b hb; omega) fun out hlen ho => ?_
        rw [leD_eq, ← sortD_eq] at ho
        obtain ⟨zs, r1, r2⟩ := of_each ho
        obtain ⟨en, hat⟩ := PyProof.Rows.sortedAll_at s.heap its out.toArray
        have hfree : H (s.heap.objs.size + 1) = none := I.hok.fresh (Nat.le_succ _)
        have hl : zs.length ≤ sizeLine := by rw [r1.length, hlen]; exact lim_le hz
        refine ⟨.ref (s.heap.objs.size + 1), _, I.laid (t' := s.toks) (o := .lst zs) (fun b o eb => PyProof.Rows.sortedAll_old eb) (Nat.le_succ _) ⟨hl, out, en, r1, hat⟩, rfl, q _ _ hfree r2⟩
      · obtain ⟨v, rfl, h1⟩ := rp1 hx
        obtain ⟨a, us, rfl, ha, ra⟩ := h1.lst_inv
        exact ⟨a, us, rfl, sqL_h ha, ra.le (hide_le H M), M, ra, fun p ws hp rw' => q _ _ (Hx.new hp) (dp_newL tr hp rw')⟩
    · cases h
  | _ => cases h
theorem ca_all {d1 d : D} (hc : X.calm = true) (h : bltD .all [d1] = some d) : CaD X (.builtin "all") [d1] d := by
  cases d1 with
  | list xs =>
    have h : (boolsD xs).map (fun bs => PyData.bool (bs.all id)) = some d := h
    obtain ⟨bs, e1, e2⟩ := map_some h
    subst e2
    refine ⟨_, cr_all hc, fun M H vs Q tr hx q => ?_⟩
    obtain ⟨v, rfl, h1⟩ := rp1 hx
    obtain ⟨a, us, rfl, ha, ra⟩ := h1.lst_inv
    have e := bools_v ra e1
    subst e
    exact ⟨a, bs, rfl, sqL_h ha, q _ H (Hx.refl H) (.bl _)⟩
  | _ => cases h
theorem ca_any {d1 d : D} (hc : X.calm = true) (h : bltD .any [d1] = some d) : CaD X (.builtin "any") [d1] d := by
  cases d1 with
  | list xs =>
    have h : (boolsD xs).map (fun bs => PyData.bool (bs.any id)) = some d := h
    obtain ⟨bs, e1, e2⟩ := map_some h
    subst e2
    refine ⟨_, cr_any hc, fun M H vs Q tr hx q => ?_⟩
    obtain ⟨v, rfl, h1⟩ := rp1 hx
    obtain ⟨a, us, rfl, ha, ra⟩ := h1.lst_inv
    have e := bools_v ra e1
    subst e
    exact ⟨a, bs, rfl, sqL_h ha, q _ H (Hx.refl H) (.bl _)⟩
  | _ => cases h
theorem ca_list {d1 d : D} (hc : X.calm = true) (h : bltD .list [d1] = some d) : CaD X (.type "list") [d1] d := by
  cases d1 with
  | list xs =>
    cases h
    refine ⟨_, call_list_of, fun M H vs Q tr hx q => ?_⟩
    obtain ⟨v, rfl, h1⟩ := rp1 hx
    obtain ⟨a, us, rfl, ha, ra⟩ := h1.lst_inv
    exact ⟨a, us, rfl, .inl (sqL_h ha), fun p hp => q _ _ (Hx.new hp) (dp_newL tr hp ra)⟩
  | tuple xs =>
    cases h
    refine ⟨_, call_list_of, fun M H vs Q tr hx q => ?_⟩
    obtain ⟨v, rfl, h1⟩ := rp1 hx
    obtain ⟨a, us, rfl, ha, ra⟩ := h1.tup_inv
    exact ⟨a, us, rfl, .inr (sqT_h ha), fun p hp => q _ _ (Hx.new hp) (dp_newL tr hp ra)⟩
  | dict kvs =>
    cases h
    refine ⟨_, call_list_d hc, fun M H vs Q tr hx q => ?_⟩
    obtain ⟨v, rfl, h1⟩ := rp1 hx
    obtain ⟨a, o, nks, ks, vs, rfl, g, sm, dc, kv⟩ := h1.dct_inv
    exact ⟨a, o, nks, ks, vs, rfl, ⟨(hide_le H M) _ _ g xO_tbl, dc, sm⟩, fun p hp => q _ _ (Hx.new hp) (dp_newL tr hp (kv_keys kv))⟩
  | _ => cases h
theorem ca_tuple {d1 d : D} (h : bltD .tuple [d1] = some d) : CaD X (.type "tuple") [d1] d := by
  cases d1 with
  | list xs =>
    cases h
    refine ⟨_, call_tuple_of, fun M H vs Q tr hx q => ?_⟩
    obtain ⟨v, rfl, h1⟩ := rp1 hx
    obtain ⟨a, us, rfl, ha, ra⟩ := h1.lst_inv
    exact ⟨a, us, rfl, .inl ⟨sqL_h ha, fun p hp => q _ _ (Hx.new hp) (dp_newT tr hp ra)⟩⟩
  | tuple xs =>
    cases h
    refine ⟨_, call_tuple_of, fun M H vs Q tr hx q => ?_⟩
    obtain ⟨v, rfl, h1⟩ := rp1 hx
    obtain ⟨a, us, rfl, ha, ra⟩ := h1.tup_inv
    exact ⟨a, us, rfl, .inr ⟨sqT_h ha, q _ H (Hx.refl H) (.tup ha ra)⟩⟩
  | _ => cases h
theorem ca_int {d1 d : D} (h : bltD .int [d1] = some d) : CaD X (.type "int") [d1] d := by
  cases d1 with
  | int i =>
    cases h
    refine ⟨_, call_int1, fun M H vs Q tr hx q => ?_⟩
    obtain ⟨v, rfl, h1⟩ := rp1 hx
    exact .inl ⟨i, by rw [h1.int_inv], q _ H (Hx.refl H) (.int _)⟩
  | bool b =>
    cases h
    refine ⟨_, call_int1, fun M H vs Q tr hx q => ?_⟩
    obtain ⟨v, rfl, h1⟩ := rp1 hx
    exact .inr ⟨b, by rw [h1.bl_inv], q _ H (Hx.refl H) (.int _)⟩
  | _ => cases h
theorem ca_bool {d1 d : D} (h : bltD .bool [d1] = some d) : CaD X (.type "bool") [d1] d := by
  cases d1 with
  | bool b =>
    cases h
    refine ⟨_, call_bool1, fun M H vs Q tr hx q => ?_⟩
    obtain ⟨v, rfl, h1⟩ := rp1 hx
    exact .inr ⟨b, by rw [h1.bl_inv], q _ H (Hx.refl H) (.bl _)⟩
  | _ => cases h
theorem ca_str {d1 d : D} (h : bltD .str [d1] = some d) : CaD X (.type "str") [d1] d := by
  cases d1 with
  | int i =>
    have h : (if i.natAbs < 2 ^ 64 then some (PyData.str (toString i : String)) else none) = some d := h
    split at h
    · rename_i hz
      cases h
      refine ⟨_, call_str_int, fun M H vs Q tr hx q => ?_⟩
      obtain ⟨v, rfl, h1⟩ := rp1 hx
      refine ⟨i, by rw [h1.int_inv], ?_, q _ H (Hx.refl H) (.str _)⟩
      by_cases hi : i.natAbs = 0
      · rw [hi]; decide
      · exact Nat.lt_trans ((Nat.log2_lt hi).mpr hz) (by decide)
    · cases h
  | _ => cases h
theorem ca_min {d1 d2 d : D} (hc : X.calm = true) (h : bltD .min2 [d1, d2] = some d) : CaD X (.builtin "min") [d1, d2] d := by
  cases d1 with
  | int i =>
    cases d2 with
    | int j =>
      cases h
      refine ⟨_, call_min2 hc, fun M H vs Q tr hx q => ?_⟩
      obtain ⟨v, ws, rfl, h1, h2⟩ := hx.cons_inv
      obtain ⟨w, rfl, h3⟩ := rp1 h2
      exact ⟨i, j, by rw [h1.int_inv, h3.int_inv], q _ H (Hx.refl H) (.int _)⟩
    | _ => cases h
  | _ => cases h
/-! isinstance -/
def tyN : D → String
  | .none => "NoneType" | .bool _ => "bool" | .int _ => "int" | .str _ => "str" | .list _ => "list" | .tuple _ => "tuple" | .dict _ => "dict"
def Ty.nm : Ty → String
  | .int => "int" | .bool => "bool" | .str => "str" | .list => "list" | .tuple => "tuple"
theorem ty_of {K : W.Frag} {H : Hp} {v : V} {d : D} (nd : isDictD d = false) (h : Rp K H v d) : TyX K H v (.type (tyN d)) := by
  cases h with
  | non => exact .base .non
  | bl b => exact .base (.bl b)
  | int i => exact .base (.int i)
  | str x => exact .base (.str x)
  | lst a _ =>
    rcases a with (a | ⟨o, a⟩) | ⟨o, its, n, a, b, c⟩
    · exact .base (.lst a)
    · exact .base (.frz a)
    · exact .kList a b
  | tup a _ =>
    rcases a with (a | ⟨o, a⟩) | ⟨o, its, n, a, b, c⟩
    · exact .base (.tup a)
    · exact .fTuple a
    · exact .kTuple a b
  | dct _ _ _ _ => cases nd
inductive Tag where
  | non | bl | int | str | lst | tup | dct
def Tag.nm : Tag → String
  | .non => "NoneType" | .bl => "bool" | .int => "int" | .str => "str" | .lst => "list" | .tup => "tuple" | .dct => "dict"
def tagOf : D → Tag
  | .none => .non | .bool _ => .bl | .int _ => .int | .str _ => .str | .list _ => .lst | .tuple _ => .tup | .dict _ => .dct
def isTag : Ty → Tag → Bool
  | .int, .int => true | .int, .bl => true | .bool, .bl => true | .str, .str => true | .list, .lst => true | .tuple, .tup => true | _, _ => false
theorem kit_tag (t : Ty) (g : Tag) : kitB g.nm t.nm = some (isTag t g) := by cases t <;> cases g <;> decide +kernel
theorem kit_isTy {K : W.Frag} {t : Ty} {d : D} : W.kitOne K (.type (tyN d)) (.type t.nm) = some (isTy t d) := by
  have e1 : tyN d = (tagOf d).nm := by cases d <;> rfl
  have e2 : isTy t d = isTag t (tagOf d) := by cases t <;> cases d <;> rfl
  rw [e1, e2]
  exact kit_ty (kit_tag t (tagOf d))
theorem boot_ty (t : Ty) : bootBuiltins (Str.ofString t.nm) = some (.type t.nm) := by cases t <;> decide +kernel
theorem okE_isi {C : Cc} {a : Expr} {ma : SS → Option (D × SS)} {p p2 pos : Pos} {t : Ty} (ha : OkE X C a ma) (hg : Gl X "isinstance") (hm : X.mg "isinstance" = none) (hg2 : Gl X (Str.ofString t.nm)) (hm2 : X.mg (Str.ofString t.nm) = none) (hs : noStar a = true) :
    OkE X C (.Call (.Name "isinstance" p) [a, .Name (Str.ofString t.nm) p2] [] pos) fun st => (ma st).bind fun x => if isDictD x.1 = true then none else some (.bool (isTy t x.1), x.2) := fun st d st' h => by
  obtain ⟨⟨d1, s1⟩, e1, h⟩ := bind_some h
  split at h
  · cases h
  rename_i nd
  have nd : isDictD d1 = false := by simpa using nd
  cases h
  refine (pe_callB call_isi hg hm PyProof.Rows.boot_isinstance (pa_cons (ha _ _ _ e1) (pa_cons (pe_bltn (v := .ty t.nm) hg2 hm2 (boot_ty t) rfl (by cases t <;> decide +kernel) (by cases t <;> decide +kernel)) pa_nil rfl) (nostar_cons (noStar_ne hs))) (by decide) (by decide) (nostar_cons (noStar_ne hs)) (plain_args (by rfl))).weak fun σ H Q q => ?_
  obtain ⟨G, ws, S, q⟩ := q
  refine ⟨G, ws, S, fun x H1 S1 r1 => ?_⟩
  have r2 := r1.le (hide_le H1 _)
  exact ⟨x, .ty t.nm, .type (tyN d1), .type t.nm, isTy t d1, rfl, .ty _, ty_of nd r2, kit_isTy, q _ H1 S1 (.bl _)⟩
theorem okE_isi2 {C : Cc} {a : Expr} {ma : SS → Option (D × SS)} {p p2 p3 p4 pos : Pos} {k4 : Nat} {t u : Ty} (ha : OkE X C a ma) (hg : Gl X "isinstance") (hm : X.mg "isinstance" = none) (hg2 : Gl X (Str.ofString t.nm)) (hm2 : X.mg (Str.ofString t.nm) = none) (hg3 : Gl X (Str.ofString u.nm)) (hm3 : X.mg (Str.ofString u.nm) = none) (hs : noStar a = true) :
    OkE X C (.Call (.Name "isinstance" p) [a, .Tuple [.Name (Str.ofString t.nm) p2, .Name (Str.ofString u.nm) p3] k4 p4] [] pos) fun st => (ma st).bind fun x => if isDictD x.1 = true then none else some (.bool (isTy t x.1 || isTy u x.1), x.2) := fun st d st' h => by
  obtain ⟨⟨d1, s1⟩, e1, h⟩ := bind_some h
  split at h
  · cases h
  rename_i nd
  have nd : isDictD d1 = false := by simpa using nd
  cases h
  refine (pe_callB call_isiT hg hm PyProof.Rows.boot_isinstance (pa_cons (ha _ _ _ e1) (pa_cons (pe_tup (pa_cons (pe_bltn (v := .ty t.nm) hg2 hm2 (boot_ty t) rfl (by cases t <;> decide +kernel) (by cases t <;> decide +kernel)) (pa_cons (pe_bltn (v := .ty u.nm) hg3 hm3 (boot_ty u) rfl (by cases u <;> decide +kernel) (by cases u <;> decide +kernel)) pa_nil rfl) rfl)) pa_nil rfl) (nostar_cons (noStar_ne hs))) (by decide) (by decide) (nostar_cons (noStar_ne hs)) (plain_args (by rfl))).weak fun σ H Q q => ?_
  obtain ⟨G, ws, S, q⟩ := q
  refine ⟨G, ws, S, fun x H1 S1 r1 => ⟨by show 2 ≤ sizeLine; decide, fun tp ht => ?_⟩⟩
  have r2 := (r1.le (hide_le H1 _)).le (Hx.new (o := .tup [.ty t.nm, .ty u.nm]) ht).le
  refine ⟨x, tp, [.ty t.nm, .ty u.nm], .type (tyN d1), [.type t.nm, .type u.nm], isTy t d1 || isTy u d1, rfl, upd_same, .cons (.ty _) (.cons (.ty _) .nil), ty_of nd r2, ?_, q _ _ (S1.ex (Hx.new ht)) (.bl _)⟩
  unfold W.kitAny
  rw [kit_isTy]
  cases isTy t d1 with
  | true => rfl
  | false =>
    unfold W.kitAny
    rw [kit_isTy]
    cases isTy u d1 <;> rfl
/-! a display of a list, times a number -/
theorem okE_rep {C : Cc} {es : List Expr} {b : Expr} {m : SS → Option (List D × SS)} {mb : SS → Option (D × SS)} {p pos : Pos} (h : OkA X C es m) (hb : OkE X C b mb) :
    OkE X C (.BinOp (.List es p) .Mult b pos) fun st => (m st).bind fun r => (mb r.2).bind fun x => (intOf x).bind fun i => if r.1.length ≤ 100 ∧ 0 ≤ i.1 ∧ i.1 ≤ 1000 then some (.list (List.replicate i.1.toNat r.1).flatten, i.2) else none := fun st d st' e => by
  obtain ⟨⟨ds, s1⟩, e1, e⟩ := bind_some e
  obtain ⟨x, e2, e⟩ := bind_some e
  obtain ⟨⟨k, s2⟩, e3, e⟩ := bind_some e
  rw [intOf_some e3] at e2
  split at e
  · rename_i hc
    cases e
    obtain ⟨c1, c2, c3⟩ := hc
    have c1 : ds.length ≤ 100 := c1
    have c2 : 0 ≤ k := c2
    have c3 : k ≤ 1000 := c3
    refine (pe_op op_rep (pe_lst (h _ _ _ e1)) (hb _ _ _ e2)).weak fun σ H Q q => ?_
    obtain ⟨G, ws, S, q⟩ := q
    refine ⟨G, ws, S, fun xs H1 S1 r1 => ⟨by rw [r1.length]; exact Nat.le_trans c1 (by decide), fun p hp => ?_⟩⟩
    have S2 := S1.ex (Hx.new (o := .lst xs) hp)
    have n1 : p ∉ C.M ws := new_out S1.trk hp
    have v1 : C.vis ws (upd H1 p (.lst xs)) p = some (.lst xs) := new_vis S1.trk hp
    refine ⟨C.vis ws (upd H1 p (.lst xs)), ws, S2.up, fun y H2 S3 r3 => ?_⟩
    have v2 := S3.vis p _ v1 (by intro ps z; cases z)
    have hl := r1.length
    refine ⟨p, k, xs, rfl, r3.int_inv, (of_hide v2).2, by omega, by omega, ?_, fun p2 hp2 => ?_⟩
    · have : xs.length * k.toNat ≤ 100 * 1000 := Nat.mul_le_mul (by omega) (by omega)
      exact Nat.le_trans this (by decide)
    · have S4 := (S3.down S2.vis).ex (Hx.new (o := .lst (List.replicate k.toNat xs).flatten) hp2)
      exact q _ _ S4 (dp_newL S3.trk hp2 ((r1.le (((Hx.new hp).hide _).trans S3.vis)).rep _))
  · cases e
/-! the lists that are changed in place -/
theorem core_oNe {C : Cc} {i : Nat} {st st' : SS} {d : D} (h : ((getO st i).bind fun ds => if SeqAt.shaped (.list ds) = true then some ((.bool (!ds.isEmpty) : D), st) else none) = some (d, st')) :
    (∃ k, d = .bool k) ∧ ∀ σ H Q, tV X.K C st st' d σ H Q → tOp (rNeD X.K) (tVar i) (tLst tNil) σ H Q := by
  obtain ⟨ds, e1, h⟩ := bind_some h
  split at h
  · rename_i hsh
    cases h
    refine ⟨⟨_, rfl⟩, fun σ H Q ⟨G, ws, S, q⟩ => ?_⟩
    obtain ⟨a', vs, m, o, hL, r⟩ := S.rep i _ (getO_some e1)
    refine ⟨_, o, Nat.zero_le _, fun p hp => ?_⟩
    have e := Hx.new (o := .lst []) hp
    have S2 := S.ex e
    refine ⟨.list ds, .list [], .lst (.inl (.inl (e _ _ hL))) (((r.le (e.hide _)).le (hide_le _ _)).dp (by have := SeqAt.canLay_of_shaped hsh; rw [PyData.canLay0] at this; exact this)), .lst (.inl (.inl upd_same)) .nil, hsh, by decide +kernel, ?_⟩
    have eb : (!PyData.eqv (.list ds) (.list [])) = !ds.isEmpty := by cases ds <;> simp [PyData.eqv, PyData.eqvAll]
    rw [eb]
    exact q _ _ S2 (.bl _)
  · cases h
theorem tri_read {C : Cc} {e : Expr} {t : TE} {m : SS → Option (D × SS)} (hE : PE X e t) (hT : PT X e (tTest t)) (h : ∀ st d st', m st = some (d, st') → (∃ k, d = .bool k) ∧ ∀ σ H Q, tV X.K C st st' d σ H Q → t σ H Q) : OkE X C e m ∧ OkT X C e (tm m) := by
  refine ⟨fun st d st' q => hE.weak fun σ H Q => (h _ _ _ q).2 σ H Q, fun st b st' q => hT.weak fun σ H Q ⟨G, ws, S, z⟩ => ?_⟩
  exact (h _ _ _ (tm_some q)).2 σ H _ ⟨G, ws, S, fun v H2 S2 r2 => ⟨b, r2.bl_inv, z H2 S2⟩⟩
theorem okE_oNe {C : Cc} {a : Expr} {i : Nat} {p2 pos : Pos} (hu : X.A.units + 100 < cLine) (ha : PE X a (tVar i)) :
    OkE X C (.Compare a [.NotEq] [.List [] p2] pos) (fun st => (getO st i).bind fun ds => if SeqAt.shaped (.list ds) = true then some (.bool (!ds.isEmpty), st) else none) ∧ OkT X C (.Compare a [.NotEq] [.List [] p2] pos) (tm fun st => (getO st i).bind fun ds => if SeqAt.shaped (.list ds) = true then some (.bool (!ds.isEmpty), st) else none) :=
  tri_read (pe_cmpR (op_neD (by omega)) ha (pe_lst pa_nil) (nomark _)) (pt_cmpR (op_neD (by omega)) ha (pe_lst pa_nil) (nomark _)) fun st d st' h => core_oNe h
/-- in, not in: the same reading but for the answer -/
def rInB (K : W.Frag) (neg : Bool) : R2 := fun x y H Q => ∃ d ds, Dp K H x d ∧ Dp K H y (.list ds) ∧ SeqAt.shaped d = true ∧ SeqAt.shaped (.list ds) = true ∧ Q (.bl (neg != ds.any fun z => PyData.eqv z d)) H
theorem op_inB {neg : Bool} (hu : X.A.units + 65 < cLine) : OpR X (compareOp (if neg then .NotIn else .In)) (rInB X.K neg) := by
  intro pins s σ H x y v u Q I rx ry ⟨d, ds, hd, he, sd, se, q⟩
  cases neg with
  | false => exact op_inD hu pins s σ H x y v u Q I rx ry ⟨d, ds, hd, he, sd, se, by rw [Bool.false_bne] at q; exact q⟩
  | true => exact op_notInD hu pins s σ H x y v u Q I rx ry ⟨d, ds, hd, he, sd, se, by rw [Bool.true_bne] at q; exact q⟩
theorem okE_oIn {C : Cc} {a b : Expr} {ma : SS → Option (D × SS)} {i : Nat} {neg : Bool} {pos : Pos} (hu : X.A.units + 100 < cLine) (ha : OkE X C a ma) (hb : PE X b (tVar i)) (hm : behindInMarks (if neg then .NotIn else .In) b = false) :
    OkE X C (.Compare a [if neg then .NotIn else .In] [b] pos) (fun st => (ma st).bind fun x => (getO x.2 i).bind fun ds => (inD x.1 ds).map fun c => (.bool (neg != c), x.2)) ∧ OkT X C (.Compare a [if neg then .NotIn else .In] [b] pos) (tm fun st => (ma st).bind fun x => (getO x.2 i).bind fun ds => (inD x.1 ds).map fun c => (.bool (neg != c), x.2)) := by
  have core : ∀ st d st', ((ma st).bind fun x => (getO x.2 i).bind fun ds => (inD x.1 ds).map fun c => ((.bool (neg != c) : D), x.2)) = some (d, st') → ∃ d1 s1, ma st = some (d1, s1) ∧ (∃ k, d = .bool k) ∧ ∀ σ H Q, tV X.K C st st' d σ H Q → tOp (rInB X.K neg) (tV X.K C st s1 d1) (tVar i) σ H Q := fun st d st' h => by
    obtain ⟨⟨d1, s1⟩, e1, h⟩ := bind_some h
    obtain ⟨ds, e2, h⟩ := bind_some h
    obtain ⟨c, e3, h⟩ := map_some h
    cases h
    obtain ⟨h1, h2, rfl⟩ := inD_some e3
    refine ⟨d1, _, e1, ⟨_, rfl⟩, fun σ H Q ⟨G, ws, S, q⟩ => ⟨G, ws, S, fun x H1 S1 r1 => ?_⟩⟩
    obtain ⟨a', vs, m, o, hL, r⟩ := S1.rep i _ (getO_some e2)
    exact ⟨_, o, d1, ds, (r1.le (hide_le _ _)).dp (SeqAt.canLay_of_shaped h1), .lst (.inl (.inl hL)) ((r.le (hide_le _ _)).dp (by have := SeqAt.canLay_of_shaped h2; rw [PyData.canLay0] at this; exact this)), h1, h2, q _ _ S1 (.bl _)⟩
  refine ⟨fun st d st' h => ?_, fun st b' st' h => ?_⟩
  · obtain ⟨d1, s1, e1, _, k⟩ := core _ _ _ h
    exact (pe_cmpR (op_inB (by omega)) (ha _ _ _ e1) hb hm).weak fun σ H Q => k σ H Q
  · obtain ⟨d1, s1, e1, _, k⟩ := core _ _ _ (tm_some h)
    exact (pt_cmpR (op_inB (by omega)) (ha _ _ _ e1) hb hm).weak fun σ H Q ⟨G, ws, S, z⟩ => k σ H _ ⟨G, ws, S, fun v H2 S2 r2 => ⟨b', r2.bl_inv, z H2 S2⟩⟩
end
end Pv

/-! for i, x in enumerate(t), t a tuple. -/
namespace Pv
open PySem L2
variable [HashW]
theorem enumNewT (t : Addr) (items : Array Value) :
    Meets (Builtin.«enumerate.__new__» ⟨[.type "enumerate", .ref t], []⟩) (fun _ R s => s.heap.IsTuple t items ∧
      R (.ok (.ret (.ref (s.heap.objs.size + 1)))) { s with heap := (s.heap.push { cls := .type "tuple_iterator", data := .fields #[.ref t, .int 0 0] }).push { cls := .type "enumerate", data := .fields #[.none, .bool false, .ref s.heap.objs.size, rawInt 0, .none, .none] } }) :=
  .of_wp fun prog w A R s h => by
    obtain ⟨hp, gs, dr, tk, os⟩ := s
    obtain ⟨ht, h⟩ := h
    have hsub := sub_enumerate
    have hT : Heap.IsTuple (Shared.heap ⟨hp, gs, dr, tk, os⟩) t items := ht
    have hz : ∀ o : Obj, o.isFreed = false → (hp.push o).objs.size = hp.objs.size + 1 := fun o _ => Heap.size_push ..
    wp_walk
    refine wpAny_stack_any fun st => wpAny_pure ?_
    split
    · rename_i c _ _ _ _ _
      cases (c == Value.type "enumerate")
      all_goals (wp_walk using wpAny_pyIter_tuple hT)
      all_goals (rw [hz _ rfl]; exact ⟨_, rfl, h⟩)
    · wp_walk using wpAny_pyIter_tuple hT
      rw [hz _ rfl]
      exact ⟨_, rfl, h⟩
section
variable {prog : Program} {w : World} {A : Around} {E : Value → Shared → Prop} {s : Shared}
theorem call_enumT {t : Addr} {items : Array Value} {Q : Value → Shared → Prop} (ht : s.heap.IsTuple t items)
    (h : ∀ h', IsEnum h' (s.heap.objs.size + 1) s.heap.objs.size 0 .none → h'.IsTupleIter s.heap.objs.size t 0 → h'.objs.size = s.heap.objs.size + 2 → (∀ b o, s.heap.get? b = some o → h'.get? b = some o) → Q (.ref (s.heap.objs.size + 1)) { s with heap := h' }) :
    wpAny (model prog w) A (call (.type "enumerate") [.ref t]) Q E s := by
  have hz : (s.heap.push { cls := .type "tuple_iterator", data := .fields #[.ref t, .int 0 0] }).objs.size = s.heap.objs.size + 1 := Heap.size_push ..
  have he : IsEnum ((s.heap.push { cls := .type "tuple_iterator", data := .fields #[.ref t, .int 0 0] }).push { cls := .type "enumerate", data := .fields #[.none, .bool false, .ref s.heap.objs.size, rawInt 0, .none, .none] }) (s.heap.objs.size + 1) s.heap.objs.size 0 .none := by
    rw [← hz]
    exact Heap.get?_push_size _ rfl
  refine callType_new F.called_enumerate (by decide) (F.typeCall_enumerate_1 _) (F.newCall_enumerate_1 _) (fun obj => F.args_object_init_2 obj _) F.entry_enumerate_new (enumNewT t items) ⟨ht, ?_⟩
  show _ ∧ _
  exact ⟨⟨_, he, rfl⟩, h _ he ⟨_, Heap.get?_push_of_some _ (Heap.get?_push_size _ rfl), rfl, rfl⟩ (by rw [Heap.size_push, hz]) fun b o y => Heap.get?_push_of_some _ (Heap.get?_push_of_some _ y)⟩
end
/-- the tuple at a as it stands, each item in a new pair -/
def IteT (K : W.Frag) (a : Addr) : It :=
  ⟨fun i H => ∃ (xs : List V) (x : V), SqT K H a xs ∧ xs[i]? = some x, fun i H v H' => ∃ T x, v = .ref T ∧ H T = none ∧ H' = upd H T (.tup [.int (i : Nat), x]) ∧ ∀ xs, SqT K H a xs → xs[i]? = some x, fun i H => ∃ xs : List V, SqT K H a xs ∧ xs.length ≤ i⟩
theorem turn_enumT {P : Program} {w : World} {K : W.Frag} {elts : List Expr} {kk : Nat} {tpos : Pos} (a e it : Addr) (hai : a ≠ it) (hei : e ≠ it) (hea : e ≠ a) :
    Turn P w K (.Tuple elts kk tpos) (IteT K a) [e, it] e (fun i h => (∃ old, IsEnum h e it ((i : Nat) : Int) old) ∧ h.IsTupleIter it a i) where
  mem := by simp
  obj := fun i h st b hb => by
    obtain ⟨⟨old, he⟩, ⟨o, ho, hc, hd⟩⟩ := st
    rcases List.mem_cons.mp hb with z | z
    · rw [z]; exact ⟨_, he, fun v q => nomatch q⟩
    · rw [List.mem_singleton.mp z]; exact ⟨o, ho, fun v q => by rw [hd] at q; cases q⟩
  keep := fun i h h' st k => let ⟨⟨old, he⟩, hi⟩ := st; ⟨⟨old, k e (by simp) _ he⟩, hi.at fun o q => k it (by simp) o q⟩
  item := by
    intro X hP hw hK hc i pins s σ H E I hf st hg
    subst hP hw hK
    obtain ⟨⟨old, he⟩, hit⟩ := st
    obtain ⟨xs, x, hq, hx⟩ := hg
    obtain ⟨its, rv, p, hz⟩ := I.tuple hq
    obtain ⟨u, hu, ru⟩ := rv.get hx
    have hel : e < s.heap.objs.size := Heap.lt_size he
    have hil : it < s.heap.objs.size := by obtain ⟨_, q, _⟩ := hit; exact Heap.lt_size q
    have hit0 : s.heap.IsTuple a its.toArray := p
    have hlt : i < its.toArray.size := by
      rw [List.size_toArray]; exact (List.getElem?_eq_some_iff.mp hu).1
    have Dr := Draws.tuple (prog := X.prog) (w := X.w) (A := X.A.in1) (I.ok.hd hc) it a hai its.toArray
    refine wpAny_pyNext_enum_itemD Dr he ⟨hit, hit0⟩ hlt hei (by simp only [List.mem_cons, List.not_mem_nil, or_false, not_or]; exact ⟨hei, hea⟩) fun x' h' tk hPx ho hs' hT hsz hk => ?_
    have hxu : x' = u := by
      have q : its.toArray[i]? = some u := by simpa using hu
      exact Option.some.inj (hPx.symm.trans q)
    subst hxu
    refine ⟨_, rfl, wpAny_letOwnedTupleGo_enum (s := { s with heap := h', toks := tk + 1 }) ho fun h'' he' sb => ?_⟩
    have hT2 : h''.get? s.heap.objs.size = some { cls := .type "tuple", data := .seq #[.int i tk, x'] } := (sb.2 _ (Nat.ne_of_gt hel)).trans hT
    have new : ObjOk X.prog X.w (upd H s.heap.objs.size (.tup [.int (i : Nat), x])) h'' s.heap.objs.size (.tup [.int (i : Nat), x]) :=
      ⟨by show 2 ≤ sizeLine; decide, [.int i tk, x'], .cons ⟨_, rfl⟩ (.cons ru .nil), ⟨_, hT2, rfl, _, rfl⟩⟩
    have I1 := I.turnedNew (t' := tk + 1) (ch := [e, it]) (h' := h'') (ob := .tup [.int (i : Nat), x]) (fun b ob hb q => (sb.2 b (fun z => hb (by simp [z]))).trans (hk b ob (fun z => hb (by simp [z])) (fun z => hb (by simp [z])) q)) hf (Nat.le_refl _) new
    refine ⟨.ref s.heap.objs.size, _, I1, rfl, ⟨_, x, rfl, I.hok.fresh (Nat.le_refl _), rfl, fun ys hy => by rw [I.tuple_inj hy hq]; exact hx⟩, ⟨⟨x', ?_⟩, hs'.1.at fun o q => (sb.2 it (Ne.symm hei)).trans q⟩, fun b hb => ?_⟩
    · have e1 : ((i + 1 : Nat) : Int) = (i : Int) + 1 := by omega
      rw [e1]; exact he'
    · have hb' : b < s.heap.objs.size := by
        rcases List.mem_cons.mp hb with z | z
        · rw [z]; exact hel
        · rw [List.mem_singleton.mp z]; exact hil
      rw [upd_ne (Nat.ne_of_lt hb')]
      exact (hf b hb).1
  done := by
    intro X hP hw hK hc i pins s σ H E I hf st hg
    subst hP hw hK
    obtain ⟨⟨old, he⟩, hit⟩ := st
    obtain ⟨xs, hq, hx⟩ := hg
    obtain ⟨its, rv, p, hz⟩ := I.tuple hq
    obtain ⟨f0, f1, f2, f3, f4, f5⟩ := hf it (by simp)
    have hl := rv.length
    have hit0 : s.heap.IsTuple a its.toArray := p
    have hT : s.TypeIs (.ref e) "enumerate" := ⟨_, he, rfl⟩
    unfold pyNext
    refine wpAny_bind (wpAny_attempt (wpAny_callSpecial?_slot (name := Str.ofString "__next__") hT F.slot_enumerate_next (wpAny_call_entry F.slot_enumerate_next hT F.entry_enumerate_next ?_ (F.args_enumerate_next_1 _))))
    show wpAny _ _ (field (.ref e) 2 >>= _) _ _ _
    refine wpAny_bind (wpAny_field he rfl (x := .ref it) rfl ?_)
    refine wpAny_bind (wpAny_nextOf_tuple_end (I.ok.hd hc) hit hit0 (by simp; omega) fun h' x he2 hx2 => ?_)
    obtain ⟨o, ho, hc2⟩ := hx2
    refine wpAny_bind (wpAny_isInstance (T := "StopIteration") (b := true) ⟨o, ho, hc2⟩ isSubtype_stop ?_)
    exact wpAny_pure ⟨rfl, I.turned (t' := s.toks) (fun b ob hb q => he2 b ob hb q) f0 f1 f3 f4 f5⟩
  self := fun A i s Q E st h => let ⟨⟨_, he⟩, _⟩ := st; wpAny_pyIter_enum he h
def iEnumT (K : W.Frag) (ta : TA) : TI := fun σ H R => ta σ H fun vs H1 => ∃ a xs, vs = [.ref a] ∧ SqT K H1 a xs ∧ R (IteT K a) H1
theorem pi_enumT {X : Cx} {e : Expr} {ta : TA} {p pos tpos : Pos} {elts : List Expr} {kk : Nat} (hg : Gl X "enumerate") (hm : X.mg "enumerate" = none) (ha : PA X [e] ta) (hs : starEach [e] X.env = [(false, eval e X.env)]) :
    PI X (.Tuple elts kk tpos) (.Call (.Name "enumerate" p) [e] [] pos) (iEnumT X.K ta) := by
  refine ⟨fun pins s σ H R I h => PyProof.Rows.Call_ (ld_blt I hg hm PyProof.Rows.boot_enumerate (PyProof.Rows.callWith_type1 (thn (ha.run pos pins s σ H _ I h) fun us s1 ⟨vs, H1, I1, r1, a, xs, ex, hq, q⟩ => ?_) hs rfl))⟩
  subst ex
  obtain ⟨u, rfl, ru⟩ := vals1 r1
  obtain rfl : u = Value.ref a := ru
  obtain ⟨its, rv, p', hz⟩ := I1.tuple hq
  have hlt : a < s1.heap.objs.size := p'.lt
  refine call_enumT (items := its.toArray) p' fun h' he hit hsz hk => wpAny_pyIter_enum he ?_
  have I2 : L2.Inv X pins σ H1 { s1 with heap := h' } := I1.kept (t' := s1.toks) hk
  have hle : ∀ b ∈ [s1.heap.objs.size + 1, s1.heap.objs.size], s1.heap.objs.size ≤ b := by
    intro b hb
    rcases List.mem_cons.mp hb with z | z
    · rw [z]; exact Nat.le_succ _
    · rw [List.mem_singleton.mp z]; exact Nat.le_refl _
  refine ⟨s1.heap.objs.size + 1, [s1.heap.objs.size + 1, s1.heap.objs.size], _, _, H1, rfl, I2, turn_enumT a (s1.heap.objs.size + 1) s1.heap.objs.size (Nat.ne_of_lt hlt) (Nat.succ_ne_self _) (Nat.ne_of_gt (Nat.lt_succ_of_lt hlt)), ⟨⟨.none, he⟩, hit⟩, fun b hb => I1.fpOk (hle b hb) (I1.hok.fresh (hle b hb)), q⟩
end Pv

/-! Targets, walks, list comprehensions. -/
namespace Pv
open PySem L2
variable [HashW]
theorem hide_congr {H : Hp} {M M' : List Addr} (h : ∀ a, a ∈ M ↔ a ∈ M') : hide H M = hide H M' := by
  funext b
  unfold hide
  by_cases hb : b ∈ M
  · rw [if_pos hb, if_pos ((h b).mp hb)]
  · rw [if_neg hb, if_neg fun z => hb ((h b).mpr z)]
section
variable {K : W.Frag} {C : Cc} {G : Hp} {ws : Ws} {st st' : SS} {σ : L2.St} {H H' : Hp}
/-! ### a slot gets data -/
theorem SI.setV {i : Nat} {d : D} {v : V} (S : SI K C G ws st σ H) (h : setV st i d = some st') (r : Rp K (C.vis ws H) v d) : SI K C G ws st' (σ.set i (some v)) H := by
  unfold Pv.setV at h
  split at h
  · rename_i hi
    cases h
    refine ⟨by rw [List.length_set, List.length_set]; exact S.len, fun j s hj => ?_, S.nod, S.frm, S.vis, S.m0, S.wsn, S.wst, S.inM, S.tbs⟩
    by_cases e : i = j
    · subst e
      rw [List.getElem?_set_self hi] at hj
      cases hj
      exact ⟨v, by rw [List.getElem?_set_self (by rw [← S.len]; exact hi)], r⟩
    · rw [List.getElem?_set_ne e] at hj
      rw [List.getElem?_set_ne e]
      exact S.rep j s hj
  · cases h
/-- what the targets have become -/
def setsV (σ : L2.St) : List Nat → List V → L2.St
  | i :: is, v :: vs => setsV (σ.set i (some v)) is vs
  | _, _ => σ
theorem SI.setVs {is : List Nat} : ∀ {ds : List D} {vs : List V} {st st' : SS} {σ : L2.St} (S : SI K C G ws st σ H) (h : Pv.setVs is ds st = some st') (r : RpAll K (C.vis ws H) vs ds), SI K C G ws st' (setsV σ is vs) H := by
  induction is with
  | nil =>
    intro ds vs st st' σ S h r
    cases ds with
    | nil =>
      obtain rfl := r.nil_inv
      cases h; exact S
    | cons d ds => cases h
  | cons i is ih =>
    intro ds vs st st' σ S h r
    cases ds with
    | nil => cases h
    | cons d ds =>
      obtain ⟨v, us, rfl, r1, r2⟩ := r.cons_inv
      obtain ⟨s1, e1, e2⟩ := bind_some h
      exact ih (S.setV e1 r1) e2 r2
theorem setsV_off : ∀ {is : List Nat} {vs : List V} {σ : L2.St} {j : Nat}, j ∉ is → (setsV σ is vs)[j]? = σ[j]?
  | [], _, _, _, _ => by simp [setsV]
  | _ :: _, [], _, _, _ => by simp [setsV]
  | i :: is, v :: vs, σ, j, h => by
    rw [List.mem_cons, not_or] at h
    show (setsV (σ.set i (some v)) is vs)[j]? = _
    rw [setsV_off h.2, List.getElem?_set_ne (Ne.symm h.1)]
theorem setsV_len : ∀ {is : List Nat} {vs : List V} {σ : L2.St}, (setsV σ is vs).length = σ.length
  | [], _, _ => by simp [setsV]
  | _ :: _, [], _ => by simp [setsV]
  | i :: is, v :: vs, σ => by
    show (setsV (σ.set i (some v)) is vs).length = _
    rw [setsV_len, List.length_set]
end
/-- a target gets the value of d -/
def tVG (K : W.Frag) (C : Cc) (st st' : SS) (d : D) (is : List Nat) : TG := fun v σ H Q => ∃ G ws, SI K C G ws st σ H ∧ Rp K (C.vis ws H) v d ∧ ∀ σ', SI K C G ws st' σ' H → (∀ j, j ∉ is → σ'[j]? = σ[j]?) → σ'.length = σ.length → Q σ' H
def OkG (X : Cx) (C : Cc) (tg : Expr) (one : Bool) (is : List Nat) : Prop := ∀ st d st', asgT one is d st = some st' → PG X tg (tVG X.K C st st' d is)
theorem PG_weak {X : Cx} {tg : Expr} {t t' : TG} (h : PG X tg t) (w : ∀ v σ H Q, t' v σ H Q → t v σ H Q) : PG X tg t' := ⟨fun pins s σ H v u Q I r q => h.run pins s σ H v u Q I r (w v σ H Q q)⟩
def gNames : List Nat → TGs
  | [] => gNil
  | i :: is => gCons (gName i) (gNames is)
theorem gNames_of : ∀ {is : List Nat} {vs : List V} {σ : L2.St} {H : Hp} {Q : L2.St → Hp → Prop}, is.length = vs.length → Q (setsV σ is vs) H → gNames is vs σ H Q
  | [], [], _, _, _, _, q => ⟨rfl, q⟩
  | [], _ :: _, _, _, _, h, _ => by cases h
  | _ :: _, [], _, _, _, h, _ => by cases h
  | i :: is, v :: vs, σ, H, Q, h, q => ⟨v, vs, rfl, gNames_of (is := is) (vs := vs) (σ := σ.set i (some v)) (by simpa using h) q⟩
theorem setVs_len : ∀ {is : List Nat} {ds : List D} {st st' : SS}, setVs is ds st = some st' → is.length = ds.length
  | [], [], _, _, _ => rfl
  | [], _ :: _, _, _, h => by cases h
  | _ :: _, [], _, _, h => by cases h
  | i :: is, d :: ds, st, st', h => by
    obtain ⟨s1, e1, e2⟩ := bind_some h
    rw [List.length_cons, List.length_cons, setVs_len e2]
section
variable {X : Cx} {C : Cc}
theorem okG_one {x : Str} {i : Nat} {pos : Pos} (hN : X.N.Nodup) (hi : X.N[i]? = some x) (hx : Loc X.env.scope x) (hf : X.fn x = true ∨ X.env.scope.names.lookup x = some .local) : OkG X C (.Name x pos) true [i] := fun st d st' h => by
  refine PG_weak (pg_name hN hi hx hf) fun v σ H Q q => ?_
  obtain ⟨G, ws, S, r, q⟩ := q
  have h : setV st i d = some st' := h
  exact q _ (S.setV h r) (fun j hj => List.getElem?_set_ne (fun e => hj (by rw [← e]; exact List.mem_singleton_self i))) (List.length_set ..)
/-- names, one for a slot -/
def NamesAt (N : List Str) : List Nat → List Expr → Bool
  | [], [] => true
  | i :: is, .Name x _ :: es => decide (N[i]? = some x) && NamesAt N is es
  | _, _ => false
theorem pgs_names {sc : Scope} (hN : X.N.Nodup) (hl : ∀ x, sc.names.lookup x = some .local ∨ sc.names.lookup x = some .cell → Loc X.env.scope x ∧ (X.fn x = true ∨ X.env.scope.names.lookup x = some .local)) :
    ∀ {is : List Nat} {es : List Expr}, NamesAt X.N is es = true → (es.all fun e => match e with | .Name x _ => decide (sc.names.lookup x = some .local) || decide (sc.names.lookup x = some .cell) | _ => false) = true → PGs X es (gNames is) ∧ (assignEach es X.env).length = es.length ∧ (assignEach es X.env).findIdx? (·.1) = none
  | [], [], _, _ => ⟨pgs_nil, by simp [assignEach], by simp [assignEach]⟩
  | [], _ :: _, h, _ => by simp [NamesAt] at h
  | _ :: _, [], h, _ => by simp [NamesAt] at h
  | i :: is, e :: es, h, h2 => by
    cases e with
    | Name x p =>
      have h : (decide (X.N[i]? = some x) && NamesAt X.N is es) = true := h
      rw [Bool.and_eq_true, decide_eq_true_eq] at h
      rw [List.all_cons, Bool.and_eq_true] at h2
      have hx : sc.names.lookup x = some .local ∨ sc.names.lookup x = some .cell := by simpa using h2.1
      obtain ⟨l1, l2⟩ := hl x hx
      obtain ⟨r1, r2, r3⟩ := pgs_names hN hl (is := is) (es := es) h.2 h2.2
      refine ⟨pgs_cons (pg_name hN h.1 l1 l2) r1 (by rfl), ?_, ?_⟩
      · show (_ :: _).length = _
        rw [List.length_cons, List.length_cons, r2]
      · show ((false, _) :: assignEach es X.env).findIdx? (·.1) = none
        rw [List.findIdx?_cons, r3]
        rfl
    | _ => simp [NamesAt] at h
theorem okG_many {sc : Scope} {is : List Nat} {es : List Expr} {k : Nat} {pos : Pos} (hc : X.calm = true) (hN : X.N.Nodup) (hl : ∀ x, sc.names.lookup x = some .local ∨ sc.names.lookup x = some .cell → Loc X.env.scope x ∧ (X.fn x = true ∨ X.env.scope.names.lookup x = some .local))
    (h1 : NamesAt X.N is es = true) (h2 : (es.all fun e => match e with | .Name x _ => decide (sc.names.lookup x = some .local) || decide (sc.names.lookup x = some .cell) | _ => false) = true) : OkG X C (.Tuple es k pos) false is := fun st d st' h => by
  obtain ⟨p1, p2, p3⟩ := pgs_names hN hl h1 h2
  cases d with
  | tuple ds =>
    have h : setVs is ds st = some st' := h
    refine PG_weak (pg_tup hc p1 p2 p3) fun v σ H Q q => ?_
    obtain ⟨G, ws, S, r, q⟩ := q
    obtain ⟨a, vs, rfl, ha, ra⟩ := r.tup_inv
    have hlen : es.length = is.length := by
      clear h2 p1 p2 p3 h q ra ha S
      have : ∀ (is : List Nat) (es : List Expr), NamesAt X.N is es = true → es.length = is.length := by
        intro is
        induction is with
        | nil => intro es h; cases es with
          | nil => rfl
          | cons e es => simp [NamesAt] at h
        | cons i is ih => intro es h; cases es with
          | nil => simp [NamesAt] at h
          | cons e es =>
            cases e with
            | Name x p =>
              have h : (decide (X.N[i]? = some x) && NamesAt X.N is es) = true := h
              rw [Bool.and_eq_true] at h
              rw [List.length_cons, List.length_cons, ih es h.2]
            | _ => simp [NamesAt] at h
      exact this is es h1
    have hl2 : is.length = vs.length := by rw [setVs_len h, ra.length]
    refine ⟨a, vs, rfl, sqT_h ha, by omega, gNames_of hl2 ?_⟩
    exact q _ (S.setVs h ra) (fun j hj => setsV_off hj) setsV_len
  | _ => cases h
end

/-! ### walks -/
/-- J yields what ds tells as long as G is kept -/
def ItOk (K : W.Frag) (G : Hp) (J : It) (ds : List D) : Prop := ∀ (i : Nat) (H : Hp) (M : List Addr), Le G (hide H M) → (∀ a ∈ M, ∃ o, H a = some o) →
  (∀ d, ds[i]? = some d → J.go i H ∧ ∀ x H', J.yld i H x H' → Hx H H' ∧ Rp K (hide H' M) x d) ∧ (ds.length ≤ i → J.stop i H)
def tVW (K : W.Frag) (C : Cc) (st st' : SS) (ds : List D) : TI := fun σ H R => ∃ G ws, SI K C G ws st σ H ∧ ∀ J H2, SI K C G ws st' σ H2 → ItOk K (C.vis ws H2) J ds → R J H2
def OkW (X : Cx) (C : Cc) (tg it : Expr) (m : SS → Option (List D × SS)) : Prop := ∀ st ds st', m st = some (ds, st') → PI X tg it (tVW X.K C st st' ds)
theorem PI_weak {X : Cx} {tg it : Expr} {t t' : TI} (h : PI X tg it t) (w : ∀ σ H R, t' σ H R → t σ H R) : PI X tg it t' := ⟨fun pins s σ H R I q => h.run pins s σ H R I (w σ H R q)⟩
theorem rd_fun {K : W.Frag} {X : Cx} {G : Hp} {a : Addr} {xs ys : List V} (h1 : Rd G a (.lst xs)) (h2 : Rd G a (.lst ys)) : xs = ys := by
  rcases h1 with h1 | ⟨o, h1⟩ <;> rcases h2 with h2 | ⟨o2, h2⟩ <;> rw [h1] at h2 <;> cases h2 <;> rfl
theorem get_none {α : Type} {l : List α} {i : Nat} (h : l.length ≤ i) {d : α} : l[i]? ≠ some d := by
  rw [List.getElem?_eq_none h]; intro z; cases z
theorem itOk_list {K : W.Frag} {G : Hp} {a : Addr} {vs : List V} {ds : List D} (ha : SqL K G a vs) (r : RpAll K G vs ds) : ItOk K G (Itl K a) ds := fun i H M l tr => by
  have hH : SqL K H a vs := sqL_h (l.sqL ha)
  refine ⟨fun d hd => ?_, fun hi => ⟨vs, hH, by rw [r.length]; exact hi⟩⟩
  obtain ⟨v, hv, rv⟩ := r.get hd
  refine ⟨⟨vs, v, hH, hv⟩, fun x H' y => ?_⟩
  obtain ⟨rfl, y⟩ := y
  have e := y vs hH
  rw [hv] at e
  cases e
  exact ⟨Hx.refl _, rv.le l⟩
theorem itOk_tup {K : W.Frag} {G : Hp} {a : Addr} {vs : List V} {ds : List D} (ha : SqT K G a vs) (r : RpAll K G vs ds) : ItOk K G (Itt K a) ds := fun i H M l tr => by
  have hH : SqT K H a vs := sqT_h (l.sqT ha)
  refine ⟨fun d hd => ?_, fun hi => ⟨vs, hH, by rw [r.length]; exact hi⟩⟩
  obtain ⟨v, hv, rv⟩ := r.get hd
  refine ⟨⟨vs, v, hH, hv⟩, fun x H' y => ?_⟩
  obtain ⟨rfl, y⟩ := y
  have e := y vs hH
  rw [hv] at e
  cases e
  exact ⟨Hx.refl _, rv.le l⟩
theorem itOk_dct {K : W.Frag} {G : Hp} {a : Addr} {o : Obj} {ks : List V} {ds : List D} (ha : G a = some (xO a o)) (r : RpAll K G ks ds) : ItOk K G (Itx a o ks) ds := fun i H M l tr => by
  have hH : H a = some (xO a o) := (hide_le H M) _ _ (l _ _ ha xO_tbl) xO_tbl
  refine ⟨fun d hd => ?_, fun hi => ⟨hH, by rw [r.length]; exact hi⟩⟩
  obtain ⟨v, hv, rv⟩ := r.get hd
  refine ⟨⟨hH, (List.getElem?_eq_some_iff.mp hv).1⟩, fun x H' y => ?_⟩
  obtain ⟨rfl, y⟩ := y
  rw [hv] at y
  cases y
  exact ⟨Hx.refl _, rv.le l⟩
theorem rngC_get : ∀ {n : Nat} {lo c : Int} {i : Nat} {d : D}, (rngC lo c n)[i]? = some d → i < n ∧ d = .int (lo + i * c)
  | 0, _, _, _, _, h => by simp [rngC] at h
  | n + 1, lo, c, 0, d, h => by
    have h : some (PyData.int lo) = some d := by simpa [rngC] using h
    cases h
    exact ⟨Nat.succ_pos _, by simp⟩
  | n + 1, lo, c, i + 1, d, h => by
    have h : (rngC (lo + c) c n)[i]? = some d := by simpa [rngC] using h
    obtain ⟨h1, h2⟩ := rngC_get h
    refine ⟨Nat.succ_lt_succ h1, ?_⟩
    rw [h2]
    congr 1
    rw [show ((i + 1 : Nat) : Int) = (i : Int) + 1 from by omega, Int.add_mul, Int.one_mul]
    omega
theorem rngC_len : ∀ {n : Nat} {lo c : Int}, (rngC lo c n).length = n
  | 0, _, _ => rfl
  | n + 1, lo, c => by show (rngC (lo + c) c n).length + 1 = _; rw [rngC_len]
theorem itOk_rng {K : W.Frag} {G : Hp} {lo : Int} {n : Nat} : ItOk K G (Itr lo n) (rngL lo n) := fun i H M l tr => by
  refine ⟨fun d hd => ?_, fun hi => by rw [rngL_len] at hi; exact hi⟩
  obtain ⟨h1, rfl⟩ := rngL_get hd
  refine ⟨h1, fun x H' y => ?_⟩
  obtain ⟨rfl, rfl⟩ := y
  exact ⟨Hx.refl _, .int _⟩
theorem itOk_rngC {K : W.Frag} {G : Hp} {lo c : Int} {n : Nat} : ItOk K G (Itc lo c n) (rngC lo c n) := fun i H M l tr => by
  refine ⟨fun d hd => ?_, fun hi => by rw [rngC_len] at hi; exact hi⟩
  obtain ⟨h1, rfl⟩ := rngC_get hd
  refine ⟨h1, fun x H' y => ?_⟩
  obtain ⟨rfl, rfl⟩ := y
  exact ⟨Hx.refl _, .int _⟩
theorem rp_pair {K : W.Frag} {H : Hp} {M : List Addr} {T : Addr} {x y : V} {d e : D} (tr : ∀ a ∈ M, ∃ o, H a = some o) (h : H T = none) (r1 : Rp K (hide H M) x d) (r2 : Rp K (hide H M) y e) : Rp K (hide (upd H T (.tup [x, y])) M) (.ref T) (.tuple [d, e]) :=
  dp_newT tr h (.cons r1 (.cons r2 .nil))
theorem itOk_enum {K : W.Frag} {G : Hp} {a : Addr} {vs : List V} {ds : List D} (ha : SqL K G a vs) (r : RpAll K G vs ds) : ItOk K G (Ite K a) (enumL 0 ds) := fun i H M l tr => by
  have hH : SqL K H a vs := sqL_h (l.sqL ha)
  refine ⟨fun d hd => ?_, fun hi => ⟨vs, hH, by rw [r.length]; rw [enumL_len] at hi; exact hi⟩⟩
  obtain ⟨e, he, rfl⟩ := enumL_get hd
  obtain ⟨v, hv, rv⟩ := r.get he
  refine ⟨⟨vs, v, hH, hv⟩, fun x H' y => ?_⟩
  obtain ⟨T, w, rfl, hT, rfl, y⟩ := y
  have ev := y vs hH
  rw [hv] at ev
  cases ev
  rw [Int.zero_add]
  exact ⟨Hx.new hT, rp_pair tr hT (.int _) (rv.le l)⟩
theorem itOk_enumT {K : W.Frag} {G : Hp} {a : Addr} {vs : List V} {ds : List D} (ha : SqT K G a vs) (r : RpAll K G vs ds) : ItOk K G (IteT K a) (enumL 0 ds) := fun i H M l tr => by
  have hH : SqT K H a vs := sqT_h (l.sqT ha)
  refine ⟨fun d hd => ?_, fun hi => ⟨vs, hH, by rw [r.length]; rw [enumL_len] at hi; exact hi⟩⟩
  obtain ⟨e, he, rfl⟩ := enumL_get hd
  obtain ⟨v, hv, rv⟩ := r.get he
  refine ⟨⟨vs, v, hH, hv⟩, fun x H' y => ?_⟩
  obtain ⟨T, w, rfl, hT, rfl, y⟩ := y
  have ev := y vs hH
  rw [hv] at ev
  cases ev
  rw [Int.zero_add]
  exact ⟨Hx.new hT, rp_pair tr hT (.int _) (rv.le l)⟩
theorem zipL_get : ∀ {xs ys : List D} {i : Nat} {d : D}, (zipL xs ys)[i]? = some d → ∃ a b, xs[i]? = some a ∧ ys[i]? = some b ∧ d = .tuple [a, b]
  | [], _, _, _, h => by simp [zipL] at h
  | _ :: _, [], _, _, h => by simp [zipL] at h
  | x :: xs, y :: ys, 0, d, h => by
    have h : some (PyData.tuple [x, y]) = some d := by simpa [zipL] using h
    cases h
    exact ⟨x, y, rfl, rfl, rfl⟩
  | x :: xs, y :: ys, i + 1, d, h => by
    have h : (zipL xs ys)[i]? = some d := by simpa [zipL] using h
    obtain ⟨a, b, h1, h2, h3⟩ := zipL_get h
    exact ⟨a, b, by simpa using h1, by simpa using h2, h3⟩
theorem zipL_len : ∀ {xs ys : List D}, (zipL xs ys).length = min xs.length ys.length
  | [], _ => by simp [zipL]
  | _ :: _, [] => by simp [zipL]
  | x :: xs, y :: ys => by
    show (zipL xs ys).length + 1 = _
    rw [zipL_len, List.length_cons, List.length_cons]
    omega
theorem itOk_zip {K : W.Frag} {G : Hp} {a b : Addr} {vs us : List V} {xs ys : List D} (ha : SqL K G a vs) (r : RpAll K G vs xs) (hb : SqL K G b us) (q : RpAll K G us ys) : ItOk K G (Itz K a b) (zipL xs ys) := fun i H M l tr => by
  have hA : SqL K H a vs := sqL_h (l.sqL ha)
  have hB : SqL K H b us := sqL_h (l.sqL hb)
  refine ⟨fun d hd => ?_, fun hi => ⟨vs, us, hA, hB, by rw [r.length, q.length]; rw [zipL_len] at hi; omega⟩⟩
  obtain ⟨d1, d2, h1, h2, rfl⟩ := zipL_get hd
  obtain ⟨v, hv, rv⟩ := r.get h1
  obtain ⟨u, hu, ru⟩ := q.get h2
  refine ⟨⟨vs, us, v, u, hA, hB, hv, hu⟩, fun x H' y => ?_⟩
  obtain ⟨T, w, z, rfl, hT, rfl, y1, y2⟩ := y
  have e1 := y1 vs hA
  have e2 := y2 us hB
  rw [hv] at e1
  rw [hu] at e2
  cases e1
  cases e2
  exact ⟨Hx.new hT, rp_pair tr hT (rv.le l) (ru.le l)⟩
theorem itOk_zipT {K : W.Frag} {G : Hp} {a b : Addr} {vs us : List V} {xs ys : List D} (ha : SqT K G a vs) (r : RpAll K G vs xs) (hb : SqT K G b us) (q : RpAll K G us ys) : ItOk K G (RZ.ItzT K a b) (zipL xs ys) := fun i H M l tr => by
  have hA : SqT K H a vs := sqT_h (l.sqT ha)
  have hB : SqT K H b us := sqT_h (l.sqT hb)
  refine ⟨fun d hd => ?_, fun hi => ⟨vs, us, hA, hB, by rw [r.length, q.length]; rw [zipL_len] at hi; omega⟩⟩
  obtain ⟨d1, d2, h1, h2, rfl⟩ := zipL_get hd
  obtain ⟨v, hv, rv⟩ := r.get h1
  obtain ⟨u, hu, ru⟩ := q.get h2
  refine ⟨⟨vs, us, v, u, hA, hB, hv, hu⟩, fun x H' y => ?_⟩
  obtain ⟨T, w, z, rfl, hT, rfl, y1, y2⟩ := y
  have e1 := y1 vs hA
  have e2 := y2 us hB
  rw [hv] at e1
  rw [hu] at e2
  cases e1
  cases e2
  exact ⟨Hx.new hT, rp_pair tr hT (rv.le l) (ru.le l)⟩
section
variable {X : Cx} {C : Cc} {tg a b c : Expr} {ma mb mc : SS → Option (D × SS)} {p pos : Pos}
theorem okW_seq (ha : OkE X C a ma) : OkW X C tg a fun st => (ma st).bind fun x => match x with
      | (.list xs, s) => some (xs, s)
      | (.tuple xs, s) => some (xs, s)
      | (.dict kvs, s) => some (kvs.map (·.1), s)
      | _ => none := fun st ds st' h => by
  obtain ⟨⟨d, s⟩, e1, h⟩ := bind_some h
  cases d with
  | dict kvs =>
    cases h
    refine PI_weak (pi_keysX (ha _ _ _ e1)) fun σ H R q => ?_
    obtain ⟨G, ws, S, q⟩ := q
    refine ⟨G, ws, S, fun v H2 S2 r2 => ?_⟩
    obtain ⟨a, o, nks, ks, vs, rfl, g, sm, dc, kv⟩ := r2.dct_inv
    exact ⟨a, o, nks, ks, vs, rfl, ⟨(hide_le H2 _) _ _ g xO_tbl, dc, sm⟩, q _ H2 S2 (itOk_dct g (kv_keys kv))⟩
  | list xs =>
    cases h
    refine PI_weak (pi_list (ha _ _ _ e1)) fun σ H R q => ?_
    obtain ⟨G, ws, S, q⟩ := q
    refine ⟨G, ws, S, fun v H2 S2 r2 => ?_⟩
    obtain ⟨l, vs, rfl, hl, rl⟩ := r2.lst_inv
    exact ⟨l, rfl, ⟨vs, sqL_h hl⟩, q _ H2 S2 (itOk_list hl rl)⟩
  | tuple xs =>
    cases h
    refine PI_weak (pi_tup (ha _ _ _ e1)) fun σ H R q => ?_
    obtain ⟨G, ws, S, q⟩ := q
    refine ⟨G, ws, S, fun v H2 S2 r2 => ?_⟩
    obtain ⟨l, vs, rfl, hl, rl⟩ := r2.tup_inv
    exact ⟨l, rfl, ⟨vs, sqT_h hl⟩, q _ H2 S2 (itOk_tup hl rl)⟩
  | _ => cases h
theorem okSmall_b {i : Int} (h : okSmall i = true) : -1000000 ≤ i ∧ i ≤ 1000000 := by
  unfold okSmall at h
  simpa using h
theorem okW_rng1 (hg : Gl X "range") (hm : X.mg "range" = none) (ha : OkE X C a ma) (hs : noStar a = true) : OkW X C tg (.Call (.Name "range" p) [a] [] pos) fun st => (ma st).bind fun x => (intOf x).bind fun i => if okSmall i.1 then some (rngL 0 i.1.toNat, i.2) else none := fun st ds st' h => by
  obtain ⟨x, e1, h⟩ := bind_some h
  obtain ⟨⟨k, s⟩, e2, h⟩ := bind_some h
  rw [intOf_some e2] at e1
  split at h
  · rename_i hk
    cases h
    have hb := okSmall_b hk
    refine PI_weak (pi_range1 hg hm (pa_cons (ha _ _ _ e1) pa_nil (nostar_cons (noStar_ne hs))) (nostar_cons (noStar_ne hs))) fun σ H R q => ?_
    obtain ⟨G, ws, S, q⟩ := q
    refine ⟨G, ws, S, fun v H2 S2 r2 => ⟨k, by rw [r2.int_inv], ?_, ?_, q _ H2 S2 itOk_rng⟩⟩
    · exact Int.le_trans (by decide) hb.1
    · exact Int.lt_of_le_of_lt hb.2 (by decide)
  · cases h
theorem okW_rng2 (hg : Gl X "range") (hm : X.mg "range" = none) (ha : OkE X C a ma) (hb : OkE X C b mb) (hs : noStar a = true) (hs2 : noStar b = true) : OkW X C tg (.Call (.Name "range" p) [a, b] [] pos) fun st => (ma st).bind fun x => (intOf x).bind fun i => (mb i.2).bind fun y => (intOf y).bind fun j => if okSmall i.1 && okSmall j.1 then some (rngL i.1 (j.1 - i.1).toNat, j.2) else none := fun st ds st' h => by
  obtain ⟨x, e1, h⟩ := bind_some h
  obtain ⟨⟨i, s⟩, e2, h⟩ := bind_some h
  obtain ⟨y, e3, h⟩ := bind_some h
  obtain ⟨⟨j, s2⟩, e4, h⟩ := bind_some h
  rw [intOf_some e2] at e1
  rw [intOf_some e4] at e3
  split at h
  · rename_i hk
    cases h
    rw [Bool.and_eq_true] at hk
    have hi := okSmall_b hk.1
    have hj := okSmall_b hk.2
    refine PI_weak (pi_range2 hg hm (pa_cons (ha _ _ _ e1) (pa_cons (hb _ _ _ e3) pa_nil (nostar_cons (noStar_ne hs2))) (nostar_cons (noStar_ne hs))) (by rw [nostar_cons (noStar_ne hs), nostar_cons (noStar_ne hs2)]; rfl) (nostar_cons (noStar_ne hs2))) fun σ H R q => ?_
    obtain ⟨G, ws, S, q⟩ := q
    refine ⟨G, ws, S, fun v H2 S2 r2 => ⟨C.vis ws H2, ws, S2.up, fun u H3 S3 r3 => ?_⟩⟩
    refine ⟨i, j, by rw [r2.int_inv, r3.int_inv], ⟨?_, ?_, ?_, ?_⟩, q _ H3 (S3.down S2.vis) itOk_rng⟩
    · exact Int.le_trans (by decide) hi.1
    · exact Int.lt_of_le_of_lt hi.2 (by decide)
    · exact Int.le_trans (by decide) hj.1
    · exact Int.lt_of_le_of_lt hj.2 (by decide)
  · cases h
theorem okW_rng3 (hg : Gl X "range") (hm : X.mg "range" = none) (ha : OkE X C a ma) (hb : OkE X C b mb) (hc : OkE X C c mc) (hs : noStar a = true) (hs2 : noStar b = true) (hs3 : noStar c = true) : OkW X C tg (.Call (.Name "range" p) [a, b, c] [] pos) fun st => (ma st).bind fun x => (intOf x).bind fun i => (mb i.2).bind fun y => (intOf y).bind fun j => (mc j.2).bind fun z => (intOf z).bind fun k =>
      if decide (k.1 ≠ 0) && decide (k.1.natAbs < 1000) && Builtin.Range.small i.1 j.1 k.1 && decide (0 ≤ Builtin.Range.rangeSize i.1 j.1 k.1) then some (rngC i.1 k.1 (Builtin.Range.rangeSize i.1 j.1 k.1).toNat, k.2) else none := fun st ds st' h => by
  obtain ⟨x, e1, h⟩ := bind_some h
  obtain ⟨⟨i, s⟩, e2, h⟩ := bind_some h
  obtain ⟨y, e3, h⟩ := bind_some h
  obtain ⟨⟨j, s2⟩, e4, h⟩ := bind_some h
  obtain ⟨z, e5, h⟩ := bind_some h
  obtain ⟨⟨k, s3⟩, e6, h⟩ := bind_some h
  rw [intOf_some e2] at e1
  rw [intOf_some e4] at e3
  rw [intOf_some e6] at e5
  split at h
  · rename_i hk
    cases h
    simp only [Bool.and_eq_true, decide_eq_true_eq] at hk
    obtain ⟨⟨⟨k1, k2⟩, k3⟩, k4⟩ := hk
    refine PI_weak (pi_range3 hg hm (pa_cons (ha _ _ _ e1) (pa_cons (hb _ _ _ e3) (pa_cons (hc _ _ _ e5) pa_nil (nostar_cons (noStar_ne hs3))) (nostar_cons (noStar_ne hs2))) (nostar_cons (noStar_ne hs))) (nostar_cons (noStar_ne hs)) (plain_args (by simp [hs2, hs3]))) fun σ H R q => ?_
    obtain ⟨G, ws, S, q⟩ := q
    refine ⟨G, ws, S, fun v H2 S2 r2 => ⟨C.vis ws H2, ws, S2.up, fun u H3 S3 r3 => ⟨C.vis ws H3, ws, S3.up, fun w H4 S4 r4 => ?_⟩⟩⟩
    exact ⟨i, j, k, (Builtin.Range.rangeSize i j k).toNat, by rw [r2.int_inv, r3.int_inv, r4.int_inv], ⟨k1, by omega, k3, by omega⟩, q _ H4 ((S4.down S3.vis).down S2.vis) itOk_rngC⟩
  · cases h
theorem okW_enum {es : List Expr} {kk : Nat} {tpos : Pos} (hg : Gl X "enumerate") (hm : X.mg "enumerate" = none) (ha : OkE X C a ma) (hs : noStar a = true) : OkW X C (.Tuple es kk tpos) (.Call (.Name "enumerate" p) [a] [] pos) fun st => (ma st).bind fun x => match x with
      | (.list xs, s) => some (enumL 0 xs, s)
      | (.tuple xs, s) => some (enumL 0 xs, s)
      | _ => none := fun st ds st' h => by
  obtain ⟨⟨d, s⟩, e1, h⟩ := bind_some h
  cases d with
  | list xs =>
    cases h
    refine PI_weak (pi_enum hg hm (pa_cons (ha _ _ _ e1) pa_nil (nostar_cons (noStar_ne hs))) (nostar_cons (noStar_ne hs))) fun σ H R q => ?_
    obtain ⟨G, ws, S, q⟩ := q
    refine ⟨G, ws, S, fun v H2 S2 r2 => ?_⟩
    obtain ⟨l, vs, rfl, hl, rl⟩ := r2.lst_inv
    exact ⟨l, vs, rfl, sqL_h hl, q _ H2 S2 (itOk_enum hl rl)⟩
  | tuple xs =>
    cases h
    refine PI_weak (pi_enumT hg hm (pa_cons (ha _ _ _ e1) pa_nil (nostar_cons (noStar_ne hs))) (nostar_cons (noStar_ne hs))) fun σ H R q => ?_
    obtain ⟨G, ws, S, q⟩ := q
    refine ⟨G, ws, S, fun v H2 S2 r2 => ?_⟩
    obtain ⟨l, vs, rfl, hl, rl⟩ := r2.tup_inv
    exact ⟨l, vs, rfl, sqT_h hl, q _ H2 S2 (itOk_enumT hl rl)⟩
  | _ => cases h
theorem okW_zip {es : List Expr} {kk : Nat} {tpos : Pos} (hg : Gl X "zip") (hm : X.mg "zip" = none) (ha : OkE X C a ma) (hb : OkE X C b mb) (hs : noStar a = true) (hs2 : noStar b = true) : OkW X C (.Tuple es kk tpos) (.Call (.Name "zip" p) [a, b] [] pos) fun st => (ma st).bind fun x => (mb x.2).bind fun y => match x.1, y.1 with
      | .list xs, .list ys => some (zipL xs ys, y.2)
      | .tuple xs, .tuple ys => some (zipL xs ys, y.2)
      | _, _ => none := fun st ds st' h => by
  obtain ⟨⟨d, s⟩, e1, h⟩ := bind_some h
  obtain ⟨⟨d2, s2⟩, e2, h⟩ := bind_some h
  have P := RZ.pi_zipA (tpos := tpos) (elts := es) (kk := kk) (p := p) (pos := pos) hg hm (pa_cons (ha _ _ _ e1) (pa_cons (hb _ _ _ e2) pa_nil (nostar_cons (noStar_ne hs2))) (nostar_cons (noStar_ne hs))) (nostar_cons (noStar_ne hs)) (plain_args (by simp [hs2]))
  cases d with
  | list xs =>
    cases d2 with
    | list ys =>
      cases h
      refine PI_weak P fun σ H R q => ?_
      obtain ⟨G, ws, S, q⟩ := q
      refine ⟨G, ws, S, fun v H2 S2 r2 => ⟨C.vis ws H2, ws, S2.up, fun u H3 S3 r3 => ?_⟩⟩
      obtain ⟨l, vs, rfl, hl, rl⟩ := (r2.le S3.vis).lst_inv
      obtain ⟨l2, us, rfl, hl2, rl2⟩ := r3.lst_inv
      exact ⟨l, l2, vs, us, rfl, .inl ⟨sqL_h hl, sqL_h hl2, q _ H3 (S3.down S2.vis) (itOk_zip hl rl hl2 rl2)⟩⟩
    | _ => cases h
  | tuple xs =>
    cases d2 with
    | tuple ys =>
      cases h
      refine PI_weak P fun σ H R q => ?_
      obtain ⟨G, ws, S, q⟩ := q
      refine ⟨G, ws, S, fun v H2 S2 r2 => ⟨C.vis ws H2, ws, S2.up, fun u H3 S3 r3 => ?_⟩⟩
      obtain ⟨l, vs, rfl, hl, rl⟩ := (r2.le S3.vis).tup_inv
      obtain ⟨l2, us, rfl, hl2, rl2⟩ := r3.tup_inv
      exact ⟨l, l2, vs, us, rfl, .inr ⟨sqT_h hl, sqT_h hl2, q _ H3 (S3.down S2.vis) (itOk_zipT hl rl hl2 rl2)⟩⟩
    | _ => cases h
  | _ => cases d2 <;> cases h
end
end Pv

/-! List comprehensions; lists that are new; calls. -/
namespace Pv
open PySem L2
variable [HashW]
/-! ### a list that is being made, out of sight -/
def Cc.pin (C : Cc) (k : Nat) (Da : Addr) (ws : Ws) (H : Hp) : Cc := ⟨C.M ((k, Da) :: ws), C.I ++ ws.map (·.2), H, C.T⟩
section
variable {K : W.Frag} {C : Cc} {G : Hp} {ws : Ws} {st st' : SS} {σ σ' : L2.St} {H H' : Hp} {k : Nat} {Da : Addr}
theorem pin_mem {a : Addr} : a ∈ (C.pin k Da ws H).M ws ↔ a ∈ C.M ((k, Da) :: ws) := by
  unfold Cc.pin Cc.M
  simp only [List.mem_append, List.map_cons, List.mem_cons]
  constructor
  · rintro (h | h)
    · exact h
    · exact .inr (.inr h)
  · exact .inl
theorem pin_vis : (C.pin k Da ws H').vis ws H = C.vis ((k, Da) :: ws) H := hide_congr fun _ => pin_mem
theorem TbOk.enter (t : TbOk C ((k, Da) :: ws) H) : TbOk (C.pin k Da ws H) ws H := by
  unfold TbOk at t ⊢
  show match C.T with | none => _ | some T => _
  cases e : C.T with
  | none => exact fun b ps h => h
  | some T =>
    rw [e] at t
    show LamX.Tabs T ((C.pin k Da ws H).vis ws H)
    rw [pin_vis]
    exact t
theorem TbOk.leave {w0 w1 w2 : Ws} (t : TbOk C w0 H) (t' : TbOk (C.pin k Da ws H) w1 H') (ev : (C.pin k Da ws H).vis w1 H' = C.vis w2 H') : TbOk C w2 H' := by
  unfold TbOk at t t' ⊢
  have t' : match C.T with | none => ∀ b ps, H b = some (.tbl ps) → H' b = some (.tbl ps) | some T => LamX.Tabs T ((C.pin k Da ws H).vis w1 H') := t'
  cases e : C.T with
  | none =>
    rw [e] at t t'
    exact fun b ps h => t' b ps (t b ps h)
  | some T =>
    rw [e] at t'
    rw [← ev]
    exact t'
theorem SI.enter (S : SI K C G ((k, Da) :: ws) st σ H) (hk : st.length ≤ k) : SI K (C.pin k Da ws H) G ws st σ H where
  len := S.len
  rep := fun i s h => by
    have q := S.rep i s h
    have hi : i < st.length := (List.getElem?_eq_some_iff.mp h).1
    cases s with
    | no => exact True.intro
    | v d => obtain ⟨v, o, r⟩ := q; exact ⟨v, o, by rw [pin_vis]; exact r⟩
    | own ds =>
      obtain ⟨a, vs, m, o, h1, r⟩ := q
      refine ⟨a, vs, ?_, o, h1, by rw [pin_vis]; exact r⟩
      rcases List.mem_cons.mp m with e | e
      · cases e; omega
      · exact e
    | dic ds =>
      obtain ⟨a, vs, m, o, h1, r⟩ := q
      refine ⟨a, vs, ?_, o, h1, by rw [pin_vis]; exact r⟩
      rcases List.mem_cons.mp m with e | e
      · cases e; omega
      · exact e
  nod := (List.nodup_cons.mp S.nod).2
  frm := Fra.refl _ _
  vis := by rw [pin_vis]; exact S.vis
  m0 := S.trk
  wsn := fun p hp h => absurd (List.mem_append_right _ (List.mem_map_of_mem hp)) h
  wst := fun p hp => S.wst p (List.mem_cons_of_mem _ hp)
  inM := fun a h => by
    rcases List.mem_append.mp h with h | h
    · exact List.mem_append_left _ (S.inM a h)
    · exact List.mem_append_right _ (List.mem_cons_of_mem _ h)
  tbs := S.tbs.enter
theorem SI.leave (S : SI K C G ((k, Da) :: ws) st σ H) (hD : Da ∉ C.I) (S' : SI K (C.pin k Da ws H) G ws st' σ' H') : SI K C G ((k, Da) :: ws) st' σ' H' ∧ ∀ o, (∀ ps, o ≠ .tbl ps) → H Da = some o → H' Da = some o := by
  have nd := List.nodup_cons.mp S.nod
  have hDI : Da ∉ (C.pin k Da ws H).I := fun z => by
    rcases List.mem_append.mp z with z | z
    · exact hD z
    · exact nd.1 z
  have keep : ∀ o, (∀ ps, o ≠ .tbl ps) → H Da = some o → H' Da = some o := fun o n h => S'.frm.at hDI h n
  refine ⟨⟨S'.len, fun i s h => ?_, S.nod, fun b o hb h => ?_, ?_, fun a h => S'.m0 a (List.mem_append_left _ h), S.wsn, fun p hp => ?_, S.inM, S.tbs.leave S'.tbs pin_vis⟩, keep⟩
  · have q := S'.rep i s h
    cases s with
    | no => exact True.intro
    | v d => obtain ⟨v, o, r⟩ := q; exact ⟨v, o, by rw [pin_vis] at r; exact r⟩
    | own ds =>
      obtain ⟨a, vs, m, o, h1, r⟩ := q
      exact ⟨a, vs, List.mem_cons_of_mem _ m, o, h1, by rw [pin_vis] at r; exact r⟩
    | dic ds =>
      obtain ⟨a, vs, m, o, h1, r⟩ := q
      exact ⟨a, vs, List.mem_cons_of_mem _ m, o, h1, by rw [pin_vis] at r; exact r⟩
  · obtain ⟨o1, h1, e1⟩ := S.frm b o hb h
    obtain ⟨o2, h2, e2⟩ := S'.frm b o1 (fun z => by
      rcases List.mem_append.mp z with z | z
      · exact hb z
      · obtain ⟨p, hp, e⟩ := List.mem_map.mp z
        have := (S.wsn p (List.mem_cons_of_mem _ hp) (by rw [e]; exact hb)).1
        rw [e, h] at this
        cases this) h1
    refine ⟨o2, h2, fun t => ?_⟩
    have e1' := e1 t
    subst e1'
    exact e2 t
  · have := S'.vis; rw [pin_vis] at this; exact this
  · rcases List.mem_cons.mp hp with e | e
    · rw [e]
      obtain ⟨o, q, n⟩ := S.wst (k, Da) List.mem_cons_self
      exact ⟨o, keep o n q, n⟩
    · exact S'.wst p e
/-- a list is laid, out of sight -/
theorem SI.layO {ob : HO} (nt : ∀ ps, ob ≠ .tbl ps) (S : SI K C G ws st σ H) (h : H Da = none) : SI K C G ((k, Da) :: ws) st σ (upd H Da ob) ∧ Da ∉ C.I ∧ (C.vis ((k, Da) :: ws) (upd H Da ob) = C.vis ws H) := by
  have hM : Da ∉ C.M ws := new_out S.trk h
  have hI : Da ∉ C.I := fun z => hM (List.mem_append_left _ (S.inM Da z))
  have ev : C.vis ((k, Da) :: ws) (upd H Da ob) = C.vis ws H := by
    funext b
    unfold Cc.vis hide
    by_cases hb : b = Da
    · subst hb
      rw [if_pos (by unfold Cc.M; simp), if_neg hM, h]
    · by_cases hb2 : b ∈ C.M ws
      · rw [if_pos (by unfold Cc.M at hb2 ⊢; simp only [List.map_cons, List.mem_append, List.mem_cons] at hb2 ⊢; rcases hb2 with z | z; exact .inl z; exact .inr (.inr z)), if_pos hb2]
      · rw [if_neg (fun z => hb2 (by unfold Cc.M at z ⊢; simp only [List.map_cons, List.mem_append, List.mem_cons] at z ⊢; rcases z with z | z | z; exact .inl z; exact absurd z hb; exact .inr z)), if_neg hb2, upd_ne hb]
  refine ⟨⟨S.len, fun i s hs => ?_, ?_, S.frm.hx (Hx.new h), by rw [ev]; exact S.vis, fun a ha => let ⟨o, q⟩ := S.m0 a ha; ⟨o, (Hx.new h) _ _ q⟩, fun p hp hi => ?_, fun p hp => ?_, S.inM, S.tbs.lay h⟩, hI, ev⟩
  · have q := S.rep i s hs
    cases s with
    | no => exact True.intro
    | v d => obtain ⟨v, o, r⟩ := q; exact ⟨v, o, by rw [ev]; exact r⟩
    | own ds => obtain ⟨a, us, m, o, h1, r⟩ := q; exact ⟨a, us, List.mem_cons_of_mem _ m, o, (Hx.new h) _ _ h1, by rw [ev]; exact r⟩
    | dic ds => obtain ⟨a, us, m, o, h1, r⟩ := q; exact ⟨a, us, List.mem_cons_of_mem _ m, o, (Hx.new h) _ _ h1, by rw [ev]; exact r⟩
  · refine List.nodup_cons.mpr ⟨fun z => hM (List.mem_append_right _ z), S.nod⟩
  · rcases List.mem_cons.mp hp with e | e
    · rw [e]
      exact ⟨S.frm.no hI h, fun z => hM (List.mem_append_left _ z)⟩
    · exact S.wsn p e hi
  · rcases List.mem_cons.mp hp with e | e
    · rw [e]; exact ⟨ob, upd_same, nt⟩
    · obtain ⟨us, q, n⟩ := S.wst p e
      exact ⟨us, (Hx.new h) _ _ q, n⟩
theorem SI.lay {vs : List V} (S : SI K C G ws st σ H) (h : H Da = none) : SI K C G ((k, Da) :: ws) st σ (upd H Da (.lst vs)) ∧ Da ∉ C.I ∧ (C.vis ((k, Da) :: ws) (upd H Da (.lst vs)) = C.vis ws H) := S.layO (fun ps z => by cases z) h
end

/-! ### a new list -/
def tVF (K : W.Frag) (C : Cc) (st st' : SS) (ds : List D) : TE := fun σ H Q => ∃ G ws, SI K C G ws st σ H ∧ ∀ p vs H2, SI K C G ((st.length, p) :: ws) st' σ H2 → p ∉ C.M0 → st'.length = st.length → H2 p = some (.lst vs) → RpAll K (C.vis ((st.length, p) :: ws) H2) vs ds → Q (.ref p) H2
def OkF (X : Cx) (C : Cc) (e : Expr) (m : SS → Option (List D × SS)) : Prop := ∀ st ds st', m st = some (ds, st') → PE X e (tVF X.K C st st' ds)
section
variable {K : W.Frag} {C : Cc} {G : Hp} {ws : Ws} {st st' : SS} {σ σ' : L2.St} {H H' : Hp} {k : Nat} {Da : Addr}
theorem vis_drop : Le (C.vis ((k, Da) :: ws) H) (C.vis ws H) := hide_sub fun a ha => by
  unfold Cc.M at ha ⊢
  simp only [List.map_cons, List.mem_append, List.mem_cons] at ha ⊢
  rcases ha with h | h
  · exact .inl h
  · exact .inr (.inr h)
theorem SI.drop (S : SI K C G ((k, Da) :: ws) st σ H) (hk : st.length ≤ k) : SI K C G ws st σ H where
  len := S.len
  rep := fun i s h => by
    have q := S.rep i s h
    have hi : i < st.length := (List.getElem?_eq_some_iff.mp h).1
    cases s with
    | no => exact True.intro
    | v d => obtain ⟨v, o, r⟩ := q; exact ⟨v, o, r.le vis_drop⟩
    | own ds =>
      obtain ⟨a, vs, m, o, h1, r⟩ := q
      refine ⟨a, vs, ?_, o, h1, r.le vis_drop⟩
      rcases List.mem_cons.mp m with e | e
      · cases e; omega
      · exact e
    | dic ds =>
      obtain ⟨a, vs, m, o, h1, r⟩ := q
      refine ⟨a, vs, ?_, o, h1, r.le vis_drop⟩
      rcases List.mem_cons.mp m with e | e
      · cases e; omega
      · exact e
  nod := (List.nodup_cons.mp S.nod).2
  frm := S.frm
  vis := S.vis.trans vis_drop
  m0 := S.m0
  wsn := fun p hp => S.wsn p (List.mem_cons_of_mem _ hp)
  wst := fun p hp => S.wst p (List.mem_cons_of_mem _ hp)
  inM := S.inM
  tbs := S.tbs.sub fun a ha => by
    unfold Cc.M at ha ⊢
    simp only [List.map_cons, List.mem_append, List.mem_cons] at ha ⊢
    rcases ha with h | h
    · exact .inl h
    · exact .inr (.inr h)
theorem new_seen (S : SI K C G ((k, Da) :: ws) st σ H) (hM0 : Da ∉ C.M0) : Da ∉ C.M ws := fun z => by
  rcases List.mem_append.mp z with z | z
  · exact hM0 z
  · exact (List.nodup_cons.mp S.nod).1 z
end
theorem okE_of_F {X : Cx} {C : Cc} {e : Expr} {m : SS → Option (List D × SS)} {m' : SS → Option (D × SS)} (h : OkF X C e m) (hm : ∀ st d st', m' st = some (d, st') → ∃ ds, d = .list ds ∧ m st = some (ds, st')) : OkE X C e m' := fun st d st' e1 => by
  obtain ⟨ds, rfl, e2⟩ := hm _ _ _ e1
  refine (h st ds st' e2).weak fun σ H Q ⟨G, ws, S, q⟩ => ⟨G, ws, S, fun p vs H2 S2 hp hl hv r => ?_⟩
  refine q _ H2 (S2.drop (by omega)) (.lst (.inl (.inl ?_)) (r.le vis_drop))
  exact (hide_out (new_seen S2 hp)).trans hv
theorem setV_len {st st' : SS} {i : Nat} {d : D} (h : setV st i d = some st') : st'.length = st.length := by
  unfold setV at h
  split at h
  · cases h; exact List.length_set ..
  · cases h
/-- the slots keep their number -/
theorem tVF_lay {X : Cx} {C : Cc} {G : Hp} {ws : Ws} {st st' : SS} {σ : L2.St} {H : Hp} {Q : VK} {p : Addr} {vs : List V} {ds : List D} (S : SI X.K C G ws st' σ H) (hl : st'.length = st.length) (hp : H p = none) (r : RpAll X.K (C.vis ws H) vs ds)
    (q : ∀ p vs H2, SI X.K C G ((st.length, p) :: ws) st' σ H2 → p ∉ C.M0 → st'.length = st.length → H2 p = some (.lst vs) → RpAll X.K (C.vis ((st.length, p) :: ws) H2) vs ds → Q (.ref p) H2) : Q (.ref p) (upd H p (.lst vs)) := by
  obtain ⟨S2, _, ev⟩ := S.lay (k := st.length) (vs := vs) hp
  exact q p vs _ S2 (fun z => new_out S.trk hp (List.mem_append_left _ z)) hl upd_same (by rw [ev]; exact r)

/-! ### comprehensions -/
def tEU (K : W.Frag) (m : SS → Option (D × SS)) : TE := fun σ H Q => ∃ C st d st', m st = some (d, st') ∧ tV K C st st' d σ H Q
def tTU (K : W.Frag) (m : SS → Option (Bool × SS)) : TT := fun σ H Q => ∃ C st d st', m st = some (d, st') ∧ tVT K C st st' d σ H Q
def tGU (K : W.Frag) (one : Bool) (is : List Nat) : TG := fun v σ H Q => ∃ C st d st', asgT one is d st = some st' ∧ tVG K C st st' d is v σ H Q
theorem pe_U {X : Cx} {e : Expr} {m : SS → Option (D × SS)} (h : ∀ C, OkE X C e m) : PE X e (tEU X.K m) := ⟨fun pins s σ H Q I ⟨C, st, d, st', e, q⟩ => (h C st d st' e).run pins s σ H Q I q⟩
theorem pg_U {X : Cx} {tg : Expr} {one : Bool} {is : List Nat} (h : ∀ C, OkG X C tg one is) : PG X tg (tGU X.K one is) := ⟨fun pins s σ H v u Q I r ⟨C, st, d, st', e, q⟩ => (h C st d st' e).run pins s σ H v u Q I r q⟩
def OkTs (X : Cx) (C : Cc) (ifs : List Expr) (m : SS → Option (Bool × SS)) : Prop := ∀ st b st', m st = some (b, st') → PTs X ifs (tVT X.K C st st' b)
theorem pts_U {X : Cx} {ifs : List Expr} {m : SS → Option (Bool × SS)} (h : ∀ C, OkTs X C ifs m) : PTs X ifs (tTU X.K m) := ⟨fun pins s σ H Q I ⟨C, st, d, st', e, q⟩ => (h C st d st' e).run pins s σ H Q I q⟩
theorem okTs_nil {X : Cx} {C : Cc} : OkTs X C [] fun st => some (true, st) := fun st b st' h => by
  cases h
  exact ⟨fun pins s σ H Q I ⟨G, ws, S, q⟩ => pts_nil.run pins s σ H Q I (q H S)⟩
theorem okTs_one {X : Cx} {C : Cc} {c : Expr} {m : SS → Option (Bool × SS)} (h : OkT X C c m) : OkTs X C [c] m := fun st b st' e => pts_one (h st b st' e)

theorem wipeS_len {st : SS} : ∀ {vs : List Nat}, (wipeS st vs).length = st.length
  | [] => rfl
  | v :: vs => by show ((wipeS st vs).set v .no).length = _; rw [List.length_set, wipeS_len]
theorem wipeS_off {st : SS} {j : Nat} : ∀ {vs : List Nat}, j ∉ vs → (wipeS st vs)[j]? = st[j]?
  | [], _ => rfl
  | v :: vs, h => by
    rw [List.mem_cons, not_or] at h
    show ((wipeS st vs).set v .no)[j]? = _
    rw [List.getElem?_set_ne (Ne.symm h.1), wipeS_off h.2]
theorem wipeS_on {st : SS} {j : Nat} {s : Sl} : ∀ {vs : List Nat}, j ∈ vs → (wipeS st vs)[j]? = some s → s = .no
  | v :: vs, h, e => by
    have e : ((wipeS st vs).set v .no)[j]? = some s := e
    by_cases hv : v = j
    · subst hv
      by_cases hl : v < (wipeS st vs).length
      · rw [List.getElem?_set_self hl] at e; cases e; rfl
      · rw [List.getElem?_eq_none (by rw [List.length_set]; omega)] at e; cases e
    · rw [List.getElem?_set_ne hv] at e
      rcases List.mem_cons.mp h with z | z
      · exact absurd z.symm hv
      · exact wipeS_on z e
theorem wipe_off {σ : L2.St} {j : Nat} : ∀ {vs : List Nat}, j ∉ vs → (wipe σ vs)[j]? = σ[j]?
  | [], _ => rfl
  | v :: vs, h => by
    rw [List.mem_cons, not_or] at h
    show ((wipe σ vs).set v none)[j]? = _
    rw [List.getElem?_set_ne (Ne.symm h.1), wipe_off h.2]
theorem wipe_on {σ : L2.St} {j : Nat} : ∀ {vs : List Nat}, j ∈ vs → (wipe σ vs)[j]? = if j < σ.length then some none else none
  | v :: vs, h => by
    show ((wipe σ vs).set v none)[j]? = _
    by_cases hv : v = j
    · subst hv
      by_cases hl : v < σ.length
      · rw [List.getElem?_set_self (by rw [wipe_length]; exact hl), if_pos hl]
      · rw [List.getElem?_eq_none (by rw [List.length_set, wipe_length]; omega), if_neg hl]
    · rw [List.getElem?_set_ne hv]
      rcases List.mem_cons.mp h with z | z
      · exact absurd z.symm hv
      · exact wipe_on z
theorem wipe_same {σ σ' : L2.St} {vs is : List Nat} (hl : σ'.length = σ.length) (h : ∀ j, j ∉ is → σ'[j]? = (wipe σ vs)[j]?) (hs : ∀ i ∈ is, i ∈ vs) : wipe σ' vs = wipe σ vs := by
  apply List.ext_getElem?
  intro j
  by_cases hj : j ∈ vs
  · rw [wipe_on hj, wipe_on hj, hl]
  · rw [wipe_off hj, h j fun z => hj (hs j z)]
theorem backS_len {old st : SS} : ∀ {vs : List Nat}, (backS old st vs).length = st.length
  | [] => rfl
  | v :: vs => by show ((backS old st vs).set v _).length = _; rw [List.length_set, backS_len]
theorem backS_get {old st : SS} {j : Nat} : ∀ {vs : List Nat}, (j ∉ vs → (backS old st vs)[j]? = st[j]?) ∧ (j ∈ vs → ∀ s, (backS old st vs)[j]? = some s → s = keepV old[j]?)
  | [] => ⟨fun _ => rfl, fun h => by cases h⟩
  | v :: vs => by
    obtain ⟨h1, h2⟩ := backS_get (old := old) (st := st) (j := j) (vs := vs)
    refine ⟨fun h => ?_, fun h s e => ?_⟩
    · rw [List.mem_cons, not_or] at h
      show ((backS old st vs).set v _)[j]? = _
      rw [List.getElem?_set_ne (Ne.symm h.1), h1 h.2]
    · have e : ((backS old st vs).set v (keepV old[v]?))[j]? = some s := e
      by_cases hv : v = j
      · subst hv
        by_cases hl : v < (backS old st vs).length
        · rw [List.getElem?_set_self hl] at e; cases e; rfl
        · rw [List.getElem?_eq_none (by rw [List.length_set]; omega)] at e; cases e
      · rw [List.getElem?_set_ne hv] at e
        rcases List.mem_cons.mp h with z | z
        · exact absurd z.symm hv
        · exact h2 z s e
section
variable {K : W.Frag} {C : Cc} {G : Hp} {ws : Ws} {st st' : SS} {σ σ' : L2.St} {H H' : Hp}
theorem SI.wipe {vs : List Nat} (S : SI K C G ws st σ H) (hσ : ∀ j, j ∉ vs → σ'[j]? = σ[j]?) (hl : σ'.length = σ.length) : SI K C G ws (wipeS st vs) σ' H :=
  ⟨by rw [wipeS_len, hl]; exact S.len, fun i s h => by
    by_cases hi : i ∈ vs
    · obtain rfl := wipeS_on hi h
      exact True.intro
    · rw [wipeS_off hi] at h
      rw [hσ i hi]
      exact S.rep i s h, S.nod, S.frm, S.vis, S.m0, S.wsn, S.wst, S.inM, S.tbs⟩
/-- behind a block -/
theorem SI.back {vs : List Nat} {ws0 : Ws} {H0 : Hp} (S0 : SI K C G ws0 st σ H0) (S : SI K C (C.vis ws0 H0) ws st' σ' H) (hσ : ∀ j, j ∉ vs → σ'[j]? = σ[j]?) (hl : σ'.length = σ.length) : SI K C G ws (backS st st' vs) σ H := by
  refine ⟨by rw [backS_len]; exact S.len.trans hl, fun i s h => ?_, S.nod, S.frm, S0.vis.trans S.vis, S.m0, S.wsn, S.wst, S.inM, S.tbs⟩
  by_cases hi : i ∈ vs
  · have e := (backS_get (old := st) (st := st') (j := i) (vs := vs)).2 hi s h
    subst e
    unfold keepV
    split
    · rename_i d hd
      obtain ⟨v, o, r⟩ := S0.rep i _ hd
      exact ⟨v, o, r.le S.vis⟩
    · exact True.intro
  · rw [(backS_get (old := st) (st := st') (j := i) (vs := vs)).1 hi] at h
    rw [← hσ i hi]
    exact S.rep i s h
end
theorem lcLoop_cons {tg : List Nat} {one : Bool} {own : List Nat} {mt : SS → Option (Bool × SS)} {me : SS → Option (D × SS)} {x : D} {xs : List D} {st st' : SS} {ds : List D} (h : lcLoop tg one own mt me (x :: xs) st = some (ds, st')) :
    ∃ s1 b s2, asgT one tg x st = some s1 ∧ mt s1 = some (b, s2) ∧ ((b = false ∧ lcLoop tg one own mt me xs (wipeS s2 own) = some (ds, st')) ∨ (b = true ∧ ∃ d s3 ds', me s2 = some (d, s3) ∧ lcLoop tg one own mt me xs (wipeS s3 own) = some (ds', st') ∧ ds = d :: ds')) := by
  unfold lcLoop at h
  obtain ⟨s1, e1, h⟩ := bind_some h
  obtain ⟨⟨b, s2⟩, e2, h⟩ := bind_some h
  refine ⟨s1, b, s2, e1, e2, ?_⟩
  cases b with
  | false => exact .inl ⟨rfl, h⟩
  | true =>
    obtain ⟨⟨d, s3⟩, e3, h⟩ := bind_some h
    obtain ⟨⟨ds', s4⟩, e4, h⟩ := bind_some h
    cases h
    exact .inr ⟨rfl, d, s3, ds', e3, e4, rfl⟩
theorem asgT_len {one : Bool} {tg : List Nat} {d : D} {st st' : SS} (h : asgT one tg d st = some st') : st'.length = st.length := by
  have many : ∀ (is : List Nat) (ds : List D) (st st' : SS), setVs is ds st = some st' → st'.length = st.length := by
    intro is
    induction is with
    | nil => intro ds st st' h; cases ds with
      | nil => cases h; rfl
      | cons d ds => cases h
    | cons i is ih => intro ds st st' h; cases ds with
      | nil => cases h
      | cons d ds =>
        obtain ⟨s1, e1, e2⟩ := bind_some h
        rw [ih _ _ _ e2, setV_len e1]
  cases one with
  | true =>
    cases tg with
    | nil => cases h
    | cons i is =>
      cases is with
      | nil => exact setV_len h
      | cons j js => cases h
  | false =>
    cases d with
    | tuple ds => exact many tg ds st st' (by cases tg <;> exact h)
    | _ => cases tg with
      | nil => cases h
      | cons i is => cases is <;> cases h

section
variable {K : W.Frag} {C : Cc} {G : Hp} {ws : Ws} {st st' : SS} {σ σ' : L2.St} {H H' : Hp} {k : Nat} {Da : Addr}
theorem vis_upd {a : Addr} {o : HO} (h : a ∈ C.M ws) : C.vis ws (upd H a o) = C.vis ws H := by
  funext b
  unfold Cc.vis hide
  by_cases hb : b ∈ C.M ws
  · rw [if_pos hb, if_pos hb]
  · rw [if_neg hb, if_neg hb, upd_ne fun e => hb (by rw [e]; exact h)]
/-- a list out of sight that no slot owns is changed -/
theorem SI.chg {xs : List V} (S : SI K C G ((k, Da) :: ws) st σ H) (hk : st.length ≤ k) (hD : Da ∉ C.I) : SI K C G ((k, Da) :: ws) st σ (upd H Da (.lst xs)) := by
  have nd := List.nodup_cons.mp S.nod
  have hm : Da ∈ C.M ((k, Da) :: ws) := List.mem_append_right _ List.mem_cons_self
  refine ⟨S.len, fun i s h => ?_, S.nod, fun b o hb q => ?_, by rw [vis_upd hm]; exact S.vis, fun a ha => ?_, S.wsn, fun p hp => ?_, S.inM, S.tbs.upd hm (S.wst (k, Da) List.mem_cons_self)⟩
  · have q := S.rep i s h
    have hi : i < st.length := (List.getElem?_eq_some_iff.mp h).1
    cases s with
    | no => exact True.intro
    | v d => obtain ⟨v, o, r⟩ := q; exact ⟨v, o, by rw [vis_upd hm]; exact r⟩
    | own ds =>
      obtain ⟨a, vs, m, o, h1, r⟩ := q
      refine ⟨a, vs, m, o, ?_, by rw [vis_upd hm]; exact r⟩
      rw [upd_ne fun e => ?_]
      · exact h1
      · rcases List.mem_cons.mp m with z | z
        · cases z; omega
        · exact nd.1 (List.mem_map.mpr ⟨_, z, e⟩)
    | dic ds =>
      obtain ⟨a, vs, m, o, h1, r⟩ := q
      refine ⟨a, vs, m, o, ?_, by rw [vis_upd hm]; exact r⟩
      rw [upd_ne fun e => ?_]
      · exact h1
      · rcases List.mem_cons.mp m with z | z
        · cases z; omega
        · exact nd.1 (List.mem_map.mpr ⟨_, z, e⟩)
  · have hbD : b ≠ Da := fun e => by
      have := (S.wsn (k, Da) List.mem_cons_self hD).1
      rw [e, show C.H0 Da = none from this] at q
      cases q
    rw [upd_ne hbD]
    exact S.frm b o hb q
  · by_cases e : a = Da
    · exact ⟨_, by rw [e]; exact upd_same⟩
    · rw [upd_ne e]; exact S.m0 a ha
  · by_cases e : p.2 = Da
    · exact ⟨_, by rw [e]; exact upd_same, fun ps z => by cases z⟩
    · rw [upd_ne e]; exact S.wst p hp
end
theorem lc_read {K : W.Frag} {C : Cc} {vs is : List Nat} {one : Bool} {mw : SS → Option (List D × SS)} {mt : SS → Option (Bool × SS)} {me : SS → Option (D × SS)} (his : ∀ i ∈ is, i ∈ vs) {st st' : SS} {ds : List D} (h : mLc mw is one vs mt me st = some (ds, st')) :
    ∃ items s1, mw st = some (items, s1) ∧ ∀ σ H Q, tVF K C st st' ds σ H Q → tLc (tVW K C st s1 items) (tGU K one is) (tTU K mt) (tEU K me) vs σ H Q := by
  obtain ⟨⟨items, s1⟩, e1, h⟩ := bind_some h
  split at h
  · rename_i hlim
    obtain ⟨⟨res, s2⟩, e2, h⟩ := bind_some h
    cases h
    have hlim : items.length ≤ lim := hlim
    refine ⟨items, s1, e1, fun σ H Q ⟨G, ws, S, q⟩ => ?_⟩
    refine ⟨G, ws, S, fun J H1 S1 hJ Da hDa => ?_⟩
    have hlen : s1.length = st.length := by rw [S1.len, S.len]
    obtain ⟨S2, hDI, ev⟩ := S1.lay (k := st.length) (vs := []) hDa
    have hDM : Da ∉ C.M0 := fun z => new_out S1.trk hDa (List.mem_append_left _ z)
    let Wp : Nat → Hp → Prop := fun i H => ∃ sti acc dn res', SI K C (C.vis ws H1) ((st.length, Da) :: ws) sti (wipe σ vs) H ∧ H Da = some (.lst acc) ∧ RpAll K (C.vis ((st.length, Da) :: ws) H) acc dn ∧ dn.length ≤ i ∧ lcLoop is one vs mt me (items.drop i) sti = some (res', s2) ∧ res = dn ++ res'
    have S2u : SI K C (C.vis ws H1) ((st.length, Da) :: ws) s1 σ (upd H1 Da (.lst [])) := by
      have := S2.up
      rw [ev] at this
      exact this
    refine ⟨fun i m H => m = items.length - i ∧ i ≤ items.length ∧ Wp i H, ⟨items.length, rfl, Nat.zero_le _, ⟨wipeS s1 vs, [], [], res, S2u.wipe (fun j hj => wipe_off hj) (wipe_length σ vs), upd_same, .nil, Nat.le_refl _, e2, rfl⟩⟩, ?_⟩
    rintro i m Hi ⟨rfl, hi, sti, acc, dn, res', SW, hacc, racc, hdn, hloop, hres⟩
    have itk := hJ i Hi (C.M ((st.length, Da) :: ws)) SW.vis SW.trk
    have hsl : sti.length = st.length := by rw [SW.len, wipe_length, ← S.len]
    by_cases hlt : i < items.length
    · have hget : items[i]? = some items[i] := by simp [hlt]
      have hdrop : items.drop i = items[i] :: items.drop (i + 1) := (List.drop_eq_getElem_cons hlt)
      rw [hdrop] at hloop
      refine .inr ⟨(itk.1 _ hget).1, Wp (i + 1), fun H' p => ⟨items.length - (i + 1), by omega, rfl, hlt, p⟩, fun x H' y => ?_⟩
      obtain ⟨hx, rx⟩ := (itk.1 _ hget).2 x H' y
      obtain ⟨sa, b, sb, ea, et, alt⟩ := lcLoop_cons hloop
      refine ⟨C, sti, _, sa, ea, C.vis ws H1, _, SW.ex hx, rx, fun σ2 SG off hl2 => ⟨wipe_same (by rw [hl2, wipe_length]) off his, ?_⟩⟩
      have hsa : sa.length ≤ st.length := by rw [asgT_len ea]; omega
      have offv : ∀ j, j ∉ vs → (wipe σ vs)[j]? = σ2[j]? := fun j hj => (off j fun z => hj (his j z)).symm
      have racc1 := racc.le (hx.hide (C.M ((st.length, Da) :: ws)))
      refine ⟨C.pin st.length Da ws H', sa, b, sb, et, _, ws, SG.up.enter hsa, fun H3 S3 => ?_⟩
      obtain ⟨SL, keep⟩ := SG.up.leave hDI S3
      have a3 := keep _ (fun ps z => by cases z) (hx _ _ hacc)
      have racc3 := racc1.le SL.vis
      have hsb : sb.length ≤ st.length := by rw [SL.len, hl2, wipe_length, ← S.len]; omega
      cases b with
      | false =>
        rcases alt with ⟨_, hl3⟩ | ⟨z, _⟩
        · refine iteF ?_
          exact ⟨wipeS sb vs, acc, dn, res', (SL.down SG.vis).wipe offv (by rw [hl2]), a3, racc3, by omega, hl3, hres⟩
        · cases z
      | true =>
        rcases alt with ⟨z, _⟩ | ⟨_, d, sc, ds', ed, hl3, hr3⟩
        · cases z
        · refine iteT ?_
          refine ⟨C.pin st.length Da ws H3, sb, d, sc, ed, _, ws, SL.up.enter hsb, fun yv H4 S4 r4 => ?_⟩
          obtain ⟨SL4, keep4⟩ := SL.up.leave hDI S4
          have a4 := keep4 _ (fun ps z => by cases z) a3
          have racc4 := racc3.le SL4.vis
          rw [pin_vis] at r4
          have hal : acc.length = dn.length := racc4.length
          have hsc : sc.length ≤ st.length := by rw [SL4.len, hl2, wipe_length, ← S.len]; omega
          have hm : Da ∈ C.M ((st.length, Da) :: ws) := List.mem_append_right _ List.mem_cons_self
          refine ⟨acc, a4, ?_, ?_⟩
          · exact Nat.lt_of_le_of_lt (show acc.length ≤ 100000 by have : lim = 100000 := rfl; omega) (by decide)
          · have SF := ((SL4.down SL.vis).down SG.vis).wipe (vs := vs) offv (by rw [hl2])
            refine ⟨wipeS sc vs, acc ++ [yv], dn ++ [d], ds', SF.chg (by rw [wipeS_len]; exact hsc) hDI, upd_same, ?_, by rw [List.length_append, List.length_singleton]; omega, hl3, by rw [hres, hr3, List.append_assoc]; rfl⟩
            rw [vis_upd hm]
            exact racc4.app (.cons r4 .nil)
    · have hie : items.drop i = [] := List.drop_eq_nil_of_le (by omega)
      rw [hie] at hloop
      have hloop : some (([] : List D), sti) = some (res', s2) := hloop
      cases hloop
      refine .inl ⟨itk.2 (by omega), ?_⟩
      have hds : res = dn := by rw [hres, List.append_nil]
      subst hds
      refine q Da acc Hi (S1.back (SW) (fun j hj => wipe_off hj) (wipe_length σ vs)) hDM (by rw [backS_len]; exact hsl) hacc racc
  · cases h
theorem okF_lc {X : Cx} {C : Cc} {elt tg iter : Expr} {ifs : List Expr} {scope : Scope} {own : List (Str × Nat)} {pos : Pos} {is : List Nat} {one : Bool} {mw : SS → Option (List D × SS)} {mt : SS → Option (Bool × SS)} {me : SS → Option (D × SS)}
    (hc : X.calm = true) (hN : X.N.Nodup) (ok : BlkOk X.N X.env.scope scope own) (hw : OkW X C tg iter mw)
    (hg : ∀ (s : Shared) (H : Hp) (Ca : Addr) (cl : List (Str × Addr)) (fp : List Addr) (C' : Cc), OkG (X.blk s H scope (compEnvC scope cl Ca X.env) fp) C' tg one is)
    (ht : ∀ (s : Shared) (H : Hp) (Ca : Addr) (cl : List (Str × Addr)) (fp : List Addr) (C' : Cc), OkTs (X.blk s H scope (compEnvC scope cl Ca X.env) fp) C' ifs mt)
    (he : ∀ (s : Shared) (H : Hp) (Ca : Addr) (cl : List (Str × Addr)) (fp : List Addr) (C' : Cc), OkE (X.blk s H scope (compEnvC scope cl Ca X.env) fp) C' elt me)
    (his : ∀ i ∈ is, i ∈ own.map (·.2)) (hs : ∀ x, foldedSetIterable iter X.env x = pure x) : OkF X C (.ListComp elt [⟨tg, iter, ifs, 0⟩] scope pos) (mLc mw is one (own.map (·.2)) mt me) := fun st ds st' h => by
  obtain ⟨items, s1, e1, rd⟩ := lc_read (K := X.K) (C := C) his h
  exact (pe_lc (g := tGU X.K one is) (tt := tTU X.K mt) (te := tEU X.K me) hc hN (hw _ _ _ e1) ok (fun s H Ca cl fp => pg_U (hg s H Ca cl fp)) (fun s H Ca cl fp => pts_U (ht s H Ca cl fp)) (fun s H Ca cl fp => pe_U (he s H Ca cl fp)) hs).weak fun σ H Q q => rd σ H Q q
/-- name = [..], where the model has it as one step -/
theorem setLc {X : Cx} {C : Cc} {i : Nat} {y : Str} {py spos : Pos} {elt tg iter : Expr} {ifs : List Expr} {scope : Scope} {own : List (Str × Nat)} {pos : Pos} {is : List Nat} {one : Bool} {mw : SS → Option (List D × SS)} {mt : SS → Option (Bool × SS)} {me : SS → Option (D × SS)}
    (hc : X.calm = true) (hN : X.N.Nodup) (hy : X.N[i]? = some y) (hyl : X.env.scope.names.lookup y = some .local) (hsw : swapsWith (.ListComp elt [⟨tg, iter, ifs, 0⟩] scope pos) (some (.Name y py)) spos.line X.env = pure true) (ok : BlkOk X.N X.env.scope scope own) (hw : OkW X C tg iter mw)
    (hg : ∀ (s : Shared) (H : Hp) (Ca : Addr) (cl : List (Str × Addr)) (fp : List Addr) (C' : Cc), OkG (X.blk s H scope (compEnvC scope cl Ca X.env) fp) C' tg one is)
    (ht : ∀ (s : Shared) (H : Hp) (Ca : Addr) (cl : List (Str × Addr)) (fp : List Addr) (C' : Cc), OkTs (X.blk s H scope (compEnvC scope cl Ca X.env) fp) C' ifs mt)
    (he : ∀ (s : Shared) (H : Hp) (Ca : Addr) (cl : List (Str × Addr)) (fp : List Addr) (C' : Cc), OkE (X.blk s H scope (compEnvC scope cl Ca X.env) fp) C' elt me)
    (his : ∀ i ∈ is, i ∈ own.map (·.2)) (hs : ∀ x, foldedSetIterable iter X.env x = pure x) {st st' : SS} {ds : List D} (h : mLc mw is one (own.map (·.2)) mt me st = some (ds, st')) :
    ∃ te, PS X (.Assign [.Name y py] (.ListComp elt [⟨tg, iter, ifs, 0⟩] scope pos) spos) (tAsg te (gName i)) ∧ ∀ σ H Q, tVF X.K C st st' ds σ H Q → te σ H Q := by
  obtain ⟨items, s1, e1, rd⟩ := lc_read (K := X.K) (C := C) his h
  exact ⟨_, ps_setLc (g := tGU X.K one is) (tt := tTU X.K mt) (te := tEU X.K me) hc hN hy hyl hsw (hw _ _ _ e1) ok (fun s H Ca cl fp => pg_U (hg s H Ca cl fp)) (fun s H Ca cl fp => pts_U (ht s H Ca cl fp)) (fun s H Ca cl fp => pe_U (he s H Ca cl fp)) hs, rd⟩
end Pv

/-! Lists that are new, calls of defs. -/
namespace Pv
open PySem L2
variable [HashW]
section
variable {X : Cx} {C : Cc} {a b : Expr} {pos : Pos}
theorem okF_lst {es : List Expr} {m : SS → Option (List D × SS)} (h : OkA X C es m) : OkF X C (.List es pos) fun st => (m st).bind fun r => if r.1.length ≤ lim then some (r.1, r.2) else none := fun st ds st' e => by
  obtain ⟨⟨ds1, s1⟩, e1, e⟩ := bind_some e
  split at e
  · rename_i hl
    cases e
    refine (pe_lst (h _ _ _ e1)).weak fun σ H Q ⟨G, ws, S, q⟩ => ?_
    refine ⟨G, ws, S, fun xs H1 S1 r1 => ⟨?_, fun p hp => tVF_lay S1 (by rw [S1.len, S.len]) hp r1 q⟩⟩
    rw [r1.length]; exact Nat.le_trans hl (by decide)
  · cases e
theorem okF_cat {ma mb : SS → Option (D × SS)} (ha : OkE X C a ma) (hb : OkE X C b mb) : OkF X C (.BinOp a .Add b pos) fun st => (ma st).bind fun x => (listOf x).bind fun l => (mb l.2).bind fun y => (listOf y).bind fun r => if l.1.length + r.1.length ≤ lim then some (l.1 ++ r.1, r.2) else none := fun st ds st' e => by
  obtain ⟨⟨d1, s1⟩, e1, e⟩ := bind_some e
  obtain ⟨⟨l, s1'⟩, e2, e⟩ := bind_some e
  obtain ⟨⟨d2, s2⟩, e3, e⟩ := bind_some e
  obtain ⟨⟨r, s2'⟩, e4, e⟩ := bind_some e
  split at e
  · rename_i hl
    have hl : l.length + r.length ≤ lim := hl
    cases e
    cases d1 with
    | list xs =>
      cases e2
      cases d2 with
      | list ys =>
        cases e4
        refine (pe_op op_catS (ha _ _ _ e1) (hb _ _ _ e3)).weak fun σ H Q ⟨G, ws, S, q⟩ => ?_
        refine ⟨G, ws, S, fun x H1 S1 r1 => ⟨C.vis ws H1, ws, S1.up, fun y H2 S2 r2 => ?_⟩⟩
        obtain ⟨a1, vs, rfl, h1, ra⟩ := (r1.le S2.vis).lst_inv
        obtain ⟨a2, us, rfl, h2, rb⟩ := r2.lst_inv
        refine ⟨a1, a2, vs, us, rfl, rfl, sqL_h h1, sqL_h h2, by rw [ra.length, rb.length]; exact lim_le hl, fun p hp => ?_⟩
        exact tVF_lay (S2.down S1.vis) (by rw [S2.len, S.len]) hp (ra.app rb) q
      | _ => cases e4
    | _ => cases e2
  · cases e
theorem okF_list {ma : SS → Option (D × SS)} {p : Pos} (hg : Gl X "list") (hm : X.mg "list" = none) (ha : OkE X C a ma) (hs : noStar a = true) : OkF X C (.Call (.Name "list" p) [a] [] pos) fun st => (ma st).bind fun x => match x with
      | (.list xs, s) => some (xs, s)
      | (.tuple xs, s) => some (xs, s)
      | _ => none := fun st ds st' e => by
  obtain ⟨⟨d, s⟩, e1, e⟩ := bind_some e
  have P := pe_callTy (p := p) (pos := pos) call_list_of hg hm PyProof.Rows.boot_list (pa_cons (ha _ _ _ e1) pa_nil (nostar_cons (noStar_ne hs))) (by decide) (by decide) (nostar_cons (noStar_ne hs)) (plain_args (by rfl))
  cases d with
  | list xs =>
    cases e
    refine P.weak fun σ H Q ⟨G, ws, S, q⟩ => ⟨G, ws, S, fun x H1 S1 r1 => ?_⟩
    obtain ⟨a1, vs, rfl, h1, ra⟩ := r1.lst_inv
    exact ⟨a1, vs, rfl, .inl (sqL_h h1), fun p hp => tVF_lay S1 (by rw [S1.len, S.len]) hp ra q⟩
  | tuple xs =>
    cases e
    refine P.weak fun σ H Q ⟨G, ws, S, q⟩ => ⟨G, ws, S, fun x H1 S1 r1 => ?_⟩
    obtain ⟨a1, vs, rfl, h1, ra⟩ := r1.tup_inv
    exact ⟨a1, vs, rfl, .inr (sqT_h h1), fun p hp => tVF_lay S1 (by rw [S1.len, S.len]) hp ra q⟩
  | _ => cases e
end

/-! ### promises -/
def NewV (K : W.Frag) (H H2 : Hp) (M : List Addr) (v : V) (d : D) (fr : Bool) : Prop := fr = true → ∃ p us es, v = .ref p ∧ H p = none ∧ H2 p = some (.lst us) ∧ d = .list es ∧ RpAll K (hide H2 (p :: M)) us es
/-- what is wanted of an error -/
def EOut (c : Nat) (m : Option Int) (E : XK) (H2 : Hp) : Prop := match m with
  | none => E (HashW.xc c) none H2
  | some i => ∀ (dx : Addr) (f : Str), H2 dx = some (.xd [(f, .int i)]) → E (HashW.xc c) (some dx) H2
theorem passF {X : Cx} : Passes (L2N.CX X.prog X.w) X E0 := fun _ _ _ _ _ _ _ ⟨_, _, _, _, _, _, _, _, _, _, _, _, z⟩ => z.elim
/-- no table of codes has changed -/
def TbK (H H2 : Hp) : Prop := ∀ b ps, H b = some (.tbl ps) → H2 b = some (.tbl ps)
/-- a def without a list that it changes: R tells its value -/
def spF (K : W.Frag) (n : Nat) (R : List D → Option CR) : Sp := fun vs H Q E => vs.length = n ∧ ∃ (M : List Addr) (ds : List D), (∀ a ∈ M, ∃ o, H a = some o) ∧ RpAll K (hide H M) vs ds ∧
  ((∃ d fr dk, R ds = some (.ok d fr dk) ∧ ∀ v H2, Hx H H2 → Le (hide H M) (hide H2 M) → Rp K (hide H2 M) v d → NewV K H H2 M v d fr → Q v H2) ∨
   (∃ c m, R ds = some (.err c m) ∧ ∀ H2, Hx H H2 → EOut c m E H2))
/-- a def whose first argument is a list of the caller's that it changes -/
def spD (K : W.Frag) (n : Nat) (R : List D → Option CR) : Sp := fun vs H Q _ => vs.length = n ∧ ∃ (M : List Addr) (ds : List D) (a : Addr) (us dv : List V) (dk0 : List D), vs = .ref a :: us ∧ (∀ a ∈ M, ∃ o, H a = some o) ∧ a ∈ M ∧ H a = some (.lst dv) ∧ RpAll K (hide H M) dv dk0 ∧ RpAll K (hide H M) us ds ∧
  ∃ d fr dk, R (.list dk0 :: ds) = some (.ok d fr dk) ∧
  ∀ v H2 dv2, Fra [a] H H2 → TbK H H2 → Le (hide H M) (hide H2 M) → H2 a = some (.lst dv2) → RpAll K (hide H2 M) dv2 dk → Rp K (hide H2 M) v d → NewV K H H2 M v d fr → Q v H2
section
variable {K : W.Frag} {C : Cc} {G : Hp} {ws : Ws} {st st' : SS} {σ σ' : L2.St} {H H' : Hp}
theorem addr_slot (S : SI K C G ws st σ H) {i j : Nat} {a : Addr} (h1 : (i, a) ∈ ws) (h2 : (j, a) ∈ ws) : i = j := by
  have nd := S.nod
  clear S
  induction ws with
  | nil => cases h1
  | cons w r ih =>
    rw [List.map_cons, List.nodup_cons] at nd
    rcases List.mem_cons.mp h1 with e | e <;> rcases List.mem_cons.mp h2 with f | f
    · rw [← e] at f; cases f; rfl
    · subst e; exact absurd (List.mem_map.mpr ⟨_, f, rfl⟩) nd.1
    · subst f; exact absurd (List.mem_map.mpr ⟨_, e, rfl⟩) nd.1
    · exact ih e f nd.2
/-- the list of slot k has changed -/
theorem SI.fraD {k : Nat} {a : Addr} {dv2 : List V} {ds0 dk : List D} (S : SI K C G ws st σ H) (hk : st[k]? = some (.own ds0)) (ha : (k, a) ∈ ws) (ho : σ[k]? = some (some (.ref a))) (f : Fra [a] H H') (tk : TbK H H') (l : Le (C.vis ws H) (C.vis ws H')) (h2 : H' a = some (.lst dv2)) (r2 : RpAll K (C.vis ws H') dv2 dk) : SI K C G ws (st.set k (.own dk)) σ H' where
  len := by rw [List.length_set]; exact S.len
  rep := fun i s h => by
    by_cases hi : k = i
    · subst hi
      rw [List.getElem?_set_self (List.getElem?_eq_some_iff.mp hk).1] at h
      cases h
      exact ⟨a, dv2, ha, ho, h2, r2⟩
    · rw [List.getElem?_set_ne hi] at h
      have q := S.rep i s h
      cases s with
      | no => exact True.intro
      | v d => obtain ⟨v, o, r⟩ := q; exact ⟨v, o, r.le l⟩
      | own ds =>
        obtain ⟨b, vs, m, o, h1, r⟩ := q
        have hne : b ≠ a := fun e => hi (addr_slot S ha (by rw [← e]; exact m))
        exact ⟨b, vs, m, o, f.at (by simpa using hne) h1 (fun ps z => by cases z), r.le l⟩
      | dic ds =>
        obtain ⟨b, vs, m, o, h1, r⟩ := q
        have hne : b ≠ a := fun e => hi (addr_slot S ha (by rw [← e]; exact m))
        exact ⟨b, vs, m, o, f.at (by simpa using hne) h1 (fun ps z => by cases z), r.le l⟩
  nod := S.nod
  frm := fun b o hb q => by
    have hne : b ≠ a := fun e => by
      have := (S.wsn (k, a) ha (by rw [← e]; exact hb)).1
      rw [← e, q] at this
      cases this
    obtain ⟨o1, q1, e1⟩ := S.frm b o hb q
    obtain ⟨o2, q2, e2⟩ := f b o1 (by simpa using hne) q1
    refine ⟨o2, q2, fun t => ?_⟩
    have e1' := e1 t
    subst e1'
    exact e2 t
  vis := S.vis.trans l
  m0 := fun b h => by
    by_cases e : b = a
    · exact ⟨_, by rw [e]; exact h2⟩
    · obtain ⟨o, q⟩ := S.m0 b h
      obtain ⟨o2, q2, _⟩ := f b o (by simpa using e) q
      exact ⟨o2, q2⟩
  wsn := S.wsn
  wst := fun p h => by
    by_cases e : p.2 = a
    · exact ⟨_, by rw [e]; exact h2, fun ps z => by cases z⟩
    · obtain ⟨vs, q, n⟩ := S.wst p h
      exact ⟨vs, f.at (by simpa using e) q n, n⟩
  inM := S.inM
  tbs := S.tbs.step (fun b o h => by
    obtain ⟨h1, h3⟩ := of_hide h
    have hne : b ≠ a := fun e => h1 (by rw [e]; exact List.mem_append_right _ (List.mem_map.mpr ⟨_, ha, rfl⟩))
    show hide _ _ _ = _
    rw [hide_out h1]
    by_cases t : ∃ ps, o = .tbl ps
    · obtain ⟨ps, rfl⟩ := t
      exact tk b ps h3
    · exact f.at (by simpa using hne) h3 fun ps z => t ⟨ps, z⟩) tk
end
/-- a def that stands at x -/
structure DefAt (X : Cx) (x : Str) (sp : Sp) : Prop where
  ex : ∃ (k : Nat) (f : Addr) (fd : FuncData) (ps : List Str), X.mg x = some (.ref f) ∧ W.keepIn X.K (.ref f) = true ∧ Binds X.K fd ps [] ∧ Room k X.A ∧ FnOk X.prog X.w X.K X.mg X.base (L2N.CX X.prog X.w) k f fd ps sp
section
variable {X : Cx} {C : Cc} {a : Expr} {es : List Expr} {x : Str} {n : Nat} {R : List D → Option CR} {m : SS → Option (List D × SS)} {p pos : Pos}
theorem okE_call0 (F : DefAt X x (spF X.K 0 R)) (hg : Gl X x) (hdb : (x == ("__debug__" : Str)) = false) : OkE X C (.Call (.Name x p) [] [] pos) fun st => endCall st (R []) := fun st d st' e => by
  obtain ⟨k, f, fd, ps, hm, hk, hb, hr, F⟩ := F.ex
  refine (pe_call0 F hr hg hm hk hb .nil passF hdb).weak fun σ H Q ⟨G, ws, S, q⟩ => ?_
  unfold endCall at e
  split at e
  · rename_i d' fr dk hR
    cases e
    refine ⟨rfl, C.M ws, [], S.trk, .nil, .inl ⟨d, fr, dk, hR, fun v H2 f l r _ => q v H2 (S.ex f) r⟩⟩
  · cases e
theorem okE_call (F : DefAt X x (spF X.K (es.length + 1) R)) (hg : Gl X x) (hdb : (x == ("__debug__" : Str)) = false) (h : OkA X C (a :: es) m) (hs : (a :: es).all noStar = true) (hlen : ∀ st r, m st = some r → r.1.length = es.length + 1) :
    OkE X C (.Call (.Name x p) (a :: es) [] pos) fun st => (m st).bind fun r => endCall r.2 (R r.1) := fun st d st' e => by
  obtain ⟨⟨ds, s1⟩, e1, e⟩ := bind_some e
  obtain ⟨k, f, fd, ps, hm, hk, hb, hr, F⟩ := F.ex
  have hs2 := hs
  rw [List.all_cons, Bool.and_eq_true] at hs2
  refine (pe_call F hr hg hm hk hb .nil passF (h _ _ _ e1) hdb (nostar_cons (noStar_ne hs2.1)) (plain_args hs2.2)).weak fun σ H Q ⟨G, ws, S, q⟩ => ?_
  unfold endCall at e
  split at e
  · rename_i d' fr dk hR
    cases e
    refine ⟨G, ws, S, fun xs H1 S1 r1 => ?_⟩
    show spF X.K (es.length + 1) R (xs ++ []) H1 Q E0
    rw [List.append_nil]
    refine ⟨by rw [r1.length]; exact hlen _ _ e1, C.M ws, ds, S1.trk, r1, .inl ⟨d, fr, dk, hR, fun v H2 f l r _ => q v H2 (S1.ex f) r⟩⟩
  · cases e
theorem okE_callD {i : Nat} (F : DefAt X x (spD X.K (es.length + 1) R)) (hg : Gl X x) (hdb : (x == ("__debug__" : Str)) = false) (ha : PE X a (tVar i)) (h : OkA X C es m) (hs : (a :: es).all noStar = true) (hlen : ∀ st r, m st = some r → r.1.length = es.length) :
    OkE X C (.Call (.Name x p) (a :: es) [] pos) fun st => (getO st i).bind fun _ => (m st).bind fun r => (getO r.2 i).bind fun dk => endCallD r.2 i (R (.list dk :: r.1)) := fun st d st' e => by
  obtain ⟨dk00, e0, e⟩ := bind_some e
  obtain ⟨⟨ds, s1⟩, e1, e⟩ := bind_some e
  obtain ⟨dk0, e2, e⟩ := bind_some e
  obtain ⟨k, f, fd, ps, hm, hk, hb, hr, F⟩ := F.ex
  have hs2 := hs
  rw [List.all_cons, Bool.and_eq_true] at hs2
  refine (pe_call F hr hg hm hk hb .nil passF (pa_cons ha (h _ _ _ e1) (nostar_cons (noStar_ne hs2.1))) hdb (nostar_cons (noStar_ne hs2.1)) (plain_args hs2.2)).weak fun σ H Q ⟨G, ws, S, q⟩ => ?_
  unfold endCallD at e
  split at e
  · rename_i d' fr dk hR
    cases e
    obtain ⟨a1, vs1, m1, o1, hL1, rr1⟩ := S.rep i _ (getO_some e0)
    refine ⟨_, o1, G, ws, S, fun xs H1 S1 r1 => ?_⟩
    show spD X.K (es.length + 1) R ((V.ref a1 :: xs) ++ []) H1 Q E0
    rw [List.append_nil]
    obtain ⟨a2, vs2, m2, o2, hL2, rr2⟩ := S1.rep i _ (getO_some e2)
    have ea : a2 = a1 := by
      rw [o1] at o2
      have := Option.some.inj (Option.some.inj o2)
      injection this with this
      exact this.symm
    subst ea
    refine ⟨by rw [List.length_cons, r1.length]; exact congrArg (· + 1) (hlen _ _ e1), C.M ws, ds, a2, xs, vs2, dk0, rfl, S1.trk, List.mem_append_right _ (List.mem_map.mpr ⟨_, m2, rfl⟩), hL2, rr2, r1, d, fr, dk, hR, fun v H2 dv2 f tk l h2 r2 r _ => ?_⟩
    exact q v H2 (S1.fraD (getO_some e2) m2 o2 f tk l h2 r2) r
  · cases e
end
end Pv

/-! More words: t[::-1]; split, join; l.index. -/
namespace HT
open PySem PySem.Calls PyProof.Rows
section
variable {prog : Program} {w : World} {A : Around} {E : Value → Shared → Prop} {s : Shared}
theorem adjust_rev (n : Nat) : Builtin.Slice.sliceAdjust none none (-1) (n : Int) = ((n : Int) - 1, -1) := by
  unfold Builtin.Slice.sliceAdjust
  simp
theorem places_rev (n : Nat) : Builtin.Slice.slicePlaces ((n : Int) - 1) (-1) (-1) = n := by
  unfold Builtin.Slice.slicePlaces
  have h1 : ¬ ((-1 : Int) > 0) := by omega
  simp only [h1, if_false]
  by_cases h0 : n = 0
  · subst h0
    decide
  · rw [if_pos (by omega)]
    rw [show (- -1 : Int) = 1 by decide, Int.ediv_one]
    omega
theorem fm_congr {α β : Type} {f g : α → Option β} : ∀ {l : List α}, (∀ m ∈ l, f m = g m) → l.filterMap f = l.filterMap g
  | [], _ => rfl
  | a :: l, h => by
    rw [List.filterMap_cons, List.filterMap_cons, h a List.mem_cons_self, fm_congr fun m hm => h m (List.mem_cons_of_mem _ hm)]
theorem pick_rev (xs : Array Value) : ((List.range xs.size).filterMap fun (m : Nat) => xs[(((xs.size : Int) - 1) + (m : Int) * (-1)).toNat]?).toArray = xs.toList.reverse.toArray := by
  have e : (List.range xs.size).filterMap (fun (m : Nat) => xs[(((xs.size : Int) - 1) + (m : Int) * (-1)).toNat]?) = (List.range xs.size).filterMap (fun (m : Nat) => xs[xs.size - 1 - m]?) := by
    refine fm_congr fun m hm => ?_
    have := List.mem_range.mp hm
    have q : (((xs.size : Int) - 1) + (m : Int) * (-1)).toNat = xs.size - 1 - m := by omega
    rw [q]
  rw [e]
  have e2 : (List.range xs.size).filterMap (fun (m : Nat) => xs[xs.size - 1 - m]?) = ((List.range xs.size).map fun k => xs.size - 1 - k).filterMap (xs[·]?) := by
    rw [List.filterMap_map]
    rfl
  rw [e2, PySem.W.krv_range, List.filterMap_reverse, PySem.W.krv_all]
theorem sliceApplied_rev {sl : Addr} {vl vu vs : Value} {n : Nat} {Q : Int × Int × Nat → Shared → Prop} (hs : s.heap.IsSliceOf sl vl vu vs) (pl : IsPart vl none) (pu : IsPart vu none) (ps : IsPart vs (some (-1)))
    (h : Q ((n : Int) - 1, -1, n) s) : wpAny (model prog w) A (Builtin.Slice.sliceApplied (.ref sl) (pure (n : Int))) Q E s := by
  obtain ⟨os, hos, hcs, hds⟩ := id hs
  unfold Builtin.Slice.sliceApplied Builtin.Slice.sliceFields
  refine wpAny_bind (wpAny_bind (wpAny_field hos hds (x := vl) rfl (wpAny_bind (wpAny_field hos hds (x := vu) rfl (wpAny_bind (wpAny_field hos hds (x := vs) rfl (wpAny_pure ?_)))))))
  refine wpAny_bind (slicePart_ ps ?_)
  show wpAny _ _ (if ((-1 : Int) == 0) = true then _ else _) _ _ s
  rw [if_neg (by decide)]
  refine wpAny_bind (slicePart_ pl (wpAny_bind (slicePart_ pu (wpAny_bind (wpAny_pure ?_)))))
  show wpAny _ _ (match Builtin.Slice.sliceAdjust none none (-1) (n : Int) with | (lo, hi) => pure (lo, (-1 : Int), Builtin.Slice.slicePlaces lo hi (-1))) _ _ s
  rw [adjust_rev n]
  show wpAny _ _ (pure ((n : Int) - 1, (-1 : Int), Builtin.Slice.slicePlaces ((n : Int) - 1) (-1) (-1))) _ _ s
  rw [places_rev]
  exact wpAny_pure h
theorem getItem_tuple_rev {t sl : Addr} {items : Array Value} {vl vu vs : Value} {Q : Value → Shared → Prop} (ht : IsTup s.heap t items) (hs : s.heap.IsSliceOf sl vl vu vs) (pl : IsPart vl none) (pu : IsPart vu none) (ps : IsPart vs (some (-1)))
    (h : Q (.ref s.heap.objs.size) { s with heap := s.heap.push { cls := .type "tuple", data := .seq items.toList.reverse.toArray } })
    (hsz : items.size ≤ sizeLine) : wpAny (model prog w) A (getItem (.ref t) (.ref sl)) Q E s := by
  have htake : sizeOk (.seq items.toList.reverse.toArray) := by
    show items.toList.reverse.toArray.size ≤ sizeLine
    rw [List.size_toArray, List.length_reverse, Array.length_toList]
    exact hsz
  obtain ⟨os, hos, hcs, hds⟩ := id hs
  have hTs : s.TypeIs (.ref sl) "slice" := ⟨os, hos, hcs⟩
  unfold getItem
  try with_reducible refine wpAny_holding ?_
  first | refine wpAny_bind (wpAny_pure ?_) | skip
  refine wpAny_bind (wpAny_sequenceKey ht.typeIs (by decide) ?_)
  refine wpAny_bind (wpAny_callSpecial?_slot (name := Str.ofString "__getitem__") ht.typeIs PyProof.Rows.slot_tuple_getitem
    (wpAny_call_entry PyProof.Rows.slot_tuple_getitem ht.typeIs entry_tuple_getitem ?_ (args_tuple_getitem _ _)))
  show wpAny _ _ (Builtin.Tuple.tupleItemsOf (.ref t) >>= _) _ _ s
  refine wpAny_bind (tupleItemsOf_ ht ?_)
  refine wpAny_bind (wpAny_typeOf hTs ?_)
  rw [if_pos (by decide)]
  refine wpAny_bind (sliceApplied_rev hs pl pu ps ?_)
  have hno : ¬ (((((items.size : Int) - 1)) == 0 && (-1 : Int) == 1 && (items.size) == items.size) = true) := by
    intro q
    rw [Bool.and_eq_true, Bool.and_eq_true] at q
    exact absurd q.1.2 (by decide)
  show wpAny _ _ (if ((((items.size : Int) - 1)) == 0 && (-1 : Int) == 1 && (items.size) == items.size) = true then _ else _) _ _ s
  rw [if_neg hno, pick_rev]
  first
    | exact wpAny_bind (m := Builtin.Tuple.tupleExact _) (wpAny_newObj_type (wpAny_pure ⟨_, rfl, wpAny_pure h⟩) htake)
    | exact wpAny_bind (m := Builtin.Tuple.tupleExact _) (wpAny_newObj_type (wpAny_bind (wpAny_pure (wpAny_pure ⟨_, rfl, wpAny_pure h⟩))) htake)
    | exact wpAny_bind (wpAny_bind (m := Builtin.Tuple.tupleExact _) (wpAny_newObj_type (wpAny_pure (wpAny_pure ⟨_, rfl, wpAny_pure h⟩)) htake))
    | exact wpAny_bind (wpAny_bind (m := Builtin.Tuple.tupleExact _) (wpAny_newObj_type (wpAny_pure ⟨_, rfl, wpAny_pure h⟩) htake))
end
end HT
namespace L2
open PySem PySem.Spec PyProof.Rows
section
variable {X : Cx}
def tRevT (K : PySem.W.Frag) (te : TE) : TE := fun σ H Q => te σ H fun x H1 => ∃ a xs, x = .ref a ∧ SqT K H1 a xs ∧ ∀ p, H1 p = none → Q (.ref p) (upd H1 p (.tup xs.reverse))
theorem pe_revT {e : Expr} {te : TE} {k : Nat} {p1 p2 p3 pos : Pos} (he : PE X e te) : PE X (.Subscript e (.Slice none none (some (.UnaryOp .USub (.Constant (.int 1) k p1) p2)) p3) pos) (tRevT X.K te) := by
  refine ⟨fun pins s σ H Q I h => ?_⟩
  refine Subscript_ (thn (he.run pins s σ H _ I h) fun v s1 ⟨x, H1, I1, r1, q1⟩ => ?_)
  obtain ⟨a, xs, ex, hx, q⟩ := q1
  subst ex
  cases r1
  have hst : PO X (some (.UnaryOp .USub (.Constant (.int 1) k p1) p2)) (tPart (tUn (rU fun i => .int (-i)) (tC (.int 1)))) := po_some (pe_un un_neg pe_int)
  refine wpAny_Slice (thn (po_none.run pins s1 σ H1 (fun o H2 => o = none ∧ H2 = H1) I1 ⟨rfl, rfl⟩) fun vl s2 ⟨l, H2, I2, pl, el, e2⟩ => ?_)
  subst el e2
  refine thn (po_none.run pins s2 σ H2 (fun o H3 => o = none ∧ H3 = H2) I2 ⟨rfl, rfl⟩) fun vu s3 ⟨u, H3, I3, pu, eu, e3⟩ => ?_
  subst eu e3
  refine thn (hst.run pins s3 σ H3 (fun o H4 => o = some (-1) ∧ H4 = H3) I3 ⟨1, rfl, -1, rfl, rfl, rfl⟩) fun vs s4 ⟨o, H4, I4, ps, eo, e4⟩ => ?_
  subst eo e4
  have I5 : Inv X pins σ H4 { s4 with heap := s4.heap.push { cls := .type "slice", data := .fields #[vl, vu, vs] } } := I4.kept (t' := s4.toks) fun b ob q => Heap.get?_push_of_some _ q
  obtain ⟨its, r, ht, hz⟩ := I5.tuple hx
  have hlen := r.length
  show wpAny (model X.prog X.w) X.A (subscriptTail e (.Slice none none (some (.UnaryOp .USub (.Constant (.int 1) k p1) p2)) p3) (.ref a) (.ref s4.heap.objs.size)) (EP X pins σ Q) X.xe { s4 with heap := s4.heap.push { cls := .type "slice", data := .fields #[vl, vu, vs] } }
  refine tail_any (ops := [.ref a, .ref s4.heap.objs.size]) ht.typeIs (PyProof.Rows.slot_tuple_getitem.lookup) ?_ (by with_unfolding_all rfl)
  refine HT.getItem_tuple_rev ht (Heap.IsSliceOf.new _ vl vu vs) pl pu ps ?_ (by rw [List.size_toArray]; omega)
  refine ⟨.ref _, _, I5.laid (t' := s4.toks) (o := .tup xs.reverse) (fun b ob q => Heap.get?_push_of_some _ q) (Nat.le_refl _) ?_, rfl, q _ (I5.hok.fresh (Nat.le_refl _))⟩
  exact ⟨by rw [List.length_reverse]; exact hz, _, r.reverse, IsTup.new _ _⟩
end
end L2
namespace Pv
open PySem L2
variable [HashW]
theorem _root_.L2.RpAll.rev {K : W.Frag} {G : Hp} : ∀ {vs : List V} {ds : List D}, RpAll K G vs ds → RpAll K G vs.reverse ds.reverse
  | _, _, .nil => .nil
  | _, _, .cons r rs => by
    rw [List.reverse_cons, List.reverse_cons]
    exact rs.rev.app (.cons r .nil)
section
variable {X : Cx} {C : Cc}
/-- x[::-1] -/
theorem okE_slr {a : Expr} {ma : SS → Option (D × SS)} {k : Nat} {p1 p2 p3 pos : Pos} (ha : OkE X C a ma) : OkE X C (.Subscript a (.Slice none none (some (.UnaryOp .USub (.Constant (.int 1) k p1) p2)) p3) pos) fun st => (ma st).bind fun x => (revD x.1).map fun d => (d, x.2) := fun st d st' h => by
  obtain ⟨⟨d1, s1⟩, e1, h⟩ := bind_some h
  obtain ⟨d2, e2, h⟩ := map_some h
  cases h
  have e2 : revD d1 = some d := e2
  cases d1 with
  | tuple xs =>
    cases e2
    refine (pe_revT (ha _ _ _ e1)).weak fun σ H Q ⟨G, ws, S, q⟩ => ⟨G, ws, S, fun v H2 S2 r => ?_⟩
    obtain ⟨p, vs, rfl, hs, rs⟩ := r.tup_inv
    refine ⟨p, vs, rfl, sqT_h hs, fun z hz => q _ _ (S2.ex (Hx.new hz)) (dp_newT S2.trk hz ?_)⟩
    exact rs.rev
  | list xs =>
    cases e2
    refine (pe_revL (ha _ _ _ e1)).weak fun σ H Q ⟨G, ws, S, q⟩ => ⟨G, ws, S, fun v H2 S2 r => ?_⟩
    obtain ⟨p, vs, rfl, hs, rs⟩ := r.lst_inv
    refine ⟨p, vs, rfl, sqL_h hs, fun z hz => q _ _ (S2.ex (Hx.new hz)) (dp_newL S2.trk hz ?_)⟩
    exact rs.rev
  | _ => cases e2
theorem txs_v {K : W.Frag} {G : Hp} : ∀ {ds : List D} {vs : List V} {ys : List Str}, RpAll K G vs ds → txsD ds = some ys → vs = ys.map V.str
  | [], vs, ys, r, h => by
    cases r
    cases h
    rfl
  | d :: ds, vs, ys, r, h => by
    cases d with
    | str x =>
      obtain ⟨zs, e1, e2⟩ := map_some (show (txsD ds).map (x :: ·) = some ys from h)
      cases r with
      | cons r1 rs =>
        rw [← e2, r1.str_inv, txs_v rs e1]
        rfl
    | _ => cases h
theorem rp_strs {K : W.Frag} {G : Hp} : ∀ ys : List Str, RpAll K G (ys.map V.str) (ys.map PyData.str)
  | [] => .nil
  | y :: ys => .cons (.str y) (rp_strs ys)
theorem ixOf_some {d : D} : ∀ {ds : List D} {j : Nat}, ixOf d ds = some j → ∃ z, ds[j]? = some z ∧ PyData.eqv z d = true ∧ ∀ (m : Nat) (z' : PyData), m < j → ds[m]? = some z' → PyData.eqv z' d = false
  | [], j, h => by cases h
  | z :: r, j, h => by
    unfold ixOf at h
    split at h
    · rename_i e
      cases h
      exact ⟨z, rfl, e, fun m _ hm => absurd hm (Nat.not_lt_zero m)⟩
    · rename_i e
      obtain ⟨i, e1, rfl⟩ := map_some h
      obtain ⟨y, h1, h2, h3⟩ := ixOf_some e1
      refine ⟨y, h1, h2, fun m z' hm hz => ?_⟩
      cases m with
      | zero =>
        cases hz
        simpa using e
      | succ m => exact h3 m z' (by omega) hz
/-- o.m(e) -/
theorem okE_mth {m : Mt} {o e : Expr} {mo me : SS → Option (D × SS)} {apos cpos : Pos} (hu : X.A.units + 65 < cLine) (ho : OkE X C o mo) (he : OkE X C e me) (hs : noStar e = true) (hb : ∀ nm : Str, attributeBase o nm X.env (eval o X.env) = eval o X.env) (hl : (apos.endLine == cpos.line) = true) :
    OkE X C (.Call (.Attribute o (Str.ofString m.nm) apos) [e] [] cpos) fun st => (mo st).bind fun x => (me x.2).bind fun y => (mthD m x.1 [y.1]).map fun d => (d, y.2) := fun st d st' h => by
  obtain ⟨⟨d1, s1⟩, e1, h⟩ := bind_some h
  obtain ⟨⟨d2, s2⟩, e2, h⟩ := bind_some h
  obtain ⟨d3, e3, h⟩ := map_some h
  cases h
  have e3 : mthD m d1 [d2] = some d := e3
  have st1 : starEach [e] X.env = [(false, eval e X.env)] := nostar_cons (noStar_ne hs)
  cases m with
  | count => cases e3
  | split =>
    cases d1 with
    | str a =>
      cases d2 with
      | str b =>
        have e3 : (if (b.length == 0) = false ∧ a.length ≤ lim then some (PyData.list ((Txt.split a b).map .str)) else none) = some d := e3
        split at e3
        · rename_i hc
          cases e3
          refine (pe_split (ho _ _ _ e1) (he _ _ _ e2) st1 (hb _) hl).weak fun σ H Q ⟨G, ws, S, q⟩ => ⟨G, ws, S, fun v H2 S2 r => ⟨⟨a, r.str_inv⟩, G, ws, S2, fun u H3 S3 r3 => ⟨a, b, r.str_inv, by rw [r3.str_inv], hc.1, ?_, fun p hp => q _ _ (S3.ex (Hx.new hp)) (dp_newL S3.trk hp (rp_strs _))⟩⟩⟩
          have := hc.2
          exact Nat.le_trans (Nat.add_le_add_right this 2) (by decide)
        · cases e3
      | _ => cases e3
    | _ => cases e3
  | join =>
    cases d1 with
    | str a =>
      cases d2 with
      | list xs =>
        have e3 : ((txsD xs).bind fun ys => if (ys.map (·.length)).sum + ys.length * a.length ≤ lim then some (PyData.str (Txt.join a ys)) else none) = some d := e3
        obtain ⟨ys, ey, e3⟩ := bind_some e3
        split at e3
        · rename_i hc
          cases e3
          refine (pe_join (ho _ _ _ e1) (he _ _ _ e2) st1 (hb _) hl).weak fun σ H Q ⟨G, ws, S, q⟩ => ⟨G, ws, S, fun v H2 S2 r => ⟨⟨a, r.str_inv⟩, G, ws, S2, fun u H3 S3 r3 => ?_⟩⟩
          obtain ⟨p, vs, rfl, hq, rs⟩ := r3.lst_inv
          exact ⟨a, p, ys, r.str_inv, rfl, .inl (by rw [← txs_v rs ey]; exact sqL_h hq), Nat.le_trans hc (by decide), q _ _ S3 (.str _)⟩
        · cases e3
      | _ => cases e3
    | _ => cases e3
  | index =>
    cases d1 with
    | list xs =>
      have e3 : (if SeqAt.shaped (.list xs) = true ∧ SeqAt.shaped d2 = true ∧ xs.length ≤ lim then (ixOf d2 xs).map fun i : Nat => PyData.int (i : Int) else none) = some d := e3
      split at e3
      · rename_i hc
        obtain ⟨j, ej, rfl⟩ := map_some e3
        obtain ⟨z, z1, z2, z3⟩ := ixOf_some ej
        refine (pe_bm PySem.F.plainAttrs_list PySem.F.slot_list_index PySem.F.type_list_index (mt_indexD hu) (ho _ _ _ e1) (pa_cons (he _ _ _ e2) pa_nil (nostar_cons (noStar_ne hs))) (hb _) (by rw [nostar_cons (noStar_ne hs)]; rfl) hl (nostar_cons (noStar_ne hs)) (plain_args (by rfl))).weak fun σ H Q ⟨G, ws, S, q⟩ => ⟨G, ws, S, fun v H2 S2 r => ?_⟩
        obtain ⟨p, vs, rfl, hq, rs⟩ := r.lst_inv
        have r := (Rp.lst hq rs : Rp X.K (C.vis ws H2) (.ref p) (.list xs))
        refine ⟨.inl ⟨rfl, vs, sqL_h hq⟩, C.vis ws H2, ws, S2.up, fun u H3 S3 r3 => ?_⟩
        refine ⟨p, u, d2, xs, j, z, rfl, rfl, Rp.dp (SeqAt.canLay_of_shaped hc.1) ((r.le S3.vis).le (hide_le _ _)), Rp.dp (SeqAt.canLay_of_shaped hc.2.1) (r3.le (hide_le _ _)), hc.1, hc.2.1, z1, z2, z3, q _ _ (S3.down S2.vis) (.int _)⟩
      · cases e3
    | _ => cases e3
end
end Pv

/-! A dict of the module from texts to ints. -/
namespace Pv
open PySem L2
variable [HashW]
/-- its entries, by a hash of texts -/
def GdEs (kh : Str → Int) : List DictEntry → List (Str × Int) → Prop
  | [], [] => True
  | e :: r, q :: s => (∃ t, e.key = .str q.1 t) ∧ e.hash = kh q.1 ∧ (∃ t, e.val = .int q.2 t) ∧ GdEs kh r s
  | _, _ => False
structure GdAt (K : W.Frag) (mg : Str → Option Value) (x : Str) (kvs : List (Str × Int)) : Prop where
  ex : ∃ (a : Addr) (es : Array DictEntry) (n : Nat), mg x = some (.ref a) ∧ K.lookup a = some ⟨.type "dict", none, .dict es n, #[]⟩ ∧ GdEs (fun x => HashW.hf (.text x)) es.toList kvs ∧ (a == sysModules) = false
theorem gd_lit {w : World} (hw : ∀ k, HashW.hf k = k.hash w) : ∀ {es : List DictEntry} {kvs : List (Str × Int)}, GdEs (fun x => HashW.hf (.text x)) es kvs → W.KeysLit w.params es
  | [], [], _ => True.intro
  | e :: r, q :: s, ⟨⟨t, h1⟩, h2, _, h4⟩ => ⟨⟨q.1, t, h1, by rw [h2]; exact hw (.text q.1)⟩, gd_lit hw h4⟩
theorem gd_find {kh : Str → Int} {z : Str} : ∀ {es : List DictEntry} {kvs : List (Str × Int)}, GdEs kh es kvs → (kvs.lookup z = none ∧ es.find? (·.key.isStr z) = none ∧ es.any (·.refKey) = false) ∨ (∃ i e t, kvs.lookup z = some i ∧ es.find? (·.key.isStr z) = some e ∧ e.val = .int i t)
  | [], [], _ => .inl ⟨rfl, rfl, rfl⟩
  | e :: r, (x, v) :: s, ⟨⟨t, h1⟩, h2, ⟨t2, h3⟩, h4⟩ => by
    have k : e.key.isStr z = (x == z) := by rw [h1]; rfl
    have rk : e.refKey = false := by unfold DictEntry.refKey; rw [h1]
    rw [List.lookup_cons, List.find?_cons, k]
    cases c : z == x with
    | true =>
      have : z = x := eq_of_beq c
      subst this
      rw [c]
      exact .inr ⟨v, e, t2, rfl, rfl, h3⟩
    | false =>
      have c2 : (x == z) = false := by
        rw [beq_eq_false_iff_ne] at c ⊢
        exact fun q => c q.symm
      rw [c2]
      rcases gd_find (z := z) h4 with ⟨a, b, d⟩ | ⟨i, e', t', a, b, d⟩
      · exact .inl ⟨a, b, by rw [List.any_cons, rk, d]; rfl⟩
      · exact .inr ⟨i, e', t', a, b, d⟩
theorem gd_ns {K : W.Frag} {a : Addr} {es : Array DictEntry} {n : Nat} {kh : Str → Int} {kvs : List (Str × Int)} (hl : K.lookup a = some ⟨.type "dict", none, .dict es n, #[]⟩) (g : GdEs kh es.toList kvs) (z : Str) :
    (kvs.lookup z = none ∧ W.nsIn K a z = some none) ∨ (∃ i t, kvs.lookup z = some i ∧ W.nsIn K a z = some (some (.int i t))) := by
  unfold W.nsIn
  rw [hl]
  rcases gd_find (z := z) g with ⟨q1, q2, q3⟩ | ⟨i, e, t, q1, q2, q3⟩
  · refine .inl ⟨q1, ?_⟩
    show (match es.toList.find? (·.key.isStr z) with
      | some e => some (some e.val)
      | none => if es.toList.any (·.refKey) then none else some none) = _
    rw [q2, q3]
    rfl
  · refine .inr ⟨i, t, q1, ?_⟩
    show (match es.toList.find? (·.key.isStr z) with
      | some e => some (some e.val)
      | none => if es.toList.any (·.refKey) then none else some none) = _
    rw [q2]
    show some (some e.val) = _
    rw [q3]
section
variable {X : Cx} {C : Cc}
theorem okE_gIn {a : Expr} {ma : SS → Option (D × SS)} {x : Str} {kvs : List (Str × Int)} {neg : Bool} {p pos : Pos} (hw : HashIs X) (A : GdAt X.K X.mg x kvs) (hg : Gl X x) (hdb : (x == ("__debug__" : Str)) = false) (ha : OkE X C a ma) (hm : behindInMarks (if neg then .NotIn else .In) (.Name x p) = false) :
    OkE X C (.Compare a [if neg then .NotIn else .In] [.Name x p] pos) fun st => (ma st).bind fun z => (strOf z).map fun y => (.bool (neg != (kvs.lookup y.1).isSome), y.2) := fun st d st' h => by
  obtain ⟨⟨d1, s1⟩, e1, h⟩ := bind_some h
  obtain ⟨⟨y, s2⟩, e2, h⟩ := map_some h
  cases h
  have e2 : strOf (d1, s1) = some (y, s2) := e2
  have e2 : d1 = .str y ∧ s1 = s2 := by
    cases d1 with
    | str x => cases e2; exact ⟨rfl, rfl⟩
    | _ => cases e2
  obtain ⟨rfl, rfl⟩ := e2
  obtain ⟨ad, es, n, m1, m2, m3, m4⟩ := A.ex
  have D : KDict X.K X.w ad es n := ⟨m2, gd_lit hw m3, m4⟩
  have gb : PE X (.Name x p) (tC (.ref ad)) := pe_glob hg m1 rfl hdb
  cases neg with
  | false =>
    refine (pe_cmpR (op_in_kd D) (ha _ _ _ e1) gb hm).weak fun σ H Q ⟨G, ws, S, q⟩ => ⟨G, ws, S, fun v H2 S2 r => ?_⟩
    rcases gd_ns m2 m3 y with ⟨q1, q2⟩ | ⟨i, t, q1, q2⟩
    · refine ⟨y, _, r.str_inv, rfl, q2, q _ _ S2 ?_⟩
      rw [q1]
      exact .bl false
    · refine ⟨y, _, r.str_inv, rfl, q2, q _ _ S2 ?_⟩
      rw [q1]
      exact .bl true
  | true =>
    refine (pe_cmpR (op_notIn_kd D) (ha _ _ _ e1) gb hm).weak fun σ H Q ⟨G, ws, S, q⟩ => ⟨G, ws, S, fun v H2 S2 r => ?_⟩
    rcases gd_ns m2 m3 y with ⟨q1, q2⟩ | ⟨i, t, q1, q2⟩
    · refine ⟨y, _, r.str_inv, rfl, q2, q _ _ S2 ?_⟩
      rw [q1]
      exact .bl true
    · refine ⟨y, _, r.str_inv, rfl, q2, q _ _ S2 ?_⟩
      rw [q1]
      exact .bl false
theorem okT_gIn {a : Expr} {ma : SS → Option (D × SS)} {x : Str} {kvs : List (Str × Int)} {neg : Bool} {p pos : Pos} (hw : HashIs X) (A : GdAt X.K X.mg x kvs) (hg : Gl X x) (hdb : (x == ("__debug__" : Str)) = false) (ha : OkE X C a ma) (hm : behindInMarks (if neg then .NotIn else .In) (.Name x p) = false) :
    OkT X C (.Compare a [if neg then .NotIn else .In] [.Name x p] pos) (tm fun st => (ma st).bind fun z => (strOf z).map fun y => (.bool (neg != (kvs.lookup y.1).isSome), y.2)) := fun st b st' h => by
  have h := tm_some h
  obtain ⟨⟨d1, s1⟩, e1, h⟩ := bind_some h
  obtain ⟨⟨y, s2⟩, e2, h⟩ := map_some h
  have h : (PyData.bool (neg != (kvs.lookup y).isSome), s2) = (PyData.bool b, st') := h
  have hb : (neg != (kvs.lookup y).isSome) = b := PyData.bool.inj (congrArg (·.1) h)
  have hs : s2 = st' := congrArg (·.2) h
  subst hs hb
  have e2 : strOf (d1, s1) = some (y, s2) := e2
  have e2 : d1 = .str y ∧ s1 = s2 := by
    cases d1 with
    | str x => cases e2; exact ⟨rfl, rfl⟩
    | _ => cases e2
  obtain ⟨rfl, rfl⟩ := e2
  obtain ⟨ad, es, n, m1, m2, m3, m4⟩ := A.ex
  have D : KDict X.K X.w ad es n := ⟨m2, gd_lit hw m3, m4⟩
  have gb : PE X (.Name x p) (tC (.ref ad)) := pe_glob hg m1 rfl hdb
  cases neg with
  | false =>
    refine (pt_cmpR (op_in_kd D) (ha _ _ _ e1) gb hm).weak fun σ H Q ⟨G, ws, S, q⟩ => ⟨G, ws, S, fun v H2 S2 r => ?_⟩
    rcases gd_ns m2 m3 y with ⟨q1, q2⟩ | ⟨i, t, q1, q2⟩
    · refine ⟨y, _, r.str_inv, rfl, q2, _, rfl, ?_⟩
      rw [q1] at q
      exact q _ S2
    · refine ⟨y, _, r.str_inv, rfl, q2, _, rfl, ?_⟩
      rw [q1] at q
      exact q _ S2
  | true =>
    refine (pt_cmpR (op_notIn_kd D) (ha _ _ _ e1) gb hm).weak fun σ H Q ⟨G, ws, S, q⟩ => ⟨G, ws, S, fun v H2 S2 r => ?_⟩
    rcases gd_ns m2 m3 y with ⟨q1, q2⟩ | ⟨i, t, q1, q2⟩
    · refine ⟨y, _, r.str_inv, rfl, q2, _, rfl, ?_⟩
      rw [q1] at q
      exact q _ S2
    · refine ⟨y, _, r.str_inv, rfl, q2, _, rfl, ?_⟩
      rw [q1] at q
      exact q _ S2
theorem okE_gIdx {a : Expr} {ma : SS → Option (D × SS)} {x : Str} {kvs : List (Str × Int)} {p pos : Pos} (hw : HashIs X) (A : GdAt X.K X.mg x kvs) (hg : Gl X x) (hdb : (x == ("__debug__" : Str)) = false) (ha : OkE X C a ma) (hp : PlainIx a) :
    OkE X C (.Subscript (.Name x p) a pos) fun st => (ma st).bind fun z => (strOf z).bind fun y => (kvs.lookup y.1).map fun i => (.int i, y.2) := fun st d st' h => by
  obtain ⟨⟨d1, s1⟩, e1, h⟩ := bind_some h
  obtain ⟨⟨y, s2⟩, e2, h⟩ := bind_some h
  obtain ⟨i, ei, h⟩ := map_some h
  cases h
  have e2 : strOf (d1, s1) = some (y, s2) := e2
  have e2 : d1 = .str y ∧ s1 = s2 := by
    cases d1 with
    | str x => cases e2; exact ⟨rfl, rfl⟩
    | _ => cases e2
  obtain ⟨rfl, rfl⟩ := e2
  obtain ⟨ad, es, n, m1, m2, m3, m4⟩ := A.ex
  have gb : PE X (.Name x p) (tC (.ref ad)) := pe_glob hg m1 rfl hdb
  refine (pe_ix ix_kdict gb (ha _ _ _ e1) hp).weak fun σ H Q ⟨G, ws, S, q⟩ => ⟨G, ws, S, fun v H2 S2 r => ?_⟩
  rcases gd_ns m2 m3 y with ⟨q1, q2⟩ | ⟨j, t, q1, q2⟩
  · rw [q1] at ei
    cases ei
  · rw [q1] at ei
    cases ei
    exact ⟨ad, y, .int i, rfl, r.str_inv, ⟨es, n, _, m2, gd_lit hw m3, q2, ⟨t, rfl⟩⟩, q _ _ S2 (.int i)⟩
end
end Pv

/-! A tree of the small language beside one of Python's: the look, and that it suffices. -/
namespace Pv
open PySem L2
variable [HashW]
/-- a module's constants; its defs (whether the first argument is a list that the def changes; the number of arguments); the builtins that are as they were -/
structure Tab where
  gs : List (Str × D)
  fs : List (Str × Bool × Nat)
  bs : List Str
  ex : List Str
  /-- the def that tries calls; whether this def is that -/
  tr : Str
  tri : Bool
  /-- dicts of the module from texts to ints -/
  gd : List (Str × List (Str × Int))
/-- the classes of errors without an __init__ of their own, by numbers; then those with one -/
def exNames : List Str := ["InvalidStreet", "InvalidHistory", "InvalidHome", "InvalidOrder", "InvalidHarm", "InvalidNumber", "Impossible", "Unlike", "NothingToUndo", "TooMany", "InvalidText"].map Str.ofString
def Bl.nm : Bl → String
  | .len => "len" | .all => "all" | .any => "any" | .sorted => "sorted" | .list => "list" | .tuple => "tuple" | .int => "int" | .bool => "bool" | .str => "str" | .min2 => "min"
def Bl.many : Bl → Nat
  | .min2 => 2 | _ => 1
def isGl (sc : Scope) (x : Str) : Bool := decide (sc.names.lookup x = some .globalImplicit) && !(x == ("__debug__" : Str)) && !(x == ("__name__" : Str))
def isBl (T : Tab) (sc : Scope) (x : Str) (s : String) : Bool := decide (x = Str.ofString s) && isGl sc x && decide (x ∈ T.bs)
def nameOk (N : List Str) (sc : Scope) (i : Nat) (x : Str) : Bool := decide (N[i]? = some x) && (decide (sc.names.lookup x = some .local) || decide (sc.names.lookup x = some .cell) || decide (sc.names.lookup x = some .free)) && !(x == ("__debug__" : Str)) && !(x == ("__classdict__" : Str))
def constOk : D → Expr → Bool
  | .int i, .Constant (.int j) _ _ => decide (i = j)
  | .bool i, .Constant (.bool j) _ _ => decide (i = j)
  | .none, .Constant .none _ _ => true
  | .str x, .Constant (.str y) _ _ => decide (x = y)
  | _, _ => false
def plainIx : Expr → Bool
  | .Slice _ _ _ _ => false | _ => true
def storable (sc : Scope) : Expr → Bool
  | .Name x _ => decide (sc.names.lookup x = some .local) || decide (sc.names.lookup x = some .cell)
  | _ => false
def tgOk (N : List Str) (sc : Scope) (one : Bool) (is : List Nat) (tg : Expr) : Bool :=
  match one, tg with
  | true, .Name x p => storable sc (.Name x p) && NamesAt N is [.Name x p]
  | false, .Tuple es _ _ => es.all (storable sc) && NamesAt N is es
  | _, _ => false
def ownNames (N : List Str) (own : List Nat) : List (Str × Nat) := own.filterMap fun i => N[i]?.map fun x => (x, i)
def notSet : Expr → Bool
  | .Set _ _ _ => false | _ => true
/-- not super() -/
def plainO : Expr → Bool
  | .Call (.Name _ _) [] [] _ => false | _ => true
def isTup : Expr → Bool
  | .Tuple _ _ _ => true | _ => false
section
variable (T : Tab) (N : List Str)
mutual
def chkE (sc : Scope) : Ex → Expr → Bool
  | .var i, e => match e with
    | .Name x _ => nameOk N sc i x
    | _ => false
  | .cst d, e => constOk d e
  | .glb g, e => match e with
    | .Name x _ => decide (T.gs[g]?.map (·.1) = some x) && isGl sc x
    | _ => false
  | .tup es, e => match e with
    | .Tuple l _ _ => chkA sc es l
    | _ => false
  | .lst es, e => match e with
    | .List l _ => chkA sc es l
    | _ => false
  | .rep es k, e => match e with
    | .BinOp (.List l _) .Mult b _ => chkA sc es l && chkE sc k b
    | _ => false
  | .bin op a b, e => match e with
    | .BinOp x o y _ => decide (op = o) && chkE sc a x && chkE sc b y
    | _ => false
  | .neg a, e => match e with
    | .UnaryOp .USub x _ => chkE sc a x
    | _ => false
  | .not a, e => match e with
    | .UnaryOp .Not x _ => chkE sc a x
    | _ => false
  | .and a b, e => match e with
    | .BoolOp .And [x, y] _ => chkE sc a x && chkE sc b y
    | .BoolOp .And (x :: y :: z :: r) p => chkE sc a x && chkE sc b (.BoolOp .And (y :: z :: r) p)
    | _ => false
  | .or a b, e => match e with
    | .BoolOp .Or [x, y] _ => chkE sc a x && chkE sc b y
    | .BoolOp .Or (x :: y :: z :: r) p => chkE sc a x && chkE sc b (.BoolOp .Or (y :: z :: r) p)
    | _ => false
  | .cmp op a b, e => match e with
    | .Compare x [o] [y] _ => decide (op = o) && chkE sc a x && chkE sc b y && !behindInMarks o y
    | _ => false
  | .chain o1 o2 a b c, e => match e with
    | .Compare x [p1, p2] [y, z] _ => decide (o1 = p1) && decide (o2 = p2) && chkE sc a x && chkE sc b y && chkE sc c z && !lastMarks [p1, p2] [y, z]
    | _ => false
  | .ite c a b, e => match e with
    | .IfExp t x y _ => chkE sc c t && chkE sc a x && chkE sc b y
    | _ => false
  | .idx a i, e => match e with
    | .Subscript x y _ => chkE sc a x && chkE sc i y && plainIx y
    | _ => false
  | .sl a lo hi, e => match e with
    | .Subscript x (.Slice l h none _) _ => chkE sc a x && chkO sc lo l && chkO sc hi h
    | _ => false
  | .call f es, e => match e with
    | .Call (.Name x _) l [] _ => decide (T.fs[f]? = some (x, false, l.length)) && decide (x ≠ T.tr) && isGl sc x && chkA sc es l
    | _ => false
  | .callD f k es, e => match e with
    | .Call (.Name x _) (.Name y _ :: l) [] _ => decide (T.fs[f]? = some (x, true, l.length + 1)) && decide (x ≠ T.tr) && isGl sc x && nameOk N sc k y && chkA sc es l
    | _ => false
  | .blt b es, e => match e with
    | .Call (.Name x _) (y :: l) [] _ => isBl T sc x b.nm && decide ((y :: l).length = b.many) && chkA sc es (y :: l)
    | _ => false
  | .isi a t, e => match e with
    | .Call (.Name x _) [y, .Name z _] [] _ => isBl T sc x "isinstance" && isBl T sc z t.nm && chkE sc a y
    | _ => false
  | .isi2 a t u, e => match e with
    | .Call (.Name x _) [y, .Tuple [.Name z _, .Name z2 _] _ _] [] _ => isBl T sc x "isinstance" && isBl T sc z t.nm && isBl T sc z2 u.nm && chkE sc a y
    | _ => false
  | .lc w tg one own c e, ex => match ex with
    | .ListComp elt [⟨tgx, iter, ifs, as⟩] scope _ => decide (as = 0) && chkW sc w tgx iter && blkC N sc scope (ownNames N own) && decide ((ownNames N own).map (·.2) = own) && tgOk N scope one tg tgx && (tg.all fun i => decide (i ∈ own)) && chkI scope c ifs && chkE scope e elt && notSet iter
    | _ => false
  | .oLen k, e => match e with
    | .Call (.Name x _) [.Name y _] [] _ => isBl T sc x "len" && nameOk N sc k y
    | _ => false
  | .oIdx k i, e => match e with
    | .Subscript (.Name y _) z _ => nameOk N sc k y && chkE sc i z && plainIx z
    | _ => false
  | .oIn neg k a, e => match e with
    | .Compare x [o] [.Name y _] _ => decide (o = if neg then .NotIn else .In) && chkE sc a x && nameOk N sc k y
    | _ => false
  | .oNe k, e => match e with
    | .Compare (.Name y _) [.NotEq] [.List [] _] _ => nameOk N sc k y
    | _ => false
  | .tri .., e => false
  | .mth m a (.cons b .nil), e => match e with
    | .Call (.Attribute o nm apos) [y] [] cpos => decide (nm = Str.ofString m.nm) && chkE sc a o && chkE sc b y && apos.endLine == cpos.line && plainO o
    | _ => false
  | .mth .., e => false
  | .slr a, e => match e with
    | .Subscript x (.Slice none none (some (.UnaryOp .USub (.Constant (.int j) _ _) _)) _) _ => decide (j = 1) && chkE sc a x
    | _ => false
  | .dc .., e => false
  | .dct .., e => false
  | .sos .., e => false
  | .gIn neg x kvs a, e => match e with
    | .Compare y [o] [.Name z _] _ => decide (o = if neg then .NotIn else .In) && decide (z = x) && decide ((x, kvs) ∈ T.gd) && isGl sc x && chkE sc a y
    | _ => false
  | .gIdx x kvs a, e => match e with
    | .Subscript (.Name z _) i _ => decide (z = x) && decide ((x, kvs) ∈ T.gd) && isGl sc x && chkE sc a i && plainIx i
    | _ => false
  | .dnew, e => match e with
    | .Dict [] [] _ => true
    | _ => false
  | .done k v, e => match e with
    | .Dict [some x] [y] _ => chkE sc k x && chkE sc v y
    | _ => false
  | .dLen k, e => match e with
    | .Call (.Name x _) [.Name y _] [] _ => isBl T sc x "len" && nameOk N sc k y
    | _ => false
  | .dIdx k i, e => match e with
    | .Subscript (.Name y _) z _ => nameOk N sc k y && chkE sc i z && plainIx z
    | _ => false
  | .dIn neg k a, e => match e with
    | .Compare x [o] [.Name y _] _ => decide (o = if neg then .NotIn else .In) && chkE sc a x && nameOk N sc k y
    | _ => false
def chkO (sc : Scope) : Exo → Option Expr → Bool
  | .no, e => e.isNone
  | .e a, e => match e with
    | some x => chkE sc a x
    | none => false
def chkI (sc : Scope) : Exo → List Expr → Bool
  | .no, e => e.isEmpty
  | .e a, e => match e with
    | [x] => chkE sc a x
    | _ => false
def chkA (sc : Scope) : Exs → List Expr → Bool
  | .nil, es => es.isEmpty
  | .cons a r, es => match es with
    | e :: l => chkE sc a e && chkA sc r l
    | [] => false
def chkW (sc : Scope) : Wk → Expr → Expr → Bool
  | .seq a, tg, e => chkE sc a e
  | .rng1 a, tg, e => match e with
    | .Call (.Name x _) [y] [] _ => isBl T sc x "range" && chkE sc a y
    | _ => false
  | .rng2 a b, tg, e => match e with
    | .Call (.Name x _) [y, z] [] _ => isBl T sc x "range" && chkE sc a y && chkE sc b z
    | _ => false
  | .rng3 a b c, tg, e => match e with
    | .Call (.Name x _) [y, z, u] [] _ => isBl T sc x "range" && chkE sc a y && chkE sc b z && chkE sc c u
    | _ => false
  | .enum a, tg, e => match e with
    | .Call (.Name x _) [y] [] _ => isBl T sc x "enumerate" && chkE sc a y && isTup tg
    | _ => false
  | .zip a b, tg, e => match e with
    | .Call (.Name x _) [y, z] [] _ => isBl T sc x "zip" && chkE sc a y && chkE sc b z && isTup tg
    | _ => false
end
end

/-- the module's own class of errors of a number -/
def ExAt (K : W.Frag) (mg : Str → Option Value) (c : Nat) (x : Str) : Prop := ∃ C : Addr, mg x = some (.ref C) ∧ HashW.xc c = .ref C ∧ W.keepIn K (.ref C) = true ∧
  W.excIn K C [.type "ValueError", .type "Exception", .type "BaseException", .type "object"] "ValueError.__new__" = true ∧ W.subIn K (.ref C) (.type "BaseException") = some true ∧ W.typeIn K (.ref C) = some (.type "type")
/-- a place in the text where a tree of the small language stands for one of Python's -/
structure Okx (T : Tab) (F : Nat → List D → Option CR) (N : List Str) (sc : Scope) (X : Cx) : Prop where
  hN : X.N = N
  nd : N.Nodup
  calm : X.calm = true
  un : X.A.units + 200 < cLine
  hw : HashIs X
  loc : ∀ x, sc.names.lookup x = some .local → X.env.scope.names.lookup x = some .local
  cel : ∀ x, sc.names.lookup x = some .cell → X.env.scope.names.lookup x = some .cell
  fre : ∀ x, sc.names.lookup x = some .free → X.env.scope.names.lookup x = some .free ∨ X.env.scope.names.lookup x = some .cell
  gli : ∀ x, sc.names.lookup x = some .globalImplicit → X.env.scope.names.lookup x = some .globalImplicit
  fn : ∀ x, sc.names.lookup x = some .cell → X.fn x = true
  bn : ∀ x ∈ T.bs, X.mg x = none
  gl : ∀ (i : Nat) (x : Str) (d : D), T.gs[i]? = some (x, d) → ∃ u v, X.mg x = some u ∧ RelV v u ∧ ∀ H, Rp X.K H v d
  exs : ∀ x ∈ T.ex, ∀ c, exNames[c]? = some x → ExAt X.K X.mg c x
  gd : ∀ x kvs, (x, kvs) ∈ T.gd → GdAt X.K X.mg x kvs
  fu : ∀ (i : Nat) (x : Str) (b : Bool) (n : Nat), T.fs[i]? = some (x, b, n) → x ≠ T.tr → DefAt X x (if b then spD X.K n (F i) else spF X.K n (F i))

section
variable {T : Tab} {F : Nat → List D → Option CR} {N : List Str} {sc : Scope} {X : Cx}
theorem Okx.vis (O : Okx T F N sc X) {i : Nat} {x : Str} (h : nameOk N sc i x = true) : PE X (.Name x p) (tVar i) := by
  unfold nameOk at h
  simp only [Bool.and_eq_true, Bool.or_eq_true, decide_eq_true_eq, Bool.not_eq_true'] at h
  obtain ⟨⟨⟨h1, h2⟩, h3⟩, h4⟩ := h
  refine pe_var (by rw [O.hN]; exact h1) ?_ h3 h4
  rcases h2 with (h2 | h2) | h2
  · exact .inl (O.loc x h2)
  · exact .inr (.inl (O.cel x h2))
  · rcases O.fre x h2 with q | q
    · exact .inr (.inr q)
    · exact .inr (.inl q)
theorem Okx.glx (O : Okx T F N sc X) {x : Str} (h : isGl sc x = true) : Gl X x ∧ (x == ("__debug__" : Str)) = false ∧ x ≠ "__name__" := by
  unfold isGl at h
  simp only [Bool.and_eq_true, decide_eq_true_eq, Bool.not_eq_true', beq_eq_false_iff_ne] at h
  exact ⟨O.gli x h.1.1, by rw [beq_eq_false_iff_ne]; exact h.1.2, h.2⟩
theorem Okx.blx (O : Okx T F N sc X) {x : Str} {s : String} (h : isBl T sc x s = true) : x = Str.ofString s ∧ Gl X x ∧ X.mg x = none ∧ (x == ("__debug__" : Str)) = false ∧ x ≠ "__name__" := by
  unfold isBl at h
  simp only [Bool.and_eq_true, decide_eq_true_eq] at h
  obtain ⟨h1, h2, h3⟩ := O.glx h.1.2
  exact ⟨h.1.1, h1, O.bn x h.2, h2, h3⟩
theorem Okx.stor (O : Okx T F N sc X) : ∀ x, sc.names.lookup x = some .local ∨ sc.names.lookup x = some .cell → Loc X.env.scope x ∧ (X.fn x = true ∨ X.env.scope.names.lookup x = some .local) := fun x h => by
  rcases h with h | h
  · exact ⟨.inl (O.loc x h), .inr (O.loc x h)⟩
  · exact ⟨.inr (O.cel x h), .inl (O.fn x h)⟩
theorem storable_eq {es : List Expr} (h : es.all (storable sc) = true) : (es.all fun e => match e with | .Name x _ => decide (sc.names.lookup x = some .local) || decide (sc.names.lookup x = some .cell) | _ => false) = true := by
  rw [List.all_eq_true] at h ⊢
  intro e he
  have q := h e he
  cases e <;> first | exact q | cases q
theorem Okx.tg (O : Okx T F N sc X) {C : Cc} {one : Bool} {is : List Nat} {tg : Expr} (h : tgOk N sc one is tg = true) : OkG X C tg one is := by
  unfold tgOk at h
  split at h
  · rename_i x p
    rw [Bool.and_eq_true] at h
    obtain ⟨h1, h2⟩ := h
    cases is with
    | nil => simp [NamesAt] at h2
    | cons i js =>
      cases js with
      | nil =>
        have h2 : (decide (N[i]? = some x) && NamesAt N [] []) = true := h2
        rw [Bool.and_eq_true, decide_eq_true_eq] at h2
        have hx : sc.names.lookup x = some .local ∨ sc.names.lookup x = some .cell := by
          unfold storable at h1; simpa using h1
        obtain ⟨l1, l2⟩ := O.stor x hx
        exact okG_one (by rw [O.hN]; exact O.nd) (by rw [O.hN]; exact h2.1) l1 l2
      | cons j ks =>
        have h2 : (decide (N[i]? = some x) && NamesAt N (j :: ks) []) = true := h2
        rw [Bool.and_eq_true] at h2
        have := h2.2
        simp [NamesAt] at this
  · rename_i es k p
    rw [Bool.and_eq_true] at h
    exact okG_many (sc := sc) O.calm (by rw [O.hN]; exact O.nd) O.stor (by rw [O.hN]; exact h.2) (storable_eq h.1)
  · cases h
theorem relabel_lookup {c : Str → NameKind → Bool} {x : Str} {k : NameKind} : ∀ (names : List (Str × NameKind)), names.lookup x = some k → (names.map fun y => (y.1, if c y.1 y.2 = true then NameKind.cell else y.2)).lookup x = some (if c x k = true then NameKind.cell else k)
  | [], h => by cases h
  | (n, k') :: r, h => by
    rw [List.map_cons, List.lookup_cons]
    rw [List.lookup_cons] at h
    cases hx : x == n with
    | true =>
      rw [hx] at h
      cases h
      have e : x = n := eq_of_beq hx
      subst e
      rfl
    | false =>
      rw [hx] at h
      exact relabel_lookup r h
/-- within a block -/
theorem Okx.blk (O : Okx T F N sc X) {scope : Scope} {s : Shared} {H : Hp} {Ca : Addr} {cl : List (Str × Addr)} {fp : List Addr} : Okx T F N scope (X.blk s H scope (compEnvC scope cl Ca X.env) fp) where
  hN := O.hN
  nd := O.nd
  calm := O.calm
  un := O.un
  hw := O.hw
  loc := fun x h => lookup_relS_keep (by intro z; cases z) h
  cel := fun x h => lookup_relS_keep (by intro z; cases z) h
  fre := fun x h => by
    have e := relabel_lookup (c := fun n k => (k == NameKind.free && X.env.scope.kind == .function && X.env.scope.names.lookup n == some .cell)) scope.names h
    have e2 : (compEnvC scope cl Ca X.env).scope.names = scope.names.map fun y => (y.1, if (y.2 == NameKind.free && X.env.scope.kind == .function && X.env.scope.names.lookup y.1 == some .cell) = true then NameKind.cell else y.2) := by
      show List.map _ scope.names = _
      congr 1
      funext y
      obtain ⟨n, k⟩ := y
      show (if _ then _ else _) = _
      by_cases hc : (k == NameKind.free && X.env.scope.kind == .function && X.env.scope.names.lookup n == some .cell) = true
      · rw [if_pos hc]
        have hc' : (k == NameKind.free && X.env.scope.kind == .function && X.env.kindOf n == some .cell) = true := hc
        rw [if_pos hc']
      · rw [if_neg hc]
        have hc' : ¬ (k == NameKind.free && X.env.scope.kind == .function && X.env.kindOf n == some .cell) = true := hc
        rw [if_neg hc']
    show (compEnvC scope cl Ca X.env).scope.names.lookup x = some .free ∨ (compEnvC scope cl Ca X.env).scope.names.lookup x = some .cell
    rw [e2, e]
    split
    · exact .inr rfl
    · exact .inl rfl
  gli := fun x h => lookup_relS_keep (by intro z; cases z) h
  fn := fun x h => by show (scope.names.lookup x == some .cell) = true; rw [h]; rfl
  bn := O.bn
  exs := O.exs
  gl := O.gl
  gd := O.gd
  fu := fun i x b n h ht => by
    obtain ⟨k, f, fd, ps, h1, h2, h3, h4, h5⟩ := (O.fu i x b n h ht).ex
    exact ⟨k, f, fd, ps, h1, h2, h3, h4, h5⟩
theorem Okx.blkOk (O : Okx T F N sc X) {scope : Scope} {own : List (Str × Nat)} (h : blkC N sc scope own = true) : BlkOk X.N X.env.scope scope own := by
  have b := blkOk_by h
  rw [O.hN]
  refine ⟨b.kind, b.uniq, b.ix, fun y hy e => ?_, b.own⟩
  rcases b.free y hy e with q | q
  · exact .inl (O.cel _ q)
  · rcases O.fre _ q with z | z
    · exact .inr z
    · exact .inl z
end
end Pv

/-! Dicts that are changed in place; dicts as data. -/
namespace Pv
open PySem L2
variable [HashW]
theorem sameA {σ : L2.St} {i : Nat} {a b : Addr} (h1 : σ[i]? = some (some (V.ref a))) (h2 : σ[i]? = some (some (V.ref b))) : b = a := by
  rw [h1] at h2
  have := Option.some.inj (Option.some.inj h2)
  injection this with this
  exact this.symm
theorem getK_some {st : SS} {k : Nat} {kvs : List (D × D)} (h : getK st k = some kvs) : st[k]? = some (.dic kvs) := by
  unfold getK at h
  split at h
  · rename_i d hs; cases h; exact hs
  · cases h
section
variable {K : W.Frag} {C : Cc} {G : Hp} {ws : Ws} {st st' : SS} {σ σ' : L2.St} {H H' : Hp} {k i : Nat} {p : Addr}
theorem kv_snoc {nk : NestedKey} {y v : V} {d e : D} (h1 : keyD d = some nk) (h2 : Rp K G y d) (h3 : Rp K G v e) : ∀ {nks : List NestedKey} {ks vs : List V} {kvs : List (D × D)}, RpKv K G nks ks vs kvs → RpKv K G (nks ++ [nk]) (ks ++ [y]) (vs ++ [v]) (kvs ++ [(d, e)])
  | _, _, _, _, .nil => .cons h1 h2 h3 .nil
  | _, _, _, _, .cons a b c r => .cons a b c (kv_snoc h1 h2 h3 r)
theorem kv_repl {nk : NestedKey} {v : V} {e : D} (h3 : Rp K G v e) : ∀ {nks : List NestedKey} {ks vs : List V} {kvs : List (D × D)}, RpKv K G nks ks vs kvs → RpKv K G nks ks (replV nks vs nk v) (kvRepl kvs nk e)
  | _, _, _, _, .nil => .nil
  | nk' :: _, _, _, _, .cons a b c r => by
    unfold kvRepl
    rw [List.map_cons]
    dsimp only
    unfold replV
    by_cases q : nk' = nk
    · rw [if_pos q, if_pos (by rw [a, q])]
      exact .cons a b h3 (kv_repl h3 r)
    · rw [if_neg q, if_neg (fun z => q (by rw [a] at z; injection z))]
      exact .cons a b c (kv_repl h3 r)
/-- a thing out of sight that no slot owns is changed -/
theorem SI.chgO {Da : Addr} {ob : HO} (nt : ∀ ps, ob ≠ .tbl ps) (S : SI K C G ((k, Da) :: ws) st σ H) (hk : st.length ≤ k) (hD : Da ∉ C.I) : SI K C G ((k, Da) :: ws) st σ (upd H Da ob) := by
  have nd := List.nodup_cons.mp S.nod
  have hm : Da ∈ C.M ((k, Da) :: ws) := List.mem_append_right _ List.mem_cons_self
  refine ⟨S.len, fun i s h => ?_, S.nod, fun b o hb q => ?_, by rw [vis_upd hm]; exact S.vis, fun a ha => ?_, S.wsn, fun p hp => ?_, S.inM, S.tbs.upd hm (S.wst (k, Da) List.mem_cons_self)⟩
  · have q := S.rep i s h
    have hi : i < st.length := (List.getElem?_eq_some_iff.mp h).1
    cases s with
    | no => exact True.intro
    | v d => obtain ⟨v, o, r⟩ := q; exact ⟨v, o, by rw [vis_upd hm]; exact r⟩
    | own ds =>
      obtain ⟨a, vs, m, o, h1, r⟩ := q
      refine ⟨a, vs, m, o, ?_, by rw [vis_upd hm]; exact r⟩
      rw [upd_ne fun e => ?_]
      · exact h1
      · rcases List.mem_cons.mp m with z | z
        · cases z; omega
        · exact nd.1 (List.mem_map.mpr ⟨_, z, e⟩)
    | dic ds =>
      obtain ⟨a, vs, m, o, h1, r⟩ := q
      refine ⟨a, vs, m, o, ?_, by rw [vis_upd hm]; exact r⟩
      rw [upd_ne fun e => ?_]
      · exact h1
      · rcases List.mem_cons.mp m with z | z
        · cases z; omega
        · exact nd.1 (List.mem_map.mpr ⟨_, z, e⟩)
  · have hbD : b ≠ Da := fun e => by
      have := (S.wsn (k, Da) List.mem_cons_self hD).1
      rw [e, show C.H0 Da = none from this] at q
      cases q
    rw [upd_ne hbD]
    exact S.frm b o hb q
  · by_cases e : a = Da
    · exact ⟨_, by rw [e]; exact upd_same⟩
    · rw [upd_ne e]; exact S.m0 a ha
  · by_cases e : p.2 = Da
    · exact ⟨_, by rw [e]; exact upd_same, nt⟩
    · rw [upd_ne e]; exact S.wst p hp
end
/-! ### a new dict -/
def tVK (K : W.Frag) (C : Cc) (st st' : SS) (kvs : List (D × D)) : TE := fun σ H Q => ∃ G ws, SI K C G ws st σ H ∧ ∀ p c H2, SI K C G ((st.length, p) :: ws) st' σ H2 → p ∉ C.M0 → st'.length = st.length → H2 p = some (xO p c.o) → RpDic K (C.vis ((st.length, p) :: ws) H2) p c kvs → Q (.ref p) H2
def OkK (X : Cx) (C : Cc) (e : Expr) (m : SS → Option (List (D × D) × SS)) : Prop := ∀ st kvs st', m st = some (kvs, st') → PE X e (tVK X.K C st st' kvs)
section
variable {X : Cx} {C : Cc} {a b k v : Expr} {mk mv : SS → Option (D × SS)} {pos : Pos}
theorem okK_new : OkK X C (.Dict [] [] pos) fun st => some ([], st) := fun st kvs st' e => by
  cases e
  refine pe_dnewX.weak fun σ H Q ⟨G, ws, S, q⟩ p o hp d => ?_
  obtain ⟨S2, _, ev⟩ := S.layO (k := st.length) (ob := xO p o) xO_tbl hp
  exact q p ⟨o, [], [], []⟩ _ S2 (fun z => new_out S.trk hp (List.mem_append_left _ z)) rfl upd_same ⟨d.sm, d.dc, .nil⟩
theorem okK_one (hw : HashIs X) (hu : X.A.units + 60 < cLine) (hk : ∀ C, OkE X C k mk) (hv : ∀ C, OkE X C v mv) : OkK X C (.Dict [some k] [v] pos) fun st => (mk st).bind fun x => (mv x.2).bind fun y => if tupKey x.1 = true then some ([(x.1, y.1)], y.2) else none := fun st kvs st' e => by
  obtain ⟨⟨d1, s1⟩, e1, e⟩ := bind_some e
  obtain ⟨⟨d2, s2⟩, e2, e⟩ := bind_some e
  split at e
  · rename_i tk
    have tk : tupKey d1 = true := tk
    cases e
    refine (pe_doneX hw hu (pe_U hk) (pe_U hv)).weak fun σ H Q ⟨G, ws, S, q⟩ p o hp d => ?_
    obtain ⟨S2, hDI, ev⟩ := S.layO (k := st.length) (ob := xO p o) xO_tbl hp
    have hM : p ∉ C.M0 := fun z => new_out S.trk hp (List.mem_append_left _ z)
    refine ⟨C.pin st.length p ws (upd H p (xO p o)), st, d1, s1, e1, _, ws, (S2.up.enter (by omega)), fun y H3 S3 r3 => ?_⟩
    obtain ⟨S4, k4⟩ := S2.up.leave hDI S3
    have g4 := k4 _ xO_tbl (show upd H p (xO p o) p = some (xO p o) from upd_same)
    rw [pin_vis] at r3
    have l4 : s1.length = st.length := by rw [S4.len, S.len]
    refine ⟨C.pin st.length p ws H3, s1, d2, s2, e2, _, ws, (S4.up.enter (by omega)), fun z H5 S5 r5 => ?_⟩
    obtain ⟨S6, k6⟩ := S4.up.leave hDI S5
    have g6 := k6 _ xO_tbl g4
    rw [pin_vis] at r5
    have l6 : s2.length = st.length := by rw [S6.len, S.len]
    have r3' := r3.le S6.vis
    obtain ⟨⟨xs, rfl⟩, hd⟩ := tupKey_inv tk
    obtain ⟨bb, us, rfl, _, _⟩ := r3'.tup_inv
    have hkd : ∃ nk, keyD (PyData.tuple xs) = some nk := by
      unfold tupKey at tk
      rw [Bool.and_eq_true] at tk
      have tk := tk.2
      cases q : keyD (PyData.tuple xs) with
      | none => rw [q] at tk; cases tk
      | some nk => exact ⟨nk, rfl⟩
    obtain ⟨nk, enk⟩ := hkd
    refine ⟨_, z, rfl, nk, bb, rfl, g6, rp_keyV (r3'.le (hide_le _ _)) enk, hd _ enk, fun o' dc' => ?_⟩
    have S7 := ((S6.down S4.vis).down S2.vis).chgO (ob := xO p o') xO_tbl (by omega) hDI
    have hm : p ∈ C.M ((st.length, p) :: ws) := List.mem_append_right _ List.mem_cons_self
    refine q p ⟨o', [nk], [.ref bb], [z]⟩ _ S7 hM l6 upd_same ⟨d.sm, dc', ?_⟩
    rw [vis_upd hm]
    exact .cons enk r3' r5 .nil
  · cases e
theorem okE_of_K {e : Expr} {m : SS → Option (List (D × D) × SS)} {m' : SS → Option (D × SS)} (h : OkK X C e m) (hm : ∀ st d st', m' st = some (d, st') → ∃ kvs, d = .dict kvs ∧ m st = some (kvs, st')) : OkE X C e m' := fun st d st' e1 => by
  obtain ⟨kvs, rfl, e2⟩ := hm _ _ _ e1
  refine (h st kvs st' e2).weak fun σ H Q ⟨G, ws, S, q⟩ => ⟨G, ws, S, fun p c H2 S2 hp hl hv r => ?_⟩
  exact q _ H2 (S2.drop (by omega)) ((r.le vis_drop).rp ((hide_out (new_seen S2 hp)).trans hv))
/-! ### own dicts that are read -/
theorem slot_dic {K : W.Frag} {G : Hp} {ws : Ws} {st : SS} {σ : L2.St} {H : Hp} {i : Nat} {kvs : List (D × D)} (S : SI K C G ws st σ H) (h : getK st i = some kvs) : ∃ a c, (i, a) ∈ ws ∧ σ[i]? = some (some (.ref a)) ∧ H a = some (xO a c.o) ∧ RpDic K (C.vis ws H) a c kvs := S.rep i _ (getK_some h)
theorem okE_dLen {i : Nat} {p : Pos} (ha : PE X a (tVar i)) (hg : Gl X "len") (hm : X.mg "len" = none) (hs : noStar a = true) :
    OkE X C (.Call (.Name "len" p) [a] [] pos) fun st => (getK st i).bind fun kvs => if kvs.length ≤ lim then some (.int kvs.length, st) else none := fun st d st' h => by
  obtain ⟨kvs, e1, h⟩ := bind_some h
  split at h
  · cases h
    refine (pe_callB call_len_d hg hm PySem.boot_len (pa_cons ha pa_nil (nostar_cons (noStar_ne hs))) (by decide) (by decide) (nostar_cons (noStar_ne hs)) (by simp [starEach, backTo])).weak fun σ H Q q => ?_
    obtain ⟨G, ws, S, q⟩ := q
    obtain ⟨a', c, m, o, hL, r⟩ := slot_dic S e1
    refine ⟨_, o, a', c.o, c.nks, c.ks, c.vs, rfl, ⟨hL, r.dc, r.sm⟩, ?_⟩
    rw [kv_len r.kv]
    exact q _ H S (.int _)
  · cases h
theorem okE_dIdx {i : Nat} (hw : HashIs X) (hu : X.A.units + 65 < cLine) (ha : PE X a (tVar i)) (hb : OkE X C b mk) (hp : PlainIx b) :
    OkE X C (.Subscript a b pos) fun st => (getK st i).bind fun _ => (mk st).bind fun x => (getK x.2 i).bind fun kvs => (dGetD kvs x.1).map fun d => (d, x.2) := fun st d st' h => by
  obtain ⟨kvs0, e0, h⟩ := bind_some h
  obtain ⟨⟨d1, s1⟩, e1, h⟩ := bind_some h
  obtain ⟨kvs, e2, h⟩ := bind_some h
  obtain ⟨d2, e3, h⟩ := map_some h
  cases h
  obtain ⟨nk, k1, k2⟩ := bind_some e3
  obtain ⟨q1, q2⟩ := keyOk_inv k1
  rcases q2 with ⟨t1, t2⟩ | ⟨t1, t2⟩
  · refine (pe_ix (ix_dT hw (by omega)) ha (hb _ _ _ e1) hp).weak fun σ H Q q => ?_
    obtain ⟨G, ws, S, q⟩ := q
    obtain ⟨a1, c1, m1, o1, hL1, r1⟩ := slot_dic S e0
    refine ⟨_, o1, G, ws, S, fun y H2 S2 r2 => ?_⟩
    obtain ⟨a2, c, m2, o2, hL, r⟩ := slot_dic S2 e2
    obtain rfl := sameA o1 o2
    have kv' := r.kv.le (hide_le _ _)
    obtain ⟨bs, z1, z2⟩ := kv_tup kv' t2
    obtain ⟨⟨xs, rfl⟩, hd⟩ := tupKey_inv t1
    have r2' := r2.le (hide_le _ _)
    obtain ⟨b', us, rfl, _, _⟩ := r2'.tup_inv
    obtain ⟨w, l1, l2⟩ := (kv_look r.kv).1 _ k2
    exact ⟨a2, c.o, c.nks, c.ks, c.vs, bs, nk, b', w, rfl, rfl, ⟨hL, r.dc, r.sm, z1, z2⟩, rp_keyV r2' q1, hd _ q1, l1, q w H2 S2 l2⟩
  · refine (pe_ix (ix_dS hw) ha (hb _ _ _ e1) hp).weak fun σ H Q q => ?_
    obtain ⟨G, ws, S, q⟩ := q
    obtain ⟨a1, c1, m1, o1, hL1, r1⟩ := slot_dic S e0
    refine ⟨_, o1, G, ws, S, fun y H2 S2 r2 => ?_⟩
    obtain ⟨a2, c, m2, o2, hL, r⟩ := slot_dic S2 e2
    obtain rfl := sameA o1 o2
    obtain ⟨z1, z2⟩ := kv_str r.kv t2
    obtain ⟨w, l1, l2⟩ := (kv_look r.kv).1 _ k2
    cases d1 with
    | str z =>
      rw [keyD] at q1
      cases q1
      obtain rfl := r2.str_inv
      exact ⟨a2, c.o, c.nks, c.ks, c.vs, z, w, rfl, rfl, ⟨⟨hL, r.dc, r.sm, z1⟩, z2⟩, l1, q w H2 S2 l2⟩
    | _ => exact absurd t1 (by simp [isStrD])
theorem okE_dIn {i : Nat} {neg : Bool} (hw : HashIs X) (hu : X.A.units + 65 < cLine) (ha : OkE X C a mk) (hb : PE X b (tVar i)) (hm : behindInMarks (if neg then .NotIn else .In) b = false) :
    OkE X C (.Compare a [if neg then .NotIn else .In] [b] pos) (fun st => (mk st).bind fun x => (getK x.2 i).bind fun kvs => (dInD kvs x.1).map fun c => (.bool (neg != c), x.2)) ∧ OkT X C (.Compare a [if neg then .NotIn else .In] [b] pos) (tm fun st => (mk st).bind fun x => (getK x.2 i).bind fun kvs => (dInD kvs x.1).map fun c => (.bool (neg != c), x.2)) := by
  have core : ∀ st d st', ((mk st).bind fun x => (getK x.2 i).bind fun kvs => (dInD kvs x.1).map fun c => ((.bool (neg != c) : D), x.2)) = some (d, st') → ∃ d1 s1 r, OpR X (compareOp (if neg then .NotIn else .In)) r ∧ mk st = some (d1, s1) ∧ (∃ k, d = .bool k) ∧ ∀ σ H Q, tV X.K C st st' d σ H Q → tOp r (tV X.K C st s1 d1) (tVar i) σ H Q := fun st d st' h => by
    obtain ⟨⟨d1, s1⟩, e1, h⟩ := bind_some h
    obtain ⟨kvs, e2, h⟩ := bind_some h
    obtain ⟨c, e3, h⟩ := map_some h
    cases h
    obtain ⟨nk, k1, rfl⟩ := map_some e3
    obtain ⟨q1, q2⟩ := keyOk_inv k1
    rcases q2 with ⟨t1, t2⟩ | ⟨t1, t2⟩
    · refine ⟨d1, _, rDInT X neg, by cases neg; exact op_inDT hw (by omega); exact op_ninDT hw (by omega), e1, ⟨_, rfl⟩, fun σ H Q ⟨G, ws, S, q⟩ => ⟨G, ws, S, fun y H1 S1 r1 => ?_⟩⟩
      obtain ⟨a2, c, m2, o2, hL, r⟩ := slot_dic S1 e2
      have kv' := r.kv.le (hide_le _ _)
      obtain ⟨bs, z1, z2⟩ := kv_tup kv' t2
      obtain ⟨⟨xs, rfl⟩, hd⟩ := tupKey_inv t1
      have r1' := r1.le (hide_le _ _)
      obtain ⟨b', us, rfl, _, _⟩ := r1'.tup_inv
      refine ⟨_, o2, a2, c.o, c.nks, c.ks, c.vs, bs, nk, b', rfl, rfl, ⟨hL, r.dc, r.sm, z1, z2⟩, rp_keyV r1' q1, hd _ q1, ?_⟩
      rw [← (kv_look r.kv).2]
      exact q _ _ S1 (.bl _)
    · refine ⟨d1, _, rDInS X neg, by cases neg; exact op_inDS hw; exact op_ninDS hw, e1, ⟨_, rfl⟩, fun σ H Q ⟨G, ws, S, q⟩ => ⟨G, ws, S, fun y H1 S1 r1 => ?_⟩⟩
      obtain ⟨a2, c, m2, o2, hL, r⟩ := slot_dic S1 e2
      obtain ⟨z1, z2⟩ := kv_str r.kv t2
      cases d1 with
      | str z =>
        rw [keyD] at q1
        cases q1
        obtain rfl := r1.str_inv
        refine ⟨_, o2, a2, c.o, c.nks, c.ks, c.vs, z, rfl, rfl, ⟨⟨hL, r.dc, r.sm, z1⟩, z2⟩, ?_⟩
        rw [← (kv_look r.kv).2]
        exact q _ _ S1 (.bl _)
      | _ => exact absurd t1 (by simp [isStrD])
  refine ⟨fun st d st' h => ?_, fun st b' st' h => ?_⟩
  · obtain ⟨d1, s1, r, ho, e1, _, k⟩ := core _ _ _ h
    exact (pe_cmpR ho (ha _ _ _ e1) hb hm).weak fun σ H Q => k σ H Q
  · obtain ⟨d1, s1, r, ho, e1, _, k⟩ := core _ _ _ (tm_some h)
    exact (pt_cmpR ho (ha _ _ _ e1) hb hm).weak fun σ H Q ⟨G, ws, S, z⟩ => k σ H _ ⟨G, ws, S, fun v H2 S2 r2 => ⟨b', r2.bl_inv, z H2 S2⟩⟩
end
end Pv

/-! What passes the look is what the small language says. -/
namespace Pv
open PySem L2
variable [HashW]
def Tri (X : Cx) (C : Cc) (e : Expr) (m : SS → Option (D × SS)) : Prop := OkE X C e m ∧ OkT X C e (tm m) ∧ ∀ op vs p, e = .BoolOp op vs p → OkP X C e (tm m)
theorem tri_plain {X : Cx} {C : Cc} {e : Expr} {m : SS → Option (D × SS)} (h : OkE X C e m) (he : ∀ whole, PySem.isTrue e X.env whole = (do let v ← whole; standAt e.pos; holding [v] (truthy v))) (hb : ∀ op vs p, e ≠ .BoolOp op vs p) : Tri X C e m :=
  ⟨h, okT_val h he, fun op vs p z => absurd z (hb op vs p)⟩
section
variable {T : Tab} {F : Nat → List D → Option CR} {N : List Str}
theorem const_ok {X : Cx} {C : Cc} {d : D} {e : Expr} (h : constOk d e = true) : Tri X C e fun st => some (d, st) := by
  unfold constOk at h
  split at h
  · rw [decide_eq_true_eq] at h; subst h
    exact tri_plain (okE_const pe_int fun H => .int _) (fun _ => rfl) (fun _ _ _ z => by cases z)
  · rw [decide_eq_true_eq] at h; subst h
    exact tri_plain (okE_const pe_bl fun H => .bl _) (fun _ => rfl) (fun _ _ _ z => by cases z)
  · exact tri_plain (okE_const pe_non fun H => .non) (fun _ => rfl) (fun _ _ _ z => by cases z)
  · rw [decide_eq_true_eq] at h; subst h
    exact tri_plain (okE_const pe_str fun H => .str _) (fun _ => rfl) (fun _ _ _ z => by cases z)
  · cases h
theorem plainIx_ok {e : Expr} (h : plainIx e = true) : PlainIx e := fun o i => by
  cases e <;> first | rfl | cases h
theorem notSet_ok {e : Expr} {env : Env} (h : notSet e = true) : ∀ x, foldedSetIterable e env x = pure x := fun x => by
  cases e <;> first | rfl | cases h
theorem constOk_star {d : D} {v : Expr} {p : Pos} : constOk d (.Starred v p) = false := by cases d <;> rfl
theorem chk_noStar {sc : Scope} : ∀ {ir : Ex} {e : Expr}, chkE T N sc ir e = true → noStar e = true := fun {ir e} h => by
  cases e <;> first
    | rfl
    | (exfalso
       cases ir <;> first
        | (unfold chkE at h; cases h; done)
        | (unfold chkE at h; rw [constOk_star] at h; cases h; done)
        | (unfold chkE at h; (split at h <;> cases h); done)
        | (rename_i es; cases es with
           | nil => (unfold chkE at h; cases h)
           | cons b r => cases r with
             | nil => (unfold chkE at h; cases h)
             | cons c r => (unfold chkE at h; cases h)))
theorem chkA_star {sc : Scope} : ∀ {es : Exs} {l : List Expr}, chkA T N sc es l = true → l.all noStar = true
  | .nil, l, h => by
    unfold chkA at h
    cases l with
    | nil => rfl
    | cons _ _ => cases h
  | .cons a r, l, h => by
    unfold chkA at h
    split at h
    · rw [Bool.and_eq_true] at h
      rw [List.all_cons, chk_noStar h.1, chkA_star h.2]
      rfl
    · cases h
theorem chkA_len {G : List D} {sc : Scope} : ∀ {es : Exs} {l : List Expr} {st : SS} {r : List D × SS}, chkA T N sc es l = true → dens G F es st = some r → r.1.length = l.length
  | .nil, l, st, r, h, e => by
    unfold chkA at h
    unfold dens at e
    cases l with
    | nil => cases e; rfl
    | cons _ _ => cases h
  | .cons a q, l, st, r, h, e => by
    unfold chkA at h
    unfold dens at e
    split at h
    · rw [Bool.and_eq_true] at h
      obtain ⟨x, e1, e⟩ := bind_some e
      obtain ⟨y, e2, e⟩ := map_some e
      subst e
      rw [List.length_cons, List.length_cons]
      exact congrArg (· + 1) (chkA_len h.2 e2)
    · cases h
theorem ownNames_sub {N : List Str} {own tg : List Nat} (h1 : (ownNames N own).map (·.2) = own) (h2 : (tg.all fun i => decide (i ∈ own)) = true) : ∀ i ∈ tg, i ∈ (ownNames N own).map (·.2) := fun i hi => by
  rw [h1]
  rw [List.all_eq_true] at h2
  simpa using h2 i hi
theorem bl_ok {X : Cx} {C : Cc} {b : Bl} {x : Str} {p pos : Pos} {y : Expr} {l : List Expr} {m : SS → Option (List D × SS)} (hc : X.calm = true) (hu : X.A.units + 200 < cLine) (hx : x = Str.ofString b.nm) (hg : Gl X x) (hm : X.mg x = none) (hdb : (x == ("__debug__" : Str)) = false) (hn : x ≠ "__name__")
    (hl : (y :: l).length = b.many) (h : OkA X C (y :: l) m) (hs : (y :: l).all noStar = true) (hlen : ∀ st r, m st = some r → r.1.length = (y :: l).length) : OkE X C (.Call (.Name x p) (y :: l) [] pos) fun st => (m st).bind fun r => (bltD b r.1).map fun d => (d, r.2) := by
  have one : ∀ (f : List D → Option D), b.many = 1 → ∀ st d st', ((m st).bind fun r => (f r.1).map fun d => (d, r.2)) = some (d, st') → ((m st).bind fun r => ((match r.1 with | [z] => f [z] | _ => none)).map fun d => (d, r.2)) = some (d, st') := fun f hm1 st d st' e => by
    obtain ⟨r, e1, e⟩ := bind_some e
    have hle := hlen _ _ e1
    rw [hl, hm1] at hle
    obtain ⟨ds, s1⟩ := r
    rw [e1]
    match ds, hle with
    | [z], _ => exact e
  cases b with
  | len =>
    subst hx
    exact fun st d st' e => okE_blt hg hm PySem.boot_len hn hdb h (f := fun ds => match ds with | [z] => bltD .len [z] | _ => none) (fun ds d hd => by split at hd; exact ca_len hd; cases hd) hs st d st' (one _ rfl _ _ _ e)
  | all =>
    subst hx
    exact fun st d st' e => okE_blt hg hm PyProof.Rows.boot_all hn hdb h (f := fun ds => match ds with | [z] => bltD .all [z] | _ => none) (fun ds d hd => by split at hd; exact ca_all hc hd; cases hd) hs st d st' (one _ rfl _ _ _ e)
  | any =>
    subst hx
    exact fun st d st' e => okE_blt hg hm PyProof.Rows.boot_any hn hdb h (f := fun ds => match ds with | [z] => bltD .any [z] | _ => none) (fun ds d hd => by split at hd; exact ca_any hc hd; cases hd) hs st d st' (one _ rfl _ _ _ e)
  | sorted =>
    subst hx
    exact fun st d st' e => okE_blt hg hm PyProof.Rows.boot_sorted hn hdb h (f := fun ds => match ds with | [z] => bltD .sorted [z] | _ => none) (fun ds d hd => by split at hd; exact ca_sorted (by omega) hd; cases hd) hs st d st' (one _ rfl _ _ _ e)
  | list =>
    subst hx
    exact fun st d st' e => okE_bty hg hm PyProof.Rows.boot_list hn hdb h (f := fun ds => match ds with | [z] => bltD .list [z] | _ => none) (fun ds d hd => by split at hd; exact ca_list hc hd; cases hd) hs st d st' (one _ rfl _ _ _ e)
  | tuple =>
    subst hx
    exact fun st d st' e => okE_bty hg hm PyProof.Rows.boot_tuple hn hdb h (f := fun ds => match ds with | [z] => bltD .tuple [z] | _ => none) (fun ds d hd => by split at hd; exact ca_tuple hd; cases hd) hs st d st' (one _ rfl _ _ _ e)
  | int =>
    subst hx
    exact fun st d st' e => okE_bty hg hm PyProof.Rows.boot_int hn hdb h (f := fun ds => match ds with | [z] => bltD .int [z] | _ => none) (fun ds d hd => by split at hd; exact ca_int hd; cases hd) hs st d st' (one _ rfl _ _ _ e)
  | bool =>
    subst hx
    exact fun st d st' e => okE_bty hg hm PyProof.Rows.boot_bool hn hdb h (f := fun ds => match ds with | [z] => bltD .bool [z] | _ => none) (fun ds d hd => by split at hd; exact ca_bool hd; cases hd) hs st d st' (one _ rfl _ _ _ e)
  | str =>
    subst hx
    exact fun st d st' e => okE_bty hg hm PyProof.Rows.boot_str hn hdb h (f := fun ds => match ds with | [z] => bltD .str [z] | _ => none) (fun ds d hd => by split at hd; exact ca_str hd; cases hd) hs st d st' (one _ rfl _ _ _ e)
  | min2 =>
    subst hx
    refine okE_blt hg hm PyProof.Rows.boot_min hn hdb h (fun ds d hd => ?_) hs
    unfold bltD at hd
    split at hd
    all_goals first | (rename_i q; cases q; done) | skip
    · cases hd; exact ca_min hc rfl
    · cases hd
end

section
variable {T : Tab} {F : Nat → List D → Option CR} {N : List Str}
theorem plainO_base {o : Expr} {env : Env} (h : plainO o = true) (nm : Str) : attributeBase o nm env (eval o env) = eval o env := by
  unfold plainO at h
  split at h
  · cases h
  · rename_i hn
    unfold attributeBase
    split
    · exact absurd rfl (hn _ _ _)
    · rfl
theorem okE_den {X : Cx} {C : Cc} {e : Expr} {m m' : SS → Option (D × SS)} (h : OkE X C e m) (q : ∀ st d st', m' st = some (d, st') → m st = some (d, st')) : OkE X C e m' := fun st d st' e1 => h _ _ _ (q _ _ _ e1)
theorem chkE_star {sc : Scope} {ir : Ex} {e : Expr} (h : chkE T N sc ir e = true) : noStar e = true := chk_noStar h
mutual
theorem sdE : ∀ (ir : Ex) {sc : Scope} {e : Expr} {X : Cx} {C : Cc}, Okx T F N sc X → chkE T N sc ir e = true → Tri X C e (den (T.gs.map (·.2)) F ir)
  | .var i, sc, e, X, C, O, h => by
    unfold chkE at h
    split at h
    · rename_i x p
      refine tri_plain ?_ (fun _ => rfl) (fun _ _ _ z => by cases z)
      exact okE_var (O.vis h)
    · cases h
  | .cst d, sc, e, X, C, O, h => by
    unfold chkE at h
    exact const_ok h
  | .glb g, sc, e, X, C, O, h => by
    unfold chkE at h
    split at h
    · rename_i x p
      rw [Bool.and_eq_true, decide_eq_true_eq] at h
      obtain ⟨h1, h2⟩ := h
      obtain ⟨g1, g2, g3⟩ := O.glx h2
      obtain ⟨⟨x', d⟩, e1, e2⟩ := map_some h1
      have e2 : x' = x := e2
      subst e2
      obtain ⟨u, v, m1, m2, m3⟩ := O.gl g x' d e1
      refine tri_plain ?_ (fun _ => rfl) (fun _ _ _ z => by cases z)
      have k := okE_const (C := C) (pe_glob (pos := p) g1 m1 m2 g2) m3
      refine fun st d' st' q => k st d' st' ?_
      unfold den at q
      rw [List.getElem?_map, e1] at q
      exact q
    · cases h
  | .tup es, sc, e, X, C, O, h => by
    unfold chkE at h
    split at h
    · refine tri_plain ?_ (fun _ => rfl) (fun _ _ _ z => by cases z)
      exact okE_tup (sdA es O h)
    · cases h
  | .lst es, sc, e, X, C, O, h => by
    unfold chkE at h
    split at h
    · refine tri_plain ?_ (fun _ => rfl) (fun _ _ _ z => by cases z)
      exact okE_lst (sdA es O h)
    · cases h
  | .rep es k, sc, e, X, C, O, h => by
    unfold chkE at h
    split at h
    · rw [Bool.and_eq_true] at h
      refine tri_plain ?_ (fun _ => rfl) (fun _ _ _ z => by cases z)
      exact okE_rep (sdA es O h.1) (sdE k O h.2).1
    · cases h
  | .bin op a b, sc, e, X, C, O, h => by
    unfold chkE at h
    split at h
    · rw [Bool.and_eq_true, Bool.and_eq_true, decide_eq_true_eq] at h
      obtain ⟨⟨h0, h1⟩, h2⟩ := h
      subst h0
      refine tri_plain ?_ (fun _ => rfl) (fun _ _ _ z => by cases z)
      exact okE_bin (sdE a O h1).1 (sdE b O h2).1 fun d1 d2 d q => bin_ok q
    · cases h
  | .neg a, sc, e, X, C, O, h => by
    unfold chkE at h
    split at h
    · refine tri_plain ?_ (fun _ => rfl) (fun _ _ _ z => by cases z)
      have k := okE_un (C := C) (pos := ‹Pos›) (f := fun d => match d with | .int i => some (.int (-i)) | _ => none) (sdE a O h).1 (op := .USub) fun d1 d q => by
        split at q
        · cases q
          exact ⟨_, un_neg, fun M H x Q tr hx q => ⟨_, hx.int_inv, q _ H (Hx.refl H) (.int _)⟩⟩
        · cases q
      refine fun st d st' q => k st d st' ?_
      unfold den at q
      obtain ⟨x, e1, q⟩ := bind_some q
      obtain ⟨⟨i, s⟩, e2, q⟩ := map_some q
      rw [intOf_some e2] at e1
      show ((den (T.gs.map (·.2)) F a st).bind _) = _
      rw [e1]
      exact congrArg some q
    · cases h
  | .not a, sc, e, X, C, O, h => by
    unfold chkE at h
    split at h
    · obtain ⟨k1, k2, _⟩ := sdE (C := C) a O h
      exact ⟨okE_not k1, okT_not k2, fun _ _ _ z => by cases z⟩
    · cases h
  | .and a b, sc, e, X, C, O, h => by
    unfold chkE at h
    split at h
    · rw [Bool.and_eq_true] at h
      obtain ⟨k1, k2, _⟩ := sdE (C := C) a O h.1
      obtain ⟨l1, l2, _⟩ := sdE (C := C) b O h.2
      have P := okP_and (pos := ‹Pos›) k2 (okP_and1 l2)
      exact ⟨okE_and k1 (okE_one l1), P.t, fun _ _ _ z => by cases z; exact P⟩
    · rw [Bool.and_eq_true] at h
      obtain ⟨k1, k2, _⟩ := sdE (C := C) a O h.1
      obtain ⟨l1, l2, l3⟩ := sdE (C := C) b O h.2
      have P := okP_and (pos := ‹Pos›) k2 (l3 _ _ _ rfl)
      exact ⟨okE_and k1 l1, P.t, fun _ _ _ z => by cases z; exact P⟩
    · cases h
  | .or a b, sc, e, X, C, O, h => by
    unfold chkE at h
    split at h
    · rw [Bool.and_eq_true] at h
      obtain ⟨k1, k2, _⟩ := sdE (C := C) a O h.1
      obtain ⟨l1, l2, _⟩ := sdE (C := C) b O h.2
      have P := okP_or (pos := ‹Pos›) k2 (okP_or1 l2)
      exact ⟨okE_or k1 (okE_one l1), P.t, fun _ _ _ z => by cases z; exact P⟩
    · rw [Bool.and_eq_true] at h
      obtain ⟨k1, k2, _⟩ := sdE (C := C) a O h.1
      obtain ⟨l1, l2, l3⟩ := sdE (C := C) b O h.2
      have P := okP_or (pos := ‹Pos›) k2 (l3 _ _ _ rfl)
      exact ⟨okE_or k1 l1, P.t, fun _ _ _ z => by cases z; exact P⟩
    · cases h
  | .cmp op a b, sc, e, X, C, O, h => by
    unfold chkE at h
    split at h
    · simp only [Bool.and_eq_true, decide_eq_true_eq, Bool.not_eq_true'] at h
      obtain ⟨⟨⟨h0, h1⟩, h2⟩, h3⟩ := h
      subst h0
      have hu := O.un
      exact ⟨okE_cmp (sdE a O h1).1 (sdE b O h2).1 (fun d1 d2 d q => cmp_ok O.hw (by have := O.un; omega) q) h3, okT_cmp (sdE a O h1).1 (sdE b O h2).1 (fun d1 d2 d q => cmp_ok O.hw (by have := O.un; omega) q) h3, fun _ _ _ z => by cases z⟩
    · cases h
  | .chain o1 o2 a b c, sc, e, X, C, O, h => by
    unfold chkE at h
    split at h
    · simp only [Bool.and_eq_true, decide_eq_true_eq, Bool.not_eq_true'] at h
      obtain ⟨⟨⟨⟨⟨h0, h0'⟩, h1⟩, h2⟩, h3⟩, h4⟩ := h
      subst h0 h0'
      have hu := O.un
      exact ⟨okE_chain (sdE a O h1).1 (sdE b O h2).1 (sdE c O h3).1 (fun d1 d2 d q => cmp_ok O.hw (by have := O.un; omega) q) (fun d1 d2 d q => cmp_ok O.hw (by have := O.un; omega) q) h4, okT_chain (sdE a O h1).1 (sdE b O h2).1 (sdE c O h3).1 (fun d1 d2 d q => cmp_ok O.hw (by have := O.un; omega) q) (fun d1 d2 d q => cmp_ok O.hw (by have := O.un; omega) q) h4, fun _ _ _ z => by cases z⟩
    · cases h
  | .ite c a b, sc, e, X, C, O, h => by
    unfold chkE at h
    split at h
    · rw [Bool.and_eq_true, Bool.and_eq_true] at h
      obtain ⟨⟨h0, h1⟩, h2⟩ := h
      obtain ⟨k1, k2, _⟩ := sdE (C := C) a O h1
      obtain ⟨l1, l2, _⟩ := sdE (C := C) b O h2
      exact ⟨okE_ite (sdE c O h0).2.1 k1 l1, okT_ite (sdE c O h0).2.1 k2 l2, fun _ _ _ z => by cases z⟩
    · cases h
  | .idx a i, sc, e, X, C, O, h => by
    unfold chkE at h
    split at h
    · rw [Bool.and_eq_true, Bool.and_eq_true] at h
      refine tri_plain ?_ (fun _ => rfl) (fun _ _ _ z => by cases z)
      exact okE_ix (sdE a O h.1.1).1 (sdE i O h.1.2).1 (fun d1 d2 d q => idx_ok O.hw (by have := O.un; omega) q) (plainIx_ok h.2)
    · cases h
  | .sl a lo hi, sc, e, X, C, O, h => by
    unfold chkE at h
    split at h
    · rw [Bool.and_eq_true, Bool.and_eq_true] at h
      refine tri_plain ?_ (fun _ => rfl) (fun _ _ _ z => by cases z)
      exact okE_sl (sdE a O h.1.1).1 (sdO lo O h.1.2) (sdO hi O h.2) fun d1 l u d q => sl_ok q
    · cases h
  | .call f es, sc, e, X, C, O, h => by
    unfold chkE at h
    split at h
    · rename_i x p l pos
      rw [Bool.and_eq_true, Bool.and_eq_true, Bool.and_eq_true, decide_eq_true_eq, decide_eq_true_eq] at h
      obtain ⟨⟨⟨h0, hx⟩, h1⟩, h2⟩ := h
      obtain ⟨g1, g2, g3⟩ := O.glx h1
      have D0 : DefAt X x (spF X.K l.length (F f)) := O.fu f x false l.length h0 hx
      refine tri_plain ?_ (fun _ => rfl) (fun _ _ _ z => by cases z)
      cases l with
      | nil =>
        cases es with
        | nil =>
          refine fun st d st' q => okE_call0 D0 g1 g2 st d st' ?_
          unfold dens at q
          exact q
        | cons _ _ => unfold chkA at h2; cases h2
      | cons y l => exact okE_call D0 g1 g2 (sdA es O h2) (chkA_star h2) fun st r q => chkA_len h2 q
    · cases h
  | .callD f k es, sc, e, X, C, O, h => by
    unfold chkE at h
    split at h
    · rename_i x p y p2 l pos
      rw [Bool.and_eq_true, Bool.and_eq_true, Bool.and_eq_true, Bool.and_eq_true, decide_eq_true_eq, decide_eq_true_eq] at h
      obtain ⟨⟨⟨⟨h0, hx⟩, h1⟩, h2⟩, h3⟩ := h
      obtain ⟨g1, g2, g3⟩ := O.glx h1
      have D0 : DefAt X x (spD X.K (l.length + 1) (F f)) := O.fu f x true (l.length + 1) h0 hx
      refine tri_plain ?_ (fun _ => rfl) (fun _ _ _ z => by cases z)
      exact okE_callD D0 g1 g2 (O.vis h2) (sdA es O h3) (by rw [List.all_cons, chkA_star h3]; rfl) fun st r q => chkA_len h3 q
    · cases h
  | .blt b es, sc, e, X, C, O, h => by
    unfold chkE at h
    split at h
    · rename_i x p y l pos
      rw [Bool.and_eq_true, Bool.and_eq_true, decide_eq_true_eq] at h
      obtain ⟨⟨h0, h1⟩, h2⟩ := h
      obtain ⟨b1, b2, b3, b4, b5⟩ := O.blx h0
      refine tri_plain ?_ (fun _ => rfl) (fun _ _ _ z => by cases z)
      exact bl_ok O.calm O.un b1 b2 b3 b4 b5 h1 (sdA es O h2) (chkA_star h2) fun st r q => chkA_len h2 q
    · cases h
  | .isi a t, sc, e, X, C, O, h => by
    unfold chkE at h
    split at h
    · rw [Bool.and_eq_true, Bool.and_eq_true] at h
      obtain ⟨⟨h0, h1⟩, h2⟩ := h
      obtain ⟨b1, b2, b3, b4, b5⟩ := O.blx h0
      obtain ⟨c1, c2, c3, c4, c5⟩ := O.blx h1
      subst b1 c1
      refine tri_plain ?_ (fun _ => rfl) (fun _ _ _ z => by cases z)
      exact okE_isi (sdE a O h2).1 b2 b3 c2 c3 (chkE_star h2)
    · cases h
  | .isi2 a t u, sc, e, X, C, O, h => by
    unfold chkE at h
    split at h
    · rw [Bool.and_eq_true, Bool.and_eq_true, Bool.and_eq_true] at h
      obtain ⟨⟨⟨h0, h1⟩, h1'⟩, h2⟩ := h
      obtain ⟨b1, b2, b3, b4, b5⟩ := O.blx h0
      obtain ⟨c1, c2, c3, c4, c5⟩ := O.blx h1
      obtain ⟨d1, d2, d3, d4, d5⟩ := O.blx h1'
      subst b1 c1 d1
      refine tri_plain ?_ (fun _ => rfl) (fun _ _ _ z => by cases z)
      exact okE_isi2 (sdE a O h2).1 b2 b3 c2 c3 d2 d3 (chkE_star h2)
    · cases h
  | .lc w tg one own c el, sc, e, X, C, O, h => by
    unfold chkE at h
    split at h
    · rename_i elt tgx iter ifs as scope pos
      simp only [Bool.and_eq_true, decide_eq_true_eq] at h
      obtain ⟨⟨⟨⟨⟨⟨⟨⟨h0, h1⟩, h2⟩, h3⟩, h4⟩, h5⟩, h6⟩, h7⟩, h8⟩ := h
      subst h0
      refine tri_plain ?_ (fun _ => rfl) (fun _ _ _ z => by cases z)
      have k := okF_lc (X := X) (C := C) (pos := pos) O.calm (by rw [O.hN]; exact O.nd) (O.blkOk h2) (sdW w O h1) (fun s H Ca cl fp C' => O.blk.tg h4) (fun s H Ca cl fp C' => sdI c O.blk h6) (fun s H Ca cl fp C' => (sdE el O.blk h7).1) (ownNames_sub h3 h5) (notSet_ok h8)
      rw [h3] at k
      refine okE_of_F k fun st d st' q => ?_
      unfold den at q
      obtain ⟨r, e1, q⟩ := bind_some q
      split at q
      · rename_i hl
        obtain ⟨z, e2, q⟩ := bind_some q
        cases q
        refine ⟨z.1, rfl, ?_⟩
        unfold mLc
        rw [e1]
        show (if r.1.length ≤ lim then _ else _) = _
        rw [if_pos hl, e2]
        rfl
      · cases q
    · cases h
  | .oLen k, sc, e, X, C, O, h => by
    unfold chkE at h
    split at h
    · rw [Bool.and_eq_true] at h
      obtain ⟨b1, b2, b3, b4, b5⟩ := O.blx h.1
      subst b1
      refine tri_plain ?_ (fun _ => rfl) (fun _ _ _ z => by cases z)
      exact okE_oLen (x := "") (p2 := ⟨0, 0, 0, 0⟩) (O.vis h.2) b2 b3 rfl
    · cases h
  | .oIdx k i, sc, e, X, C, O, h => by
    unfold chkE at h
    split at h
    · rw [Bool.and_eq_true, Bool.and_eq_true] at h
      refine tri_plain ?_ (fun _ => rfl) (fun _ _ _ z => by cases z)
      exact okE_oIdx (O.vis h.1.1) (sdE i O h.1.2).1 (plainIx_ok h.2)
    · cases h
  | .oIn neg k a, sc, e, X, C, O, h => by
    unfold chkE at h
    split at h
    · rw [Bool.and_eq_true, Bool.and_eq_true, decide_eq_true_eq] at h
      obtain ⟨⟨h0, h1⟩, h2⟩ := h
      subst h0
      have hu := O.un
      have k := fun p1 p2 => okE_oIn (C := C) (pos := p1) (neg := neg) (by omega) (sdE a O h1).1 (O.vis (p := p2) h2) (by cases neg <;> rfl)
      exact ⟨(k _ _).1, (k _ _).2, fun _ _ _ z => by cases z⟩
    · cases h
  | .oNe k, sc, e, X, C, O, h => by
    unfold chkE at h
    split at h
    · have hu := O.un
      have k := fun p1 p2 p3 => okE_oNe (C := C) (pos := p1) (p2 := p2) (by omega) (O.vis (p := p3) h)
      exact ⟨(k _ _ _).1, (k _ _ _).2, fun _ _ _ z => by cases z⟩
    · cases h
  | .tri .., sc, e, X, C, O, h => by unfold chkE at h; cases h
  | .mth m a (.cons b .nil), sc, e, X, C, O, h => by
    unfold chkE at h
    split at h
    · simp only [Bool.and_eq_true, decide_eq_true_eq] at h
      obtain ⟨⟨⟨⟨h0, h1⟩, h2⟩, h3⟩, h4⟩ := h
      subst h0
      refine tri_plain ?_ (fun _ => rfl) (fun _ _ _ z => by cases z)
      refine okE_den (okE_mth (by have := O.un; omega) (sdE a O h1).1 (sdE b O h2).1 (chkE_star h2) (plainO_base h4) h3) fun st d st' q => ?_
      unfold den dens dens at q
      obtain ⟨x, e1, q⟩ := bind_some q
      obtain ⟨y, e2, q⟩ := bind_some q
      obtain ⟨z, e3, e2⟩ := bind_some e2
      cases e2
      show ((den (T.gs.map (·.2)) F a st).bind _) = _
      rw [e1]
      show ((den (T.gs.map (·.2)) F b x.2).bind _) = _
      rw [e3]
      exact q
    · cases h
  | .mth m a .nil, sc, e, X, C, O, h => by unfold chkE at h; cases h
  | .mth m a (.cons b (.cons c r)), sc, e, X, C, O, h => by unfold chkE at h; cases h
  | .slr a, sc, e, X, C, O, h => by
    unfold chkE at h
    split at h
    · rw [Bool.and_eq_true, decide_eq_true_eq] at h
      obtain ⟨h0, h1⟩ := h
      subst h0
      refine tri_plain ?_ (fun _ => rfl) (fun _ _ _ z => by cases z)
      exact okE_slr (sdE a O h1).1
    · cases h
  | .dc .., sc, e, X, C, O, h => by unfold chkE at h; cases h
  | .dct .., sc, e, X, C, O, h => by unfold chkE at h; cases h
  | .sos .., sc, e, X, C, O, h => by unfold chkE at h; cases h
  | .gIn neg x kvs a, sc, e, X, C, O, h => by
    unfold chkE at h
    split at h
    · simp only [Bool.and_eq_true, decide_eq_true_eq] at h
      obtain ⟨⟨⟨⟨h0, h1⟩, h2⟩, h3⟩, h4⟩ := h
      subst h0 h1
      obtain ⟨g1, g2, g3⟩ := O.glx h3
      exact ⟨okE_gIn (neg := neg) O.hw (O.gd _ _ h2) g1 g2 (sdE a O h4).1 (by cases neg <;> rfl), okT_gIn (neg := neg) O.hw (O.gd _ _ h2) g1 g2 (sdE a O h4).1 (by cases neg <;> rfl), fun _ _ _ z => by cases z⟩
    · cases h
  | .gIdx x kvs a, sc, e, X, C, O, h => by
    unfold chkE at h
    split at h
    · simp only [Bool.and_eq_true, decide_eq_true_eq] at h
      obtain ⟨⟨⟨⟨h1, h2⟩, h3⟩, h4⟩, h5⟩ := h
      subst h1
      obtain ⟨g1, g2, g3⟩ := O.glx h3
      refine tri_plain ?_ (fun _ => rfl) (fun _ _ _ z => by cases z)
      exact okE_gIdx O.hw (O.gd _ _ h2) g1 g2 (sdE a O h4).1 (plainIx_ok h5)
    · cases h
  | .dnew, sc, e, X, C, O, h => by
    unfold chkE at h
    split at h
    · refine tri_plain ?_ (fun _ => rfl) (fun _ _ _ z => by cases z)
      exact okE_of_K okK_new fun st d st' q => by
        unfold den at q
        cases q
        exact ⟨[], rfl, rfl⟩
    · cases h
  | .done k v, sc, e, X, C, O, h => by
    unfold chkE at h
    split at h
    · rw [Bool.and_eq_true] at h
      have hu := O.un
      refine tri_plain ?_ (fun _ => rfl) (fun _ _ _ z => by cases z)
      exact okE_of_K (okK_one O.hw (by omega) (fun C => (sdE k O h.1).1) (fun C => (sdE v O h.2).1)) fun st d st' q => by
        unfold den at q
        obtain ⟨x, e1, q⟩ := bind_some q
        obtain ⟨y, e2, q⟩ := bind_some q
        split at q
        · rename_i tk
          cases q
          refine ⟨_, rfl, ?_⟩
          rw [e1]
          show ((den (T.gs.map (·.2)) F v x.2).bind _) = _
          rw [e2]
          exact if_pos tk
        · cases q
    · cases h
  | .dLen k, sc, e, X, C, O, h => by
    unfold chkE at h
    split at h
    · rw [Bool.and_eq_true] at h
      obtain ⟨b1, b2, b3, b4, b5⟩ := O.blx h.1
      subst b1
      refine tri_plain ?_ (fun _ => rfl) (fun _ _ _ z => by cases z)
      exact okE_dLen (O.vis h.2) b2 b3 rfl
    · cases h
  | .dIdx k i, sc, e, X, C, O, h => by
    unfold chkE at h
    split at h
    · rw [Bool.and_eq_true, Bool.and_eq_true] at h
      have hu := O.un
      refine tri_plain ?_ (fun _ => rfl) (fun _ _ _ z => by cases z)
      exact okE_dIdx O.hw (by omega) (O.vis h.1.1) (sdE i O h.1.2).1 (plainIx_ok h.2)
    · cases h
  | .dIn neg k a, sc, e, X, C, O, h => by
    unfold chkE at h
    split at h
    · rw [Bool.and_eq_true, Bool.and_eq_true, decide_eq_true_eq] at h
      obtain ⟨⟨h0, h1⟩, h2⟩ := h
      subst h0
      have hu := O.un
      have k := fun p1 p2 => okE_dIn (C := C) (pos := p1) (neg := neg) O.hw (by omega) (sdE a O h1).1 (O.vis (p := p2) h2) (by cases neg <;> rfl)
      exact ⟨(k _ _).1, (k _ _).2, fun _ _ _ z => by cases z⟩
    · cases h
theorem sdO : ∀ (ir : Exo) {sc : Scope} {e : Option Expr} {X : Cx} {C : Cc}, Okx T F N sc X → chkO T N sc ir e = true → OkO X C e (deno (T.gs.map (·.2)) F ir)
  | .no, sc, e, X, C, O, h => by
    unfold chkO at h
    cases e with
    | none => exact okO_no
    | some _ => cases h
  | .e a, sc, e, X, C, O, h => by
    unfold chkO at h
    split at h
    · exact okO_e (sdE a O h).1
    · cases h
theorem sdI : ∀ (ir : Exo) {sc : Scope} {e : List Expr} {X : Cx} {C : Cc}, Okx T F N sc X → chkI T N sc ir e = true → OkTs X C e (dent (T.gs.map (·.2)) F ir)
  | .no, sc, e, X, C, O, h => by
    unfold chkI at h
    cases e with
    | nil => exact okTs_nil
    | cons _ _ => cases h
  | .e a, sc, e, X, C, O, h => by
    unfold chkI at h
    split at h
    · exact okTs_one (sdE a O h).2.1
    · cases h
theorem sdA : ∀ (ir : Exs) {sc : Scope} {e : List Expr} {X : Cx} {C : Cc}, Okx T F N sc X → chkA T N sc ir e = true → OkA X C e (dens (T.gs.map (·.2)) F ir)
  | .nil, sc, e, X, C, O, h => by
    unfold chkA at h
    cases e with
    | nil => exact okA_nil
    | cons _ _ => cases h
  | .cons a r, sc, e, X, C, O, h => by
    unfold chkA at h
    split at h
    · rw [Bool.and_eq_true] at h
      exact okA_cons (sdE a O h.1).1 (sdA r O h.2) (nostar_cons (noStar_ne (chkE_star h.1)))
    · cases h
theorem sdW : ∀ (ir : Wk) {sc : Scope} {tg e : Expr} {X : Cx} {C : Cc}, Okx T F N sc X → chkW T N sc ir tg e = true → OkW X C tg e (denw (T.gs.map (·.2)) F ir)
  | .seq a, sc, tg, e, X, C, O, h => by
    unfold chkW at h
    exact okW_seq (sdE a O h).1
  | .rng1 a, sc, tg, e, X, C, O, h => by
    unfold chkW at h
    split at h
    · rw [Bool.and_eq_true] at h
      obtain ⟨b1, b2, b3, b4, b5⟩ := O.blx h.1
      subst b1
      exact okW_rng1 b2 b3 (sdE a O h.2).1 (chkE_star h.2)
    · cases h
  | .rng2 a b, sc, tg, e, X, C, O, h => by
    unfold chkW at h
    split at h
    · rw [Bool.and_eq_true, Bool.and_eq_true] at h
      obtain ⟨b1, b2, b3, b4, b5⟩ := O.blx h.1.1
      subst b1
      exact okW_rng2 b2 b3 (sdE a O h.1.2).1 (sdE b O h.2).1 (chkE_star h.1.2) (chkE_star h.2)
    · cases h
  | .rng3 a b c, sc, tg, e, X, C, O, h => by
    unfold chkW at h
    split at h
    · rw [Bool.and_eq_true, Bool.and_eq_true, Bool.and_eq_true] at h
      obtain ⟨b1, b2, b3, b4, b5⟩ := O.blx h.1.1.1
      subst b1
      exact okW_rng3 b2 b3 (sdE a O h.1.1.2).1 (sdE b O h.1.2).1 (sdE c O h.2).1 (chkE_star h.1.1.2) (chkE_star h.1.2) (chkE_star h.2)
    · cases h
  | .enum a, sc, tg, e, X, C, O, h => by
    unfold chkW at h
    split at h
    · rw [Bool.and_eq_true, Bool.and_eq_true] at h
      obtain ⟨b1, b2, b3, b4, b5⟩ := O.blx h.1.1
      subst b1
      cases tg with
      | Tuple es kk tpos =>
        exact okW_enum b2 b3 (sdE a O h.1.2).1 (chkE_star h.1.2)
      | _ => cases h.2
    · cases h
  | .zip a b, sc, tg, e, X, C, O, h => by
    unfold chkW at h
    split at h
    · rw [Bool.and_eq_true, Bool.and_eq_true, Bool.and_eq_true] at h
      obtain ⟨b1, b2, b3, b4, b5⟩ := O.blx h.1.1.1
      subst b1
      cases tg with
      | Tuple es kk tpos =>
        exact okW_zip b2 b3 (sdE a O h.1.1.2).1 (sdE b O h.1.2).1 (chkE_star h.1.1.2) (chkE_star h.1.2)
      | _ => cases h.2
    · cases h
end
end
end Pv

/-! Statements, one rule a kind. -/
namespace Pv
open PySem L2
variable [HashW]
/-- a list that was there ahead of the call (its first argument's) is slot 0's -/
def Kn (C : Cc) (ws : Ws) : Prop := ∀ p ∈ ws, (p.2 ∈ C.I → p.1 = 0) ∧ (p.1 = 0 → C.I = [] ∨ p.2 ∈ C.I)
def RetNew (K : W.Frag) (C : Cc) (H' : Hp) (v : V) (d : D) : Prop := ∃ p us es, v = .ref p ∧ p ∉ C.I ∧ C.H0 p = none ∧ p ∉ C.M0 ∧ H' p = some (.lst us) ∧ d = .list es ∧ RpAll K (hide H' (p :: C.M0)) us es
def EndS (K : W.Frag) (C : Cc) (G : Hp) : Fl → Ends → Prop
  | .nx st', D => ∀ σ' ws' H', SI K C G ws' st' σ' H' → Kn C ws' → D.nx σ' H'
  | .bk st', D => ∀ σ' ws' H', SI K C G ws' st' σ' H' → Kn C ws' → D.bk σ' H'
  | .ct st', D => ∀ σ' ws' H', SI K C G ws' st' σ' H' → Kn C ws' → D.ct σ' H'
  | .rt d fr st', D => ∀ v σ' ws' H', SI K C G ws' st' σ' H' → Kn C ws' → Rp K (hide H' C.M0) v d → (fr = true → RetNew K C H' v d) → D.rt v H'
def tVS (K : W.Frag) (C : Cc) (st : SS) (f : Fl) : TS := fun D σ H => ∃ G ws, SI K C G ws st σ H ∧ Kn C ws ∧ EndS K C G f D
def OkS (X : Cx) (C : Cc) (s : Stmt) (m : SS → Option Fl) : Prop := ∀ st f, m st = some f → PS X s (tVS X.K C st f)
def OkSs (X : Cx) (C : Cc) (s : List Stmt) (m : SS → Option Fl) : Prop := ∀ st f, m st = some f → PSs X s (tVS X.K C st f)
theorem PS_weak {X : Cx} {s : Stmt} {t t' : TS} (h : PS X s t) (w : ∀ D σ H, t' D σ H → t D σ H) : PS X s t' := ⟨fun pins sh σ H D I q => h.run pins sh σ H D I (w D σ H q)⟩
theorem PSs_weak {X : Cx} {s : List Stmt} {t t' : TS} (h : PSs X s t) (w : ∀ D σ H, t' D σ H → t D σ H) : PSs X s t' := ⟨fun pins sh σ H D I q => h.run pins sh σ H D I (w D σ H q)⟩
theorem EndS.down {K : W.Frag} {C : Cc} {G G' : Hp} {f : Fl} {D : Ends} (l : Le G G') (h : EndS K C G f D) : EndS K C G' f D := by
  cases f with
  | nx st' => exact fun σ' ws' H' S k => h σ' ws' H' (S.down l) k
  | bk st' => exact fun σ' ws' H' S k => h σ' ws' H' (S.down l) k
  | ct st' => exact fun σ' ws' H' S k => h σ' ws' H' (S.down l) k
  | rt d fr st' => exact fun v σ' ws' H' S k r n => h v σ' ws' H' (S.down l) k r n
section
variable {K : W.Frag} {C : Cc} {G : Hp} {ws : Ws} {st st' : SS} {σ σ' : L2.St} {H H' : Hp} {k i : Nat} {p : Addr}
/-- a new list goes to a slot -/
theorem SI.ownAt {ds : List D} {us : List V} (S : SI K C G ((k, p) :: ws) st σ H) (hk : st.length ≤ k) (hi : i < st.length) (hv : H p = some (.lst us)) (r : RpAll K (C.vis ((k, p) :: ws) H) us ds) : SI K C G ((i, p) :: ws) (st.set i (.own ds)) (σ.set i (some (.ref p))) H := by
  have ev : C.vis ((i, p) :: ws) H = C.vis ((k, p) :: ws) H := rfl
  refine ⟨by rw [List.length_set, List.length_set]; exact S.len, fun j s hj => ?_, S.nod, S.frm, S.vis, S.m0, fun q hq => ?_, fun q hq => ?_, S.inM, S.tbs⟩
  · by_cases e : i = j
    · subst e
      rw [List.getElem?_set_self hi] at hj
      cases hj
      exact ⟨p, us, List.mem_cons_self, by rw [List.getElem?_set_self (by rw [← S.len]; exact hi)], hv, r⟩
    · rw [List.getElem?_set_ne e] at hj
      rw [List.getElem?_set_ne e]
      have q := S.rep j s hj
      have hjl : j < st.length := (List.getElem?_eq_some_iff.mp hj).1
      cases s with
      | no => exact True.intro
      | v d => exact q
      | own es =>
        obtain ⟨a, vs, m, o, h1, r1⟩ := q
        refine ⟨a, vs, ?_, o, h1, r1⟩
        rcases List.mem_cons.mp m with z | z
        · cases z; omega
        · exact List.mem_cons_of_mem _ z
      | dic es =>
        obtain ⟨a, vs, m, o, h1, r1⟩ := q
        refine ⟨a, vs, ?_, o, h1, r1⟩
        rcases List.mem_cons.mp m with z | z
        · cases z; omega
        · exact List.mem_cons_of_mem _ z
  · rcases List.mem_cons.mp hq with z | z
    · subst z; exact S.wsn (k, p) List.mem_cons_self
    · exact S.wsn q (List.mem_cons_of_mem _ z)
  · rcases List.mem_cons.mp hq with z | z
    · subst z; exact S.wst (k, p) List.mem_cons_self
    · exact S.wst q (List.mem_cons_of_mem _ z)
/-- the list of a slot is told new items -/
theorem SI.put {ds es : List D} {us : List V} (S : SI K C G ws st σ H) (hs : st[i]? = some (.own ds)) (hm : (i, p) ∈ ws) (ho : σ[i]? = some (some (.ref p))) (r : RpAll K (C.vis ws H) us es) : SI K C G ws (st.set i (.own es)) σ (upd H p (.lst us)) := by
  have pm : p ∈ C.M ws := List.mem_append_right _ (List.mem_map.mpr ⟨_, hm, rfl⟩)
  refine ⟨by rw [List.length_set]; exact S.len, fun j s hj => ?_, S.nod, fun b o hb q => ?_, by rw [vis_upd pm]; exact S.vis, fun a ha => ?_, S.wsn, fun q hq => ?_, S.inM, S.tbs.upd pm (S.wst (i, p) hm)⟩
  · by_cases e : i = j
    · subst e
      rw [List.getElem?_set_self (List.getElem?_eq_some_iff.mp hs).1] at hj
      cases hj
      exact ⟨p, us, hm, ho, upd_same, by rw [vis_upd pm]; exact r⟩
    · rw [List.getElem?_set_ne e] at hj
      have q := S.rep j s hj
      cases s with
      | no => exact True.intro
      | v d => obtain ⟨v, o, r⟩ := q; exact ⟨v, o, by rw [vis_upd pm]; exact r⟩
      | own fs =>
        obtain ⟨a, vs, m, o, h1, r1⟩ := q
        have hne : a ≠ p := fun z => e (addr_slot S hm (by rw [← z]; exact m))
        exact ⟨a, vs, m, o, by rw [upd_ne hne]; exact h1, by rw [vis_upd pm]; exact r1⟩
      | dic fs =>
        obtain ⟨a, vs, m, o, h1, r1⟩ := q
        have hne : a ≠ p := fun z => e (addr_slot S hm (by rw [← z]; exact m))
        exact ⟨a, vs, m, o, by rw [upd_ne hne]; exact h1, by rw [vis_upd pm]; exact r1⟩
  · have hne : b ≠ p := fun z => by
      have := (S.wsn (i, p) hm (by rw [← z]; exact hb)).1
      rw [← z, q] at this
      cases this
    rw [upd_ne hne]
    exact S.frm b o hb q
  · by_cases e : a = p
    · exact ⟨_, by rw [e]; exact upd_same⟩
    · rw [upd_ne e]; exact S.m0 a ha
  · by_cases e : q.2 = p
    · exact ⟨_, by rw [e]; exact upd_same, fun ps z => by cases z⟩
    · rw [upd_ne e]; exact S.wst q hq
def without (ws : Ws) (p : Addr) : Ws := ws.filter fun q => decide (q.2 ≠ p)
theorem mem_without {q : Nat × Addr} : q ∈ without ws p ↔ q ∈ ws ∧ q.2 ≠ p := by
  unfold without
  rw [List.mem_filter, decide_eq_true_eq]
theorem without_vis : Le (C.vis ws H) (C.vis (without ws p) H) := hide_sub fun a ha => by
  rcases List.mem_append.mp ha with h | h
  · exact List.mem_append_left _ h
  · obtain ⟨q, hq, e⟩ := List.mem_map.mp h
    exact List.mem_append_right _ (List.mem_map.mpr ⟨q, (mem_without.mp hq).1, e⟩)
theorem without_sub : ∀ a ∈ C.M (without ws p), a ∈ C.M ws := fun a ha => by
  rcases List.mem_append.mp ha with h | h
  · exact List.mem_append_left _ h
  · obtain ⟨q, hq, e⟩ := List.mem_map.mp h
    exact List.mem_append_right _ (List.mem_map.mpr ⟨q, (mem_without.mp hq).1, e⟩)
/-- a slot's list is changed no more -/
theorem SI.unown {ds : List D} (S : SI K C G ws st σ H) (hs : st[i]? = some (.own ds)) (hI : ∀ a, (i, a) ∈ ws → a ∉ C.I) : ∃ a, σ[i]? = some (some (.ref a)) ∧ SI K C G (without ws a) (st.set i .no) σ H ∧ Rp K (C.vis (without ws a) H) (.ref a) (.list ds) ∧ RetNew K C H (.ref a) (.list ds) ∧ (∀ b, (i, b) ∈ ws → σ[i]? = some (some (.ref b)) → b = a) := by
  obtain ⟨a, vs, m, o, h1, r⟩ := S.rep i _ hs
  have aI := hI a m
  obtain ⟨a0, aM⟩ := S.wsn (i, a) m aI
  have aM : a ∉ C.M0 := aM
  refine ⟨a, o, ⟨by rw [List.length_set]; exact S.len, fun j s hj => ?_, ?_, S.frm, S.vis.trans without_vis, S.m0, fun q hq => S.wsn q (mem_without.mp hq).1, fun q hq => S.wst q (mem_without.mp hq).1, S.inM, S.tbs.sub without_sub⟩, .lst (.inl (.inl ?_)) (r.le without_vis), ⟨a, vs, ds, rfl, aI, a0, aM, h1, rfl, r.le (hide_sub fun b hb => ?_)⟩, fun b _ hb => ?_⟩
  · by_cases e : i = j
    · subst e
      rw [List.getElem?_set_self (List.getElem?_eq_some_iff.mp hs).1] at hj
      cases hj
      exact True.intro
    · rw [List.getElem?_set_ne e] at hj
      have q := S.rep j s hj
      cases s with
      | no => exact True.intro
      | v d => obtain ⟨v, o, r⟩ := q; exact ⟨v, o, r.le without_vis⟩
      | own fs =>
        obtain ⟨b, us, m2, o2, h2, r2⟩ := q
        have hne : b ≠ a := fun z => e (addr_slot S m (by rw [← z]; exact m2))
        exact ⟨b, us, mem_without.mpr ⟨m2, hne⟩, o2, h2, r2.le without_vis⟩
      | dic fs =>
        obtain ⟨b, us, m2, o2, h2, r2⟩ := q
        have hne : b ≠ a := fun z => e (addr_slot S m (by rw [← z]; exact m2))
        exact ⟨b, us, mem_without.mpr ⟨m2, hne⟩, o2, h2, r2.le without_vis⟩
  · exact S.nod.sublist (List.Sublist.map _ List.filter_sublist)
  · show hide H _ a = _
    rw [hide_out]
    · exact h1
    · intro z
      rcases List.mem_append.mp z with z | z
      · exact aM z
      · obtain ⟨q, hq, e⟩ := List.mem_map.mp z
        exact (mem_without.mp hq).2 e
  · rcases List.mem_cons.mp hb with z | z
    · rw [z]; exact List.mem_append_right _ (List.mem_map.mpr ⟨_, m, rfl⟩)
    · exact List.mem_append_left _ z
  · rw [o] at hb
    have := Option.some.inj (Option.some.inj hb)
    injection this with this
    exact this.symm
end
theorem Kn.cons {C : Cc} {ws : Ws} {i : Nat} {p : Addr} (k : Kn C ws) (h : p ∉ C.I) (h0 : i ≠ 0) : Kn C ((i, p) :: ws) := fun q hq => by
  rcases List.mem_cons.mp hq with e | e
  · subst e; exact ⟨fun z => absurd z h, fun z => absurd z h0⟩
  · exact k q e
theorem Kn.sub {C : Cc} {ws ws' : Ws} (k : Kn C ws) (h : ∀ q ∈ ws', q ∈ ws) : Kn C ws' := fun q hq => k q (h q hq)
section
variable {X : Cx} {C : Cc} {e : Expr} {x : Str} {i : Nat} {me : SS → Option (D × SS)} {mf : SS → Option (List D × SS)} {p pos : Pos}
theorem setV_of {te : TE} {st st1 st2 : SS} {d : D} (h : setV st1 i d = some st2) (hr : ∀ σ H Q, tV X.K C st st1 d σ H Q → te σ H Q) {s : Stmt} (hp : PS X s (tAsg te (gName i))) : PS X s (tVS X.K C st (.nx st2)) :=
  PS_weak hp fun D σ H ⟨G, ws, S, kn, q⟩ => hr σ H _ ⟨G, ws, S, fun v H2 S2 r2 => q _ ws H2 (S2.setV h r2) kn⟩
theorem own_of {te : TE} {st st1 : SS} {ds : List D} (h0 : i ≠ 0) (hi : i < st1.length) (hr : ∀ σ H Q, tVF X.K C st st1 ds σ H Q → te σ H Q) {s : Stmt} (hp : PS X s (tAsg te (gName i))) : PS X s (tVS X.K C st (.nx (st1.set i (.own ds)))) :=
  PS_weak hp fun D σ H ⟨G, ws, S, kn, q⟩ => hr σ H _ ⟨G, ws, S, fun pa vs H2 S2 hM hl hv r => q _ _ H2 (S2.ownAt (by omega) hi hv r) (kn.cons (fun z => hM (S2.inM _ z)) h0)⟩
theorem okS_set (hN : X.N.Nodup) (hi : X.N[i]? = some x) (hx : Loc X.env.scope x) (hf : X.fn x = true ∨ X.env.scope.names.lookup x = some .local) (he : OkE X C e me) (hs : swapsWith e (some (.Name x p)) pos.line X.env = pure false) :
    OkS X C (.Assign [.Name x p] e pos) fun st => (me st).bind fun x => (setV x.2 i x.1).map .nx := fun st f h => by
  obtain ⟨⟨d, s1⟩, e1, h⟩ := bind_some h
  obtain ⟨s2, e2, h⟩ := map_some h
  subst h
  exact setV_of e2 (fun _ _ _ q => q) (ps_set hN hi hx (he _ _ _ e1) hs hf)
theorem okS_own (h0 : i ≠ 0) (hN : X.N.Nodup) (hi : X.N[i]? = some x) (hx : Loc X.env.scope x) (hf : X.fn x = true ∨ X.env.scope.names.lookup x = some .local) (he : OkF X C e mf) (hs : swapsWith e (some (.Name x p)) pos.line X.env = pure false) :
    OkS X C (.Assign [.Name x p] e pos) fun st => (mf st).bind fun x => if i < x.2.length then some (.nx (x.2.set i (.own x.1))) else none := fun st f h => by
  obtain ⟨⟨d, s1⟩, e1, h⟩ := bind_some h
  split at h
  · rename_i hl
    cases h
    exact own_of h0 hl (fun _ _ _ q => q) (ps_set hN hi hx (he _ _ _ e1) hs hf)
  · cases h
theorem okS_mov {j : Nat} (hN : X.N.Nodup) (hi : X.N[i]? = some x) (hx : Loc X.env.scope x) (hf : X.fn x = true ∨ X.env.scope.names.lookup x = some .local) (he : PE X e (tVar j)) (hs : swapsWith e (some (.Name x p)) pos.line X.env = pure false) (h0 : j ≠ 0) :
    OkS X C (.Assign [.Name x p] e pos) fun st => (getO st j).bind fun ds => (setV (st.set j .no) i (.list ds)).map .nx := fun st f h => by
  obtain ⟨ds, e1, h⟩ := bind_some h
  obtain ⟨s2, e2, h⟩ := map_some h
  subst h
  refine PS_weak (ps_set hN hi hx he hs hf) fun D σ H ⟨G, ws, S, kn, q⟩ => ?_
  obtain ⟨a, o, S2, r, _, _⟩ := S.unown (getO_some e1) (fun b hb z => h0 ((kn _ hb).1 z))
  exact ⟨_, o, q _ _ H (S2.setV e2 r) (kn.sub fun q hq => (mem_without.mp hq).1)⟩
theorem okS_unp {tg : Expr} {is : List Nat} (he : OkE X C e me) (hg : OkG X C tg false is) (hs : swapsWithSole [tg] e pos.line X.env = pure false) (hw : swappedStores [tg] e X.env = pure none) (h1 : (assignEach [tg] X.env).map (·.2) = [assign tg X.env]) :
    OkS X C (.Assign [tg] e pos) fun st => (me st).bind fun x => (asgT false is x.1 x.2).map .nx := fun st f h => by
  obtain ⟨⟨d, s1⟩, e1, h⟩ := bind_some h
  obtain ⟨s2, e2, h⟩ := map_some h
  subst h
  refine PS_weak (ps_asg (he _ _ _ e1) (hg _ _ _ e2) hs hw h1) fun D σ H ⟨G, ws, S, kn, q⟩ => ?_
  exact ⟨G, ws, S, fun v H2 S2 r2 => ⟨G, ws, S2, r2, fun σ' S3 _ _ => q σ' ws H2 S3 kn⟩⟩
theorem okS_augI (hN : X.N.Nodup) (hi : X.N[i]? = some x) (hx : Loc X.env.scope x) (hf : X.fn x = true ∨ X.env.scope.names.lookup x = some .local) (he : OkE X C e me) :
    OkS X C (.AugAssign (.Name x p) .Add e pos) fun st => (getV st i).bind fun d => (me st).bind fun x => (intOf (d, st)).bind fun a => (intOf x).bind fun b => (setV x.2 i (.int (a.1 + b.1))).map .nx := fun st f h => by
  obtain ⟨d0, e0, h⟩ := bind_some h
  obtain ⟨y, e1, h⟩ := bind_some h
  obtain ⟨⟨a, s0⟩, e2, h⟩ := bind_some h
  obtain ⟨⟨b, s1⟩, e3, h⟩ := bind_some h
  obtain ⟨s2, e4, h⟩ := map_some h
  subst h
  obtain rfl := intOf_some e3
  have e2 := intOf_some e2
  have hd : d0 = .int a := congrArg Prod.fst e2
  subst hd
  refine PS_weak (ps_aug hN hi hx (he _ _ _ e1) ip_add hf) fun D σ H ⟨G, ws, S, kn, q⟩ => ?_
  unfold getV at e0
  split at e0
  · rename_i dd hs
    cases e0
    obtain ⟨v, o, r⟩ := S.rep i _ hs
    refine ⟨v, o, G, ws, S, fun w H2 S2 r2 => ⟨a, b, r.int_inv, r2.int_inv, ?_⟩⟩
    exact q _ ws H2 (S2.setV e4 (.int _)) kn
  · cases e0
theorem same_addr {K : W.Frag} {C : Cc} {G : Hp} {ws : Ws} {σ : L2.St} {a b : Addr} (h1 : σ[i]? = some (some (V.ref a))) (h2 : σ[i]? = some (some (V.ref b))) : b = a := by
  rw [h1] at h2
  have := Option.some.inj (Option.some.inj h2)
  injection this with this
  exact this.symm
theorem okS_augL (hN : X.N.Nodup) (hi : X.N[i]? = some x) (hx : Loc X.env.scope x) (hf : X.fn x = true ∨ X.env.scope.names.lookup x = some .local) (he : OkF X C e mf) :
    OkS X C (.AugAssign (.Name x p) .Add e pos) fun st => (getO st i).bind fun _ => (mf st).bind fun x => (getO x.2 i).bind fun ds => if ds.length + x.1.length ≤ lim then some (.nx (x.2.set i (.own (ds ++ x.1)))) else none := fun st f h => by
  obtain ⟨ds0, e0, h⟩ := bind_some h
  obtain ⟨⟨es, s1⟩, e1, h⟩ := bind_some h
  obtain ⟨ds, e2, h⟩ := bind_some h
  split at h
  · rename_i hl
    cases h
    refine PS_weak (ps_aug hN hi hx (he _ _ _ e1) (ti := rExt2) iop_ext hf) fun D σ H ⟨G, ws, S, kn, q⟩ => ?_
    obtain ⟨a, vs0, m0, o0, h0, r0⟩ := S.rep i _ (getO_some e0)
    refine ⟨.ref a, o0, G, ws, S, fun pa vs H2 S2 hM hl2 hv r => ?_⟩
    obtain ⟨a2, vs2, m2, o2, h2, r2⟩ := S2.rep i _ (getO_some e2)
    obtain rfl := same_addr (K := X.K) (C := C) (G := G) (ws := ws) o0 o2
    have hil : i < s1.length := (List.getElem?_eq_some_iff.mp (getO_some e2)).1
    have hl' : ds.length + es.length ≤ lim := hl
    refine ⟨a2, pa, vs2, vs, rfl, rfl, h2, hv, by rw [r2.length, r.length]; exact lim_le hl', ?_⟩
    have hσ : σ.set i (some (V.ref a2)) = σ := by
      apply List.ext_getElem?
      intro j
      by_cases e : i = j
      · subst e
        rw [List.getElem?_set_self (by rw [← S.len]; exact (List.getElem?_eq_some_iff.mp (getO_some e0)).1), o0]
      · rw [List.getElem?_set_ne e]
    show D.nx (σ.set i (some (V.ref a2))) _
    rw [hσ]
    have S3 := S2.put (getO_some e2) m2 o2 (r2.app r)
    exact q _ _ _ (S3.drop (by rw [List.length_set]; omega)) kn
  · cases h
theorem okS_app {o : Expr} {apos cpos : Pos} (ho : PE X o (tVar i)) (he : OkE X C e me) (hb : attributeBase o "append" X.env (eval o X.env) = eval o X.env) (hline : (apos.endLine == cpos.line) = true) (hs : noStar e = true) :
    OkS X C (.Expr (.Call (.Attribute o "append" apos) [e] [] cpos) pos) fun st => (getO st i).bind fun _ => (me st).bind fun x => (getO x.2 i).bind fun ds => if ds.length < lim then some (.nx (x.2.set i (.own (ds ++ [x.1])))) else none := fun st f h => by
  obtain ⟨ds0, e0, h⟩ := bind_some h
  obtain ⟨⟨d, s1⟩, e1, h⟩ := bind_some h
  obtain ⟨ds, e2, h⟩ := bind_some h
  split at h
  · rename_i hl
    cases h
    have hl' : ds.length < lim := hl
    refine PS_weak (ps_expr (pe_bm PySem.F.plainAttrs_list PySem.F.slot_list_append PySem.F.type_list_append mt_append ho (pa_cons (he _ _ _ e1) pa_nil (nostar_cons (noStar_ne hs))) hb ?_ hline (nostar_cons (noStar_ne hs)) (plain_args (by rfl))) (by rfl)) fun D σ H ⟨G, ws, S, kn, q⟩ => ?_
    · rw [nostar_cons (noStar_ne hs)]; rfl
    · obtain ⟨a, vs0, m0, o0, h0, r0⟩ := S.rep i _ (getO_some e0)
      refine ⟨.ref a, o0, .inl ⟨rfl, _, SqL.of h0⟩, G, ws, S, fun y H2 S2 ry => ?_⟩
      obtain ⟨a2, vs2, m2, o2, h2, r2⟩ := S2.rep i _ (getO_some e2)
      obtain rfl := same_addr (K := X.K) (C := C) (G := G) (ws := ws) o0 o2
      refine ⟨a2, vs2, y, rfl, rfl, h2, ?_, ?_⟩
      · rw [r2.length]; exact Nat.lt_trans hl' (by decide)
      · exact q _ _ _ (S2.put (getO_some e2) m2 o2 (r2.app (.cons ry .nil))) kn
  · cases h
theorem okS_put {o k : Expr} {mk : SS → Option (D × SS)} {tpos : Pos} (hp : plainIx k = true) (ho : PE X o (tVar i)) (hk : OkE X C k mk) (he : OkE X C e me) (hs : swapsWithSole [.Subscript o k tpos] e pos.line X.env = pure false) (hw : swappedStores [.Subscript o k tpos] e X.env = pure none) :
    OkS X C (.Assign [.Subscript o k tpos] e pos) fun st => (me st).bind fun x => (getO x.2 i).bind fun _ => (mk x.2).bind fun y => (intOf y).bind fun j => (getO y.2 i).bind fun ds => (ixN ds.length j.1).map fun n => .nx (y.2.set i (.own (ds.set n x.1))) := fun st f h => by
  obtain ⟨⟨d, s1⟩, e1, h⟩ := bind_some h
  obtain ⟨ds0, e0, h⟩ := bind_some h
  obtain ⟨y, e2, h⟩ := bind_some h
  obtain ⟨⟨j, s2⟩, e3, h⟩ := bind_some h
  obtain ⟨ds, e4, h⟩ := bind_some h
  obtain ⟨n, e5, h⟩ := map_some h
  subst h
  obtain rfl := intOf_some e3
  refine PS_weak (ps_asg (he _ _ _ e1) (pg_sub ho (hk _ _ _ e2) set_list (fun v => by cases k <;> first | rfl | cases hp)) hs hw) fun D σ H ⟨G, ws, S, kn, q⟩ => ?_
  refine ⟨G, ws, S, fun v H2 S2 r2 => ?_⟩
  obtain ⟨a, vs0, m0, o0, h0, r0⟩ := S2.rep i _ (getO_some e0)
  refine ⟨.ref a, o0, C.vis ws H2, ws, S2.up, fun w H3 S3 r3 => ?_⟩
  obtain ⟨a2, vs2, m2, o2, h2, rr⟩ := S3.rep i _ (getO_some e4)
  obtain rfl := same_addr (K := X.K) (C := C) (G := G) (ws := ws) o0 o2
  refine ⟨a2, vs2, j, n, rfl, r3.int_inv, h2, by rw [rr.length]; exact e5, ?_⟩
  exact q _ _ _ ((S3.put (getO_some e4) m2 o2 (rr.set n (r2.le S3.vis))).down S2.vis) kn
theorem okS_exp (he : OkE X C e me) (hs : swapsWith e none pos.line X.env = pure false) : OkS X C (.Expr e pos) fun st => (me st).map fun x => .nx x.2 := fun st f h => by
  obtain ⟨⟨d, s1⟩, e1, h⟩ := map_some h
  subst h
  exact PS_weak (ps_expr (he _ _ _ e1) hs) fun D σ H ⟨G, ws, S, kn, q⟩ => ⟨G, ws, S, fun v H2 S2 r2 => q _ ws H2 S2 kn⟩
theorem okS_ife {c : Expr} {a b : List Stmt} {mc : SS → Option (Bool × SS)} {ma mb : SS → Option Fl} (hc : OkT X C c mc) (ha : OkSs X C a ma) (hb : OkSs X C b mb) : OkS X C (.If c a b pos) fun st => (mc st).bind fun r => if r.1 then ma r.2 else mb r.2 := fun st f h => by
  obtain ⟨⟨k, s1⟩, e1, h⟩ := bind_some h
  cases k with
  | true =>
    have h : ma s1 = some f := h
    refine PS_weak (ps_if (hc _ _ _ e1) (ha _ _ h) (pss_never (sts := b))) fun D σ H ⟨G, ws, S, kn, q⟩ => ⟨G, ws, S, fun H2 S2 => ?_⟩
    refine iteT ?_
    exact ⟨G, ws, S2, kn, q⟩
  | false =>
    have h : mb s1 = some f := h
    refine PS_weak (ps_if (hc _ _ _ e1) (pss_never (sts := a)) (hb _ _ h)) fun D σ H ⟨G, ws, S, kn, q⟩ => ⟨G, ws, S, fun H2 S2 => ?_⟩
    refine iteF ?_
    exact ⟨G, ws, S2, kn, q⟩
theorem ret_le {K : W.Frag} {G : Hp} {ws : Ws} {H : Hp} : Le (C.vis ws H) (hide H C.M0) := hide_sub fun a ha => List.mem_append_left _ ha
theorem okS_ret (he : OkE X C e me) : OkS X C (.Return (some e) pos) fun st => (me st).map fun x => .rt x.1 false x.2 := fun st f h => by
  obtain ⟨⟨d, s1⟩, e1, h⟩ := map_some h
  subst h
  exact PS_weak (ps_ret (he _ _ _ e1)) fun D σ H ⟨G, ws, S, kn, q⟩ => ⟨G, ws, S, fun v H2 S2 r2 => q v _ ws H2 S2 kn (r2.le (ret_le (K := X.K) (G := G))) (fun z => by cases z)⟩
theorem okS_retF (he : OkF X C e mf) : OkS X C (.Return (some e) pos) fun st => (mf st).map fun x => .rt (.list x.1) true x.2 := fun st f h => by
  obtain ⟨⟨d, s1⟩, e1, h⟩ := map_some h
  subst h
  refine PS_weak (ps_ret (he _ _ _ e1)) fun D σ H ⟨G, ws, S, kn, q⟩ => ⟨G, ws, S, fun pa vs H2 S2 hM hl hv r => ?_⟩
  have hI : pa ∉ C.I := fun z => hM (S2.inM _ z)
  refine q _ _ _ H2 (S2.drop (by omega)) kn (.lst (.inl (.inl ?_)) (r.le (ret_le (K := X.K) (G := G)))) fun _ => ⟨pa, vs, d, rfl, hI, (S2.wsn _ List.mem_cons_self hI).1, hM, hv, rfl, r.le (hide_sub fun b hb => ?_)⟩
  · rw [hide_out hM]; exact hv
  · rcases List.mem_cons.mp hb with z | z
    · rw [z]; exact List.mem_append_right _ List.mem_cons_self
    · exact List.mem_append_left _ z
theorem okS_retO {a : Expr} (ha : PE X a (tVar i)) (h0 : i ≠ 0) : OkS X C (.Return (some a) pos) fun st => (getO st i).map fun ds => .rt (.list ds) true st := fun st f h => by
  obtain ⟨ds, e1, h⟩ := map_some h
  subst h
  refine PS_weak (ps_ret ha) fun D σ H ⟨G, ws, S, kn, q⟩ => ?_
  obtain ⟨b, o, S2, r, n, _⟩ := S.unown (getO_some e1) (fun b hb z => h0 ((kn _ hb).1 z))
  exact ⟨_, o, q _ _ _ H S kn (r.le (ret_le (K := X.K) (G := G))) fun _ => n⟩
theorem okS_retN : OkS X C (.Return none pos) fun st => some (.rt .none false st) := fun st f h => by
  cases h
  exact PS_weak ps_retN fun D σ H ⟨G, ws, S, kn, q⟩ => q .non _ ws H S kn .non (fun z => by cases z)
theorem okS_brk : OkS X C (.Break pos) fun st => some (.bk st) := fun st f h => by
  cases h
  exact PS_weak ps_break fun D σ H ⟨G, ws, S, kn, q⟩ => q _ ws H S kn
theorem okS_cont : OkS X C (.Continue pos) fun st => some (.ct st) := fun st f h => by
  cases h
  exact PS_weak ps_continue fun D σ H ⟨G, ws, S, kn, q⟩ => q _ ws H S kn
theorem okS_pass : OkS X C (.Pass pos) fun st => some (.nx st) := fun st f h => by
  cases h
  exact PS_weak ps_pass fun D σ H ⟨G, ws, S, kn, q⟩ => q _ ws H S kn
theorem okSs_nil : OkSs X C [] fun st => some (.nx st) := fun st f h => by
  cases h
  exact PSs_weak pss_nil fun D σ H ⟨G, ws, S, kn, q⟩ => q _ ws H S kn
theorem okSs_cons {s : Stmt} {r : List Stmt} {ms mr : SS → Option Fl} (hs : OkS X C s ms) (hr : OkSs X C r mr) : OkSs X C (s :: r) fun st => (ms st).bind fun f => match f with
    | .nx s1 => mr s1
    | f => some f := fun st f h => by
  obtain ⟨f1, e1, h⟩ := bind_some h
  cases f1 with
  | nx s1 =>
    have h : mr s1 = some f := h
    refine PSs_weak (pss_cons (hs _ _ e1) (hr _ _ h)) fun D σ H ⟨G, ws, S, kn, q⟩ => ⟨G, ws, S, kn, fun σ' ws' H' S' kn' => ⟨G, ws', S', kn', q⟩⟩
  | bk s1 =>
    cases h
    exact PSs_weak (pss_cons (hs _ _ e1) (pss_never (sts := r))) fun D σ H ⟨G, ws, S, kn, q⟩ => ⟨G, ws, S, kn, q⟩
  | ct s1 =>
    cases h
    exact PSs_weak (pss_cons (hs _ _ e1) (pss_never (sts := r))) fun D σ H ⟨G, ws, S, kn, q⟩ => ⟨G, ws, S, kn, q⟩
  | rt d fr s1 =>
    cases h
    exact PSs_weak (pss_cons (hs _ _ e1) (pss_never (sts := r))) fun D σ H ⟨G, ws, S, kn, q⟩ => ⟨G, ws, S, kn, q⟩
theorem okSs_seal {r : List Stmt} {mr : SS → Option Fl} (h0 : i ≠ 0) (hr : OkSs X C r mr) : OkSs X C r fun st => (getO st i).bind fun ds => mr (st.set i (.v (.list ds))) := fun st f h => by
  obtain ⟨ds, e1, h⟩ := bind_some h
  refine PSs_weak (hr _ _ h) fun D σ H ⟨G, ws, S, kn, q⟩ => ?_
  obtain ⟨a, o, S2, r2, _, _⟩ := S.unown (getO_some e1) (fun b hb z => h0 ((kn _ hb).1 z))
  refine ⟨G, without ws a, ?_, kn.sub fun q hq => (mem_without.mp hq).1, q⟩
  have hil : i < st.length := (List.getElem?_eq_some_iff.mp (getO_some e1)).1
  have e3 : setV (st.set i .no) i (.list ds) = some (st.set i (.v (.list ds))) := by
    unfold setV
    rw [if_pos (by rw [List.length_set]; exact hil), List.set_set]
  have S3 := S2.setV e3 r2
  have hσ : σ.set i (some (V.ref a)) = σ := by
    apply List.ext_getElem?
    intro j
    by_cases e : i = j
    · subst e
      rw [List.getElem?_set_self (by rw [← S.len]; exact hil), o]
    · rw [List.getElem?_set_ne e]
  rw [hσ] at S3
  exact S3
end
end Pv

/-! Dicts that are changed in place; dicts as data. -/
namespace Pv
open PySem L2
variable [HashW]
section
variable {K : W.Frag} {C : Cc} {G : Hp} {ws : Ws} {st st' : SS} {σ σ' : L2.St} {H H' : Hp} {k i : Nat} {p : Addr}
/-- a new dict goes to a slot -/
theorem SI.ownAtD {kvs : List (D × D)} {c : Dco} (S : SI K C G ((k, p) :: ws) st σ H) (hk : st.length ≤ k) (hi : i < st.length) (hv : H p = some (xO p c.o)) (r : RpDic K (C.vis ((k, p) :: ws) H) p c kvs) : SI K C G ((i, p) :: ws) (st.set i (.dic kvs)) (σ.set i (some (.ref p))) H := by
  refine ⟨by rw [List.length_set, List.length_set]; exact S.len, fun j s hj => ?_, S.nod, S.frm, S.vis, S.m0, fun q hq => ?_, fun q hq => ?_, S.inM, S.tbs⟩
  · by_cases e : i = j
    · subst e
      rw [List.getElem?_set_self hi] at hj
      cases hj
      exact ⟨p, c, List.mem_cons_self, by rw [List.getElem?_set_self (by rw [← S.len]; exact hi)], hv, r⟩
    · rw [List.getElem?_set_ne e] at hj
      rw [List.getElem?_set_ne e]
      have q := S.rep j s hj
      have hjl : j < st.length := (List.getElem?_eq_some_iff.mp hj).1
      cases s with
      | no => exact True.intro
      | v d => exact q
      | own es =>
        obtain ⟨a, vs, m, o, h1, r1⟩ := q
        refine ⟨a, vs, ?_, o, h1, r1⟩
        rcases List.mem_cons.mp m with z | z
        · cases z; omega
        · exact List.mem_cons_of_mem _ z
      | dic es =>
        obtain ⟨a, vs, m, o, h1, r1⟩ := q
        refine ⟨a, vs, ?_, o, h1, r1⟩
        rcases List.mem_cons.mp m with z | z
        · cases z; omega
        · exact List.mem_cons_of_mem _ z
  · rcases List.mem_cons.mp hq with z | z
    · subst z; exact S.wsn (k, p) List.mem_cons_self
    · exact S.wsn q (List.mem_cons_of_mem _ z)
  · rcases List.mem_cons.mp hq with z | z
    · subst z; exact S.wst (k, p) List.mem_cons_self
    · exact S.wst q (List.mem_cons_of_mem _ z)
/-- the dict of a slot is told new entries -/
theorem SI.putD {kvs es : List (D × D)} {c : Dco} (S : SI K C G ws st σ H) (hs : st[i]? = some (.dic kvs)) (hm : (i, p) ∈ ws) (ho : σ[i]? = some (some (.ref p))) (r : RpDic K (C.vis ws H) p c es) : SI K C G ws (st.set i (.dic es)) σ (upd H p (xO p c.o)) := by
  have pm : p ∈ C.M ws := List.mem_append_right _ (List.mem_map.mpr ⟨_, hm, rfl⟩)
  refine ⟨by rw [List.length_set]; exact S.len, fun j s hj => ?_, S.nod, fun b o hb q => ?_, by rw [vis_upd pm]; exact S.vis, fun a ha => ?_, S.wsn, fun q hq => ?_, S.inM, S.tbs.upd pm (S.wst (i, p) hm)⟩
  · by_cases e : i = j
    · subst e
      rw [List.getElem?_set_self (List.getElem?_eq_some_iff.mp hs).1] at hj
      cases hj
      exact ⟨p, c, hm, ho, upd_same, by rw [vis_upd pm]; exact r⟩
    · rw [List.getElem?_set_ne e] at hj
      have q := S.rep j s hj
      cases s with
      | no => exact True.intro
      | v d => obtain ⟨v, o, r⟩ := q; exact ⟨v, o, by rw [vis_upd pm]; exact r⟩
      | own fs =>
        obtain ⟨a, vs, m, o, h1, r1⟩ := q
        have hne : a ≠ p := fun z => e (addr_slot S hm (by rw [← z]; exact m))
        exact ⟨a, vs, m, o, by rw [upd_ne hne]; exact h1, by rw [vis_upd pm]; exact r1⟩
      | dic fs =>
        obtain ⟨a, vs, m, o, h1, r1⟩ := q
        have hne : a ≠ p := fun z => e (addr_slot S hm (by rw [← z]; exact m))
        exact ⟨a, vs, m, o, by rw [upd_ne hne]; exact h1, by rw [vis_upd pm]; exact r1⟩
  · have hne : b ≠ p := fun z => by
      have := (S.wsn (i, p) hm (by rw [← z]; exact hb)).1
      rw [← z, q] at this
      cases this
    rw [upd_ne hne]
    exact S.frm b o hb q
  · by_cases e : a = p
    · exact ⟨_, by rw [e]; exact upd_same⟩
    · rw [upd_ne e]; exact S.m0 a ha
  · by_cases e : q.2 = p
    · exact ⟨_, by rw [e]; exact upd_same, xO_tbl⟩
    · rw [upd_ne e]; exact S.wst q hq
/-- a slot's dict is changed no more -/
theorem SI.unownD {kvs : List (D × D)} (S : SI K C G ws st σ H) (hs : st[i]? = some (.dic kvs)) (hI : ∀ a, (i, a) ∈ ws → a ∉ C.I) : ∃ a, σ[i]? = some (some (.ref a)) ∧ SI K C G (without ws a) (st.set i .no) σ H ∧ Rp K (C.vis (without ws a) H) (.ref a) (.dict kvs) := by
  obtain ⟨a, c, m, o, h1, r⟩ := S.rep i _ hs
  have aI := hI a m
  obtain ⟨a0, aM⟩ := S.wsn (i, a) m aI
  have aM : a ∉ C.M0 := aM
  have seen : C.vis (without ws a) H a = some (xO a c.o) := by
    show hide H _ a = _
    rw [hide_out]
    · exact h1
    · intro z
      rcases List.mem_append.mp z with z | z
      · exact aM z
      · obtain ⟨q, hq, e⟩ := List.mem_map.mp z
        exact (mem_without.mp hq).2 e
  refine ⟨a, o, ⟨by rw [List.length_set]; exact S.len, fun j s hj => ?_, ?_, S.frm, S.vis.trans without_vis, S.m0, fun q hq => S.wsn q (mem_without.mp hq).1, fun q hq => S.wst q (mem_without.mp hq).1, S.inM, S.tbs.sub without_sub⟩, (r.le without_vis).rp seen⟩
  · by_cases e : i = j
    · subst e
      rw [List.getElem?_set_self (List.getElem?_eq_some_iff.mp hs).1] at hj
      cases hj
      exact True.intro
    · rw [List.getElem?_set_ne e] at hj
      have q := S.rep j s hj
      cases s with
      | no => exact True.intro
      | v d => obtain ⟨v, o, r⟩ := q; exact ⟨v, o, r.le without_vis⟩
      | own fs =>
        obtain ⟨b, us, m2, o2, h2, r2⟩ := q
        have hne : b ≠ a := fun z => e (addr_slot S m (by rw [← z]; exact m2))
        exact ⟨b, us, mem_without.mpr ⟨m2, hne⟩, o2, h2, r2.le without_vis⟩
      | dic fs =>
        obtain ⟨b, us, m2, o2, h2, r2⟩ := q
        have hne : b ≠ a := fun z => e (addr_slot S m (by rw [← z]; exact m2))
        exact ⟨b, us, mem_without.mpr ⟨m2, hne⟩, o2, h2, r2.le without_vis⟩
  · exact S.nod.sublist (List.Sublist.map _ List.filter_sublist)
end
section
variable {X : Cx} {C : Cc} {e : Expr} {x : Str} {i : Nat} {me : SS → Option (D × SS)} {mf : SS → Option (List (D × D) × SS)} {p pos : Pos}
theorem okS_ownD (h0 : i ≠ 0) (hN : X.N.Nodup) (hi : X.N[i]? = some x) (hx : Loc X.env.scope x) (hf : X.fn x = true ∨ X.env.scope.names.lookup x = some .local) (he : OkK X C e mf) (hs : swapsWith e (some (.Name x p)) pos.line X.env = pure false) :
    OkS X C (.Assign [.Name x p] e pos) fun st => (mf st).bind fun x => if i < x.2.length then some (.nx (x.2.set i (.dic x.1))) else none := fun st f h => by
  obtain ⟨⟨d, s1⟩, e1, h⟩ := bind_some h
  split at h
  · rename_i hl
    have hl : i < s1.length := hl
    cases h
    exact PS_weak (ps_set hN hi hx (he _ _ _ e1) hs hf) fun D σ H ⟨G, ws, S, kn, q⟩ => ⟨G, ws, S, fun pa c H2 S2 hM hl2 hv r => q _ _ H2 (S2.ownAtD (by omega) hl hv r) (kn.cons (fun z => hM (S2.inM _ z)) h0)⟩
  · cases h
theorem rp_put {K : W.Frag} {G : Hp} {a : Addr} {c : Dco} {kvs z : List (D × D)} {y v : V} {d e : D} {nk : NestedKey} {o' : Obj} (r : RpDic K G a c kvs) (hk : keyD d = some nk) (ry : Rp K G y d) (rv : Rp K G v e) (hz : (if kvs.length < 100000 then some (if (kvLook kvs nk).isSome = true then kvRepl kvs nk e else kvs ++ [(d, e)]) else none) = some z)
    (dc : DCt o' (putN c.nks nk) (putK c.nks c.ks nk y) (putV c.nks c.vs nk v)) : RpDic K G a ⟨o', putN c.nks nk, putK c.nks c.ks nk y, putV c.nks c.vs nk v⟩ z := by
  refine ⟨r.sm, dc, ?_⟩
  split at hz
  · cases hz
    have lk := (kv_look (nk := nk) r.kv).2
    show RpKv K G (putN c.nks nk) (putK c.nks c.ks nk y) (putV c.nks c.vs nk v) _
    unfold putN putK putV
    by_cases q : nk ∈ c.nks
    · rw [if_pos q, if_pos q, if_pos q, if_pos (by rw [lk]; simpa using q)]
      exact kv_repl rv r.kv
    · rw [if_neg q, if_neg q, if_neg q, if_neg (by rw [lk]; simpa using q)]
      exact kv_snoc hk ry rv r.kv
  · cases hz
theorem okS_putD {o k : Expr} {mk : SS → Option (D × SS)} {tpos : Pos} (hw : HashIs X) (hu : X.A.units + 65 < cLine) (hp : plainIx k = true) (ho : PE X o (tVar i)) (hk : OkE X C k mk) (he : OkE X C e me) (hs : swapsWithSole [.Subscript o k tpos] e pos.line X.env = pure false) (hsw : swappedStores [.Subscript o k tpos] e X.env = pure none) :
    OkS X C (.Assign [.Subscript o k tpos] e pos) fun st => (me st).bind fun x => (getK x.2 i).bind fun _ => (mk x.2).bind fun y => (getK y.2 i).bind fun kvs => (dPutD kvs y.1 x.1).map fun z => .nx (y.2.set i (.dic z)) := fun st f h => by
  obtain ⟨⟨d, s1⟩, e1, h⟩ := bind_some h
  obtain ⟨kvs0, e0, h⟩ := bind_some h
  obtain ⟨⟨dk, s2⟩, e2, h⟩ := bind_some h
  obtain ⟨kvs, e4, h⟩ := bind_some h
  obtain ⟨z, e5, h⟩ := map_some h
  subst h
  obtain ⟨nk, k1, k2⟩ := bind_some e5
  obtain ⟨q1, q2⟩ := keyOk_inv k1
  have hlt : kvs.length < 100000 := by
    split at k2
    · assumption
    · cases k2
  rcases q2 with ⟨t1, t2⟩ | ⟨t1, t2⟩
  · refine PS_weak (ps_asg (he _ _ _ e1) (pg_sub ho (hk _ _ _ e2) (set_dT hw (by omega)) (fun v => by cases k <;> first | rfl | cases hp)) hs hsw) fun D σ H ⟨G, ws, S, kn, q⟩ => ?_
    refine ⟨G, ws, S, fun v H2 S2 r2 => ?_⟩
    obtain ⟨a, c0, m0, o0, h0, r0⟩ := slot_dic S2 e0
    refine ⟨.ref a, o0, C.vis ws H2, ws, S2.up, fun y H3 S3 r3 => ?_⟩
    obtain ⟨a2, c, m2, o2, hL, r⟩ := slot_dic S3 e4
    obtain rfl := sameA o0 o2
    have kv' := r.kv.le (hide_le _ _)
    obtain ⟨bs, z1, z2⟩ := kv_tup kv' t2
    obtain ⟨⟨xs, rfl⟩, hd⟩ := tupKey_inv t1
    have r3' := r3.le (hide_le _ _)
    obtain ⟨b', us, rfl, _, _⟩ := r3'.tup_inv
    refine ⟨a2, c.o, c.nks, c.ks, c.vs, bs, nk, b', rfl, rfl, ⟨hL, r.dc, r.sm, z1, z2⟩, rp_keyV r3' q1, hd _ q1, by rw [kv_len r.kv]; omega, fun o' dc => ?_⟩
    exact q _ _ _ ((S3.putD (getK_some e4) m2 o2 (rp_put r q1 r3 (r2.le S3.vis) k2 dc)).down S2.vis) kn
  · refine PS_weak (ps_asg (he _ _ _ e1) (pg_sub ho (hk _ _ _ e2) (set_dS hw) (fun v => by cases k <;> first | rfl | cases hp)) hs hsw) fun D σ H ⟨G, ws, S, kn, q⟩ => ?_
    refine ⟨G, ws, S, fun v H2 S2 r2 => ?_⟩
    obtain ⟨a, c0, m0, o0, h0, r0⟩ := slot_dic S2 e0
    refine ⟨.ref a, o0, C.vis ws H2, ws, S2.up, fun y H3 S3 r3 => ?_⟩
    obtain ⟨a2, c, m2, o2, hL, r⟩ := slot_dic S3 e4
    obtain rfl := sameA o0 o2
    obtain ⟨z1, z2⟩ := kv_str r.kv t2
    cases dk with
    | str zz =>
      rw [keyD] at q1
      cases q1
      obtain rfl := r3.str_inv
      refine ⟨a2, c.o, c.nks, c.ks, c.vs, zz, rfl, rfl, ⟨⟨hL, r.dc, r.sm, z1⟩, z2⟩, by rw [kv_len r.kv]; omega, fun o' dc => ?_⟩
      exact q _ _ _ ((S3.putD (getK_some e4) m2 o2 (rp_put r (by rw [keyD]) r3 (r2.le S3.vis) k2 dc)).down S2.vis) kn
    | _ => exact absurd t1 (by simp [isStrD])
theorem okS_retD {a : Expr} (ha : PE X a (tVar i)) (h0 : i ≠ 0) : OkS X C (.Return (some a) pos) fun st => (getK st i).map fun kvs => .rt (.dict kvs) false st := fun st f h => by
  obtain ⟨kvs, e1, h⟩ := map_some h
  subst h
  refine PS_weak (ps_ret ha) fun D σ H ⟨G, ws, S, kn, q⟩ => ?_
  obtain ⟨b, o, S2, r⟩ := S.unownD (getK_some e1) (fun b hb z => h0 ((kn _ hb).1 z))
  exact ⟨_, o, q _ _ _ H S kn (r.le (ret_le (K := X.K) (G := G))) fun z => by cases z⟩
theorem okSs_shutD {r : List Stmt} {mr : SS → Option Fl} (h0 : i ≠ 0) (hr : OkSs X C r mr) : OkSs X C r fun st => (getK st i).bind fun kvs => mr (st.set i (.v (.dict kvs))) := fun st f h => by
  obtain ⟨kvs, e1, h⟩ := bind_some h
  refine PSs_weak (hr _ _ h) fun D σ H ⟨G, ws, S, kn, q⟩ => ?_
  obtain ⟨a, o, S2, r2⟩ := S.unownD (getK_some e1) (fun b hb z => h0 ((kn _ hb).1 z))
  refine ⟨G, without ws a, ?_, kn.sub fun q hq => (mem_without.mp hq).1, q⟩
  have hil : i < st.length := (List.getElem?_eq_some_iff.mp (getK_some e1)).1
  have e3 : setV (st.set i .no) i (.dict kvs) = some (st.set i (.v (.dict kvs))) := by
    unfold setV
    rw [if_pos (by rw [List.length_set]; exact hil), List.set_set]
  have S3 := S2.setV e3 r2
  have hσ : σ.set i (some (V.ref a)) = σ := by
    apply List.ext_getElem?
    intro j
    by_cases e : i = j
    · subst e
      rw [List.getElem?_set_self (by rw [← S.len]; exact hil), o]
    · rw [List.getElem?_set_ne e]
  rw [hσ] at S3
  exact S3
end
end Pv

/-! Loops; a, b = x, y. -/
namespace Pv
open PySem L2
variable [HashW]
def tSU (K : W.Frag) (C : Cc) (m : SS → Option Fl) : TS := fun D σ H => ∃ st f, m st = some f ∧ tVS K C st f D σ H
theorem pss_U {X : Cx} {C : Cc} {b : List Stmt} {m : SS → Option Fl} (h : OkSs X C b m) : PSs X b (tSU X.K C m) := ⟨fun pins s σ H D I ⟨st, f, e, q⟩ => (h st f e).run pins s σ H D I q⟩
theorem EndS.turn {K : W.Frag} {C : Cc} {G : Hp} {f1 f : Fl} {D : Ends} {R : SS → Option Fl} {N : L2.St → Hp → Prop} (q : EndS K C G f D)
    (h : (match f1 with
    | .nx s2 => R s2
    | .ct s2 => R s2
    | .bk s2 => some (.nx s2)
    | .rt d fr s2 => some (.rt d fr s2)) = some f)
    (hN : ∀ s2, R s2 = some f → ∀ σ' ws' H', SI K C G ws' s2 σ' H' → Kn C ws' → N σ' H') : EndS K C G f1 { D with nx := N, ct := N, bk := D.nx } := by
  cases f1 with
  | nx s2 => exact hN s2 h
  | ct s2 => exact hN s2 h
  | bk s2 => cases h; exact q
  | rt d fr s2 => cases h; exact q
section
variable {X : Cx} {C : Cc} {e : Expr} {pos : Pos}
theorem okS_fo {tg it : Expr} {b : List Stmt} {one : Bool} {is : List Nat} {mw : SS → Option (List D × SS)} {mb : SS → Option Fl} (hp : PassesOwn (model X.prog X.w) X.A X.env X.xe) (hc : X.calm = true) (hw : OkW X C tg it mw) (hg : ∀ C, OkG X C tg one is) (hb : OkSs X C b mb)
    (hs : ∀ x, foldedSetIterable it X.env x = pure x) : OkS X C (.For tg it b [] pos) fun st => (mw st).bind fun r => forLoop one is mb r.1 r.2 := fun st f h => by
  obtain ⟨⟨items, s1⟩, e1, h⟩ := bind_some h
  refine PS_weak (ps_for hp hc (hw _ _ _ e1) (pg_U hg) (pss_U hb) hs) fun D σ H ⟨G, ws, S, kn, q⟩ => ⟨G, ws, S, fun J H2 S2 io => ?_⟩
  have q1 := q.down S2.vis
  refine ⟨fun i m σ H => m = items.length - i ∧ ∃ st ws', SI X.K C (C.vis ws H2) ws' st σ H ∧ Kn C ws' ∧ forLoop one is mb (items.drop i) st = some f, ⟨_, rfl, s1, ws, S2.up, kn, h⟩, ?_⟩
  rintro i m σ3 H3 ⟨rfl, st3, ws3, S3, kn3, e3⟩
  obtain ⟨g1, g2⟩ := io i H3 (C.M ws3) S3.vis S3.trk
  by_cases hi : i < items.length
  · rw [List.drop_eq_getElem_cons hi] at e3
    obtain ⟨s4, e4, e3⟩ := bind_some e3
    obtain ⟨f1, e5, e3⟩ := bind_some e3
    obtain ⟨g3, g4⟩ := g1 items[i] (List.getElem?_eq_getElem hi)
    refine .inr ⟨g3, fun σ' H' => ∃ st ws', SI X.K C (C.vis ws H2) ws' st σ' H' ∧ Kn C ws' ∧ forLoop one is mb (items.drop (i + 1)) st = some f, fun σ' H' z => ⟨items.length - (i + 1), by omega, rfl, z⟩, fun x H4 hy => ?_⟩
    obtain ⟨hx, rx⟩ := g4 x H4 hy
    refine ⟨C, st3, _, s4, e4, C.vis ws H2, ws3, S3.ex hx, rx, fun σ5 S5 _ _ => ?_⟩
    refine ⟨s4, f1, e5, C.vis ws H2, ws3, S5, kn3, ?_⟩
    exact q1.turn (R := forLoop one is mb (items.drop (i + 1))) e3 fun s2 z σ' ws' H' S' k' => ⟨s2, ws', S', k', z⟩
  · have hi : items.length ≤ i := by omega
    rw [List.drop_eq_nil_of_le hi] at e3
    cases e3
    exact .inl ⟨g2 hi, q1 _ _ _ S3 kn3⟩
theorem okS_whl {c : Expr} {b : List Stmt} {mc : SS → Option (Bool × SS)} {mb : SS → Option Fl} (hp : PassesOwn (model X.prog X.w) X.A X.env X.xe) (hc : ∀ C, OkT X C c mc) (hb : OkSs X C b mb) : OkS X C (.While c b [] pos) fun st => whLoop mc mb wfuel st := fun st f h => by
  refine PS_weak (ps_while (tc := tTU X.K mc) hp ⟨fun pins s σ H Q I ⟨C, st, d, st', e, q⟩ => (hc C st d st' e).run pins s σ H Q I q⟩ (pss_U hb)) fun D σ H ⟨G, ws, S, kn, q⟩ => ?_
  refine ⟨fun m σ H => ∃ st ws', SI X.K C G ws' st σ H ∧ Kn C ws' ∧ whLoop mc mb m st = some f, ⟨_, st, ws, S, kn, h⟩, ?_⟩
  rintro m σ3 H3 ⟨st3, ws3, S3, kn3, e3⟩
  cases m with
  | zero => cases e3
  | succ m =>
    obtain ⟨⟨k, s4⟩, e4, e3⟩ := bind_some e3
    refine ⟨C, st3, k, s4, e4, G, ws3, S3, fun H4 S4 => ?_⟩
    cases k with
    | false =>
      cases e3
      exact iteF (q _ _ _ S4 kn3)
    | true =>
      obtain ⟨f1, e5, e3⟩ := bind_some e3
      refine iteT ⟨fun σ' H' => ∃ st ws', SI X.K C G ws' st σ' H' ∧ Kn C ws' ∧ whLoop mc mb m st = some f, fun σ' H' z => ⟨m, by omega, z⟩, s4, f1, e5, G, ws3, S4, kn3, ?_⟩
      exact q.turn (R := whLoop mc mb m) e3 fun s2 z σ' ws' H' S' k' => ⟨s2, ws', S', k', z⟩
end

/-! ### a, b = x, y -/
inductive PR (K : W.Frag) (Gv : Hp) (H : Hp) : List V → List Sl → List Addr → Prop where
  | nil : PR K Gv H [] [] []
  | v {v d vs ss ps} : Rp K Gv v d → PR K Gv H vs ss ps → PR K Gv H (v :: vs) (.v d :: ss) ps
  | own {p us ds vs ss ps} : H p = some (.lst us) → RpAll K Gv us ds → PR K Gv H vs ss ps → PR K Gv H (.ref p :: vs) (.own ds :: ss) (p :: ps)
  | dic {p c kvs vs ss ps} : H p = some (xO p c.o) → RpDic K Gv p c kvs → PR K Gv H vs ss ps → PR K Gv H (.ref p :: vs) (.dic kvs :: ss) (p :: ps)
def pend (k : Nat) (ps : List Addr) : Ws := ps.map fun p => (k, p)
section
variable {K : W.Frag} {C : Cc} {G : Hp} {ws : Ws} {st st' : SS} {σ σ' : L2.St} {H H' : Hp} {k : Nat} {Da : Addr}
theorem SI.perm {ws' : Ws} (S : SI K C G ws st σ H) (h : ws.Perm ws') : SI K C G ws' st σ H ∧ C.vis ws' H = C.vis ws H := by
  have ev : C.vis ws' H = C.vis ws H := hide_congr fun a => by
    unfold Cc.M
    simp only [List.mem_append]
    exact or_congr Iff.rfl (h.map (·.2)).mem_iff.symm
  refine ⟨⟨S.len, fun i s hi => ?_, (h.map (·.2)).nodup_iff.mp S.nod, S.frm, by rw [ev]; exact S.vis, S.m0, fun p hp => S.wsn p (h.mem_iff.mpr hp), fun p hp => S.wst p (h.mem_iff.mpr hp), S.inM, S.tbs.sub fun a ha => by
    unfold Cc.M at ha ⊢
    simp only [List.mem_append] at ha ⊢
    exact ha.imp_right (h.map (·.2)).mem_iff.mpr⟩, ev⟩
  have q := S.rep i s hi
  cases s with
  | no => exact True.intro
  | v d => obtain ⟨v, o, r⟩ := q; exact ⟨v, o, by rw [ev]; exact r⟩
  | own ds => obtain ⟨a, vs, m, o, h1, r⟩ := q; exact ⟨a, vs, h.mem_iff.mp m, o, h1, by rw [ev]; exact r⟩
  | dic ds => obtain ⟨a, vs, m, o, h1, r⟩ := q; exact ⟨a, vs, h.mem_iff.mp m, o, h1, by rw [ev]; exact r⟩
theorem SI.leave2 {xs : Ws} (S : SI K C G ((k, Da) :: ws) st σ H) (hD : Da ∉ C.I) (S' : SI K (C.pin k Da ws H) G (xs ++ ws) st' σ' H') (hx : ∀ q ∈ xs, q.2 ∉ (C.pin k Da ws H).M0) :
    SI K C G ((k, Da) :: (xs ++ ws)) st' σ' H' ∧ (∀ o, (∀ ps, o ≠ .tbl ps) → H Da = some o → H' Da = some o) ∧ (C.pin k Da ws H).vis (xs ++ ws) H' = C.vis ((k, Da) :: (xs ++ ws)) H' := by
  have nd := List.nodup_cons.mp S.nod
  have hDI : Da ∉ (C.pin k Da ws H).I := fun z => by
    rcases List.mem_append.mp z with z | z
    · exact hD z
    · exact nd.1 z
  have keep : ∀ o, (∀ ps, o ≠ .tbl ps) → H Da = some o → H' Da = some o := fun o n h => S'.frm.at hDI h n
  have ev : (C.pin k Da ws H).vis (xs ++ ws) H' = C.vis ((k, Da) :: (xs ++ ws)) H' := hide_congr fun a => by
    unfold Cc.pin Cc.M
    simp only [List.mem_append, List.map_cons, List.mem_cons, List.map_append]
    constructor
    · rintro ((h | h | h) | h | h) <;> simp [h]
    · rintro (h | h | h | h) <;> simp [h]
  have hDx : Da ∉ xs.map (·.2) := fun z => by
    obtain ⟨q, hq, e⟩ := List.mem_map.mp z
    exact hx q hq (by rw [e]; exact List.mem_append_right _ List.mem_cons_self)
  have fr2 : ∀ b o, b ∉ C.I → C.H0 b = some o → ∃ o', H' b = some o' ∧ ((∀ ps, o ≠ .tbl ps) → o' = o) := fun b o hb h => by
    obtain ⟨o1, h1, e1⟩ := S.frm b o hb h
    obtain ⟨o2, h2, e2⟩ := S'.frm b o1 (fun z => by
      rcases List.mem_append.mp z with z | z
      · exact hb z
      · obtain ⟨p, hp, e⟩ := List.mem_map.mp z
        have := (S.wsn p (List.mem_cons_of_mem _ hp) (by rw [e]; exact hb)).1
        rw [e, h] at this
        cases this) h1
    refine ⟨o2, h2, fun t => ?_⟩
    have e1' := e1 t
    subst e1'
    exact e2 t
  refine ⟨⟨S'.len, fun i s h => ?_, ?_, fr2, by rw [← ev]; exact S'.vis, fun a h => S'.m0 a (List.mem_append_left _ h), fun p hp hI => ?_, fun p hp => ?_, S.inM, S.tbs.leave S'.tbs ev⟩, keep, ev⟩
  · have q := S'.rep i s h
    cases s with
    | no => exact True.intro
    | v d => obtain ⟨v, o, r⟩ := q; exact ⟨v, o, by rw [← ev]; exact r⟩
    | own ds =>
      obtain ⟨a, vs, m, o, h1, r⟩ := q
      exact ⟨a, vs, List.mem_cons_of_mem _ m, o, h1, by rw [← ev]; exact r⟩
    | dic ds =>
      obtain ⟨a, vs, m, o, h1, r⟩ := q
      exact ⟨a, vs, List.mem_cons_of_mem _ m, o, h1, by rw [← ev]; exact r⟩
  · refine List.nodup_cons.mpr ⟨fun z => ?_, S'.nod⟩
    rw [List.map_append] at z
    rcases List.mem_append.mp z with z | z
    · exact hDx z
    · exact nd.1 z
  · rcases List.mem_cons.mp hp with e | hp
    · exact S.wsn p (by rw [e]; exact List.mem_cons_self) hI
    · rcases List.mem_append.mp hp with hp | hp
      · have n1 := hx p hp
        have n2 := (S'.wsn p (List.mem_append_left _ hp) fun z => n1 (S'.inM _ z)).1
        refine ⟨?_, fun z => n1 (List.mem_append_left _ z)⟩
        cases e : C.H0 p.2 with
        | none => rfl
        | some o =>
          obtain ⟨o1, h1, _⟩ := S.frm _ _ hI e
          rw [show H p.2 = none from n2] at h1
          cases h1
      · exact S.wsn p (List.mem_cons_of_mem _ hp) hI
  · rcases List.mem_cons.mp hp with e | e
    · rw [e]
      obtain ⟨o, q, n⟩ := S.wst (k, Da) List.mem_cons_self
      exact ⟨o, keep o n q, n⟩
    · exact S'.wst p e
theorem PR.le {Gv Gw : Hp} (l : Le Gv Gw) {vs ss ps} (h : PR K Gv H vs ss ps) : PR K Gw H vs ss ps := by
  induction h with
  | nil => exact .nil
  | v r _ ih => exact .v (r.le l) ih
  | own h r _ ih => exact .own h (r.le l) ih
  | dic h r _ ih => exact .dic h (r.le l) ih
theorem SI.setP {Gv : Hp} {L : Nat} {is : List Nat} : ∀ {vs : List V} {ss : List Sl} {ps : List Addr} {st st' : SS} {σ : L2.St} {ws : Ws} (S : SI K C G (pend L ps ++ ws) st σ H) (e : C.vis (pend L ps ++ ws) H = Gv) (r : PR K Gv H vs ss ps) (h : Pv.setP is ss st = some st') (hl : st.length ≤ L) (hI : ∀ p ∈ ps, p ∉ C.I) (h0 : 0 ∉ is) (kn : Kn C ws),
    ∃ ws', SI K C G ws' st' (setsV σ is vs) H ∧ Kn C ws' := by
  induction is with
  | nil =>
    intro vs ss ps st st' σ ws S e r h hl hI h0 kn
    cases r with
    | nil => cases h; exact ⟨_, S, kn⟩
    | v => cases h
    | own => cases h
    | dic => cases h
  | cons i is ih =>
    intro vs ss ps st st' σ ws S e r h hl hI h0 kn
    cases r with
    | nil => cases h
    | @v v d vs ss _ r1 r2 =>
      unfold Pv.setP at h
      split at h
      · rename_i hi
        have e1 : Pv.setV st i d = some (st.set i (.v d)) := by unfold Pv.setV; rw [if_pos hi]
        exact ih (S.setV e1 (by rw [e]; exact r1)) e r2 h (by rw [List.length_set]; exact hl) hI (fun z => h0 (List.mem_cons_of_mem _ z)) kn
      · cases h
    | @own p us ds vs ss ps hp r1 r2 =>
      unfold Pv.setP at h
      split at h
      · rename_i hi
        have S1 : SI K C G ((L, p) :: (pend L ps ++ ws)) st σ H := S
        have e1 : C.vis ((L, p) :: (pend L ps ++ ws)) H = Gv := e
        have S2 := S1.ownAt hl hi hp (by rw [e1]; exact r1)
        have S3 := S2.perm (List.perm_middle (l₁ := pend L ps) (l₂ := ws) (a := (i, p))).symm
        exact ih S3.1 (S3.2.trans e1) r2 h (by rw [List.length_set]; exact hl) (fun p hp => hI p (List.mem_cons_of_mem _ hp)) (fun z => h0 (List.mem_cons_of_mem _ z)) (kn.cons (hI _ List.mem_cons_self) fun z => h0 (by rw [z]; exact List.mem_cons_self))
      · cases h
    | @dic p c kvs vs ss ps hp r1 r2 =>
      unfold Pv.setP at h
      split at h
      · rename_i hi
        have S1 : SI K C G ((L, p) :: (pend L ps ++ ws)) st σ H := S
        have e1 : C.vis ((L, p) :: (pend L ps ++ ws)) H = Gv := e
        have S2 := S1.ownAtD hl hi hp (by rw [e1]; exact r1)
        have S3 := S2.perm (List.perm_middle (l₁ := pend L ps) (l₂ := ws) (a := (i, p))).symm
        exact ih S3.1 (S3.2.trans e1) r2 h (by rw [List.length_set]; exact hl) (fun p hp => hI p (List.mem_cons_of_mem _ hp)) (fun z => h0 (List.mem_cons_of_mem _ z)) (kn.cons (hI _ List.mem_cons_self) fun z => h0 (by rw [z]; exact List.mem_cons_self))
      · cases h
end
def tVP (K : W.Frag) (C : Cc) (st st' : SS) (ss : List Sl) : TA := fun σ H Q => ∃ G ws, SI K C G ws st σ H ∧ ∀ vs ps H2, SI K C G (pend st.length ps ++ ws) st' σ H2 → PR K (C.vis (pend st.length ps ++ ws) H2) H2 vs ss ps → (∀ p ∈ ps, p ∉ C.M0) → Q vs H2
def OkPa (X : Cx) (es : List Expr) (m : SS → Option (List Sl × SS)) : Prop := ∀ C st ss st', m st = some (ss, st') → PA X es (tVP X.K C st st' ss)
section
variable {X : Cx} {a : Expr} {es : List Expr} {mr : SS → Option (List Sl × SS)}
theorem okPa_nil : OkPa X [] fun st => some ([], st) := fun C st ss st' h => by
  cases h
  exact pa_nil.weak fun σ H Q ⟨G, ws, S, q⟩ => q [] [] H S .nil (fun p hp => by cases hp)
theorem okPa_v {me : SS → Option (D × SS)} (ha : ∀ C, OkE X C a me) (hr : OkPa X es mr) (hs : noStar a = true) : OkPa X (a :: es) fun st => (me st).bind fun x => (mr x.2).map fun y => (.v x.1 :: y.1, y.2) := fun C st ss st' h => by
  obtain ⟨⟨d, s1⟩, e1, h⟩ := bind_some h
  obtain ⟨⟨ss1, s2⟩, e2, h⟩ := map_some h
  cases h
  refine (pa_cons (ha C _ _ _ e1) (hr C _ _ _ e2) (nostar_cons (noStar_ne hs))).weak fun σ H Q ⟨G, ws, S, q⟩ => ⟨G, ws, S, fun v H1 S1 r1 => ⟨C.vis ws H1, ws, S1.up, fun vs ps H2 S2 r2 hM => ?_⟩⟩
  have hl : s1.length = st.length := by rw [S1.len, S.len]
  rw [hl] at S2 r2
  exact q (v :: vs) ps H2 (S2.down S1.vis) (.v (r1.le S2.vis) r2) hM
theorem okPa_own {me : SS → Option (List D × SS)} (ha : ∀ C, OkF X C a me) (hr : OkPa X es mr) (hs : noStar a = true) : OkPa X (a :: es) fun st => (me st).bind fun x => (mr x.2).map fun y => (.own x.1 :: y.1, y.2) := fun C st ss st' h => by
  obtain ⟨⟨d, s1⟩, e1, h⟩ := bind_some h
  obtain ⟨⟨ss1, s2⟩, e2, h⟩ := map_some h
  cases h
  -- what the rest is read with turns on the place of the new list
  have h2 : PA X es fun σ H Q => ∃ C, tVP X.K C s1 s2 ss1 σ H Q := ⟨fun pos pins s σ H Q I ⟨C, q⟩ => (hr C _ _ _ e2).run pos pins s σ H Q I q⟩
  refine (pa_cons (ha C _ _ _ e1) h2 (nostar_cons (noStar_ne hs))).weak fun σ H Q ⟨G, ws, S, q⟩ => ⟨G, ws, S, fun p us H1 S1 hM hl hv r1 => ?_⟩
  have hDI : p ∉ C.I := fun z => hM (S1.inM _ z)
  refine ⟨C.pin st.length p ws H1, (C.pin st.length p ws H1).vis ws H1, ws, (S1.enter (by omega)).up, fun vs ps H2 S2 r2 hM2 => ?_⟩
  rw [hl] at S2 r2
  have S2' := S2.down (S1.enter (by omega)).vis
  obtain ⟨S3, keep, ev⟩ := S1.leave2 hDI S2' (fun q hq => by
    obtain ⟨p', hp', e⟩ := List.mem_map.mp hq
    rw [← e]
    exact hM2 p' hp')
  have l : Le (C.vis ((st.length, p) :: ws) H1) (C.vis ((st.length, p) :: (pend st.length ps ++ ws)) H2) := by
    have := S2.vis
    rw [pin_vis, ev] at this
    exact this
  rw [ev] at r2
  refine q (.ref p :: vs) (p :: ps) H2 S3 (.own (keep _ (fun ps z => by cases z) hv) (r1.le l) r2) fun p' hp' => ?_
  rcases List.mem_cons.mp hp' with e | e
  · rw [e]; exact hM
  · exact fun z => hM2 p' e (List.mem_append_left _ z)
theorem okPa_dic {me : SS → Option (List (D × D) × SS)} (ha : ∀ C, OkK X C a me) (hr : OkPa X es mr) (hs : noStar a = true) : OkPa X (a :: es) fun st => (me st).bind fun x => (mr x.2).map fun y => (.dic x.1 :: y.1, y.2) := fun C st ss st' h => by
  obtain ⟨⟨d, s1⟩, e1, h⟩ := bind_some h
  obtain ⟨⟨ss1, s2⟩, e2, h⟩ := map_some h
  cases h
  -- what the rest is read with turns on the place of the new list
  have h2 : PA X es fun σ H Q => ∃ C, tVP X.K C s1 s2 ss1 σ H Q := ⟨fun pos pins s σ H Q I ⟨C, q⟩ => (hr C _ _ _ e2).run pos pins s σ H Q I q⟩
  refine (pa_cons (ha C _ _ _ e1) h2 (nostar_cons (noStar_ne hs))).weak fun σ H Q ⟨G, ws, S, q⟩ => ⟨G, ws, S, fun p c H1 S1 hM hl hv r1 => ?_⟩
  have hDI : p ∉ C.I := fun z => hM (S1.inM _ z)
  refine ⟨C.pin st.length p ws H1, (C.pin st.length p ws H1).vis ws H1, ws, (S1.enter (by omega)).up, fun vs ps H2 S2 r2 hM2 => ?_⟩
  rw [hl] at S2 r2
  have S2' := S2.down (S1.enter (by omega)).vis
  obtain ⟨S3, keep, ev⟩ := S1.leave2 hDI S2' (fun q hq => by
    obtain ⟨p', hp', e⟩ := List.mem_map.mp hq
    rw [← e]
    exact hM2 p' hp')
  have l : Le (C.vis ((st.length, p) :: ws) H1) (C.vis ((st.length, p) :: (pend st.length ps ++ ws)) H2) := by
    have := S2.vis
    rw [pin_vis, ev] at this
    exact this
  rw [ev] at r2
  refine q (.ref p :: vs) (p :: ps) H2 S3 (.dic (keep _ xO_tbl hv) (r1.le l) r2) fun p' hp' => ?_
  rcases List.mem_cons.mp hp' with e | e
  · rw [e]; exact hM
  · exact fun z => hM2 p' e (List.mem_append_left _ z)
end
section
variable {X : Cx} {C : Cc} {pos : Pos} {m : SS → Option (List Sl × SS)}
theorem PR.len2 {K : W.Frag} {Gv H : Hp} {vs ss ps} (h : PR K Gv H vs ss ps) : vs.length = ss.length := by
  induction h with
  | nil => rfl
  | v _ _ ih => simp [ih]
  | own _ _ _ ih => simp [ih]
  | dic _ _ _ ih => simp [ih]
theorem setP_len : ∀ {is : List Nat} {ss : List Sl} {st st' : SS}, setP is ss st = some st' → is.length = ss.length
  | [], [], _, _, _ => rfl
  | [], _ :: _, _, _, h => by cases h
  | _ :: _, [], _, _, h => by cases h
  | i :: is, s :: ss, st, st', h => by
    unfold setP at h
    split at h
    · rw [List.length_cons, List.length_cons, setP_len h]
    · cases h
theorem par_read {st st1 st2 : SS} {ss : List Sl} {is : List Nat} (h0 : 0 ∉ is) (h : setP is ss st1 = some st2) {Dx : Ends} {σ : L2.St} {H : Hp} (q : tVS X.K C st (.nx st2) Dx σ H) : tVP X.K C st st1 ss σ H fun vs H1 => vs.length = is.length ∧ Dx.nx (setsV σ is vs) H1 := by
  obtain ⟨G, ws, S, kn, q⟩ := q
  refine ⟨G, ws, S, fun vs ps H2 S2 r hM => ⟨by rw [r.len2, setP_len h], ?_⟩⟩
  have hl : st1.length ≤ st.length := by rw [S2.len, S.len]; exact Nat.le_refl _
  obtain ⟨ws', S3, k3⟩ := S2.setP rfl r h hl (fun p hp z => hM p hp (S2.inM _ z)) h0 kn
  exact q _ ws' H2 S3 k3
theorem okS_par2 {i j : Nat} {x y : Str} {a b : Expr} {px py pt : Pos} {kt k2 pt2} (hc : X.calm = true) (hN : X.N.Nodup) (hi : X.N[i]? = some x) (hj : X.N[j]? = some y) (hij : i ≠ j) (h0 : 0 ∉ [i, j])
    (hx : X.env.scope.names.lookup x = some .local) (hy : X.env.scope.names.lookup y = some .local) (ha : OkPa X [a, b] m)
    (hw : swappedStores [.Tuple [.Name x px, .Name y py] kt pt] (.Tuple [a, b] k2 pt2) X.env = pure (some [x, y])) :
    OkS X C (.Assign [.Tuple [.Name x px, .Name y py] kt pt] (.Tuple [a, b] k2 pt2) pos) fun st => (m st).bind fun x => (setP [i, j] x.1 x.2).map .nx := fun st f h => by
  obtain ⟨⟨ss, s1⟩, e1, h⟩ := bind_some h
  obtain ⟨s2, e2, h⟩ := map_some h
  subst h
  refine PS_weak (ps_par hc hN hi hj hij hx hy (ha C _ _ _ e1) hw) fun Dx σ H q => ?_
  obtain ⟨G, ws, S, q⟩ := par_read h0 e2 q
  refine ⟨G, ws, S, fun vs ps H2 S2 r hM => ?_⟩
  obtain ⟨hl, q⟩ := q vs ps H2 S2 r hM
  match vs, hl with
  | [v, w], _ => exact ⟨v, w, rfl, q⟩
theorem okS_par3 {i j l : Nat} {x y z : Str} {a b c : Expr} {px py pz pt : Pos} {kt k2 pt2} (hc : X.calm = true) (hN : X.N.Nodup) (hi : X.N[i]? = some x) (hj : X.N[j]? = some y) (hl : X.N[l]? = some z) (hij : i ≠ j) (hil : i ≠ l) (hjl : j ≠ l) (h0 : 0 ∉ [i, j, l])
    (hx : X.env.scope.names.lookup x = some .local) (hy : X.env.scope.names.lookup y = some .local) (hz : X.env.scope.names.lookup z = some .local) (ha : OkPa X [a, b, c] m)
    (hw : swappedStores [.Tuple [.Name x px, .Name y py, .Name z pz] kt pt] (.Tuple [a, b, c] k2 pt2) X.env = pure (some [x, y, z])) :
    OkS X C (.Assign [.Tuple [.Name x px, .Name y py, .Name z pz] kt pt] (.Tuple [a, b, c] k2 pt2) pos) fun st => (m st).bind fun x => (setP [i, j, l] x.1 x.2).map .nx := fun st f h => by
  obtain ⟨⟨ss, s1⟩, e1, h⟩ := bind_some h
  obtain ⟨s2, e2, h⟩ := map_some h
  subst h
  refine PS_weak (ps_par3 hc hN hi hj hl hij hil hjl hx hy hz (ha C _ _ _ e1) hw) fun Dx σ H q => ?_
  obtain ⟨G, ws, S, q⟩ := par_read h0 e2 q
  refine ⟨G, ws, S, fun vs ps H2 S2 r hM => ?_⟩
  obtain ⟨hl, q⟩ := q vs ps H2 S2 r hM
  match vs, hl with
  | [u, v, w], _ => exact ⟨u, v, w, rfl, q⟩
theorem PR.ex {K : W.Frag} {Gv Gw H H' : Hp} (l : Le Gv Gw) (x : Hx H H') {vs ss ps} (h : PR K Gv H vs ss ps) : PR K Gw H' vs ss ps := by
  induction h with
  | nil => exact .nil
  | v r _ ih => exact .v (r.le l) ih
  | own h r _ ih => exact .own (x _ _ h) (r.le l) ih
  | dic h r _ ih => exact .dic (x _ _ h) (r.le l) ih
def tRaw (K : W.Frag) (is : List Nat) : TG := fun v σ H Q => ∃ a vs, v = .ref a ∧ SqT K H a vs ∧ is.length = vs.length ∧ Q (setsV σ is vs) H
theorem names_len {N : List Str} : ∀ (is : List Nat) (es : List Expr), NamesAt N is es = true → es.length = is.length
  | [], [], _ => rfl
  | [], _ :: _, h => by simp [NamesAt] at h
  | _ :: _, [], h => by simp [NamesAt] at h
  | i :: is, e :: es, h => by
    cases e with
    | Name x p =>
      have h : (decide (N[i]? = some x) && NamesAt N is es) = true := h
      rw [Bool.and_eq_true] at h
      rw [List.length_cons, List.length_cons, names_len is es h.2]
    | _ => simp [NamesAt] at h
theorem pg_raw {sc : Scope} {is : List Nat} {es : List Expr} {k : Nat} (hc : X.calm = true) (hN : X.N.Nodup) (hl : ∀ x, sc.names.lookup x = some .local ∨ sc.names.lookup x = some .cell → Loc X.env.scope x ∧ (X.fn x = true ∨ X.env.scope.names.lookup x = some .local))
    (h1 : NamesAt X.N is es = true) (h2 : (es.all fun e => match e with | .Name x _ => decide (sc.names.lookup x = some .local) || decide (sc.names.lookup x = some .cell) | _ => false) = true) : PG X (.Tuple es k pos) (tRaw X.K is) := by
  obtain ⟨p1, p2, p3⟩ := pgs_names hN hl h1 h2
  refine PG_weak (pg_tup hc p1 p2 p3) fun v σ H Q ⟨a, vs, e, ha, hlen, q⟩ => ?_
  have hlen2 := names_len is es h1
  exact ⟨a, vs, e, ha, by omega, gNames_of hlen q⟩
theorem okS_parT {tg : Expr} {vs : List Expr} {is : List Nat} {k2 pt2} (hg : PG X tg (tRaw X.K is)) (ha : OkPa X vs m) (h0 : 0 ∉ is) (hs : swapsWithSole [tg] (.Tuple vs k2 pt2) pos.line X.env = pure false) (hw : swappedStores [tg] (.Tuple vs k2 pt2) X.env = pure none) (h1 : (assignEach [tg] X.env).map (·.2) = [assign tg X.env]) :
    OkS X C (.Assign [tg] (.Tuple vs k2 pt2) pos) fun st => (m st).bind fun x => if x.1.length ≤ 1000 then (setP is x.1 x.2).map .nx else none := fun st f h => by
  obtain ⟨⟨ss, s1⟩, e1, h⟩ := bind_some h
  split at h
  · rename_i hz
    have hz : ss.length ≤ 1000 := hz
    obtain ⟨s2, e2, h⟩ := map_some h
    subst h
    refine PS_weak (ps_asg (pe_tup (ha C _ _ _ e1)) hg hs hw h1) fun Dx σ H ⟨G, ws, S, kn, q⟩ => ?_
    refine ⟨G, ws, S, fun xs ps H2 S2 r hM => ⟨by rw [r.len2]; exact Nat.le_trans hz (by decide), fun t ht => ?_⟩⟩
    have x := Hx.new (o := .tup xs) ht
    refine ⟨t, xs, rfl, .inl (.inl upd_same), by rw [r.len2, setP_len e2], ?_⟩
    have hl : s1.length ≤ st.length := by rw [S2.len, S.len]; exact Nat.le_refl _
    obtain ⟨ws', S3, k3⟩ := (S2.ex x).setP rfl (r.ex (x.hide _) x) e2 hl (fun p hp z => hM p hp (S2.inM _ z)) h0 kn
    exact q _ ws' _ S3 k3
  · cases h
end
end Pv

/-! The look for statements. -/
namespace Pv
open PySem L2
variable [HashW]
section
variable {K : W.Frag} {C : Cc} {G : Hp} {ws : Ws} {st st' : SS} {σ σ' : L2.St} {H H' : Hp}
/-- a call has made a list -/
theorem SI.fraN {k : Nat} {p : Addr} {us : List V} (S : SI K C G ws st σ H) (f : Hx H H') (l : Le (C.vis ws H) (C.vis ws H')) (hp : H p = none) (h2 : H' p = some (.lst us)) : SI K C G ((k, p) :: ws) st σ H' ∧ p ∉ C.M0 ∧ C.vis ((k, p) :: ws) H' = hide H' (p :: C.M ws) := by
  have S2 := S.ex f
  have ev : C.vis ((k, p) :: ws) H' = hide H' (p :: C.M ws) := hide_congr fun a => by
    unfold Cc.M
    simp only [List.mem_append, List.map_cons, List.mem_cons]
    constructor
    · rintro (h | h | h) <;> simp [h]
    · rintro (h | h | h) <;> simp [h]
  have pM : p ∉ C.M ws := fun z => by
    obtain ⟨o, q⟩ := S.trk p z
    rw [hp] at q
    cases q
  have l2 : Le (C.vis ws H) (C.vis ((k, p) :: ws) H') := fun b o h n => by
    have q := l b o h n
    have hb : H b = some o := by
      have h' : hide H (C.M ws) b = some o := h
      unfold hide at h'
      split at h'
      · cases h'
      · exact h'
    have hbp : b ≠ p := fun z => by rw [z, hp] at hb; cases hb
    have hbM : b ∉ C.M ws := fun z => by
      have h' : hide H (C.M ws) b = some o := h
      unfold hide at h'
      rw [if_pos z] at h'
      cases h'
    rw [ev]
    rw [hide_out (by simp [hbp, hbM])]
    have q' : hide H' (C.M ws) b = some o := q
    rw [hide_out hbM] at q'
    exact q'
  refine ⟨⟨S.len, fun i s h => ?_, ?_, S2.frm, S.vis.trans l2, S2.m0, fun q hq hI => ?_, fun q hq => ?_, S.inM, S.tbs.step (fun b o h => by
    obtain ⟨h1, h3⟩ := of_hide h
    rw [ev, hide_out (by simp only [List.mem_cons, not_or]; exact ⟨ne_of_none h3 hp, h1⟩)]
    exact f _ _ h3) fun b ps h => f _ _ h⟩, fun z => pM (List.mem_append_left _ z), ev⟩
  · have q := S.rep i s h
    cases s with
    | no => exact True.intro
    | v d => obtain ⟨v, o, r⟩ := q; exact ⟨v, o, r.le l2⟩
    | own ds => obtain ⟨a, vs, m, o, h1, r⟩ := q; exact ⟨a, vs, List.mem_cons_of_mem _ m, o, f _ _ h1, r.le l2⟩
    | dic ds => obtain ⟨a, vs, m, o, h1, r⟩ := q; exact ⟨a, vs, List.mem_cons_of_mem _ m, o, f _ _ h1, r.le l2⟩
  · rw [List.map_cons, List.nodup_cons]
    exact ⟨fun z => pM (List.mem_append_right _ z), S.nod⟩
  · rcases List.mem_cons.mp hq with e | e
    · subst e
      refine ⟨?_, fun z => pM (List.mem_append_left _ z)⟩
      cases e : C.H0 p with
      | none => rfl
      | some o =>
        obtain ⟨o1, h1, _⟩ := S.frm _ _ hI e
        rw [hp] at h1
        cases h1
    · exact S.wsn q e hI
  · rcases List.mem_cons.mp hq with e | e
    · subst e; exact ⟨_, h2, fun ps z => by cases z⟩
    · exact S2.wst q e
end
section
variable {X : Cx} {C : Cc} {a : Expr} {es : List Expr} {x : Str} {n : Nat} {R : List D → Option CR} {m : SS → Option (List D × SS)} {p pos : Pos}
def frCall (st : SS) : Option CR → Option (List D × SS)
  | some (.ok (.list ds) true _) => some (ds, st)
  | _ => none
theorem frCall_some {st st' : SS} {ds : List D} {r : Option CR} (h : frCall st r = some (ds, st')) : st' = st ∧ ∃ dk, r = some (.ok (.list ds) true dk) := by
  unfold frCall at h
  split at h
  · cases h; exact ⟨rfl, _, rfl⟩
  · cases h
theorem okF_call0 (F : DefAt X x (spF X.K 0 R)) (hg : Gl X x) (hdb : (x == ("__debug__" : Str)) = false) : OkF X C (.Call (.Name x p) [] [] pos) fun st => frCall st (R []) := fun st d st' e => by
  obtain ⟨k, f, fd, ps, hm, hk, hb, hr, F⟩ := F.ex
  refine (pe_call0 F hr hg hm hk hb .nil passF hdb).weak fun σ H Q ⟨G, ws, S, q⟩ => ?_
  obtain ⟨rfl, dk, hR⟩ := frCall_some e
  refine ⟨rfl, C.M ws, [], S.trk, .nil, .inl ⟨_, true, dk, hR, fun v H2 f l r nw => ?_⟩⟩
  obtain ⟨pa, us, es, rfl, n1, n2, n3, n4⟩ := nw rfl
  cases n3
  obtain ⟨S2, hM, ev⟩ := S.fraN (k := st'.length) f l n1 n2
  exact q pa us H2 S2 hM rfl n2 (by rw [ev]; exact n4)
theorem okF_call (F : DefAt X x (spF X.K (es.length + 1) R)) (hg : Gl X x) (hdb : (x == ("__debug__" : Str)) = false) (h : OkA X C (a :: es) m) (hs : (a :: es).all noStar = true) (hlen : ∀ st r, m st = some r → r.1.length = es.length + 1) :
    OkF X C (.Call (.Name x p) (a :: es) [] pos) fun st => (m st).bind fun r => frCall r.2 (R r.1) := fun st d st' e => by
  obtain ⟨⟨ds, s1⟩, e1, e⟩ := bind_some e
  obtain ⟨k, f, fd, ps, hm, hk, hb, hr, F⟩ := F.ex
  have hs2 := hs
  rw [List.all_cons, Bool.and_eq_true] at hs2
  refine (pe_call F hr hg hm hk hb .nil passF (h _ _ _ e1) hdb (nostar_cons (noStar_ne hs2.1)) (plain_args hs2.2)).weak fun σ H Q ⟨G, ws, S, q⟩ => ?_
  obtain ⟨rfl, dk, hR⟩ := frCall_some e
  refine ⟨G, ws, S, fun xs H1 S1 r1 => ?_⟩
  show spF X.K (es.length + 1) R (xs ++ []) H1 Q E0
  rw [List.append_nil]
  refine ⟨by rw [r1.length]; exact hlen _ _ e1, C.M ws, ds, S1.trk, r1, .inl ⟨_, true, dk, hR, fun v H2 f l r nw => ?_⟩⟩
  obtain ⟨pa, us, es, rfl, n1, n2, n3, n4⟩ := nw rfl
  cases n3
  obtain ⟨S2, hM, ev⟩ := S1.fraN (k := st.length) f l n1 n2
  exact q pa us H2 S2 hM (by rw [S1.len, S.len]) n2 (by rw [ev]; exact n4)
end

/-! ### looks -/
def noComp : Expr → Bool
  | .ListComp _ _ _ _ => false | .SetComp _ _ _ _ => false | .DictComp _ _ _ _ _ => false | _ => true
theorem noComp_ok {e : Expr} {t : Option Expr} {l : Nat} {env : Env} (h : noComp e = true) : swapsWith e t l env = pure false := by
  cases e <;> first | rfl | cases h
/-- whether the model has name = [..] as one step -/
def lcOne (sc : Scope) (x : Str) (p : Pos) (v : Expr) : Bool := match v with
  | .ListComp _ _ s _ => sc.kind == .function && sc.names.lookup x == some .local && p.line == v.pos.line && !(s.names.any fun y => y.1 == x && (y.2 == .local || y.2 == .cell))
  | _ => false
def okComp : Expr → Bool
  | .SetComp _ _ _ _ => false | .DictComp _ _ _ _ _ => false | _ => true
theorem lcOne_ok {sc : Scope} {env : Env} {x : Str} {p : Pos} {v : Expr} {l : Nat} (hv : okComp v = true) (h : env.scope = sc) (hk : sc.kind = .function) : swapsWith v (some (.Name x p)) l env = pure (lcOne sc x p v) := by
  subst h
  have hb : env.blockKind = .function := by unfold Env.blockKind; rw [hk]; rfl
  cases v with
  | ListComp a b s q =>
    show (pure _ : Sem Bool) = pure _
    unfold lcOne Env.kindOf
    rw [hb, hk]
  | SetComp _ _ _ _ => cases hv
  | DictComp _ _ _ _ _ => cases hv
  | _ => rfl
def sole {α : Type} (P : α → Bool) : List α → Bool
  | [a] => P a
  | _ => false
/-- whether the stores of a, b = x, y go from the right: none where the model knows no answer -/
def swapC (sc : Scope) (tg v : Expr) : Option (Option (List Str)) :=
  match tg, v with
  | .Tuple ts _ _, .Tuple vs _ _ =>
    if (!(ts.length == 2 || ts.length == 3) || vs.length != ts.length) = true then some none
    else if (vs.any fun | .Starred .. => true | _ => false) = true then some none
    else
      let line := (ts.head?.map (·.pos.line)).getD 0
      let names := ts.filterMap fun
        | .Name id pos => if sc.names.lookup id == some .local && pos.line == line then some id else none
        | _ => none
      if (names.length != ts.length || names.eraseDups.length != names.length) = true then some none
      else if vs.all (foldedForSure 8) = true then some none
      else if vs.all (constantsAlone 8) = true then none
      else some (some names)
  | _, _ => some none
def tupT : Expr → Bool
  | .Tuple _ _ _ => true | _ => false
theorem swapC_ok {sc : Scope} {env : Env} {tg v : Expr} {r : Option (List Str)} (hs : env.scope = sc) (hk : sc.kind = .function) (ht : tupT tg = true) (h : swapC sc tg v = some r) : swappedStores [tg] v env = pure r := by
  subst hs
  have hb : env.blockKind = .function := by unfold Env.blockKind; rw [hk]; rfl
  cases tg with
  | Tuple ts k p =>
    cases v with
    | Tuple vs k2 p2 =>
      unfold swapC at h
      unfold swappedStores
      dsimp only at h ⊢
      show (if (!(ts.length == 2 || ts.length == 3) || vs.length != ts.length || env.blockKind != .function) = true then (pure none : Sem (Option (List Str))) else _) = _
      have e0 : (env.blockKind != .function) = false := by rw [hb]; rfl
      rw [e0, Bool.or_false]
      split at h
      · rename_i c
        cases h
        rw [if_pos c]
      · rename_i c
        rw [if_neg c]
        split at h
        · rename_i c2
          cases h
          exact if_pos c2
        · rename_i c2
          refine (if_neg c2).trans ?_
          split at h
          · rename_i c3
            cases h
            exact if_pos c3
          · rename_i c3
            refine (if_neg c3).trans ?_
            split at h
            · rename_i c4
              cases h
              exact if_pos c4
            · rename_i c4
              refine (if_neg c4).trans ?_
              split at h
              · cases h
              · rename_i c5
                cases h
                exact (if_neg c5).trans rfl
    | _ => cases h; rfl
  | _ => cases ht
end Pv

/-! A lambda that calls a def, handed to a def: where some of the heap is out of sight. -/
namespace Pv
open PySem L2 PyProof.Rows
variable [HashW]
abbrev lamQ (X : Cx) : Str := X.env.qual ++ "<lambda>"
/-- all is kept but the table at P, which stays a table -/
structure Tx (P : Addr) (H H1 : Hp) : Prop where
  keep : ∀ b o, b ≠ P → H b = some o → H1 b = some o
  tab : ∃ ps, H1 P = some (.tbl ps)
theorem tx_refl {P : Addr} {H : Hp} (h : ∃ ps, H P = some (.tbl ps)) : Tx P H H := ⟨fun _ _ _ e => e, h⟩
section
variable {X : Cx} {pins : List (Addr × Obj)} {σ : L2.St} {H : Hp} {s : Shared}
theorem lam_made {c P : Addr} {M : List Addr} {params : Arguments} {body : Expr} {scope : Scope} {pos : Pos} {Q E : Value → Shared → Prop} (I : Inv X pins σ H s) (TB : LamX.TabB X.base X.mg c P) (hcode : X.env.code = .ref c)
    (tr : ∀ a ∈ M, ∃ o, H a = some o) (hT : LamX.TabS (hide H M) P (lamQ X)) (hdef : defaultsOf params X.env = ([], [])) (hfree : ∀ y ∈ scope.names, y.2 = .free → ∃ z, X.env.cells.lookup y.1 = some z)
    (go : ∀ (f c' : Addr) (pm ctv : Value) (H1 : Hp) (s1 : Shared), Inv X pins σ H1 s1 → Tx P H H1 → LamX.TabS (hide H1 M) P (lamQ X) →
      s1.heap.get? f = some (W.kla_obj "<lambda>" (lamQ X) params body scope (cloFrom X.env.cells scope.names []) pm c' ctv) → H1 f = none → f ∉ frs X.stack → H1 c' = some (LamX.CodeO c' (lamQ X)) → Q (.ref f) s1) :
    wpAny (model X.prog X.w) X.A (eval (.Lambda params body scope pos) X.env) Q E s := by
  obtain ⟨ps, q1, q2, q3⟩ := hT
  obtain ⟨m0, m1⟩ := of_hide q1
  have bP := TB.bm.keeps I.bk
  have p0 : s.heap.get? P = some { cls := .none, data := .fields ps } := I.hok P _ m1
  have out : ∀ f, s.heap.objs.size ≤ f → f ∉ frs X.stack := fun f hf z => by
    rcases List.mem_cons.mp (I.stkSub _ z) with e | e
    · have h1 := I.lt
      rw [← e] at h1
      exact absurd h1 (Nat.not_lt.mpr hf)
    · exact I.nofs hf e
  refine W.kla_eval hdef ?_
  cases hc : codeAmong pos ps.toList with
  | some cv =>
    obtain ⟨c', rfl, hco⟩ := q3 pos cv hc
    refine W.kla_makeFunctionHit (mg := X.mg) (c := c) (P := P) (ps := ps) (closure_ok hfree) I.ok.glob (I.mod.glob.keeps I.bk) hcode (TB.code.keeps I.bk) p0 q2 hc bP fun ctv h' tk hx hsz => ?_
    refine go h'.objs.size c' _ ctv H _ (I.kept fun b o e => Heap.get?_push_of_some _ (hx b o e)) (tx_refl ⟨ps, m1⟩) ⟨ps, q1, q2, q3⟩ (Heap.get?_push_size _ rfl) (I.hok.fresh hsz) (out _ hsz) (of_hide hco).2
  | none =>
    refine W.kla_makeFunction (mg := X.mg) (c := c) (P := P) (ps := ps) (closure_ok hfree) I.ok.glob (I.mod.glob.keeps I.bk) hcode (TB.code.keeps I.bk) p0 q2 hc TB.gP bP fun c' ctv h' tk hx hge hlt hrec htb => ?_
    obtain ⟨c2, oc, vs, t, e2, hoc, hd, hv⟩ := hrec
    cases e2
    have hsz := Nat.le_trans hge (Nat.le_of_lt hlt)
    have nC : H c' = none := I.hok.fresh hge
    have ne : P ≠ c' := ne_of_none m1 nC
    have cM : c' ∉ M := fun z => by
      obtain ⟨o, e⟩ := tr c' z
      rw [nC] at e; cases e
    have J := LamX.inv_table (t' := tk) (more := #[rawInt pos.line, rawInt pos.col, .ref c']) (h' := h'.push (W.kla_obj "<lambda>" (lamQ X) params body scope (cloFrom X.env.cells scope.names []) ((X.mg "__name__").getD .none) c' ctv)) I m1
      (fun b o hb e => Heap.get?_push_of_some _ (hx b o hb e)) (Heap.get?_push_of_some _ htb) hge ⟨oc, vs, t, Heap.get?_push_of_some _ hoc, hd, hv⟩
    have kp : ∀ b o, b ≠ P → H b = some o → upd (upd H P (.tbl (ps ++ #[rawInt pos.line, rawInt pos.col, .ref c']))) c' (LamX.CodeO c' (lamQ X)) b = some o := fun b o hb e => by
      rw [upd_ne (ne_of_none e nC), upd_ne hb]
      exact e
    have aP : upd (upd H P (.tbl (ps ++ #[rawInt pos.line, rawInt pos.col, .ref c']))) c' (LamX.CodeO c' (lamQ X)) P = some (.tbl (ps ++ #[rawInt pos.line, rawInt pos.col, .ref c'])) := by rw [upd_ne ne, upd_same]
    refine go h'.objs.size c' _ ctv _ _ J ⟨kp, _, aP⟩ ⟨_, by rw [hide_out m0]; exact aP, ?_, fun p' cv hcv => ?_⟩ (Heap.get?_push_size _ rfl) ?_ (out _ hsz) upd_same
    · have eL : (ps ++ #[rawInt pos.line, rawInt pos.col, .ref c']).toList = ps.toList ++ [rawInt pos.line, rawInt pos.col, .ref c'] := by simp
      rw [eL]
      exact PySem.TriplesOk_snoc _ _ _ _ q2
    · have eL : (ps ++ #[rawInt pos.line, rawInt pos.col, .ref c']).toList = ps.toList ++ [rawInt pos.line, rawInt pos.col, .ref c'] := by simp
      rw [eL] at hcv
      rcases LamX.among_app _ q2 hcv with z | z
      · obtain ⟨c0, e1, e2⟩ := q3 p' cv z
        obtain ⟨n1, n2⟩ := of_hide e2
        refine ⟨c0, e1, ?_⟩
        rw [hide_out n1]
        exact kp c0 _ (fun z => LamX.codeO_ne ps (Option.some.inj (n2.symm.trans (by rw [z]; exact m1)))) n2
      · exact ⟨c', z, by rw [hide_out cM]; exact upd_same⟩
    · have n1 : h'.objs.size ≠ c' := Nat.ne_of_gt hlt
      have n2 : h'.objs.size ≠ P := Nat.ne_of_gt (Nat.lt_of_lt_of_le (Heap.lt_size p0) hsz)
      rw [upd_ne n1, upd_ne n2]
      exact I.hok.fresh hsz
end
/-- the context of the lambda's body, where what is raised has no context of its own -/
abbrev lamN (X : Cx) (A : Around) (outer : List Env) (s : Shared) (H : Hp) (E : XK) (scope : Scope) (f c' : Addr) : Cx :=
  (LamX.lamCx X A outer s H E scope f c').tr [] fun e s' => wpAny (model X.prog X.w) (A.deeper (LamX.lamEnv X scope s.heap.objs.size f c')) (leaving (LamX.lamEnv X scope s.heap.objs.size f c') e) (fun _ s'' => L2N.CX X.prog X.w outer H s E e s'') (fun e' s'' => L2N.CX X.prog X.w outer H s E e' s'') s'
abbrev giveCx (X : Cx) (Ng : List Str) (qg : Str) (sg : Scope) (g : Addr) (cdg : Value) (s : Shared) (H : Hp) : Cx := cxOf C8.CX0 X.prog X.w X.K X.mg X.base Ng qg sg g cdg X.A X.stack s H C8.E0
theorem lam_acts {X : Cx} {pins : List (Addr × Obj)} {σ : L2.St} {H : Hp} {s : Shared} {Ng : List Str} {qg : Str} {sg : Scope} {g f c' : Addr} {cdg pm ctv : Value} {params : Arguments} {body : Expr} {scope : Scope} {k i : Nat} {a : Str} {pn : List (Addr × Obj)} {xe : Value → Shared → Prop} {Wx : WX} {E : XK} {tb : TE} {p1 p2 : Pos}
    (I : Inv X pins σ H s) (L : LamX.LamS X.env.scope scope) (hf : s.heap.get? f = some (W.kla_obj "<lambda>" (lamQ X) params body scope (cloFrom X.env.cells scope.names []) pm c' ctv)) (hfn : H f = none) (hfr : f ∉ frs X.stack)
    (hbind : bindArgs (W.kla_fn "<lambda>" (lamQ X) params body scope (cloFrom X.env.cells scope.names []) pm (.ref c') ctv) ⟨[], []⟩ = pure []) (tk : L2N.Takes ((giveCx X Ng qg sg g cdg s H).tr pn xe) Wx) (hW : ∀ cls d σ' H', E cls d H' → Wx cls d σ' H') (hr : Room (k + 1) (X.A.deeper (envOfC qg sg s.heap.objs.size g cdg)))
    (hbody : ∀ (A : Around) (outer : List Env) (s : Shared) (H : Hp), Room k (A.deeper (LamX.lamEnv X scope s.heap.objs.size f c')) → PE (lamN X A outer s H E scope f c') body tb)
    (hN : Ng[i]? = some a) (hv : Vis sg a) (hd : (a == ("__debug__" : Str)) = false) (hcd : (a == ("__classdict__" : Str)) = false) :
    PE ((giveCx X Ng qg sg g cdg s H).tr pn xe) (.Call (.Name a p1) [] [] p2) (fun σZ HZ Q => σZ[i]? = some (some (.ref f)) ∧ HZ c' = some (LamX.CodeO c' (lamQ X)) ∧ tb σ HZ Q) := by
  refine ⟨fun pinsZ sZ σZ HZ Q IZ ⟨hs, hc, ht⟩ => ?_⟩
  refine wpAny_Call_Name_kw (thn ((pe_var (pos := p1) (i := i) hN hv hd hcd).run pinsZ sZ σZ HZ (fun v H1 => v = .ref f ∧ H1 = HZ) IZ ⟨.ref f, hs, rfl, rfl⟩) fun u s1 ⟨v, H1, I1, r1, ev, eH⟩ => ?_)
  subst ev eH
  obtain rfl : u = Value.ref f := r1
  have of1 := I1.base.keep f _ hf hfn hfr fun z => nomatch (show f ∈ ([] : List Addr) from z)
  obtain ⟨⟨oc, us, t, hoc, hdc, hvc⟩, _, _⟩ := I1.hok c' _ hc
  refine W.callWith_F0 ⟨_, _, _, _, of1⟩ ?_
  have rc : codeAny (model X.prog X.w) (X.A.deeper (envOfC qg sg s.heap.objs.size g cdg)) (.call (.ref f) ⟨[], []⟩) (L2.CR (L2N.CX X.prog X.w) (envOfC qg sg s.heap.objs.size g cdg :: X.stack) X.prog X.w H1 s1 Q E) s1 := by
    refine W.kla_callFunE hr.depth of1 rfl L.co L.gen rfl ⟨c', oc, us, t, rfl, hoc, hdc, hvc⟩ ?_
    rw [hbind]
    refine wpAny_pure (wpAny_newFunctionEnv (fun y hy => (L.own y hy).2) (fun y hy => absurd hy (by simp)) (fun h1 hns hsb => ⟨I1.nolimit.fresh _ hsb, ?_⟩) L.kind)
    have kp : ∀ b o, s1.heap.get? b = some o → h1.get? b = some o := fun b o e => hsb.extBut b o (Nat.ne_of_lt (Heap.lt_size e)) (Heap.get?_push_of_some _ e)
    have J := (LamX.lam_start2 (A := X.A.deeper (envOfC qg sg s.heap.objs.size g cdg)) (outer := envOfC qg sg s.heap.objs.size g cdg :: X.stack) (E := E) (f := f) (c' := c') (tk := s1.toks) I L I1.env0 hr.hd I1.base hns kp).toTry
      (fun e s' => wpAny (model X.prog X.w) ((X.A.deeper (envOfC qg sg s.heap.objs.size g cdg)).deeper (LamX.lamEnv X scope s1.heap.objs.size f c')) (leaving (LamX.lamEnv X scope s1.heap.objs.size f c') e) (fun _ s'' => L2N.CX X.prog X.w (envOfC qg sg s.heap.objs.size g cdg :: X.stack) H1 s1 E e s'') (fun e' s'' => L2N.CX X.prog X.w (envOfC qg sg s.heap.objs.size g cdg :: X.stack) H1 s1 E e' s'') s')
    refine W.kla_codeExpr (wpAny_mono ((hbody _ _ s1 H1 (hr.deeper _)).run [] _ _ H1 Q J ht) (fun v s' ⟨w', H', J', rv, q⟩ => ?_) fun e s' hq => hq)
    exact ⟨w', H', J'.os, J'.bare, J'.base, J'.hok, rv, q⟩
  have hx := L2N.passes_call tk hW
  refine wpAny_call (codeAny_mono rc fun r s' hq => ?_)
  cases r with
  | error e => exact hx pinsZ σZ H1 s1 e s' I1 hq
  | ok fl =>
    cases fl with
    | ret u => exact I1.after hq
    | next => exact False.elim hq
    | brk => exact False.elim hq
    | cont => exact False.elim hq
/-- the def x calls what it got; TT: what it makes of that -/
def Gives (X : Cx) (Ng : List Str) (x : Str) (sg : Scope) (g : Addr) (cdg : Value) (bg : List Stmt) (a : Str) (k : Nat) (TT : (XK → Hp → VK → Prop) → Hp → VK → Prop) : Prop :=
  ∀ (f c' : Addr) (s : Shared) (H : Hp) (Q : VK) (tl : XK → Hp → VK → Prop), Room k (X.A.deeper (envOfC x sg s.heap.objs.size g cdg)) →
    (∀ (Wx : WX) (pn : List (Addr × Obj)) (xe : Value → Shared → Prop) (E : XK) (p1 p2 : Pos), L2N.Takes ((giveCx X Ng x sg g cdg s H).tr pn xe) Wx → (∀ cls d σ' H', E cls d H' → Wx cls d σ' H') →
      PE ((giveCx X Ng x sg g cdg s H).tr pn xe) (.Call (.Name a p1) [] [] p2) (fun σZ HZ Q => σZ[0]? = some (some (.ref f)) ∧ HZ c' = some (LamX.CodeO c' (lamQ X)) ∧ tl E HZ Q)) →
    H c' = some (LamX.CodeO c' (lamQ X)) → TT tl H Q → ∃ t, PSs (giveCx X Ng x sg g cdg s H).nox bg t ∧ t { nx := fun _ H' => Q .non H', rt := Q } (L2.start Ng [.ref f]) H
/-- a def that is handed a call and tells how it ends -/
structure TryDef (X : Cx) (x : Str) (k : Nat) (TT : (XK → Hp → VK → Prop) → Hp → VK → Prop) : Prop where
  ex : ∃ (a : Str) (g : Addr) (pg : Arguments) (bg : List Stmt) (sg : Scope) (dV kV doc pm cdv ct oc : Value) (an od : Option Addr) (osl : Array (Option Value)) (Ng : List Str),
    (X.mg x = some (.ref g) ∧ W.keepIn X.K (.ref g) = true ∧ X.K.lookup g = some ⟨oc, od, .func (W.fnOf x x pg bg sg dV kV doc pm an cdv ct), osl⟩ ∧ W.codeIn X.K cdv x = true ∧ Binds X.K (W.fnOf x x pg bg sg dV kV doc pm an cdv ct) [a] []) ∧
    (FnScope Ng [a] sg ∧ Ng[0]? = some a ∧ Vis sg a ∧ (a == ("__debug__" : Str)) = false ∧ (a == ("__classdict__" : Str)) = false) ∧ Gives X Ng x sg g cdv bg a k TT
def tLamM (q : Str) (P : Addr) (TT : (XK → Hp → VK → Prop) → Hp → VK → Prop) (t : XK → TE) : TE := fun σ H Q => ∃ M : List Addr, (∀ a ∈ M, ∃ o, H a = some o) ∧ LamX.TabS (hide H M) P q ∧
  ∀ H1, Tx P H H1 → LamX.TabS (hide H1 M) P q → TT (fun E H' Q' => t E σ H' Q') H1 Q
theorem pe_lamT {X : Cx} {TT : (XK → Hp → VK → Prop) → Hp → VK → Prop} {x : Str} {c P : Addr} {k : Nat} {params : Arguments} {body : Expr} {scope : Scope} {t : XK → TE} {p lpos pos : Pos} (D : TryDef X x (k + 1) TT) (hg : Gl X x) (hdb : (x == ("__debug__" : Str)) = false)
    (TB : LamX.TabB X.base X.mg c P) (hcode : X.env.code = .ref c) (hr : Room (k + 2) X.A) (L : LamX.LamS X.env.scope scope) (hdef : defaultsOf params X.env = ([], []))
    (hbind : ∀ (q : Str) (cl : List (Str × Addr)) (pm cv ctv : Value), bindArgs (W.kla_fn "<lambda>" q params body scope cl pm cv ctv) ⟨[], []⟩ = pure [])
    (hbody : ∀ (A : Around) (outer : List Env) (s : Shared) (H : Hp) (E : XK) (f c' : Addr), Room k (A.deeper (LamX.lamEnv X scope s.heap.objs.size f c')) → PE (lamN X A outer s H E scope f c') body (t E)) :
    PE X (.Call (.Name x p) [.Lambda params body scope lpos] [] pos) (tLamM (lamQ X) P TT t) := by
  obtain ⟨a, g, pg, bg, sg, dV, kV, doc, pm0, cdv, ct, oc, an, od, osl, Ng, ⟨hm, hk, lk, hcg, hb⟩, ⟨Sg, hNg, hva, hd, hcd⟩, hG⟩ := D.ex
  refine ⟨fun pins s σ H Q I ⟨M, tr, hT, go⟩ => ?_⟩
  refine wpAny_Call_Name_kw (ld_glob I hg hm ?_ hdb)
  refine W.callWith_K (h₀ := X.base) I.ok.mod.kin hk ?_ (by rfl) (by rfl)
  show wpAny _ _ (spliced ((false, eval (.Lambda params body scope lpos) X.env) :: backTo pos (starEach [] X.env))) _ _ s
  refine Calls.spliced_cons (lam_made I TB hcode tr hT hdef (L.has I.ok) fun f c' pm ctv H1 s1 I1 tx T1 hf hfn hfr hco => Calls.spliced_nil ⟨I1.kIn, ?_⟩)
  refine wpAny_call (codeAny_mono (R := L2.CR C8.CX0 X.stack X.prog X.w H1 s1 Q C8.E0) (LamX.run_ofS (N := Ng) (ps := [a]) (us := [.ref f]) (vs := [.ref f]) lk hcg Sg hr I1.env0 (hb s1 [.ref f] I1.kIn rfl) (.cons rfl .nil) rfl fun hr2 => ?_) fun r s2 hq => ?_)
  · obtain ⟨u, hu, q⟩ := hG f c' s1 H1 Q (fun E H' Q' => t E σ H' Q') hr2 (fun W pn xe E p1 p2 tk hW => lam_acts (i := 0) I1 L hf hfn hfr (hbind _ _ _ _ _) tk hW hr2 (fun A outer s H r3 => hbody A outer s H E f c' r3) hNg hva hd hcd) hco (go H1 tx T1)
    exact ⟨u, hu.nox, q⟩
  · cases r with
    | error e => exact (show False from hq).elim
    | ok fl =>
      cases fl with
      | ret u => exact I1.after hq
      | next => exact False.elim hq
      | brk => exact False.elim hq
      | cont => exact False.elim hq
end Pv

/-! `_law_try(lambda: f(..))`: what it tells. -/
namespace Pv
open PySem L2
variable [HashW]
/-- a class of errors that the program raises: without an __init__ of its own -/
def Knc (T : Tab) (c : Nat) : Prop := c < 9 ∧ ∃ x, exNames[c]? = some x ∧ x ∈ T.ex
/-- what `_law_try` makes of a call -/
def TTtry (kn : Nat → Prop) : (XK → Hp → VK → Prop) → Hp → VK → Prop := fun tl H Q =>
  tl (fun cls d H' => ∃ c w, kn c ∧ cls = HashW.xc c ∧ d = none ∧ exWord c = some w ∧ ∀ H2, Hx H' H2 → Q (.str w) H2) H fun v H' => ∀ p, H' p = none → Q (.ref p) (upd H' p (.tup [.str (Str.ofString "told"), v]))
structure TriAt (T : Tab) (F : Nat → List D → Option CR) (N : List Str) (X : Cx) (C : Cc) : Prop where
  ex : ∃ (c P : Addr) (k : Nat), LamX.TabB X.base X.mg c P ∧ X.env.code = .ref c ∧ Room (k + 2) X.A ∧ C.T = some [(P, lamQ X)] ∧ TryDef X "_law_try" (k + 1) (TTtry (Knc T)) ∧
    ∀ (A : Around) (outer : List Env) (s : Shared) (H : Hp) (E : XK) (scope : Scope) (f c' : Addr), Room k (A.deeper (LamX.lamEnv X scope s.heap.objs.size f c')) → LamX.LamS X.env.scope scope → Okx T F N scope (lamN X A outer s H E scope f c')
  err : ∀ f ds c m, F f ds = some (.err c m) → Knc T c ∧ m = none
theorem SI.tx {K : W.Frag} {C : Cc} {G : Hp} {ws : Ws} {st : SS} {σ : L2.St} {H H1 : Hp} {P : Addr} {q : Str} (S : SI K C G ws st σ H) (hT : C.T = some [(P, q)]) (tx : Tx P H H1) (t : LamX.TabS (hide H1 (C.M ws)) P q) (hP : ∃ ps, H P = some (.tbl ps)) : SI K C G ws st σ H1 := by
  obtain ⟨ps, hP⟩ := hP
  have ne : ∀ {b o}, H b = some o → (∀ ps, o ≠ .tbl ps) → b ≠ P := fun e n z => by
    rw [z, hP] at e
    exact n ps (Option.some.inj e).symm
  have nx : ∀ {b o}, H b = some o → ∃ o', H1 b = some o' := fun {b o} e => by
    by_cases h : b = P
    · obtain ⟨p1, e1⟩ := tx.tab
      exact ⟨_, by rw [h]; exact e1⟩
    · exact ⟨o, tx.keep _ _ h e⟩
  have le : Le (C.vis ws H) (C.vis ws H1) := fun b o e n => by
    obtain ⟨h1, h2⟩ := of_hide e
    show hide H1 _ b = _
    rw [hide_out h1]
    exact tx.keep _ _ (ne h2 n) h2
  refine ⟨S.len, fun i s h => ?_, S.nod, fun b o hb e => ?_, S.vis.trans le, fun a h => let ⟨o, e⟩ := S.m0 a h; nx e, S.wsn, fun p hp => ?_, S.inM, ?_⟩
  · have k := S.rep i s h
    cases s with
    | no => exact True.intro
    | v d => obtain ⟨v, o, r⟩ := k; exact ⟨v, o, r.le le⟩
    | own ds =>
      obtain ⟨a, vs, m, o, h1, r⟩ := k
      exact ⟨a, vs, m, o, tx.keep _ _ (ne h1 fun ps z => by cases z) h1, r.le le⟩
    | dic ds =>
      obtain ⟨a, vs, m, o, h1, r⟩ := k
      exact ⟨a, vs, m, o, tx.keep _ _ (ne h1 xO_tbl) h1, r.le le⟩
  · obtain ⟨o', e', r⟩ := S.frm b o hb e
    by_cases h : b = P
    · obtain ⟨p1, e1⟩ := tx.tab
      refine ⟨_, by rw [h]; exact e1, fun n => ?_⟩
      rw [r n, h, hP] at e'
      exact absurd (Option.some.inj e').symm (n ps)
    · exact ⟨o', tx.keep _ _ h e', r⟩
  · obtain ⟨o, e, n⟩ := S.wst p hp
    exact ⟨o, tx.keep _ _ (ne e n) e, n⟩
  · show match C.T with | none => _ | some T => _
    rw [hT]
    intro p hp
    rw [List.mem_singleton.mp hp]
    exact t
section
variable {T : Tab} {F : Nat → List D → Option CR} {N : List Str} {sc : Scope} {X : Cx} {C : Cc}
/-- what is wanted of an error of a call whose arguments are known -/
def tXA (K : W.Frag) (C : Cc) (st s1 : SS) (c : Nat) (m : Option Int) (E : XK) : TE := fun σ H _ => ∃ G ws, SI K C G ws st σ H ∧ ∀ H2, SI K C G ws s1 σ H2 → EOut c m E H2
theorem erE_callA {a : Expr} {es : List Expr} {x : Str} {R : List D → Option CR} {m : SS → Option (List D × SS)} {E : XK} {p pos : Pos} {st s1 : SS} {ds : List D} {c : Nat} {n : Option Int} (tk : L2N.Takes X fun cls d _ H => E cls d H) (F : DefAt X x (spF X.K (es.length + 1) R)) (hg : Gl X x) (hdb : (x == ("__debug__" : Str)) = false) (h : OkA X C (a :: es) m) (hs : (a :: es).all noStar = true) (hlen : ds.length = es.length + 1)
    (e1 : m st = some (ds, s1)) (hR : R ds = some (.err c n)) : PE X (.Call (.Name x p) (a :: es) [] pos) (tXA X.K C st s1 c n E) := by
  obtain ⟨k, f, fd, ps, hm, hk, hb, hr, F⟩ := F.ex
  have hs2 := hs
  rw [List.all_cons, Bool.and_eq_true] at hs2
  refine (pe_callS F hr hg hm hk hb (fun σ => L2N.passAt tk σ) (h _ _ _ e1) hdb (nostar_cons (noStar_ne hs2.1)) (plain_args hs2.2)).weak fun σ H Q ⟨G, ws, S, q⟩ => ?_
  refine ⟨G, ws, S, fun xs H1 S1 r1 => ?_⟩
  exact ⟨by rw [r1.length]; exact hlen, C.M ws, ds, S1.trk, r1, .inr ⟨c, n, hR, fun H2 f => q _ (S1.ex f)⟩⟩
end
def noPar : Arguments → Bool
  | ⟨[], [], none, [], [], none, []⟩ => true
  | _ => false
theorem noPar_def {p : Arguments} {env : Env} (h : noPar p = true) : defaultsOf p env = ([], []) := by
  unfold noPar at h
  split at h
  · rfl
  · cases h
theorem noPar_bind {p : Arguments} {body : Expr} {scope : Scope} (h : noPar p = true) (q : Str) (cl : List (Str × Addr)) (pm cv ctv : Value) : bindArgs (W.kla_fn "<lambda>" q p body scope cl pm cv ctv) ⟨[], []⟩ = pure [] := by
  unfold noPar at h
  split at h
  · rfl
  · cases h
/-- the look at `_law_try(lambda: f(..))` -/
def chkTry (T : Tab) (N : List Str) (sc : Scope) (f : Nat) (es : Exs) : Expr → Bool
  | .Call (.Name y _) [.Lambda params (.Call (.Name x p) (a :: l) [] q) scope _] [] _ => decide (y = ("_law_try" : Str)) && isGl sc y && LamX.lamSB sc scope && noPar params && chkE T N scope (.call f es) (.Call (.Name x p) (a :: l) [] q)
  | _ => false
theorem triD_ok {st s1 : SS} {o : Option CR} {d : D} (h : triD s1 o = some (d, st)) : st = s1 ∧ ((∃ d1 fr dk, o = some (.ok d1 fr dk) ∧ d = .tuple [.str (Str.ofString "told"), d1]) ∨ (∃ c n, o = some (.err c n) ∧ (n = none → ∃ w, exWord c = some w ∧ d = .str w))) := by
  unfold triD at h
  split at h
  · cases h; exact ⟨rfl, .inl ⟨_, _, _, rfl, rfl⟩⟩
  · obtain ⟨w, e, h⟩ := map_some h
    cases h
    exact ⟨rfl, .inr ⟨_, _, rfl, fun _ => ⟨w, e, rfl⟩⟩⟩
  · obtain ⟨w, e, h⟩ := map_some h
    cases h
    exact ⟨rfl, .inr ⟨_, _, rfl, fun z => by cases z⟩⟩
  · cases h
theorem okE_tri {T : Tab} {F : Nat → List D → Option CR} {N : List Str} {sc : Scope} {X : Cx} {C : Cc} {f : Nat} {es : Exs} {e : Expr} (O : Okx T F N sc X) (hsc : X.env.scope = sc) (A : TriAt T F N X C) (h : chkTry T N sc f es e = true) : OkE X C e (den (T.gs.map (·.2)) F (.tri f es)) := by
  unfold chkTry at h
  split at h
  · rename_i y p0 params x p a l q scope lpos pos
    simp only [Bool.and_eq_true, decide_eq_true_eq] at h
    obtain ⟨⟨⟨⟨h0, h1⟩, h2⟩, h3⟩, h4⟩ := h
    obtain ⟨g1, g2, g3⟩ := O.glx h1
    obtain ⟨c0, P, k, TB, hcode, hr, hT, D, hO⟩ := A.ex
    rw [← h0] at D
    have L : LamX.LamS X.env.scope scope := by rw [hsc]; exact LamX.lamS_by h2
    intro st d st' eq
    unfold den at eq
    obtain ⟨⟨ds, s1⟩, e1, eq⟩ := bind_some eq
    obtain ⟨rfl, q1⟩ := triD_ok eq
    have fin : ∀ (t : XK → TE), (∀ (A : Around) (outer : List Env) (s : Shared) (H : Hp) (E : XK) (f' c' : Addr), Room k (A.deeper (LamX.lamEnv X scope s.heap.objs.size f' c')) → PE (lamN X A outer s H E scope f' c') (.Call (.Name x p) (a :: l) [] q) (t E)) →
        (∀ σ H Q G ws, SI X.K C G ws st σ H → (∀ v H2, SI X.K C G ws st' σ H2 → Rp X.K (C.vis ws H2) v d → Q v H2) → TTtry (Knc T) (fun E H' Q' => t E σ H' Q') H Q) → PE X (.Call (.Name y p0) [.Lambda params (.Call (.Name x p) (a :: l) [] q) scope lpos] [] pos) (tV X.K C st st' d) := fun t hb ht => by
      refine (pe_lamT (t := t) D g1 g2 TB hcode hr L (noPar_def h3) (noPar_bind h3) hb).weak fun σ H Q ⟨G, ws, S, q⟩ => ?_
      have tb : LamX.TabS (C.vis ws H) P (lamQ X) := by
        have t := S.tbs
        have t : match C.T with | none => _ | some T => LamX.Tabs T (C.vis ws H) := t
        rw [hT] at t
        exact t (P, lamQ X) List.mem_cons_self
      refine ⟨C.M ws, S.trk, tb, fun H1 tx t1 => ?_⟩
      obtain ⟨ps, b1, _⟩ := tb
      exact ht σ H1 Q G ws (S.tx hT tx t1 ⟨ps, (of_hide b1).2⟩) q
    rcases q1 with ⟨d1, fr, dk, hF, rfl⟩ | ⟨c, n, hF, hw⟩
    · refine fin (fun _ => tV X.K C st st' d1) (fun A outer s H E f' c' r => ?_) fun σ H Q G ws S q => ?_
      · refine (sdE (C := C) (.call f es) (hO A outer s H E scope f' c' r L) h4).1 st d1 st' ?_
        unfold den
        rw [e1]
        show endCall st' (F f ds) = _
        rw [hF]
        rfl
      · refine ⟨G, ws, S, fun v H2 S2 r2 p hp => ?_⟩
        exact q _ _ (S2.ex (Hx.new hp)) (dp_newT S2.trk hp (.cons (.str _) (.cons r2 .nil)))
    · obtain ⟨kn, rfl⟩ := A.err _ _ _ _ hF
      obtain ⟨w, ew, rfl⟩ := hw rfl
      refine fin (fun E => tXA X.K C st st' c none E) (fun A outer s H E f' c' r => ?_) fun σ H Q G ws S q => ?_
      · have O' := hO A outer s H E scope f' c' r L
        have h5 := h4
        unfold chkE at h5
        simp only [Bool.and_eq_true, decide_eq_true_eq] at h5
        obtain ⟨⟨⟨k0, kx⟩, k1⟩, k2⟩ := h5
        obtain ⟨j1, j2, j3⟩ := O'.glx k1
        have D0 := O'.fu f x false _ k0 kx
        exact erE_callA (L2N.takes_of rfl rfl rfl rfl) D0 j1 j2 (sdA (C := C) es O' k2) (chkA_star k2) (chkA_len k2 e1) e1 hF
      · refine ⟨G, ws, S, fun H2 S2 => ?_⟩
        exact ⟨c, w, kn, rfl, rfl, ew, fun H3 e3 => q _ _ (S2.ex e3) (.str w)⟩
  · cases h
/-- the look at a test that may try a call -/
def chkT1 (T : Tab) (N : List Str) (sc : Scope) : Ex → Expr → Bool
  | .cmp .NotEq (.tri f es) b, .Compare x [.NotEq] [y] _ => chkTry T N sc f es x && chkE T N sc b y && !behindInMarks .NotEq y
  | _, _ => false
def chkT2 (T : Tab) (N : List Str) (sc : Scope) : Ex → Expr → Bool
  | .and a b, .BoolOp .And [x, y] _ => chkE T N sc a x && chkT1 T N sc b y
  | c, v => chkT1 T N sc c v
def chkC (T : Tab) (N : List Str) (sc : Scope) (c : Ex) (v : Expr) : Bool := chkE T N sc c v || T.tri && chkT2 T N sc c v
section
variable {T : Tab} {F : Nat → List D → Option CR} {N : List Str} {sc : Scope} {X : Cx} {C : Cc}
theorem sdT1 {c : Ex} {v : Expr} (O : Okx T F N sc X) (hsc : X.env.scope = sc) (A : TriAt T F N X C) (h : chkT1 T N sc c v = true) : OkE X C v (den (T.gs.map (·.2)) F c) ∧ OkT X C v (tm (den (T.gs.map (·.2)) F c)) := by
  unfold chkT1 at h
  split at h
  · simp only [Bool.and_eq_true, Bool.not_eq_true'] at h
    obtain ⟨⟨h1, h2⟩, h3⟩ := h
    have hu := O.un
    exact ⟨okE_cmp (okE_tri O hsc A h1) (sdE _ O h2).1 (fun d1 d2 d q => cmp_ok O.hw (by have := O.un; omega) q) h3, okT_cmp (okE_tri O hsc A h1) (sdE _ O h2).1 (fun d1 d2 d q => cmp_ok O.hw (by have := O.un; omega) q) h3⟩
  · cases h
theorem sdC {c : Ex} {v : Expr} (O : Okx T F N sc X) (hsc : X.env.scope = sc) (A : T.tri = true → TriAt T F N X C) (h : chkC T N sc c v = true) : OkT X C v (tm (den (T.gs.map (·.2)) F c)) := by
  unfold chkC at h
  rw [Bool.or_eq_true, Bool.and_eq_true] at h
  rcases h with h | ⟨ht, h⟩
  · exact (sdE c O h).2.1
  · unfold chkT2 at h
    split at h
    · rw [Bool.and_eq_true] at h
      obtain ⟨k1, k2, _⟩ := sdE (C := C) _ O h.1
      obtain ⟨l1, l2⟩ := sdT1 O hsc (A ht) h.2
      exact (okP_and k2 (okP_and1 l2)).t
    · exact (sdT1 O hsc (A ht) h).2
end
end Pv

/-! d[k], x = a, b -/
namespace Pv
open PySem L2
variable [HashW]
section
variable {X : Cx} {C : Cc} {pos : Pos} {m : SS → Option (List D × SS)} {mk : SS → Option (D × SS)} {i j : Nat} {x : Str}
theorem okS_putDS {o k a b : Expr} {tpos np pt pt2 : Pos} {kt k2 : Nat} (hc : X.calm = true) (hN : X.N.Nodup) (hj : X.N[j]? = some x) (hx : Loc X.env.scope x) (hf : X.fn x = true ∨ X.env.scope.names.lookup x = some .local) (hw : HashIs X) (hu : X.A.units + 65 < cLine) (hp : plainIx k = true) (ho : PE X o (tVar i)) (hk : OkE X C k mk) (ha : OkA X C [a, b] m)
    (hsw : swappedStores [.Tuple [.Subscript o k tpos, .Name x np] kt pt] (.Tuple [a, b] k2 pt2) X.env = pure none) :
    OkS X C (.Assign [.Tuple [.Subscript o k tpos, .Name x np] kt pt] (.Tuple [a, b] k2 pt2) pos) (mPutDS m mk i j) := fun st f h => by
  obtain ⟨⟨ds, s1⟩, e1, h⟩ := bind_some h
  match ds, h with
  | [d1, d2], h =>
  obtain ⟨kvs0, e0, h⟩ := bind_some h
  obtain ⟨⟨dk, s2⟩, e2, h⟩ := bind_some h
  obtain ⟨kvs, e4, h⟩ := bind_some h
  split at h
  · rename_i t1
    obtain ⟨z, e5, h⟩ := bind_some h
    obtain ⟨s3, e6, h⟩ := map_some h
    subst h
    obtain ⟨nk, k1, k2⟩ := bind_some e5
    obtain ⟨q1, q2⟩ := keyOk_inv k1
    have hlt : kvs.length < 100000 := by
      split at k2
      · assumption
      · cases k2
    have t2 : (kvs.all fun p => tupKey p.1) = true := by
      rcases q2 with ⟨_, t2⟩ | ⟨t3, _⟩
      · exact t2
      · have t3 : isStrD dk = true := t3
        cases dk with
        | str _ => exact absurd t1 (by simp [tupKey, isTupD])
        | _ => cases t3
    refine PS_weak (ps_asg (pe_tup (ha _ _ _ e1)) (pg_tup hc (pgs_cons (pg_sub ho (hk _ _ _ e2) (set_dT hw (by omega)) (fun v => by cases k <;> first | rfl | cases hp)) (pgs_cons (pg_name hN hj hx hf) pgs_nil))) (by unfold swapsWithSole; rfl) hsw) fun D σ H ⟨G, ws, S, kn, q⟩ => ?_
    refine ⟨G, ws, S, fun vs H2 S2 r2 => ⟨by rw [r2.length]; show 2 ≤ sizeLine; rw [sizeLine_eq]; omega, fun t ht => ?_⟩⟩
    obtain ⟨v1, vs1, rfl, ra, r2⟩ := r2.cons_inv
    obtain ⟨v2, vs2, rfl, rb, r2⟩ := r2.cons_inv
    obtain rfl := r2.nil_inv
    have xx := Hx.new (o := .tup [v1, v2]) ht
    have S2' := S2.ex xx
    have lx := xx.hide (C.M ws)
    refine ⟨t, [v1, v2], rfl, .inl (.inl upd_same), rfl, v1, [v2], rfl, ?_⟩
    obtain ⟨a, c0, m0, o0, h0, r0⟩ := slot_dic S2' e0
    refine ⟨.ref a, o0, C.vis ws (upd H2 t (.tup [v1, v2])), ws, S2'.up, fun y H3 S3 r3 => ?_⟩
    obtain ⟨a2, c, m2, o2, hL, r⟩ := slot_dic S3 e4
    obtain rfl := sameA o0 o2
    have kv' := r.kv.le (hide_le _ _)
    obtain ⟨bs, z1, z2⟩ := kv_tup kv' t2
    obtain ⟨⟨xs, rfl⟩, hd⟩ := tupKey_inv t1
    have r3' := r3.le (hide_le _ _)
    obtain ⟨b', us, rfl, _, _⟩ := r3'.tup_inv
    refine ⟨a2, c.o, c.nks, c.ks, c.vs, bs, nk, b', rfl, rfl, ⟨hL, r.dc, r.sm, z1, z2⟩, rp_keyV r3' q1, hd _ q1, by rw [kv_len r.kv]; omega, fun o' dc => ?_⟩
    have S4 := S3.putD (getK_some e4) m2 o2 (rp_put r q1 r3 ((ra.le lx).le S3.vis) k2 dc)
    refine ⟨v2, [], rfl, rfl, ?_⟩
    have S5 := S4.setV e6 ((rb.le lx).le (S3.vis.trans (by rw [vis_upd (List.mem_append_right _ (List.mem_map.mpr ⟨_, m2, rfl⟩))]; exact Le.refl _)))
    exact q _ _ _ ((S5.down S2'.vis).down (Le.refl _)) kn
  · cases h
end
end Pv

/-! The look for statements, and that it is enough. -/
namespace Pv
open PySem L2
variable [HashW]
def isLc : Ex → Bool
  | .lc _ _ _ _ _ _ => true | _ => false
def isF : Ex → Bool
  | .lst _ => true | .lc _ _ _ _ _ _ => true | .bin .Add _ _ => true | .blt .list (.cons _ .nil) => true | .call _ _ => true | _ => false
def nameSt (N : List Str) (sc : Scope) (i : Nat) (x : Str) : Bool := decide (N[i]? = some x) && (decide (sc.names.lookup x = some .local) || decide (sc.names.lookup x = some .cell))
def lcFit (sc : Scope) (x : Str) (p : Pos) (v : Expr) (e : Ex) : Bool := okComp v && (!lcOne sc x p v || isLc e)
section
variable (T : Tab) (N : List Str)
def chkP (sc : Scope) : Exs → List Bool → List Expr → Bool
  | .nil, [], [] => true
  | .cons a r, o :: os, v :: vs => chkE T N sc a v && (!o || (isF a || isK a)) && chkP sc r os vs
  | _, _, _ => false
def parC (sc : Scope) (is : List Nat) (tg v : Expr) : Bool := match tg, is with
  | .Tuple [.Name x _, .Name y _] _ _, [i, j] => decide (0 ∉ [i, j]) && decide (N[i]? = some x) && decide (N[j]? = some y) && decide (i ≠ j) && decide (sc.names.lookup x = some .local) && decide (sc.names.lookup y = some .local) && decide (swapC sc tg v = some (some [x, y]))
  | .Tuple [.Name x _, .Name y _, .Name z _] _ _, [i, j, l] => decide (0 ∉ [i, j, l]) && decide (N[i]? = some x) && decide (N[j]? = some y) && decide (N[l]? = some z) && decide (i ≠ j) && decide (i ≠ l) && decide (j ≠ l) && decide (sc.names.lookup x = some .local) && decide (sc.names.lookup y = some .local) && decide (sc.names.lookup z = some .local) && decide (swapC sc tg v = some (some [x, y, z]))
  | _, _ => false
mutual
def chkS (sc : Scope) : Sm → Stmt → Bool
  | .set i e, s => match s with
    | .Assign [.Name x p] v _ => nameSt N sc i x && chkE T N sc e v && lcFit sc x p v e
    | _ => false
  | .own i e, s => match s with
    | .Assign [.Name x p] v _ => nameSt N sc i x && chkE T N sc e v && lcFit sc x p v e && isF e && decide (i ≠ 0)
    | _ => false
  | .mov i j, s => match s with
    | .Assign [.Name x _] (.Name y _) _ => nameSt N sc i x && nameOk N sc j y && decide (j ≠ 0)
    | _ => false
  | .unp is e, s => match s with
    | .Assign [tg] v _ => tupT tg && tgOk N sc false is tg && chkE T N sc e v && noComp v && decide (swapC sc tg v = some none)
    | _ => false
  | .par is es os, s => match s with
    | .Assign [tg] (.Tuple vs k p) _ => parC N sc is tg (.Tuple vs k p) && chkP T N sc es os vs
    | _ => false
  | .augI i e, s => match s with
    | .AugAssign (.Name x _) .Add v _ => nameSt N sc i x && chkE T N sc e v
    | _ => false
  | .augL i e, s => match s with
    | .AugAssign (.Name x _) .Add v _ => nameSt N sc i x && chkE T N sc e v && isF e
    | _ => false
  | .app i e, s => match s with
    | .Expr (.Call (.Attribute (.Name x _) m apos) [v] [] cpos) _ => decide (m = "append") && nameOk N sc i x && chkE T N sc e v && apos.endLine == cpos.line
    | _ => false
  | .put i k e, s => match s with
    | .Assign [.Subscript (.Name x _) kx _] v _ => nameOk N sc i x && chkE T N sc k kx && chkE T N sc e v && plainIx kx && noComp v
    | _ => false
  | .exp e, s => match s with
    | .Expr v _ => chkE T N sc e v && noComp v
    | _ => false
  | .ife c a b, s => match s with
    | .If v x y _ => chkC T N sc c v && chkSs sc a x && chkSs sc b y
    | _ => false
  | .fo w one tg b, s => match s with
    | .For tgx it x [] _ => chkW T N sc w tgx it && tgOk N sc one tg tgx && notSet it && chkSs sc b x
    | _ => false
  | .whl c b, s => match s with
    | .While v x [] _ => chkE T N sc c v && chkSs sc b x
    | _ => false
  | .ret e, s => match s with
    | .Return (some v) _ => chkE T N sc e v
    | _ => false
  | .retF e, s => match s with
    | .Return (some v) _ => chkE T N sc e v && isF e
    | _ => false
  | .retO i, s => match s with
    | .Return (some (.Name x _)) _ => nameOk N sc i x && decide (i ≠ 0)
    | _ => false
  | .retN, s => match s with
    | .Return none _ => true
    | _ => false
  | .brk, s => match s with
    | .Break _ => true
    | _ => false
  | .cont, s => match s with
    | .Continue _ => true
    | _ => false
  | .pass, s => match s with
    | .Pass _ => true
    | _ => false
  | .nev, _ => true
  | .rai c, s => match s with
    | .Raise (some (.Call (.Name x _) [.Constant (.str _) _ _] [] _)) none _ => decide (c < 9) && decide (exNames[c]? = some x) && decide (x ∈ T.ex) && isGl sc x
    | _ => false
  | .raiN .., s => false
  | .parT is es os, s => match s with
    | .Assign [tg] (.Tuple vs k p) _ => tupT tg && tgOk N sc false is tg && decide (0 ∉ is) && chkP T N sc es os vs && decide (swapC sc tg (.Tuple vs k p) = some none)
    | _ => false
  | .ownD i e, s => match s with
    | .Assign [.Name x p] v _ => nameSt N sc i x && chkE T N sc e v && isK e && noComp v && decide (i ≠ 0)
    | _ => false
  | .putD i k e, s => match s with
    | .Assign [.Subscript (.Name x _) kx _] v _ => nameOk N sc i x && chkE T N sc k kx && chkE T N sc e v && plainIx kx
    | _ => false
  | .putDS i k j es, s => match s with
    | .Assign [.Tuple [.Subscript (.Name x p0) kx p1, .Name y p2] k1 p3] (.Tuple [a, b] k2 p4) _ => nameOk N sc i x && chkE T N sc k kx && chkA T N sc es [a, b] && plainIx kx && nameSt N sc j y && decide (swapC sc (.Tuple [.Subscript (.Name x p0) kx p1, .Name y p2] k1 p3) (.Tuple [a, b] k2 p4) = some none)
    | _ => false
  | .retD i, s => match s with
    | .Return (some (.Name x _)) _ => nameOk N sc i x && decide (i ≠ 0)
    | _ => false
def chkSs (sc : Scope) : Sms → List Stmt → Bool
  | .nil, l => l.isEmpty
  | .cons s r, l => match l with
    | t :: l => chkS sc s t && chkSs sc r l
    | [] => false
  | .shut i r, l => decide (i ≠ 0) && chkSs sc r l
  | .shutD i r, l => decide (i ≠ 0) && chkSs sc r l
end
end
structure Oks (T : Tab) (F : Nat → List D → Option CR) (N : List Str) (sc : Scope) (X : Cx) (C : Cc) : Prop extends Okx T F N sc X where
  scq : X.env.scope = sc
  knd : sc.kind = .function
  pass : PassesOwn (model X.prog X.w) X.A X.env X.xe
  try' : T.tri = true → TriAt T F N X C
section
variable {T : Tab} {F : Nat → List D → Option CR} {N : List Str} {sc : Scope} {X : Cx} {C : Cc}
theorem Okx.nameSt (O : Okx T F N sc X) {i : Nat} {x : Str} (h : nameSt N sc i x = true) : X.N[i]? = some x ∧ Loc X.env.scope x ∧ (X.fn x = true ∨ X.env.scope.names.lookup x = some .local) := by
  unfold Pv.nameSt at h
  simp only [Bool.and_eq_true, Bool.or_eq_true, decide_eq_true_eq] at h
  obtain ⟨l1, l2⟩ := O.stor x h.2
  exact ⟨by rw [O.hN]; exact h.1, l1, l2⟩
theorem Okx.nd2 (O : Okx T F N sc X) : X.N.Nodup := by rw [O.hN]; exact O.nd
theorem Okx.un1 (O : Okx T F N sc X) : X.A.units + 200 < cLine := O.un
theorem sdF : ∀ (ir : Ex) {e : Expr}, Okx T F N sc X → isF ir = true → chkE T N sc ir e = true → OkF X C e (denF (T.gs.map (·.2)) F ir) := fun ir {e} O hf h => by
  unfold isF at hf
  split at hf
  · rename_i es
    unfold chkE at h
    split at h
    · exact okF_lst (sdA es O h)
    · cases h
  · rename_i w tg one own c el
    unfold chkE at h
    split at h
    · rename_i elt tgx iter ifs as scope pos
      simp only [Bool.and_eq_true, decide_eq_true_eq] at h
      obtain ⟨⟨⟨⟨⟨⟨⟨⟨h0, h1⟩, h2⟩, h3⟩, h4⟩, h5⟩, h6⟩, h7⟩, h8⟩ := h
      subst h0
      have k := okF_lc (X := X) (C := C) (pos := pos) O.calm O.nd2 (O.blkOk h2) (sdW w O h1) (fun s H Ca cl fp C' => O.blk.tg h4) (fun s H Ca cl fp C' => sdI c O.blk h6) (fun s H Ca cl fp C' => (sdE el O.blk h7).1) (ownNames_sub h3 h5) (notSet_ok h8)
      rw [h3] at k
      exact k
    · cases h
  · rename_i a b
    unfold chkE at h
    split at h
    · rw [Bool.and_eq_true, Bool.and_eq_true, decide_eq_true_eq] at h
      obtain ⟨⟨h0, h1⟩, h2⟩ := h
      subst h0
      exact okF_cat (sdE a O h1).1 (sdE b O h2).1
    · cases h
  · rename_i a
    unfold chkE at h
    split at h
    · rename_i x p y l pos
      simp only [Bool.and_eq_true, decide_eq_true_eq] at h
      obtain ⟨⟨h1, h2⟩, h3⟩ := h
      obtain ⟨b1, b2, b3, b4, b5⟩ := O.blx h1
      have b1 : x = ("list" : Str) := b1
      subst b1
      unfold chkA at h3
      simp only [Bool.and_eq_true] at h3
      have h4 := h3.2
      unfold chkA at h4
      have hl : l = [] := List.isEmpty_iff.mp h4
      subst hl
      exact okF_list b2 b3 (sdE a O h3.1).1 (chkE_star h3.1)
    · cases h
  · rename_i f es
    unfold chkE at h
    split at h
    · rename_i x p l pos
      simp only [Bool.and_eq_true, decide_eq_true_eq] at h
      obtain ⟨⟨⟨h1, hx⟩, h2⟩, h3⟩ := h
      obtain ⟨g1, g2, g3⟩ := O.glx h2
      have hd := O.fu f x false l.length h1 hx
      rw [if_neg Bool.false_ne_true] at hd
      have he := sdA (C := C) es O h3
      have hs := chkA_star h3
      cases l with
      | nil =>
        have k := okF_call0 (C := C) (p := p) (pos := pos) hd g1 g2
        refine fun st ds st' q => k st ds st' ?_
        unfold denF at q
        obtain ⟨⟨r, s1⟩, e1, q⟩ := bind_some q
        have e2 := chkA_len h3 e1
        have e2 : r = [] := List.length_eq_zero_iff.mp e2
        subst e2
        cases es with
        | nil => unfold dens at e1; cases e1; exact q
        | cons a r => unfold chkA at h3; cases h3
      | cons a l =>
        have k := okF_call (C := C) (p := p) (pos := pos) (es := l) hd g1 g2 he hs (fun st r q => chkA_len h3 q)
        exact k
    · cases h
  · cases hf
theorem sdK (ir : Ex) {e : Expr} (O : Okx T F N sc X) (hf : isK ir = true) (h : chkE T N sc ir e = true) : OkK X C e (denK (T.gs.map (·.2)) F ir) := by
  unfold isK at hf
  split at hf
  · unfold chkE at h
    split at h
    · exact okK_new
    · cases h
  · unfold chkE at h
    split at h
    · rw [Bool.and_eq_true] at h
      have hu := O.un
      exact okK_one O.hw (by omega) (fun C => (sdE _ O h.1).1) (fun C => (sdE _ O h.2).1)
    · cases h
  · cases hf
theorem tVF_of_tV {K : W.Frag} {st st' : SS} {ds : List D} {σ : L2.St} {H : Hp} {Q : VK} : tV K C st st' (.list ds) σ H Q → tVF K C st st' ds σ H Q := fun ⟨G, ws, S, q⟩ => ⟨G, ws, S, fun p vs H2 S2 hp hl hv r =>
  q _ H2 (S2.drop (by omega)) (.lst (.inl (.inl ((hide_out (new_seen S2 hp)).trans hv))) (r.le vis_drop))⟩
theorem lc_one (O : Oks T F N sc X C) {w : Wk} {tg own : List Nat} {one : Bool} {c : Exo} {el : Ex} {v : Expr} {x : Str} {p pos : Pos} {i : Nat} {st st' : SS} {ds : List D} (h : chkE T N sc (.lc w tg one own c el) v = true) (hx : lcOne sc x p v = true) (hi : X.N[i]? = some x)
    (e : mLc (denw (T.gs.map (·.2)) F w) tg one own (dent (T.gs.map (·.2)) F c) (den (T.gs.map (·.2)) F el) st = some (ds, st')) :
    ∃ te, PS X (.Assign [.Name x p] v pos) (tAsg te (gName i)) ∧ ∀ σ H Q, tVF X.K C st st' ds σ H Q → te σ H Q := by
  unfold chkE at h
  split at h
  · rename_i elt tgx iter ifs as scope vpos
    simp only [Bool.and_eq_true, decide_eq_true_eq] at h
    obtain ⟨⟨⟨⟨⟨⟨⟨⟨h0, h1⟩, h2⟩, h3⟩, h4⟩, h5⟩, h6⟩, h7⟩, h8⟩ := h
    subst h0
    have hsw : swapsWith (.ListComp elt [⟨tgx, iter, ifs, 0⟩] scope vpos) (some (.Name x p)) pos.line X.env = pure true := by rw [lcOne_ok rfl O.scq O.knd, hx]
    have hl : X.env.scope.names.lookup x = some .local := by
      rw [O.scq]
      unfold lcOne at hx
      simp only [Bool.and_eq_true, beq_iff_eq] at hx
      exact hx.1.1.2
    have k := setLc (X := X) (C := C) (i := i) (y := x) (py := p) (spos := pos) (pos := vpos) O.calm O.nd2 hi hl hsw (O.blkOk h2) (sdW w O.toOkx h1) (fun s H Ca cl fp C' => O.blk.tg h4) (fun s H Ca cl fp C' => sdI c O.blk h6) (fun s H Ca cl fp C' => (sdE el O.blk h7).1) (ownNames_sub h3 h5) (notSet_ok h8) (st := st) (st' := st') (ds := ds)
    rw [h3] at k
    exact k e
  · cases h
theorem lcFit_or {x : Str} {p : Pos} {v : Expr} {e : Ex} (h : lcFit sc x p v e = true) : okComp v = true ∧ (lcOne sc x p v = false ∨ (lcOne sc x p v = true ∧ isLc e = true)) := by
  unfold lcFit at h
  rw [Bool.and_eq_true, Bool.or_eq_true] at h
  refine ⟨h.1, ?_⟩
  cases q : lcOne sc x p v with
  | false => exact .inl rfl
  | true =>
    rw [q] at h
    exact .inr ⟨rfl, h.2.resolve_left (by decide)⟩
theorem isLc_eq {e : Ex} (h : isLc e = true) : ∃ w tg one own c el, e = .lc w tg one own c el := by
  cases e <;> first | exact ⟨_, _, _, _, _, _, rfl⟩ | cases h
theorem sdP : ∀ (es : Exs) {os : List Bool} {vs : List Expr}, Okx T F N sc X → chkP T N sc es os vs = true → OkPa X vs (denP (T.gs.map (·.2)) F es os)
  | .nil, [], [], O, h => okPa_nil
  | .nil, [], _ :: _, O, h => by cases h
  | .nil, _ :: _, _, O, h => by cases h
  | .cons _ _, [], _, O, h => by cases h
  | .cons _ _, _ :: _, [], O, h => by cases h
  | .cons a r, false :: os, v :: vs, O, h => by
    unfold chkP at h
    simp only [Bool.and_eq_true] at h
    exact okPa_v (fun C => (sdE a O h.1.1).1) (sdP r O h.2) (chkE_star h.1.1)
  | .cons a r, true :: os, v :: vs, O, h => by
    unfold chkP at h
    simp only [Bool.and_eq_true, Bool.not_true, Bool.false_or] at h
    intro C st ss st' q
    unfold denP at q
    split at q
    · rename_i c
      exact okPa_dic (fun C => sdK a O c h.1.1) (sdP r O h.2) (chkE_star h.1.1) C st ss st' q
    · rename_i c
      have hf : isF a = true := by
        have := h.1.2
        rw [Bool.or_eq_true] at this
        exact this.resolve_right c
      exact okPa_own (fun C => sdF a O hf h.1.1) (sdP r O h.2) (chkE_star h.1.1) C st ss st' q
theorem swaps_sub {v a b : Expr} {p : Pos} {l : Nat} {env : Env} : swapsWith v (some (.Subscript a b p)) l env = pure false := by
  cases v <;> rfl
theorem bind_tm {m : SS → Option (D × SS)} : (fun st => (m st).bind boolOf) = tm m := rfl
mutual
theorem sdS : ∀ (ir : Sm) {s : Stmt}, Oks T F N sc X C → chkS T N sc ir s = true → OkS X C s (exS (T.gs.map (·.2)) F ir)
  | .set i e, s, O, h => by
    unfold chkS at h
    split at h
    · rename_i x p v pos
      simp only [Bool.and_eq_true] at h
      obtain ⟨⟨h1, h2⟩, h3⟩ := h
      obtain ⟨n1, n2, n3⟩ := O.nameSt h1
      obtain ⟨k1, k2⟩ := lcFit_or h3
      rcases k2 with k2 | ⟨k2, k3⟩
      · exact okS_set O.nd2 n1 n2 n3 (sdE e O.toOkx h2).1 (by rw [lcOne_ok k1 O.scq O.knd, k2])
      · obtain ⟨w, tg, one, own, c, el, rfl⟩ := isLc_eq k3
        refine fun st f q => ?_
        unfold exS at q
        obtain ⟨⟨d, s1⟩, e1, q⟩ := bind_some q
        obtain ⟨s2, e2, q⟩ := map_some q
        subst q
        obtain ⟨ds, rfl, e3⟩ := den_lc e1
        obtain ⟨te, k4, k5⟩ := lc_one (C := C) (pos := pos) O h2 k2 n1 e3
        exact setV_of e2 (fun σ H Q z => k5 σ H Q (tVF_of_tV z)) k4
    · cases h
  | .own i e, s, O, h => by
    unfold chkS at h
    split at h
    · rename_i x p v pos
      simp only [Bool.and_eq_true] at h
      obtain ⟨⟨⟨⟨h1, h2⟩, h3⟩, h4⟩, h5⟩ := h
      have h5 : i ≠ 0 := of_decide_eq_true h5
      obtain ⟨n1, n2, n3⟩ := O.nameSt h1
      obtain ⟨k1, k2⟩ := lcFit_or h3
      rcases k2 with k2 | ⟨k2, k3⟩
      · exact okS_own h5 O.nd2 n1 n2 n3 (sdF e O.toOkx h4 h2) (by rw [lcOne_ok k1 O.scq O.knd, k2])
      · obtain ⟨w, tg, one, own, c, el, rfl⟩ := isLc_eq k3
        refine fun st f q => ?_
        unfold exS at q
        obtain ⟨⟨d, s1⟩, e1, q⟩ := bind_some q
        split at q
        · rename_i hl
          cases q
          obtain ⟨te, k4, k5⟩ := lc_one (C := C) (pos := pos) O h2 k2 n1 e1
          exact own_of h5 hl k5 k4
        · cases q
    · cases h
  | .mov i j, s, O, h => by
    unfold chkS at h
    split at h
    · rename_i x p y py pos
      simp only [Bool.and_eq_true, decide_eq_true_eq] at h
      obtain ⟨⟨h1, h2⟩, h3⟩ := h
      obtain ⟨n1, n2, n3⟩ := O.nameSt h1
      exact okS_mov O.nd2 n1 n2 n3 (O.vis h2) rfl h3
    · cases h
  | .unp is e, s, O, h => by
    unfold chkS at h
    split at h
    · rename_i tg v pos
      simp only [Bool.and_eq_true, decide_eq_true_eq] at h
      obtain ⟨⟨⟨⟨h0, h1⟩, h2⟩, h3⟩, h4⟩ := h
      refine okS_unp (sdE e O.toOkx h2).1 (O.tg h1) (noComp_ok h3) (swapC_ok O.scq O.knd h0 h4) ?_
      cases tg with
      | Tuple ts k p => rfl
      | _ => cases h0
    · cases h
  | .par is es os, s, O, h => by
    unfold chkS at h
    split at h
    · rename_i tg vs k p pos
      rw [Bool.and_eq_true] at h
      obtain ⟨h1, h2⟩ := h
      have kp := sdP es O.toOkx h2
      unfold parC at h1
      split at h1
      · rename_i x px y py kt pt i j
        simp only [Bool.and_eq_true, decide_eq_true_eq] at h1
        obtain ⟨⟨⟨⟨⟨⟨n0, n1⟩, n2⟩, n3⟩, n4⟩, n5⟩, n6⟩ := h1
        have n7 := swapC_ok (env := X.env) O.scq O.knd rfl n6
        have hv : ∃ a b, vs = [a, b] := by
          unfold swapC at n6
          dsimp only at n6
          split at n6
          · cases n6
          · rename_i c
            match vs, c with
            | [a, b], _ => exact ⟨a, b, rfl⟩
            | [], c => exact absurd rfl c
            | [_], c => exact absurd rfl c
            | _ :: _ :: _ :: _, c => exact absurd (by simp) c
        obtain ⟨a, b, rfl⟩ := hv
        exact okS_par2 O.calm O.nd2 (by rw [O.hN]; exact n1) (by rw [O.hN]; exact n2) n3 n0 (by rw [O.scq]; exact n4) (by rw [O.scq]; exact n5) kp n7
      · rename_i x px y py z pz kt pt i j l
        simp only [Bool.and_eq_true, decide_eq_true_eq] at h1
        obtain ⟨⟨⟨⟨⟨⟨⟨⟨⟨⟨n0, n1⟩, n2⟩, n3⟩, n4⟩, n5⟩, n6⟩, n7⟩, n8⟩, n9⟩, n10⟩ := h1
        have n11 := swapC_ok (env := X.env) O.scq O.knd rfl n10
        have hv : ∃ a b c, vs = [a, b, c] := by
          unfold swapC at n10
          dsimp only at n10
          split at n10
          · cases n10
          · rename_i c
            match vs, c with
            | [a, b, d], _ => exact ⟨a, b, d, rfl⟩
            | [], c => exact absurd rfl c
            | [_], c => exact absurd rfl c
            | [_, _], c => exact absurd rfl c
            | _ :: _ :: _ :: _ :: _, c => exact absurd (by simp) c
        obtain ⟨a, b, c, rfl⟩ := hv
        exact okS_par3 O.calm O.nd2 (by rw [O.hN]; exact n1) (by rw [O.hN]; exact n2) (by rw [O.hN]; exact n3) n4 n5 n6 n0 (by rw [O.scq]; exact n7) (by rw [O.scq]; exact n8) (by rw [O.scq]; exact n9) kp n11
      · cases h1
    · cases h
  | .augI i e, s, O, h => by
    unfold chkS at h
    split at h
    · rw [Bool.and_eq_true] at h
      obtain ⟨n1, n2, n3⟩ := O.nameSt h.1
      exact okS_augI O.nd2 n1 n2 n3 (sdE e O.toOkx h.2).1
    · cases h
  | .augL i e, s, O, h => by
    unfold chkS at h
    split at h
    · simp only [Bool.and_eq_true] at h
      obtain ⟨n1, n2, n3⟩ := O.nameSt h.1.1
      exact okS_augL O.nd2 n1 n2 n3 (sdF e O.toOkx h.2 h.1.2)
    · cases h
  | .app i e, s, O, h => by
    unfold chkS at h
    split at h
    · rename_i x p m apos v cpos pos
      simp only [Bool.and_eq_true, decide_eq_true_eq] at h
      obtain ⟨⟨⟨h1, h2⟩, h3⟩, h4⟩ := h
      subst h1
      exact okS_app (O.vis h2) (sdE e O.toOkx h3).1 rfl h4 (chkE_star h3)
    · cases h
  | .put i k e, s, O, h => by
    unfold chkS at h
    split at h
    · rename_i x p kx tpos v pos
      simp only [Bool.and_eq_true] at h
      obtain ⟨⟨⟨⟨h1, h2⟩, h3⟩, h4⟩, h5⟩ := h
      exact okS_put h4 (O.vis h1) (sdE k O.toOkx h2).1 (sdE e O.toOkx h3).1 (by unfold swapsWithSole; exact noComp_ok h5) (by cases v <;> rfl)
    · cases h
  | .exp e, s, O, h => by
    unfold chkS at h
    split at h
    · rw [Bool.and_eq_true] at h
      exact okS_exp (sdE e O.toOkx h.1).1 (noComp_ok h.2)
    · cases h
  | .ife c a b, s, O, h => by
    unfold chkS at h
    split at h
    · simp only [Bool.and_eq_true] at h
      obtain ⟨⟨h1, h2⟩, h3⟩ := h
      exact okS_ife (sdC O.toOkx O.scq O.try' h1) (sdSs a O h2) (sdSs b O h3)
    · cases h
  | .fo w one tg b, s, O, h => by
    unfold chkS at h
    split at h
    · simp only [Bool.and_eq_true] at h
      obtain ⟨⟨⟨h1, h2⟩, h3⟩, h4⟩ := h
      exact okS_fo O.pass O.calm (sdW w O.toOkx h1) (fun C => O.tg h2) (sdSs b O h4) (notSet_ok h3)
    · cases h
  | .whl c b, s, O, h => by
    unfold chkS at h
    split at h
    · rw [Bool.and_eq_true] at h
      exact okS_whl O.pass (fun C => (sdE c O.toOkx h.1).2.1) (sdSs b O h.2)
    · cases h
  | .ret e, s, O, h => by
    unfold chkS at h
    split at h
    · exact okS_ret (sdE e O.toOkx h).1
    · cases h
  | .retF e, s, O, h => by
    unfold chkS at h
    split at h
    · rw [Bool.and_eq_true] at h
      exact okS_retF (sdF e O.toOkx h.2 h.1)
    · cases h
  | .retO i, s, O, h => by
    unfold chkS at h
    split at h
    · rw [Bool.and_eq_true, decide_eq_true_eq] at h
      exact okS_retO (O.vis h.1) h.2
    · cases h
  | .retN, s, O, h => by
    unfold chkS at h
    split at h
    · exact okS_retN
    · cases h
  | .brk, s, O, h => by
    unfold chkS at h
    split at h
    · exact okS_brk
    · cases h
  | .cont, s, O, h => by
    unfold chkS at h
    split at h
    · exact okS_cont
    · cases h
  | .pass, s, O, h => by
    unfold chkS at h
    split at h
    · exact okS_pass
    · cases h
  | .nev, s, O, h => fun st f q => by cases q
  | .rai c, s, O, h => fun st f q => by cases q
  | .raiN c e, s, O, h => fun st f q => by cases q
  | .parT is es os, s, O, h => by
    unfold chkS at h
    split at h
    · rename_i tg vs k p pos
      simp only [Bool.and_eq_true, decide_eq_true_eq] at h
      obtain ⟨⟨⟨⟨h0, h1⟩, h2⟩, h3⟩, h4⟩ := h
      cases tg with
      | Tuple ts k3 p3 =>
        have h1 : (ts.all (storable sc) && NamesAt N is ts) = true := h1
        rw [Bool.and_eq_true] at h1
        exact okS_parT (pg_raw (sc := sc) O.calm (by rw [O.hN]; exact O.nd) O.stor (by rw [O.hN]; exact h1.2) (storable_eq h1.1)) (sdP es O.toOkx h3) h2 (by unfold swapsWithSole; exact noComp_ok rfl) (swapC_ok O.scq O.knd rfl h4) rfl
      | _ => cases h0
    · cases h
  | .ownD i e, s, O, h => by
    unfold chkS at h
    split at h
    · rename_i x p v pos
      simp only [Bool.and_eq_true] at h
      obtain ⟨⟨⟨⟨h1, h2⟩, h3⟩, h4⟩, h5⟩ := h
      have h5 : i ≠ 0 := of_decide_eq_true h5
      obtain ⟨n1, n2, n3⟩ := O.nameSt h1
      exact okS_ownD h5 O.nd2 n1 n2 n3 (sdK e O.toOkx h3 h2) (noComp_ok h4)
    · cases h
  | .putD i k e, s, O, h => by
    unfold chkS at h
    split at h
    · rename_i x p kx tpos v pos
      simp only [Bool.and_eq_true] at h
      obtain ⟨⟨⟨h1, h2⟩, h3⟩, h4⟩ := h
      have hu := O.un
      exact okS_putD O.hw (by omega) h4 (O.vis h1) (sdE k O.toOkx h2).1 (sdE e O.toOkx h3).1 (by unfold swapsWithSole; exact swaps_sub) (by cases v <;> rfl)
    · cases h
  | .putDS i k j es, s, O, h => by
    unfold chkS at h
    split at h
    · simp only [Bool.and_eq_true, decide_eq_true_eq] at h
      obtain ⟨⟨⟨⟨⟨h1, h2⟩, h3⟩, h4⟩, h5⟩, h6⟩ := h
      have hu := O.un
      obtain ⟨n1, n2, n3⟩ := O.toOkx.nameSt h5
      exact okS_putDS O.calm O.nd2 n1 n2 n3 O.hw (by omega) h4 (O.vis h1) (sdE k O.toOkx h2).1 (sdA es O.toOkx h3) (swapC_ok O.scq O.knd rfl h6)
    · cases h
  | .retD i, s, O, h => by
    unfold chkS at h
    split at h
    · rw [Bool.and_eq_true, decide_eq_true_eq] at h
      exact okS_retD (O.vis h.1) h.2
    · cases h
theorem sdSs : ∀ (ir : Sms) {l : List Stmt}, Oks T F N sc X C → chkSs T N sc ir l = true → OkSs X C l (exSs (T.gs.map (·.2)) F ir)
  | .nil, l, O, h => by
    unfold chkSs at h
    have hl : l = [] := List.isEmpty_iff.mp h
    subst hl
    exact okSs_nil
  | .cons s r, l, O, h => by
    unfold chkSs at h
    split at h
    · rw [Bool.and_eq_true] at h
      exact okSs_cons (sdS s O h.1) (sdSs r O h.2)
    · cases h
  | .shut i r, l, O, h => by
    unfold chkSs at h
    rw [Bool.and_eq_true, decide_eq_true_eq] at h
    exact okSs_seal h.1 (sdSs r O h.2)
  | .shutD i r, l, O, h => by
    unfold chkSs at h
    rw [Bool.and_eq_true, decide_eq_true_eq] at h
    exact okSs_shutD h.1 (sdSs r O h.2)
end
end
end Pv

/-! Errors: what erS tells is raised. -/
namespace Pv
open PySem L2
variable [HashW]
/-- what is wanted of an error, at the slots as they stand -/
def tX (K : W.Frag) (C : Cc) (st : SS) (x : Nat × Option Int) (Wx : WX) (σ : L2.St) (H : Hp) : Prop := ∃ G ws, SI K C G ws st σ H ∧ ∀ G' ws' st' H', SI K C G' ws' st' σ H' → EOut x.1 x.2 (WE Wx σ) H'
def tXS (K : W.Frag) (C : Cc) (st : SS) (x : Nat × Option Int) (Wx : WX) (σ : L2.St) (H : Hp) : Prop := ∃ G ws, SI K C G ws st σ H ∧ Kn C ws ∧ ∀ G' ws' st' σ' H', SI K C G' ws' st' σ' H' → EOut x.1 x.2 (WE Wx σ') H'
def ErE (X : Cx) (Wx : WX) (C : Cc) (e : Expr) (m : SS → Option (Nat × Option Int)) : Prop := ∀ st x, m st = some x → PE X e (fun σ H _ => tX X.K C st x Wx σ H)
def ErS (X : Cx) (Wx : WX) (C : Cc) (s : Stmt) (m : SS → Option (Nat × Option Int)) : Prop := ∀ st x, m st = some x → PS X s (fun _ σ H => tXS X.K C st x Wx σ H)
def ErSs (X : Cx) (Wx : WX) (C : Cc) (s : List Stmt) (m : SS → Option (Nat × Option Int)) : Prop := ∀ st x, m st = some x → PSs X s (fun _ σ H => tXS X.K C st x Wx σ H)
theorem tXS.x {K : W.Frag} {C : Cc} {st : SS} {x : Nat × Option Int} {Wx : WX} {σ : L2.St} {H : Hp} : tXS K C st x Wx σ H → tX K C st x Wx σ H := fun ⟨G, ws, S, _, q⟩ => ⟨G, ws, S, fun G' ws' st' H' S' => q G' ws' st' σ H' S'⟩
section
variable {T : Tab} {F : Nat → List D → Option CR} {N : List Str} {sc : Scope} {X : Cx} {C : Cc} {Wx : WX}
theorem erE_call {a : Expr} {es : List Expr} {x : Str} {R : List D → Option CR} {m : SS → Option (List D × SS)} {p pos : Pos} (tk : L2N.Takes X Wx) (F : DefAt X x (spF X.K (es.length + 1) R)) (hg : Gl X x) (hdb : (x == ("__debug__" : Str)) = false) (h : OkA X C (a :: es) m) (hs : (a :: es).all noStar = true) (hlen : ∀ st r, m st = some r → r.1.length = es.length + 1) :
    ErE X Wx C (.Call (.Name x p) (a :: es) [] pos) fun st => (m st).bind fun r => match R r.1 with
      | some (.err c m) => some (c, m)
      | _ => none := fun st y e => by
  obtain ⟨⟨ds, s1⟩, e1, e⟩ := bind_some e
  obtain ⟨k, f, fd, ps, hm, hk, hb, hr, F⟩ := F.ex
  have hs2 := hs
  rw [List.all_cons, Bool.and_eq_true] at hs2
  refine (pe_callS F hr hg hm hk hb (fun σ => L2N.passAt tk σ) (h _ _ _ e1) hdb (nostar_cons (noStar_ne hs2.1)) (plain_args hs2.2)).weak fun σ H Q ⟨G, ws, S, q⟩ => ?_
  split at e
  · rename_i c n hR
    cases e
    refine ⟨G, ws, S, fun xs H1 S1 r1 => ?_⟩
    refine ⟨by rw [r1.length]; exact hlen _ _ e1, C.M ws, ds, S1.trk, r1, .inr ⟨c, n, hR, fun H2 f => q _ _ _ _ (S1.ex f)⟩⟩
  · cases e
theorem sdErE (tk : L2N.Takes X Wx) : ∀ (ir : Ex) {e : Expr}, Okx T F N sc X → chkE T N sc ir e = true → ErE X Wx C e (erE (T.gs.map (·.2)) F ir) := fun ir {e} O h => by
  cases ir with
  | call f es =>
    unfold chkE at h
    split at h
    · rename_i x p l pos
      rw [Bool.and_eq_true, Bool.and_eq_true, Bool.and_eq_true, decide_eq_true_eq, decide_eq_true_eq] at h
      obtain ⟨⟨⟨h0, hx⟩, h1⟩, h2⟩ := h
      obtain ⟨g1, g2, g3⟩ := O.glx h1
      have D0 : DefAt X x (spF X.K l.length (F f)) := O.fu f x false l.length h0 hx
      cases l with
      | nil =>
        cases es with
        | nil => exact fun st y q => by cases q
        | cons _ _ => unfold chkA at h2; cases h2
      | cons y l =>
        cases es with
        | nil => exact fun st y q => by cases q
        | cons _ _ => exact erE_call tk D0 g1 g2 (sdA _ O h2) (chkA_star h2) fun st r q => chkA_len h2 q
    · cases h
  | _ => exact fun st x q => by cases q
theorem erS_rai {c : Nat} {x msg : Str} {j : Nat} {p p2 p3 pos : Pos} (tk : L2N.Takes X Wx) (hc : X.calm = true) (E : ExAt X.K X.mg c x) (hg : Gl X x) (hdb : (x == ("__debug__" : Str)) = false) : ErS X Wx C (.Raise (some (.Call (.Name x p) [.Constant (.str msg) j p2] [] p3)) none pos) fun _ => some (c, none) := fun st y e => by
  cases e
  obtain ⟨A, gC, eC, kC, xC, bC, tC⟩ := E
  refine PS_weak (L2N.ps_raise hc tk (L2N.pmk_own PySem.F.excBase_ValueError xC gC kC (raises_own bC tC) hg hdb)) fun D σ H ⟨G, ws, S, kn, q⟩ => ?_
  have := q _ _ _ _ _ S
  have this : Wx (HashW.xc c) none σ H := this
  rw [eC] at this
  exact this
theorem seal_si {K : W.Frag} {i : Nat} {st : SS} {ds : List D} {G H : Hp} {ws : Ws} {σ : L2.St} (h0 : i ≠ 0) (e1 : getO st i = some ds) (S : SI K C G ws st σ H) (kn : Kn C ws) : ∃ ws', SI K C G ws' (st.set i (.v (.list ds))) σ H ∧ Kn C ws' := by
  obtain ⟨a, o, S2, r2, _, _⟩ := S.unown (getO_some e1) (fun b hb z => h0 ((kn _ hb).1 z))
  refine ⟨without ws a, ?_, kn.sub fun q hq => (mem_without.mp hq).1⟩
  have hil : i < st.length := (List.getElem?_eq_some_iff.mp (getO_some e1)).1
  have e3 : setV (st.set i .no) i (.list ds) = some (st.set i (.v (.list ds))) := by
    unfold setV
    rw [if_pos (by rw [List.length_set]; exact hil), List.set_set]
  have S3 := S2.setV e3 r2
  have hσ : σ.set i (some (V.ref a)) = σ := by
    apply List.ext_getElem?
    intro j
    by_cases e : i = j
    · subst e
      rw [List.getElem?_set_self (by rw [← S.len]; exact hil), o]
    · rw [List.getElem?_set_ne e]
  rw [hσ] at S3
  exact S3
theorem sealD_si {K : W.Frag} {i : Nat} {st : SS} {kvs : List (D × D)} {G H : Hp} {ws : Ws} {σ : L2.St} (h0 : i ≠ 0) (e1 : getK st i = some kvs) (S : SI K C G ws st σ H) (kn : Kn C ws) : ∃ ws', SI K C G ws' (st.set i (.v (.dict kvs))) σ H ∧ Kn C ws' := by
  obtain ⟨a, o, S2, r2⟩ := S.unownD (getK_some e1) (fun b hb z => h0 ((kn _ hb).1 z))
  refine ⟨without ws a, ?_, kn.sub fun q hq => (mem_without.mp hq).1⟩
  have hil : i < st.length := (List.getElem?_eq_some_iff.mp (getK_some e1)).1
  have e3 : setV (st.set i .no) i (.dict kvs) = some (st.set i (.v (.dict kvs))) := by
    unfold setV
    rw [if_pos (by rw [List.length_set]; exact hil), List.set_set]
  have S3 := S2.setV e3 r2
  have hσ : σ.set i (some (V.ref a)) = σ := by
    apply List.ext_getElem?
    intro j
    by_cases e : i = j
    · subst e
      rw [List.getElem?_set_self (by rw [← S.len]; exact hil), o]
    · rw [List.getElem?_set_ne e]
  rw [hσ] at S3
  exact S3
mutual
theorem sdErS (tk : L2N.Takes X Wx) : ∀ (ir : Sm) {s : Stmt}, Oks T F N sc X C → chkS T N sc ir s = true → ErS X Wx C s (erS (T.gs.map (·.2)) F ir)
  | .exp e, s, O, h => by
    unfold chkS at h
    split at h
    · rw [Bool.and_eq_true] at h
      exact fun st x q => PS_weak (ps_expr (sdErE (C := C) tk e O.toOkx h.1 st x (by unfold erS at q; exact q)) (noComp_ok h.2)) fun D σ H t => t.x
    · cases h
  | .set i e, s, O, h => by
    unfold chkS at h
    split at h
    · rename_i y p v pos
      simp only [Bool.and_eq_true] at h
      obtain ⟨⟨h1, h2⟩, h3⟩ := h
      obtain ⟨n1, n2, n3⟩ := O.nameSt h1
      obtain ⟨k1, k2⟩ := lcFit_or h3
      rcases k2 with k2 | ⟨k2, k3⟩
      · exact fun st x q => PS_weak (ps_set O.nd2 n1 n2 (sdErE (C := C) tk e O.toOkx h2 st x (by unfold erS at q; exact q)) (by rw [lcOne_ok k1 O.scq O.knd, k2]) n3) fun D σ H t => t.x
      · obtain ⟨w, tg, one, own, c, el, rfl⟩ := isLc_eq k3
        exact fun st x q => by unfold erS erE at q; cases q
    · cases h
  | .ret e, s, O, h => by
    unfold chkS at h
    split at h
    · exact fun st x q => PS_weak (ps_ret (sdErE (C := C) tk e O.toOkx h st x (by unfold erS at q; exact q))) fun D σ H t => t.x
    · cases h
  | .ife c a b, s, O, h => by
    unfold chkS at h
    split at h
    · simp only [Bool.and_eq_true] at h
      obtain ⟨⟨h1, h2⟩, h3⟩ := h
      refine fun st x q => ?_
      unfold erS at q
      obtain ⟨⟨k, s1⟩, e1, q⟩ := bind_some q
      have hc := sdC O.toOkx O.scq O.try' h1
      cases k with
      | true =>
        have q : erSs (T.gs.map (·.2)) F a s1 = some x := q
        refine PS_weak (ps_if (hc _ _ _ e1) (sdErSs tk a O h2 _ _ q) (pss_never)) fun D σ H ⟨G, ws, S, kn, q⟩ => ⟨G, ws, S, fun H2 S2 => ?_⟩
        refine iteT ?_
        exact ⟨G, ws, S2, kn, q⟩
      | false =>
        have q : erSs (T.gs.map (·.2)) F b s1 = some x := q
        refine PS_weak (ps_if (hc _ _ _ e1) (pss_never) (sdErSs tk b O h3 _ _ q)) fun D σ H ⟨G, ws, S, kn, q⟩ => ⟨G, ws, S, fun H2 S2 => ?_⟩
        refine iteF ?_
        exact ⟨G, ws, S2, kn, q⟩
    · cases h
  | .rai c, s, O, h => by
    unfold chkS at h
    split at h
    · simp only [Bool.and_eq_true, decide_eq_true_eq] at h
      obtain ⟨⟨⟨_, h1⟩, h2⟩, h3⟩ := h
      obtain ⟨g1, g2, g3⟩ := O.glx h3
      exact fun st x q => erS_rai tk O.calm (O.exs _ h2 c h1) g1 g2 st x (by unfold erS at q; exact q)
    · cases h
  | .raiN .., s, O, h => by unfold chkS at h; cases h
  | .own .., s, O, h => fun st x q => by cases q
  | .mov .., s, O, h => fun st x q => by cases q
  | .unp .., s, O, h => fun st x q => by cases q
  | .par .., s, O, h => fun st x q => by cases q
  | .augI .., s, O, h => fun st x q => by cases q
  | .augL .., s, O, h => fun st x q => by cases q
  | .app .., s, O, h => fun st x q => by cases q
  | .put .., s, O, h => fun st x q => by cases q
  | .fo .., s, O, h => fun st x q => by cases q
  | .whl .., s, O, h => fun st x q => by cases q
  | .retF .., s, O, h => fun st x q => by cases q
  | .retO .., s, O, h => fun st x q => by cases q
  | .retN, s, O, h => fun st x q => by cases q
  | .brk, s, O, h => fun st x q => by cases q
  | .cont, s, O, h => fun st x q => by cases q
  | .pass, s, O, h => fun st x q => by cases q
  | .nev, s, O, h => fun st x q => by cases q
  | .parT .., s, O, h => fun st x q => by cases q
  | .ownD .., s, O, h => fun st x q => by cases q
  | .putD .., s, O, h => fun st x q => by cases q
  | .retD .., s, O, h => fun st x q => by cases q
  | .putDS .., s, O, h => fun st x q => by cases q
theorem sdErSs (tk : L2N.Takes X Wx) : ∀ (ir : Sms) {l : List Stmt}, Oks T F N sc X C → chkSs T N sc ir l = true → ErSs X Wx C l (erSs (T.gs.map (·.2)) F ir)
  | .nil, l, O, h => fun st x q => by cases q
  | .cons s r, l, O, h => by
    unfold chkSs at h
    split at h
    · rename_i t l
      rw [Bool.and_eq_true] at h
      refine fun st x q => ?_
      unfold erSs at q
      split at q
      · rename_i s1 e1
        refine PSs_weak (pss_cons (sdS (C := C) s O h.1 _ _ e1) (sdErSs tk r O h.2 _ _ q)) fun D σ H ⟨G, ws, S, kn, q⟩ => ⟨G, ws, S, kn, fun σ' ws' H' S' kn' => ⟨G, ws', S', kn', q⟩⟩
      · cases q
      · exact PSs_weak (pss_cons (sdErS tk s O h.1 _ _ q) (pss_never (sts := l))) fun D σ H t => t
    · cases h
  | .shut i r, l, O, h => by
    unfold chkSs at h
    rw [Bool.and_eq_true, decide_eq_true_eq] at h
    refine fun st x q => ?_
    unfold erSs at q
    obtain ⟨ds, e1, q⟩ := bind_some q
    exact PSs_weak (sdErSs tk r O h.2 _ _ q) fun D σ H ⟨G, ws, S, kn, q⟩ => by
      obtain ⟨ws', S3, kn'⟩ := seal_si h.1 e1 S kn
      exact ⟨G, ws', S3, kn', q⟩
  | .shutD i r, l, O, h => by
    unfold chkSs at h
    rw [Bool.and_eq_true, decide_eq_true_eq] at h
    refine fun st x q => ?_
    unfold erSs at q
    obtain ⟨kvs, e1, q⟩ := bind_some q
    exact PSs_weak (sdErSs tk r O h.2 _ _ q) fun D σ H ⟨G, ws, S, kn, q⟩ => by
      obtain ⟨ws', S3, kn'⟩ := sealD_si h.1 e1 S kn
      exact ⟨G, ws', S3, kn', q⟩
end
/-! the classes of the errors are known -/
theorem erE_kn {G : List D} (hF : ∀ f ds c m, F f ds = some (.err c m) → Knc T c ∧ m = none) {ir : Ex} {st : SS} {x : Nat × Option Int} (h : erE G F ir st = some x) : Knc T x.1 ∧ x.2 = none := by
  unfold erE at h
  split at h
  · obtain ⟨r, _, h⟩ := bind_some h
    split at h
    · rename_i c m hR
      cases h
      exact hF _ _ _ _ hR
    · cases h
  · cases h
mutual
theorem erS_kn {G : List D} (hF : ∀ f ds c m, F f ds = some (.err c m) → Knc T c ∧ m = none) : ∀ (ir : Sm) {s : Stmt} {st : SS} {x : Nat × Option Int}, chkS T N sc ir s = true → erS G F ir st = some x → Knc T x.1 ∧ x.2 = none
  | .exp e, s, st, x, h, q => by unfold erS at q; exact erE_kn hF q
  | .set i e, s, st, x, h, q => by unfold erS at q; exact erE_kn hF q
  | .ret e, s, st, x, h, q => by unfold erS at q; exact erE_kn hF q
  | .ife c a b, s, st, x, h, q => by
    unfold chkS at h
    split at h
    · simp only [Bool.and_eq_true] at h
      obtain ⟨⟨_, h2⟩, h3⟩ := h
      unfold erS at q
      obtain ⟨⟨k, s1⟩, e1, q⟩ := bind_some q
      cases k with
      | true =>
        have q : erSs G F a s1 = some x := q
        exact erSs_kn hF a h2 q
      | false =>
        have q : erSs G F b s1 = some x := q
        exact erSs_kn hF b h3 q
    · cases h
  | .rai c, s, st, x, h, q => by
    unfold chkS at h
    split at h
    · simp only [Bool.and_eq_true, decide_eq_true_eq] at h
      obtain ⟨⟨⟨h0, h1⟩, h2⟩, _⟩ := h
      unfold erS at q
      cases q
      exact ⟨⟨h0, _, h1, h2⟩, rfl⟩
    · cases h
  | .raiN .., s, st, x, h, q => by unfold chkS at h; cases h
  | .own .., s, st, x, h, q => by cases q
  | .mov .., s, st, x, h, q => by cases q
  | .unp .., s, st, x, h, q => by cases q
  | .par .., s, st, x, h, q => by cases q
  | .augI .., s, st, x, h, q => by cases q
  | .augL .., s, st, x, h, q => by cases q
  | .app .., s, st, x, h, q => by cases q
  | .put .., s, st, x, h, q => by cases q
  | .fo .., s, st, x, h, q => by cases q
  | .whl .., s, st, x, h, q => by cases q
  | .retF .., s, st, x, h, q => by cases q
  | .retO .., s, st, x, h, q => by cases q
  | .retN, s, st, x, h, q => by cases q
  | .brk, s, st, x, h, q => by cases q
  | .cont, s, st, x, h, q => by cases q
  | .pass, s, st, x, h, q => by cases q
  | .nev, s, st, x, h, q => by cases q
  | .parT .., s, st, x, h, q => by cases q
  | .ownD .., s, st, x, h, q => by cases q
  | .putD .., s, st, x, h, q => by cases q
  | .retD .., s, st, x, h, q => by cases q
  | .putDS .., s, st, x, h, q => by cases q
theorem erSs_kn {G : List D} (hF : ∀ f ds c m, F f ds = some (.err c m) → Knc T c ∧ m = none) : ∀ (ir : Sms) {l : List Stmt} {st : SS} {x : Nat × Option Int}, chkSs T N sc ir l = true → erSs G F ir st = some x → Knc T x.1 ∧ x.2 = none
  | .nil, l, st, x, h, q => by cases q
  | .cons s r, l, st, x, h, q => by
    unfold chkSs at h
    split at h
    · rw [Bool.and_eq_true] at h
      unfold erSs at q
      split at q
      · exact erSs_kn hF r h.2 q
      · cases q
      · exact erS_kn hF s h.1 q
    · cases h
  | .shut i r, l, st, x, h, q => by
    unfold chkSs at h
    rw [Bool.and_eq_true] at h
    unfold erSs at q
    obtain ⟨ds, _, q⟩ := bind_some q
    exact erSs_kn hF r h.2 q
  | .shutD i r, l, st, x, h, q => by
    unfold chkSs at h
    rw [Bool.and_eq_true] at h
    unfold erSs at q
    obtain ⟨ds, _, q⟩ := bind_some q
    exact erSs_kn hF r h.2 q
end
end
end Pv

/-! Defs: each does what callF tells. -/
namespace Pv
open PySem L2
variable [HashW]
theorem getO_len {st : SS} {i : Nat} {ds : List D} (h : getO st i = some ds) : i < st.length := (List.getElem?_eq_some_iff.mp (getO_some h)).1
section
variable {K : W.Frag} {M : List Addr} {H : Hp}
theorem vis0 : (Cc.mk M [] H none).vis [] H = hide H M := hide_congr fun a => by unfold Cc.M; simp
theorem vis1 {a : Addr} (ha : a ∈ M) : (Cc.mk M [a] H none).vis [(0, a)] H = hide H M := hide_congr fun b => by
  unfold Cc.M
  simp only [List.map_cons, List.map_nil, List.mem_append, List.mem_singleton]
  constructor
  · rintro (h | h)
    · exact h
    · rw [h]; exact ha
  · exact .inl
theorem start_get {N : List Str} {vs : List V} {i : Nat} {v : V} (h : vs[i]? = some v) : (start N vs)[i]? = some (some v) := by
  unfold L2.start
  have hi := (List.getElem?_eq_some_iff.mp h).1
  rw [List.getElem?_append_left (by rw [List.length_map]; exact hi), List.getElem?_map, h]
  rfl
theorem start_len {N : List Str} {vs : List V} (h : vs.length ≤ N.length) : (start N vs).length = N.length := by
  unfold L2.start
  rw [List.length_append, List.length_map, List.length_replicate]
  omega
theorem rpAll_get {vs : List V} {ds : List D} {G : Hp} (r : RpAll K G vs ds) : ∀ {i : Nat} {d : D}, ds[i]? = some d → ∃ v, vs[i]? = some v ∧ Rp K G v d := by
  intro i
  induction i generalizing vs ds with
  | zero =>
    intro d h
    cases r with
    | nil => cases h
    | cons r1 r2 => cases h; exact ⟨_, rfl, r1⟩
  | succ i ih =>
    intro d h
    cases r with
    | nil => cases h
    | cons r1 r2 => exact ih r2 h
theorem getSt {n : Nat} {xs : List D} {i : Nat} {s : Sl} (h : (xs.map Sl.v ++ List.replicate n Sl.no)[i]? = some s) : s = .no ∨ ∃ d, s = .v d ∧ xs[i]? = some d := by
  rcases Nat.lt_or_ge i xs.length with hi | hi
  · rw [List.getElem?_append_left (by rw [List.length_map]; exact hi), List.getElem?_map] at h
    obtain ⟨d, e, q⟩ := map_some h
    exact .inr ⟨d, q.symm, e⟩
  · rw [List.getElem?_append_right (by rw [List.length_map]; exact hi)] at h
    exact .inl (List.eq_of_mem_replicate (List.mem_of_getElem? h))
theorem si_start {N : List Str} {vs : List V} {ds : List D} (tr : ∀ a ∈ M, ∃ o, H a = some o) (r : RpAll K (hide H M) vs ds) (hn : ds.length ≤ N.length) :
    SI K ⟨M, [], H, none⟩ (hide H M) [] (ds.map Sl.v ++ List.replicate (N.length - ds.length) Sl.no) (start N vs) H := by
  have hl := r.length
  refine ⟨?_, fun i s h => ?_, List.nodup_nil, Fra.refl _ _, by rw [vis0]; exact Le.refl _, tr, fun p hp => (by cases hp), fun p hp => (by cases hp), fun a ha => (by cases ha), fun b ps h => h⟩
  · rw [start_len (by rw [hl]; exact hn), List.length_append, List.length_map, List.length_replicate]
    omega
  · rcases getSt h with rfl | ⟨d, rfl, e⟩
    · exact True.intro
    · obtain ⟨v, e2, r2⟩ := rpAll_get r e
      exact ⟨v, start_get e2, by rw [vis0]; exact r2⟩
theorem si_startD {N : List Str} {a : Addr} {us dv : List V} {ds dk0 : List D} (tr : ∀ a ∈ M, ∃ o, H a = some o) (ha : a ∈ M) (hd : H a = some (.lst dv)) (rd : RpAll K (hide H M) dv dk0) (r : RpAll K (hide H M) us ds) (hn : ds.length + 1 ≤ N.length) :
    SI K ⟨M, [a], H, none⟩ (hide H M) [(0, a)] (Sl.own dk0 :: ds.map Sl.v ++ List.replicate (N.length - (ds.length + 1)) Sl.no) (start N (.ref a :: us)) H := by
  have hl := r.length
  refine ⟨?_, fun i s h => ?_, by simp, Fra.refl _ _, by rw [vis1 ha]; exact Le.refl _, tr, fun p hp hI => ?_, fun p hp => ?_, fun b hb => ?_, fun b ps h => h⟩
  · rw [start_len (by rw [List.length_cons, hl]; exact hn)]
    simp only [List.length_append, List.length_cons, List.length_map, List.length_replicate]
    omega
  · cases i with
    | zero =>
      cases h
      exact ⟨a, dv, List.mem_cons_self, start_get rfl, hd, by rw [vis1 ha]; exact rd⟩
    | succ i =>
      rcases getSt (show (ds.map Sl.v ++ List.replicate (N.length - (ds.length + 1)) Sl.no)[i]? = some s from h) with rfl | ⟨d, rfl, e⟩
      · exact True.intro
      · obtain ⟨v, e2, r2⟩ := rpAll_get r e
        exact ⟨v, start_get (vs := .ref a :: us) (i := i + 1) e2, by rw [vis1 ha]; exact r2⟩
  · rw [List.mem_singleton.mp hp] at hI
    exact absurd List.mem_cons_self hI
  · rw [List.mem_singleton.mp hp]
    exact ⟨_, hd, fun ps z => by cases z⟩
  · rw [List.mem_singleton.mp hb]
    exact ha
theorem hx_of {A B : Hp} (f : Fra [] A B) (t : TbK A B) : Hx A B := fun b o h => by
  by_cases q : ∃ ps, o = .tbl ps
  · obtain ⟨ps, rfl⟩ := q
    exact t b ps h
  · exact f.at (by simp) h fun ps z => q ⟨ps, z⟩
/-- how a body ends -/
theorem endF_some {dk : Bool} {o : Option Fl} {d : D} {fr : Bool} {xs : List D} (h : endF dk o = some (.ok d fr xs)) : ∃ st, (o = some (.rt d fr st) ∨ (o = some (.nx st) ∧ d = .none ∧ fr = false)) ∧ (dk = true → getO st 0 = some xs) := by
  unfold endF at h
  split at h
  · rename_i d' fr' st
    split at h
    · rename_i hk
      obtain ⟨ys, e, h⟩ := map_some h
      cases h
      exact ⟨st, .inl rfl, fun _ => e⟩
    · rename_i hk
      cases h
      exact ⟨st, .inl rfl, fun z => absurd z hk⟩
  · rename_i st
    split at h
    · obtain ⟨ys, e, h⟩ := map_some h
      cases h
      exact ⟨st, .inr ⟨rfl, rfl, rfl⟩, fun _ => e⟩
    · rename_i hk
      cases h
      exact ⟨st, .inr ⟨rfl, rfl, rfl⟩, fun z => absurd z hk⟩
  · cases h
theorem endX_ok {dk : Bool} {o : Option Fl} {x : Option (Nat × Option Int)} {d : D} {fr : Bool} {xs : List D} (h : endX dk o x = some (.ok d fr xs)) : endF dk o = some (.ok d fr xs) := by
  unfold endX at h
  split at h
  · exact h
  · split at h
    · cases h
    · obtain ⟨y, _, z⟩ := map_some h
      cases z
theorem endF_ne {dk : Bool} {o : Option Fl} {c : Nat} {n : Option Int} : endF dk o ≠ some (.err c n) := fun h => by
  unfold endF at h
  split at h
  · split at h
    · obtain ⟨ys, e, h⟩ := map_some h
      cases h
    · cases h
  · split at h
    · obtain ⟨ys, e, h⟩ := map_some h
      cases h
    · cases h
  · cases h
theorem endX_err {dk : Bool} {o : Option Fl} {x : Option (Nat × Option Int)} {c : Nat} {n : Option Int} (h : endX dk o x = some (.err c n)) : x = some (c, n) := by
  unfold endX at h
  split at h
  · exact absurd h endF_ne
  · split at h
    · cases h
    · obtain ⟨⟨a, b⟩, e, z⟩ := map_some h
      cases z
      exact e
end
/-- the look's table at a def -/
abbrev Tab.at (T : Tab) (x : Str) : Tab := { T with tri := decide (x = T.tr) }
/-- the look at one def -/
def chkD (T : Tab) (d : Df) (s : Stmt) : Bool := C8.scC d.N (d.N.take d.np) (defScope s) && decide (d.np ≤ d.N.length) && (!d.dk || decide (1 ≤ d.np)) && chkSs (T.at d.nm) d.N (defScope s) d.body (defBody s)
/-- what is known of the module behind its top -/
structure Mdl (T : Tab) (P : List Df) (K : W.Frag) (mg : Str → Option Value) : Prop where
  fs : T.fs = P.map fun d => (d.nm, d.dk, d.np)
  bn : ∀ x ∈ T.bs, mg x = none
  gl : ∀ (i : Nat) (x : Str) (d : D), T.gs[i]? = some (x, d) → ∃ u v, mg x = some u ∧ RelV v u ∧ ∀ H, Rp K H v d
  exs : ∀ x ∈ T.ex, ∀ c, exNames[c]? = some x → ExAt K mg c x
  gd : ∀ x kvs, (x, kvs) ∈ T.gd → GdAt K mg x kvs
  df : ∀ (i : Nat) (d : Df), P[i]? = some d → ∃ (s : Stmt) (f : Addr) (fd : FuncData), chkD T d s = true ∧ Fun K d.nm d.nm s f fd ∧ mg d.nm = some (.ref f) ∧ Binds K fd (d.N.take d.np) []
def spOf (K : W.Frag) (d : Df) (R : List D → Option CR) : Sp := if d.dk then spD K d.np R else spF K d.np R
section
variable {T : Tab} {P : List Df} {K : W.Frag} {mg : Str → Option Value} {Pr : Program} {w : World} {base : Heap}
theorem spOf_len {d : Df} {R : List D → Option CR} {vs : List V} {H : Hp} {Q : VK} {E : XK} (h : spOf K d R vs H Q E) : vs.length = d.np := by
  unfold spOf at h
  split at h <;> exact h.1
theorem scope_fn {N ps : List Str} {sc : Scope} (S : FnScope N ps sc) : sc.kind = .function := S.kind
theorem defs_ok (hw : ∀ k, HashW.hf k = k.hash w) (Md : Mdl T P K mg) : ∀ (n i : Nat) (d : Df) (s : Stmt) (f : Addr) (fd : FuncData), P[i]? = some d → d.nm ≠ T.tr → chkD T d s = true → Fun K d.nm d.nm s f fd →
    FnOk Pr w K mg base (L2N.CX Pr w) n f fd (d.N.take d.np) (spOf K d (callF (T.gs.map (·.2)) P n i))
  | 0, i, d, s, f, fd, hi, hx, hc, F => by
    have hno : ∀ vs H Q E, ¬ spOf K d (callF (T.gs.map (·.2)) P 0 i) vs H Q E := fun vs H Q E h => by
      unfold spOf at h
      split at h
      · obtain ⟨_, _, _, _, _, _, _, _, _, _, _, _, _, _, _, _, e, _⟩ := h
        cases e
      · obtain ⟨_, _, _, _, _, h⟩ := h
        rcases h with ⟨_, _, _, e, _⟩ | ⟨_, _, e, _⟩ <;> cases e
    exact ⟨fun vs H Q E h => absurd h (hno _ _ _ _), fun A outer s H args us vs Q E hr e0 hb r h => absurd h (hno _ _ _ _)⟩
  | n + 1, i, d, s, f, fd, hi, hx, hc, F => by
    unfold chkD at hc
    simp only [Bool.and_eq_true, Bool.or_eq_true, Bool.not_eq_true', decide_eq_true_eq] at hc
    obtain ⟨⟨⟨c1, c2⟩, c3⟩, c4⟩ := hc
    have sco := C8.fnScope_by c1
    have hlen : (d.N.take d.np).length = d.np := by rw [List.length_take]; omega
    obtain ⟨oc, od, kV, doc, pm, an, cdv, ct, osl, rfl, lk, hcd⟩ := F.ex
    refine fn_of (CX := L2N.CX Pr w) (sp := spOf K d (callF (T.gs.map (·.2)) P (n + 1) i)) lk hcd sco (fun vs H Q E h => by rw [hlen]; exact spOf_len h) (fun A outer sh H vs Q E hr h => ?_)
    have O : ∀ C, Oks (T.at d.nm) (callF (T.gs.map (·.2)) P n) d.N (defScope s) (cxOf (L2N.CX Pr w) Pr w K mg base d.N d.nm (defScope s) f cdv A outer sh H E) C := fun C =>
      { hN := rfl, nd := sco.nd, calm := rfl, hw := hw, un := (by have := hr.un; show (A.deeper _).units + 200 < cLine; omega)
        loc := fun x h => h, cel := fun x h => h, fre := fun x h => .inl h, gli := fun x h => h
        fn := fun x h => rfl
        bn := Md.bn, gl := Md.gl, exs := Md.exs, gd := Md.gd
        try' := fun z => absurd (of_decide_eq_true z) hx
        fu := fun j x b k hj ht => by
          rw [Md.fs, List.getElem?_map] at hj
          obtain ⟨dj, ej, hj⟩ := map_some hj
          cases hj
          obtain ⟨sj, fj, fdj, q1, q2, q3, q4⟩ := Md.df j dj ej
          have := defs_ok hw Md n j dj sj fj fdj ej ht q1 q2
          exact ⟨n, fj, fdj, _, q3, q2.kp, q4, hr, this⟩
        scq := rfl, knd := sco.kind, pass := passes_of (X := cxOf (L2N.CX Pr w) Pr w K mg base d.N d.nm (defScope s) f cdv A outer sh H E) rfl }
    have body := fun C => sdSs (C := C) d.body (O C) c4
    -- what the promise tells
    unfold spOf at h
    split at h
    · rename_i hdk
      obtain ⟨hl, M, ds, a, us, dv, dk0, rfl, tr, ha, hd, rd, r, dd, fr, dk, e, q⟩ := h
      unfold callF at e
      rw [hi] at e
      have e : (if (PyData.list dk0 :: ds).length = d.np then endX d.dk (exSs (T.gs.map (·.2)) (callF (T.gs.map (·.2)) P n) d.body (startS d.N.length d.dk (PyData.list dk0 :: ds))) (erSs (T.gs.map (·.2)) (callF (T.gs.map (·.2)) P n) d.body (startS d.N.length d.dk (PyData.list dk0 :: ds))) else none) = some (.ok dd fr dk) := e
      split at e
      · rename_i hnp
        rw [hdk] at e
        obtain ⟨st, e1, e2⟩ := endF_some (endX_ok e)
        have e2 := e2 rfl
        have hn : ds.length + 1 ≤ d.N.length := by rw [List.length_cons] at hnp; omega
        have S := si_startD (K := K) (N := d.N) tr ha hd rd r hn
        have kn : Kn ⟨M, [a], H, none⟩ [(0, a)] := fun p hp => by
          rw [List.mem_singleton.mp hp]
          exact ⟨fun _ => rfl, fun _ => .inr List.mem_cons_self⟩
        have fin : ∀ σ' ws' H', SI K ⟨M, [a], H, none⟩ (hide H M) ws' st σ' H' → Kn ⟨M, [a], H, none⟩ ws' → ∀ v, Rp K (hide H' M) v dd → (fr = true → RetNew K ⟨M, [a], H, none⟩ H' v dd) → Q v H' := fun σ' ws' H' S' k' v rv nw => by
          obtain ⟨b, us', m, o, hb, rb⟩ := S'.rep 0 _ (getO_some e2)
          have hba : b = a := by
            rcases (k' _ m).2 rfl with z | z
            · cases z
            · exact List.mem_singleton.mp z
          subst hba
          have hv : Le (hide H M) (hide H' M) := S'.vis.trans (ret_le (K := K) (G := hide H M))
          refine q v H' us' S'.frm S'.tbs hv hb (rb.le (ret_le (K := K) (G := hide H M))) rv fun z => ?_
          obtain ⟨p, us2, es, h1, h2, h3, h4, h5, h6, h7⟩ := nw z
          exact ⟨p, us2, es, h1, h3, h5, h6, h7⟩
        rcases e1 with e1 | ⟨e1, hdd, hfr⟩
        · refine ⟨_, body ⟨M, [a], H, none⟩ _ _ e1, hide H M, [(0, a)], S, kn, fun v σ' ws' H' S' k' rv nw => fin σ' ws' H' S' k' v rv nw⟩
        · refine ⟨_, body ⟨M, [a], H, none⟩ _ _ e1, hide H M, [(0, a)], S, kn, fun σ' ws' H' S' k' => fin σ' ws' H' S' k' .non (by rw [hdd]; exact .non) fun z => by rw [hfr] at z; cases z⟩
      · cases e
    · rename_i hdk
      obtain ⟨hl, M, ds, tr, r, h⟩ := h
      rcases h with ⟨dd, fr, dk, e, q⟩ | ⟨c, m, e, q⟩
      rotate_left
      · have hdk' : d.dk = false := by simpa using hdk
        unfold callF at e
        rw [hi] at e
        have e : (if ds.length = d.np then endX d.dk (exSs (T.gs.map (·.2)) (callF (T.gs.map (·.2)) P n) d.body (startS d.N.length d.dk ds)) (erSs (T.gs.map (·.2)) (callF (T.gs.map (·.2)) P n) d.body (startS d.N.length d.dk ds)) else none) = some (.err c m) := e
        split at e
        · rename_i hnp
          rw [hdk'] at e
          have e1 := endX_err e
          have hn : ds.length ≤ d.N.length := by omega
          have S := si_start (K := K) (N := d.N) tr r hn
          have est : startS d.N.length false ds = ds.map Sl.v ++ List.replicate (d.N.length - ds.length) Sl.no := rfl
          rw [est] at e1
          have kn : Kn ⟨M, [], H, none⟩ [] := fun p hp => by cases hp
          have tk : L2N.Takes (cxOf (L2N.CX Pr w) Pr w K mg base d.N d.nm (defScope s) f cdv A outer sh H E) (fun cls d _ H => E cls d H) := L2N.takes_of rfl rfl rfl rfl
          exact ⟨_, sdErSs (C := ⟨M, [], H, none⟩) tk d.body (O _) c4 _ _ e1, hide H M, [], S, kn, fun G' ws' st' σ' H' S' => q H' (hx_of S'.frm S'.tbs)⟩
        · cases e
      have hdk : d.dk = false := by simpa using hdk
      unfold callF at e
      rw [hi] at e
      have e : (if ds.length = d.np then endX d.dk (exSs (T.gs.map (·.2)) (callF (T.gs.map (·.2)) P n) d.body (startS d.N.length d.dk ds)) (erSs (T.gs.map (·.2)) (callF (T.gs.map (·.2)) P n) d.body (startS d.N.length d.dk ds)) else none) = some (.ok dd fr dk) := e
      split at e
      · rename_i hnp
        rw [hdk] at e
        obtain ⟨st, e1, _⟩ := endF_some (endX_ok e)
        have hn : ds.length ≤ d.N.length := by omega
        have S := si_start (K := K) (N := d.N) tr r hn
        have est : startS d.N.length false ds = ds.map Sl.v ++ List.replicate (d.N.length - ds.length) Sl.no := rfl
        rw [est] at e1
        have kn : Kn ⟨M, [], H, none⟩ [] := fun p hp => by cases hp
        have fin : ∀ σ' ws' H', SI K ⟨M, [], H, none⟩ (hide H M) ws' st σ' H' → ∀ v, Rp K (hide H' M) v dd → (fr = true → RetNew K ⟨M, [], H, none⟩ H' v dd) → Q v H' := fun σ' ws' H' S' v rv nw => by
          have hv : Le (hide H M) (hide H' M) := S'.vis.trans (ret_le (K := K) (G := hide H M))
          refine q v H' (hx_of S'.frm S'.tbs) hv rv fun z => ?_
          obtain ⟨p, us2, es, h1, h2, h3, h4, h5, h6, h7⟩ := nw z
          exact ⟨p, us2, es, h1, h3, h5, h6, h7⟩
        rcases e1 with e1 | ⟨e1, hdd, hfr⟩
        · exact ⟨_, body ⟨M, [], H, none⟩ _ _ e1, hide H M, [], S, kn, fun v σ' ws' H' S' k' rv nw => fin σ' ws' H' S' v rv nw⟩
        · exact ⟨_, body ⟨M, [], H, none⟩ _ _ e1, hide H M, [], S, kn, fun σ' ws' H' S' k' => fin σ' ws' H' S' .non (by rw [hdd]; exact .non) fun z => by rw [hfr] at z; cases z⟩
      · cases e
/-- errors that leave a def are of known classes -/
theorem callF_kn (h : ∀ (i : Nat) (d : Df), P[i]? = some d → ∃ s, chkD T d s = true) : ∀ (n i : Nat) (ds : List D) (c : Nat) (m : Option Int), callF (T.gs.map (·.2)) P n i ds = some (.err c m) → Knc T c ∧ m = none
  | 0, i, ds, c, m, e => by cases e
  | n + 1, i, ds, c, m, e => by
    unfold callF at e
    obtain ⟨d, hd, e⟩ := bind_some e
    split at e
    · obtain ⟨s, hc⟩ := h i d hd
      unfold chkD at hc
      simp only [Bool.and_eq_true] at hc
      have := erSs_kn (T := T.at d.nm) (fun f ds c m e => callF_kn h n f ds c m e) d.body hc.2 (endX_err e)
      exact this
    · cases e
end
end Pv

/-! The end of a law. -/
namespace Pv
open PySem L2
variable [HashW]
/-- no value, an int, a truth, a text: as a known value; a tuple by its place -/
theorem rp_ints {K : W.Frag} {H : Hp} : ∀ ns : List Int, RpAll K H (ns.map V.int) (ns.map PyData.int)
  | [] => .nil
  | n :: r => .cons (.int n) (rp_ints r)
theorem law_sp {G : List D} {P : List Df} {n i most : Nat} {d : Df} (hd : d.np = 1) (hk : d.dk = false) (h : Says G P n i most) {K : W.Frag} {H : Hp} {a : Addr} {ns : List Int} (hl : ns.length ≤ most) (hb : ∀ z ∈ ns, Builtin.Int.intBits z ≤ 1048576) (hS : SqL K H a (ns.map V.int)) {E : XK} :
    spOf K d (callF G P n i) [.ref a] H (fun v _ => v = .bl true) E := by
  obtain ⟨fr, dk, e⟩ := h ns hl hb
  unfold spOf
  rw [hk, if_neg Bool.false_ne_true, hd]
  have eh : hide H [] = H := by
    funext b
    unfold hide
    rw [if_neg (by simp)]
  refine ⟨rfl, [], [.list (ns.map .int)], fun b hb => (by cases hb), ?_, .inl ⟨_, fr, dk, e, fun v H2 _ _ r _ => r.bl_inv⟩⟩
  rw [eh]
  exact .cons (.lst hS (rp_ints ns)) .nil
end Pv

/-! What the top has written, and the end of a law. -/
namespace Pv
open PySem L2
/-- how a def's arguments bind -/
def Bn (x : Str) (s : Stmt) (ps : List Str) : Prop := ∀ (kV doc pm : Value) (an : Option Addr) (cdv ct : Value) (us : List Value), us.length = ps.length → bindArgs (W.fnOf x x (defArgs s) (defBody s) (defScope s) .none kV doc pm an cdv ct) ⟨us, []⟩ = pure (ps.zip us)
structure DefIn (K : W.Frag) (x : Str) (s : Stmt) : Prop where
  ex : ∃ (f : Addr) (oc : Value) (od an : Option Addr) (osl : Array (Option Value)) (kV doc pm cdv ct : Value), W.nsIn K mainGlobals x = some (some (.ref f)) ∧ K.lookup f = some ⟨oc, od, .func (W.fnOf x x (defArgs s) (defBody s) (defScope s) .none kV doc pm an cdv ct), osl⟩ ∧ W.codeIn K cdv x = true ∧ W.keepIn K (.ref f) = true
theorem defIn {K : W.Frag} {x : Str} {s : Stmt} {f : Addr} {oc : Value} {od an : Option Addr} {osl : Array (Option Value)} {kV doc pm cdv ct : Value} (a : W.nsIn K mainGlobals x = some (some (.ref f)))
    (l : K.lookup f = some ⟨oc, od, .func (W.fnOf x x (defArgs s) (defBody s) (defScope s) .none kV doc pm an cdv ct), osl⟩) (c : W.codeIn K cdv x = true) (k : W.keepIn K (.ref f) = true) : DefIn K x s := ⟨f, oc, od, an, osl, kV, doc, pm, cdv, ct, a, l, c, k⟩
structure GlbIn (K : W.Frag) (x : Str) (d : D) : Prop where
  ex : ∃ (u : Value) (v : V), W.nsIn K mainGlobals x = some (some u) ∧ RelV v u ∧ ∀ [HashW] H, Rp K H v d
theorem glb_int {K : W.Frag} {x : Str} {i : Int} {t : Tok} (a : W.nsIn K mainGlobals x = some (some (.int i t))) : GlbIn K x (.int i) := ⟨_, .int i, a, ⟨t, rfl⟩, fun H => .int i⟩
theorem glb_str {K : W.Frag} {x y : Str} {t : Tok} (a : W.nsIn K mainGlobals x = some (some (.str y t))) : GlbIn K x (.str y) := ⟨_, .str y, a, ⟨t, rfl⟩, fun H => .str y⟩
theorem freeIn {K : W.Frag} {x : Str} (a : W.nsIn K mainGlobals x = some none) : W.nsIn K mainGlobals x = some none := a
/-- a known value stands for a datum -/
structure KRp (K : W.Frag) (u : Value) (d : D) : Prop where
  ex : ∃ v, RelV v u ∧ ∀ [HashW] H, Rp K H v d
structure KRps (K : W.Frag) (us : List Value) (ds : List D) : Prop where
  ex : ∃ vs, Vals vs us ∧ ∀ [HashW] H, RpAll K H vs ds
theorem krps_nil {K : W.Frag} : KRps K [] [] := ⟨[], .nil, fun H => .nil⟩
theorem krps_cons {K : W.Frag} {u : Value} {us : List Value} {d : D} {ds : List D} (a : KRp K u d) (b : KRps K us ds) : KRps K (u :: us) (d :: ds) := by
  obtain ⟨v, h1, h2⟩ := a.ex
  obtain ⟨vs, h3, h4⟩ := b.ex
  exact ⟨v :: vs, .cons h1 h3, fun H => .cons (h2 H) (h4 H)⟩
theorem krp_bool {K : W.Frag} {b : Bool} : KRp K (.bool b) (.bool b) := ⟨.bl b, rfl, fun H => .bl b⟩
theorem krp_none {K : W.Frag} : KRp K .none .none := ⟨.non, rfl, fun H => .non⟩
theorem krp_int {K : W.Frag} {i : Int} {t : Tok} : KRp K (.int i t) (.int i) := ⟨.int i, ⟨t, rfl⟩, fun H => .int i⟩
theorem krp_str {K : W.Frag} {x : Str} {t : Tok} : KRp K (.str x t) (.str x) := ⟨.str x, ⟨t, rfl⟩, fun H => .str x⟩
theorem krp_tup {K : W.Frag} {p : Addr} {od : Option Addr} {its : Array Value} {n : Nat} {sl : Array (Option Value)} {ds : List D} (l : K.lookup p = some ⟨.type "tuple", od, .seq its n, sl⟩) (z : its.size ≤ sizeLine) (r : KRps K its.toList ds) : KRp K (.ref p) (.tuple ds) := by
  obtain ⟨vs, h1, h2⟩ := r.ex
  exact ⟨.ref p, rfl, fun H => .tup (.inr ⟨_, its, n, l, rfl, rfl, z, h1⟩) (h2 H)⟩
theorem glb_of {K : W.Frag} {x : Str} {u : Value} {d : D} (a : W.nsIn K mainGlobals x = some (some u)) (r : KRp K u d) : GlbIn K x d := by
  obtain ⟨v, h1, h2⟩ := r.ex
  exact ⟨u, v, a, h1, h2⟩
/-- a class of errors, written by the top -/
structure ExIn (K : W.Frag) (x : Str) : Prop where
  ex : ∃ C : Addr, W.nsIn K mainGlobals x = some (some (.ref C)) ∧ W.keepIn K (.ref C) = true ∧ W.excIn K C [.type "ValueError", .type "Exception", .type "BaseException", .type "object"] "ValueError.__new__" = true ∧ W.subIn K (.ref C) (.type "BaseException") = some true ∧ W.typeIn K (.ref C) = some (.type "type")
theorem exIn {K : W.Frag} {x : Str} {C : Addr} (a : W.nsIn K mainGlobals x = some (some (.ref C))) (k : W.keepIn K (.ref C) = true) (q : W.excIn K C [.type "ValueError", .type "Exception", .type "BaseException", .type "object"] "ValueError.__new__" = true) (b : W.subIn K (.ref C) (.type "BaseException") = some true) (t : W.typeIn K (.ref C) = some (.type "type")) : ExIn K x := ⟨C, a, k, q, b, t⟩
/-- a dict of the module from texts to ints -/
structure GdIn (K : W.Frag) (kh : Str → Int) (x : Str) (kvs : List (Str × Int)) : Prop where
  ex : ∃ (a : Addr) (es : Array DictEntry) (n : Nat), W.nsIn K mainGlobals x = some (some (.ref a)) ∧ K.lookup a = some ⟨.type "dict", none, .dict es n, #[]⟩ ∧ GdEs kh es.toList kvs ∧ (a == sysModules) = false
theorem gdIn {K : W.Frag} {kh : Str → Int} {x : Str} {kvs : List (Str × Int)} {a : Addr} {es : Array DictEntry} {n : Nat} (h1 : W.nsIn K mainGlobals x = some (some (.ref a))) (h2 : K.lookup a = some ⟨.type "dict", none, .dict es n, #[]⟩) (h3 : GdEs kh es.toList kvs) (h4 : (a == sysModules) = false) : GdIn K kh x kvs := ⟨a, es, n, h1, h2, h3, h4⟩
/-- the classes, by numbers -/
def xcOf (K : W.Frag) (c : Nat) : Value := match exNames[c]? with
  | some x => (match W.nsIn K mainGlobals x with
    | some (some v) => v
    | _ => .none)
  | none => .none
/-- for each of a list, in turn -/
def Each {α : Type} (Q : α → Prop) : List α → Prop
  | [] => True
  | a :: r => Q a ∧ Each Q r
theorem Each.at {α : Type} {Q : α → Prop} : ∀ {l : List α} {i : Nat} {a : α}, Each Q l → l[i]? = some a → Q a
  | [], _, _, _, h => by cases h
  | a :: r, 0, b, h, e => by cases e; exact h.1
  | a :: r, i + 1, b, h, e => Each.at (l := r) h.2 e
theorem Each.mem {α : Type} {Q : α → Prop} {l : List α} {a : α} (h : Each Q l) (m : a ∈ l) : Q a := by
  obtain ⟨i, hi, e⟩ := List.mem_iff_getElem.mp m
  exact h.at (List.getElem?_eq_some_iff.mpr ⟨hi, e⟩)
/-- the look at a def and how its arguments bind: nothing of a heap -/
structure Seen (T : Tab) (q : Df × Stmt) : Prop where
  chk : chkD T q.1 q.2 = true
  bn : Bn q.1.nm q.2 (q.1.N.take q.1.np)
structure Facts (T : Tab) (ps : List (Df × Stmt)) (kh : Str → Int) (K : W.Frag) : Prop where
  df : Each (fun q => DefIn K q.1.nm q.2) ps
  bn : Each (fun x => W.nsIn K mainGlobals x = some none) T.bs
  gl : Each (fun q => GlbIn K q.1 q.2) T.gs
  ex : Each (fun x => ExIn K x) T.ex
  gd : Each (fun q => GdIn K kh q.1 q.2) T.gd
theorem mdl_of [HashW] {T : Tab} {ps : List (Df × Stmt)} {K : W.Frag} {h : Heap} {mg : Str → Option Value} (X : K.In h) (G : h.Ns mainGlobals mg) (F : Facts T ps (fun x => HashW.hf (.text x)) K) (S : Each (Seen T) ps) (hfs : T.fs = (ps.map (·.1)).map fun d => (d.nm, d.dk, d.np)) (hxc : HashW.xc = xcOf K) : Mdl T (ps.map (·.1)) K mg where
  fs := hfs
  bn := fun x hx => W.mg_none_of X G (F.bn.mem hx)
  gl := fun i x d e => by
    obtain ⟨u, v, h1, h2, h3⟩ := (F.gl.at e).ex
    exact ⟨u, v, W.mg_of X G h1, h2, h3⟩
  exs := fun x hx c hc => by
    obtain ⟨C, a, k, q, b, t⟩ := (F.ex.mem hx).ex
    refine ⟨C, W.mg_of X G a, ?_, k, q, b, t⟩
    rw [hxc]
    unfold xcOf
    rw [hc]
    show (match W.nsIn K mainGlobals x with
      | some (some v) => v
      | _ => Value.none) = _
    rw [a]
  gd := fun x kvs e => by
    obtain ⟨a, es, n, h1, h2, h3, h4⟩ := (F.gd.mem e).ex
    exact ⟨a, es, n, W.mg_of X G h1, h2, h3, h4⟩
  df := fun i d e => by
    rw [List.getElem?_map] at e
    obtain ⟨q, e1, rfl⟩ := map_some e
    obtain ⟨f, oc, od, an, osl, kV, doc, pm, cdv, ct, a, l, c, k⟩ := (F.df.at e1).ex
    have s := S.at e1
    have Fn := fun_mk (st := q.2) l c k
    exact ⟨q.2, f, _, s.chk, Fn, W.mg_of X G a, Fn.binds s.bn⟩
/-- the end -/
theorem walk {l : W.OpenLaw} {q : Program} {loose : List Str} {XP : (Str → Option Value) → Heap → Prop} {YP : World → Heap → Prop} {d : DefRec} {K : Params → W.Frag} {T : Tab} {ps : List (Df × Stmt)} {n i : Nat} {dl : Df} {sl : Stmt}
    (hn : l.most = some 63) (hdf : d.params.defaults = []) (hr : Room n callerA) (hY : ∀ (w : World) (h : Heap), YP w h → (K w.params).In h) (S : Each (Seen T) ps) (hfs : T.fs = (ps.map (·.1)).map fun d => (d.nm, d.dk, d.np)) (hi : ps[i]? = some (dl, sl)) (hnm : d.name = dl.nm) (hN : dl.N.take dl.np = [("_law_script" : Str)]) (h1 : dl.np = 1) (hk : dl.dk = false) (hx : dl.nm ≠ T.tr)
    (says : Says (T.gs.map (·.2)) (ps.map (·.1)) n i 63) (F : ∀ w : World, Facts T ps (PyData.keyHash w.params) (K w.params)) :
    W.WalkO q loose XP YP l.row.toRowW d [] (fun f vs => PySem.call f vs) := by
  refine L2.walk_ofB (n := 63) (k := n) (x := "_law_script") (CX := fun w => L2N.CX l.prog w) (sp := fun w => @spOf ⟨fun k => k.hash w, xcOf (K w.params)⟩ (K w.params) dl (callF (T.gs.map (·.2)) (ps.map (·.1)) n i)) hn (by decide) hdf hr hY (fun w mg fa h KX G hmg => ?_) (fun w H a ns hl hb _ hS => @law_sp ⟨fun k => k.hash w, xcOf (K w.params)⟩ _ _ _ _ _ _ h1 hk says _ _ _ _ hl hb hS _) fun _ _ _ _ _ ⟨_, _, _, _, _, _, _, _, _, _, _, _, z⟩ => z
  letI : HashW := ⟨fun k => k.hash w, xcOf (K w.params)⟩
  obtain ⟨f, oc, od, an, osl, kV, doc, pm, cdv, ct, a, lk, c, k⟩ := ((F w).df.at hi).ex
  have e : fa = f := by
    have := W.mg_of KX G a
    rw [hnm] at hmg
    rw [hmg] at this
    injection this with this
    injection this
  subst e
  have sl2 := S.at hi
  have Fn := fun_mk (st := sl) lk c k
  refine ⟨W.fnOf dl.nm dl.nm (defArgs sl) (defBody sl) (defScope sl) .none kV doc pm an cdv ct, fun s u => ?_, fun base X2 G2 => ?_⟩
  · have := sl2.bn kV doc pm an cdv ct [u] (by rw [hN]; rfl)
    rw [hN] at this
    exact .of_eq this
  · have Md := mdl_of X2 G2 (F w) S hfs rfl
    have hi2 : (ps.map (·.1))[i]? = some dl := by rw [List.getElem?_map, hi]; rfl
    have := defs_ok (Pr := l.prog) (w := w) (base := base) (fun _ => rfl) Md n i dl sl fa _ hi2 hx sl2.chk Fn
    rw [hN] at this
    exact this
end Pv

namespace K19
open PySem L2 Pv
def c_law_b0 (I : Ix) : Sms := (.cons (.set 4 (.callD I.f_l_row 2 (.cons (.cst (.int 3)) .nil))) (.cons (.set 5 (.mth .join (.cst (.str (Str.ofString "\n"))) (.cons (.call I.f_l_lines (.cons (.var 4) .nil)) .nil))) (.cons (.ife (.or (.not (.call I.f_l_same (.cons (.call I.f_text (.cons (.var 4) .nil)) (.cons (.var 5) .nil)))) (.not (.call I.f_l_same (.cons (.call I.f_read (.cons (.var 5) .nil)) (.cons (.var 4) .nil))))) (.cons (.ret (.cst (.bool false))) .nil) .nil) .nil)))
def c_law_b1 (I : Ix) : Sms := (.cons (.own 2 (.call I.f_l_deck (.cons (.var 1) (.cons (.cst (.int 19)) .nil)))) (.cons (.fo (.rng1 (.cst (.int 4))) true [3] (c_law_b0 I)) .nil))
def c_law (I : Ix) : Df := ⟨(Str.ofString "law"), [(Str.ofString "_law_script"), (Str.ofString "_law_cell"), (Str.ofString "_law_deck_here"), (Str.ofString "_law_turn"), (Str.ofString "_law_street"), (Str.ofString "_law_due")], 1, false, (.cons (.fo (.seq (.sl (.bin .Add (.lst (.cons (.cst (.int 0)) .nil)) (.var 0)) .no (.e (.cst (.int 12))))) true [1] (c_law_b1 I)) (.cons (.ret (.cst (.bool true))) .nil))⟩
section
variable {G : List D} {P : List Df} {I : Ix}
structure HAll (G : List D) (P : List Df) (I : Ix) : Prop where
  t : HText G P I
  l : P[I.f_l_lines]? = some (c_l_lines I)
  d : HDraw P I
  s : HSame P I
theorem nest_sp (l : List Int) (h : l.length ≤ 3) : nest 1 (.tuple (l.map PyData.int)) = true := by
  unfold nest
  rw [decide_eq_true (by rw [List.length_map]; unfold lim; omega), List.all_eq_true.mpr]
  · rfl
  · intro x hx
    obtain ⟨t, _, rfl⟩ := List.mem_map.mp hx
    rfl
theorem nest_ho (l : List Hb) (h : l.length ≤ 3) : nest 2 (.tuple (l.map hab)) = true := by
  unfold nest
  rw [decide_eq_true (by rw [List.length_map]; unfold lim; omega), List.all_eq_true.mpr]
  · rfl
  · intro x hx
    obtain ⟨t, _, rfl⟩ := List.mem_map.mp hx
    rfl
theorem nest_up {k : Nat} {xs : List D} (h : nest (k + 1) (.tuple xs) = true) : ∀ x ∈ xs, nest k x = true := by
  unfold nest at h
  rw [Bool.and_eq_true, List.all_eq_true] at h
  exact h.2
theorem nest_stt {s : Stt} (h : s.Ok) : nest 3 s.enc = true := by
  have h2 := h.two
  have h3 := h.len
  unfold Stt.enc nest
  rw [decide_eq_true (by simp; unfold lim; omega), List.all_eq_true.mpr]
  · rfl
  · intro x hx
    simp only [List.mem_cons, List.not_mem_nil, or_false] at hx
    rcases hx with rfl | rfl | rfl
    · unfold nest
      rw [decide_eq_true (by rw [List.length_map]; unfold lim; omega), List.all_eq_true.mpr]
      · rfl
      · intro x hx
        obtain ⟨t, _, rfl⟩ := List.mem_map.mp hx
        rfl
    · rfl
    · exact nest_ho _ (by omega)
theorem turn (A : HAll G P I) {n k : Nat} {dk : List D} (hk : k ≤ 10000) (hd : DeckOk k dk) (a b t w4 w5 : Sl) :
    ∃ d2 x4 x5, exSs G (callF G P (n + 29)) (c_law_b0 I) [a, b, .own dk, t, w4, w5] = some (.nx [a, b, .own d2, t, x4, x5]) ∧ DeckOk (k + 100) d2 := by
  obtain ⟨s, d1, ok, _, e1, h1⟩ := row_ok (G := G) (n := n + 26) (most := 3) A.d (.inr rfl) (by omega) hd
  have e1 : callF G P (n + 29) I.f_l_row [.list dk, .int 3] = _ := e1
  have e2 := lines_ok (G := G) (n := n + 28) A.l ok
  have e2 : callF G P (n + 29) I.f_l_lines [s.enc] = _ := e2
  have jn := lns_join ok
  have e3 := text_ok (n := n + 25) A.t ok
  have e3 : callF G P (n + 29) I.f_text [s.enc] = _ := e3
  have e4 := read_ok (n := n + 25) A.t ok
  have e4 : callF G P (n + 29) I.f_read [.str (txS s)] = _ := e4
  have s1 := same_ok (G := G) (n := n + 27) A.s 0 (d := .str (txS s)) rfl
  have s1 : callF G P (n + 29) I.f_l_same [.str (txS s), .str (txS s)] = _ := s1
  have s2 := same_ok (G := G) (n := n + 24) A.s 3 (nest_stt ok)
  have s2 : callF G P (n + 29) I.f_l_same [s.enc, s.enc] = _ := s2
  generalize txS s = TX at *
  generalize (lnsS s).map PyData.str = LS at *
  refine ⟨d1, .v s.enc, .v (.str TX), run_nx (s1 := [a, b, .own d1, t, .v s.enc, w5]) ?_ (run_nx (s1 := [a, b, .own d1, t, .v s.enc, .v (.str TX)]) ?_ (run_nx (s1 := [a, b, .own d1, t, .v s.enc, .v (.str TX)]) ?_ rfl)), h1.mono (by omega)⟩
  · simp [exS, den, dens, getO, setV, endCallD, e1]
  · simp [exS, den, dens, getV, setV, endCall, e2, jn]
  · simp [exS, exSs, den, dens, getV, boolOf, endCall, e3, e4, s1, s2]
theorem deckturn (A : HAll G P I) {n : Nat} {scr : D} {cell : Int} (w2 w3 w4 w5 : Sl) : ∃ x2 x3 x4 x5, exSs G (callF G P (n + 29)) (c_law_b1 I) [.v scr, .v (.int cell), w2, w3, w4, w5] = some (.nx [.v scr, .v (.int cell), x2, x3, x4, x5]) := by
  obtain ⟨dk, e1, h1⟩ := deck_ok (G := G) (n := n + 28) (c := cell) (t := 19) A.d
  have e1' : callF G P (n + 29) I.f_l_deck [.int cell, .int 19] = some (.ok (.list dk) true []) := e1
  obtain ⟨st', e2, h2⟩ := forLoop_inv (one := true) (tg := [3]) (items := rngL 0 4) (k := 0) (b := exSs G (callF G P (n + 29)) (c_law_b0 I))
    (fun i st => i ≤ 4 → ∃ d t x4 x5, st = [.v scr, .v (.int cell), .own d, t, x4, x5] ∧ DeckOk (19 + 100 * i) d)
    (st := [.v scr, .v (.int cell), .own dk, w3, w4, w5]) (fun _ => ⟨dk, _, _, _, rfl, h1⟩)
    (fun i x st hi hq => by
      obtain ⟨hi2, rfl⟩ := rngL_get0 hi
      obtain ⟨d, t, x4, x5, rfl, h3⟩ := hq (by omega)
      rw [Nat.zero_add] at h3
      obtain ⟨d2, y4, y5, e, h4⟩ := turn A (n := n) (by omega) h3 (.v scr) (.v (.int cell)) (.v (.int i)) x4 x5
      refine ⟨_, _, rfl, .inl e, fun _ => ⟨d2, _, _, _, rfl, by rw [Nat.zero_add, show 19 + 100 * (i + 1) = 19 + 100 * i + 100 by omega]; exact h4⟩⟩)
  obtain ⟨d, t, x4, x5, rfl, _⟩ := h2 (by decide)
  refine ⟨_, _, _, _, run_nx (s1 := [.v scr, .v (.int cell), .own dk, w3, w4, w5]) ?_ (run_nx (run_fo (items := rngL 0 4) (s1 := [.v scr, .v (.int cell), .own dk, w3, w4, w5]) (w_rng1 (i := 4) rfl rfl (by omega)) e2) rfl)⟩
  simp [exS, denF, den, dens, getV, e1']
theorem says (A : HAll G P I) {li : Nat} (hli : P[li]? = some (c_law I)) {n : Nat} : ∀ ns : List Int, ns.length ≤ 63 → (∀ z ∈ ns, Builtin.Int.intBits z ≤ 1048576) → ∃ fr dk, callF G P (n + 30) li [.list (ns.map .int)] = some (.ok (.bool true) fr dk) := fun ns hlen _ => by
  obtain ⟨st', e2, a, b, c, d, e, rfl⟩ := cells_loop (b := exSs G (callF G P (n + 29)) (c_law_b1 I)) (zs := cells 12 ns)
    (fun st => ∃ a b c d e, st = [.v (.list (ns.map .int)), a, b, c, d, e])
    (st := [.v (.list (ns.map .int)), .no, .no, .no, .no, .no]) ⟨_, _, _, _, _, rfl⟩
    (fun z st _ hq => by
      obtain ⟨a, b, c, d, e, rfl⟩ := hq
      obtain ⟨x2, x3, x4, x5, e3⟩ := deckturn A (n := n) (scr := .list (ns.map .int)) (cell := z) b c d e
      exact ⟨_, _, rfl, e3, _, _, _, _, _, rfl⟩)
  exact ⟨false, [], (callF_run (fl := .rt (.bool true) false [.v (.list (ns.map .int)), a, b, c, d, e]) (d := c_law I) hli rfl (run_nx (run_fo (items := (cells 12 ns).map .int) (s1 := [.v (.list (ns.map .int)), .no, .no, .no, .no, .no]) (cells_w hlen) e2) (run_rt rfl))).trans rfl⟩
end

abbrev tp (i : Nat) : Stmt := PySem.Challenge.pw_sparerings_k19_whole_texts_read_back.main.body.getD i (.Pass ⟨0, 0, 0, 0⟩)
def ix : Ix := { f_is_within := 0, f_is_habit_value := 1, f_is_street_value := 2, f_need_street := 3, f_part_of := 4, f_text := 5, f_read := 6, f_l_deck := 7, f_l_pick := 8, f_l_one := 9, f_l_sort := 10, f_l_same := 11, f_l_habit := 12, f_l_row := 13, f_l_lines := 14, g_NONE := 0, g_MAT := 1 }
abbrev d0 : Df := c_is_within ix
abbrev d1 : Df := c_is_habit_value ix
abbrev d2 : Df := c_is_street_value ix
abbrev d3 : Df := c_need_street ix
abbrev d4 : Df := c_part_of ix
abbrev d5 : Df := c_text ix
abbrev d6 : Df := c_read ix
abbrev d7 : Df := c_l_deck ix
abbrev d8 : Df := c_l_pick ix
abbrev d9 : Df := c_l_one ix
abbrev d10 : Df := c_l_sort ix
abbrev d11 : Df := c_l_same ix
abbrev d12 : Df := c_l_habit ix
abbrev d13 : Df := c_l_row ix
abbrev d14 : Df := c_l_lines ix
abbrev d15 : Df := c_law ix
abbrev P : List Df := [d0, d1, d2, d3, d4, d5, d6, d7, d8, d9, d10, d11, d12, d13, d14, d15]
def gs : List (Str × D) := [((Str.ofString "NONE"), .int (-2)), ((Str.ofString "MAT"), .int (-1))]
def T : Tab := ⟨gs, P.map fun d => (d.nm, d.dk, d.np), [(Str.ofString "all"), (Str.ofString "any"), (Str.ofString "bool"), (Str.ofString "enumerate"), (Str.ofString "int"), (Str.ofString "isinstance"), (Str.ofString "len"), (Str.ofString "list"), (Str.ofString "range"), (Str.ofString "str"), (Str.ofString "tuple"), (Str.ofString "zip")], [(Str.ofString "InvalidStreet")], (Str.ofString "-"), false, [((Str.ofString "PLACES"), [((Str.ofString "none"), (-2)), ((Str.ofString "mat"), (-1)), ((Str.ofString "0"), 0), ((Str.ofString "1"), 1), ((Str.ofString "2"), 2)])]⟩
abbrev G : List D := gs.map (·.2)
theorem s0 : Seen T (d0, tp 7) := ⟨by decide +kernel, fun _ _ _ _ _ _ us hl => match us, hl with | [_, _, _], _ => rfl⟩
theorem s1 : Seen T (d1, tp 8) := ⟨by decide +kernel, fun _ _ _ _ _ _ us hl => match us, hl with | [_], _ => rfl⟩
theorem s2 : Seen T (d2, tp 9) := ⟨by decide +kernel, fun _ _ _ _ _ _ us hl => match us, hl with | [_], _ => rfl⟩
theorem s3 : Seen T (d3, tp 10) := ⟨by decide +kernel, fun _ _ _ _ _ _ us hl => match us, hl with | [_], _ => rfl⟩
theorem s4 : Seen T (d4, tp 13) := ⟨by decide +kernel, fun _ _ _ _ _ _ us hl => match us, hl with | [_], _ => rfl⟩
theorem s5 : Seen T (d5, tp 14) := ⟨by decide +kernel, fun _ _ _ _ _ _ us hl => match us, hl with | [_], _ => rfl⟩
theorem s6 : Seen T (d6, tp 15) := ⟨by decide +kernel, fun _ _ _ _ _ _ us hl => match us, hl with | [_], _ => rfl⟩
theorem s7 : Seen T (d7, tp 17) := ⟨by decide +kernel, fun _ _ _ _ _ _ us hl => match us, hl with | [_, _], _ => rfl⟩
theorem s8 : Seen T (d8, tp 18) := ⟨by decide +kernel, fun _ _ _ _ _ _ us hl => match us, hl with | [_, _], _ => rfl⟩
theorem s9 : Seen T (d9, tp 19) := ⟨by decide +kernel, fun _ _ _ _ _ _ us hl => match us, hl with | [_, _], _ => rfl⟩
theorem s10 : Seen T (d10, tp 20) := ⟨by decide +kernel, fun _ _ _ _ _ _ us hl => match us, hl with | [_], _ => rfl⟩
theorem s11 : Seen T (d11, tp 21) := ⟨by decide +kernel, fun _ _ _ _ _ _ us hl => match us, hl with | [_, _], _ => rfl⟩
theorem s12 : Seen T (d12, tp 22) := ⟨by decide +kernel, fun _ _ _ _ _ _ us hl => match us, hl with | [_], _ => rfl⟩
theorem s13 : Seen T (d13, tp 23) := ⟨by decide +kernel, fun _ _ _ _ _ _ us hl => match us, hl with | [_, _], _ => rfl⟩
theorem s14 : Seen T (d14, tp 24) := ⟨by decide +kernel, fun _ _ _ _ _ _ us hl => match us, hl with | [_], _ => rfl⟩
theorem s15 : Seen T (d15, tp 25) := ⟨by decide +kernel, fun _ _ _ _ _ _ us hl => match us, hl with | [_], _ => rfl⟩
abbrev ps : List (Df × Stmt) := [(d0, tp 7), (d1, tp 8), (d2, tp 9), (d3, tp 10), (d4, tp 13), (d5, tp 14), (d6, tp 15), (d7, tp 17), (d8, tp 18), (d9, tp 19), (d10, tp 20), (d11, tp 21), (d12, tp 22), (d13, tp 23), (d14, tp 24), (d15, tp 25)]
theorem seen : Each (Seen T) ps := ⟨s0, ⟨s1, ⟨s2, ⟨s3, ⟨s4, ⟨s5, ⟨s6, ⟨s7, ⟨s8, ⟨s9, ⟨s10, ⟨s11, ⟨s12, ⟨s13, ⟨s14, ⟨s15, True.intro⟩⟩⟩⟩⟩⟩⟩⟩⟩⟩⟩⟩⟩⟩⟩⟩
theorem says0 : Says (T.gs.map (·.2)) (ps.map (·.1)) 30 15 63 :=
  says (G := G) (P := P) (I := ix) (n := 0) (by repeat' (first | rfl | constructor)) rfl

end K19
open PySem PySem.W PyProof.Rows in
set_option maxRecDepth 100000 in
set_option maxHeartbeats 0 in
theorem PySem.Challenge.cw_sparerings_k19_whole_texts_read_back_holds : PySem.Challenge.rw_sparerings_k19_whole_texts_read_back.Holds := by
  w_on; o_law; k_head; (case hw => w_witness2)
  k_fill
  refine Pv.walk (l := PySem.Challenge.rw_sparerings_k19_whole_texts_read_back) (T := K19.T) (ps := K19.ps) (n := 30) (i := 15) (dl := K19.d15) rfl rfl ⟨rfl, by decide, by decide⟩ (fun w h Y => PySem.W.kIn_of Y) K19.seen rfl rfl rfl rfl rfl rfl (by decide) K19.says0 ?F
  case F =>
    intro w
    refine ⟨?df, ?bn, ?gl, ?ex, ?gd⟩
    case gd =>
      refine ⟨?h0, True.intro⟩
      (case h0 => (refine' Pv.gdIn ?a ?l ?e ?z; (case a => k_is); (case l => k_is); (case e => exact ⟨⟨_, rfl⟩, rfl, ⟨_, rfl⟩, ⟨⟨_, rfl⟩, rfl, ⟨_, rfl⟩, ⟨⟨_, rfl⟩, rfl, ⟨_, rfl⟩, ⟨⟨_, rfl⟩, rfl, ⟨_, rfl⟩, ⟨⟨_, rfl⟩, rfl, ⟨_, rfl⟩, True.intro⟩⟩⟩⟩⟩); (case z => decide)))
    case df =>
      refine ⟨?h0, ?h1, ?h2, ?h3, ?h4, ?h5, ?h6, ?h7, ?h8, ?h9, ?h10, ?h11, ?h12, ?h13, ?h14, ?h15, True.intro⟩
      (case h0 => (show Pv.DefIn _ (Str.ofString "is_within") (K19.tp 7)); (refine' Pv.defIn ?a ?l ?c ?k; (case a => k_is); (case l => k_is); (case c => k_is); (case k => k_is)))
      (case h1 => (show Pv.DefIn _ (Str.ofString "is_habit_value") (K19.tp 8)); (refine' Pv.defIn ?a ?l ?c ?k; (case a => k_is); (case l => k_is); (case c => k_is); (case k => k_is)))
      (case h2 => (show Pv.DefIn _ (Str.ofString "is_street_value") (K19.tp 9)); (refine' Pv.defIn ?a ?l ?c ?k; (case a => k_is); (case l => k_is); (case c => k_is); (case k => k_is)))
      (case h3 => (show Pv.DefIn _ (Str.ofString "need_street") (K19.tp 10)); (refine' Pv.defIn ?a ?l ?c ?k; (case a => k_is); (case l => k_is); (case c => k_is); (case k => k_is)))
      (case h4 => (show Pv.DefIn _ (Str.ofString "part_of") (K19.tp 13)); (refine' Pv.defIn ?a ?l ?c ?k; (case a => k_is); (case l => k_is); (case c => k_is); (case k => k_is)))
      (case h5 => (show Pv.DefIn _ (Str.ofString "text") (K19.tp 14)); (refine' Pv.defIn ?a ?l ?c ?k; (case a => k_is); (case l => k_is); (case c => k_is); (case k => k_is)))
      (case h6 => (show Pv.DefIn _ (Str.ofString "read") (K19.tp 15)); (refine' Pv.defIn ?a ?l ?c ?k; (case a => k_is); (case l => k_is); (case c => k_is); (case k => k_is)))
      (case h7 => (show Pv.DefIn _ (Str.ofString "_law_deck") (K19.tp 17)); (refine' Pv.defIn ?a ?l ?c ?k; (case a => k_is); (case l => k_is); (case c => k_is); (case k => k_is)))
      (case h8 => (show Pv.DefIn _ (Str.ofString "_law_pick") (K19.tp 18)); (refine' Pv.defIn ?a ?l ?c ?k; (case a => k_is); (case l => k_is); (case c => k_is); (case k => k_is)))
      (case h9 => (show Pv.DefIn _ (Str.ofString "_law_one") (K19.tp 19)); (refine' Pv.defIn ?a ?l ?c ?k; (case a => k_is); (case l => k_is); (case c => k_is); (case k => k_is)))
      (case h10 => (show Pv.DefIn _ (Str.ofString "_law_sort") (K19.tp 20)); (refine' Pv.defIn ?a ?l ?c ?k; (case a => k_is); (case l => k_is); (case c => k_is); (case k => k_is)))
      (case h11 => (show Pv.DefIn _ (Str.ofString "_law_same") (K19.tp 21)); (refine' Pv.defIn ?a ?l ?c ?k; (case a => k_is); (case l => k_is); (case c => k_is); (case k => k_is)))
      (case h12 => (show Pv.DefIn _ (Str.ofString "_law_habit") (K19.tp 22)); (refine' Pv.defIn ?a ?l ?c ?k; (case a => k_is); (case l => k_is); (case c => k_is); (case k => k_is)))
      (case h13 => (show Pv.DefIn _ (Str.ofString "_law_row") (K19.tp 23)); (refine' Pv.defIn ?a ?l ?c ?k; (case a => k_is); (case l => k_is); (case c => k_is); (case k => k_is)))
      (case h14 => (show Pv.DefIn _ (Str.ofString "_law_lines") (K19.tp 24)); (refine' Pv.defIn ?a ?l ?c ?k; (case a => k_is); (case l => k_is); (case c => k_is); (case k => k_is)))
      (case h15 => (show Pv.DefIn _ (Str.ofString "law") (K19.tp 25)); (refine' Pv.defIn ?a ?l ?c ?k; (case a => k_is); (case l => k_is); (case c => k_is); (case k => k_is)))
    case bn =>
      refine ⟨?h0, ?h1, ?h2, ?h3, ?h4, ?h5, ?h6, ?h7, ?h8, ?h9, ?h10, ?h11, True.intro⟩
      (case h0 => (refine' Pv.freeIn ?a; (case a => k_is)))
      (case h1 => (refine' Pv.freeIn ?a; (case a => k_is)))
      (case h2 => (refine' Pv.freeIn ?a; (case a => k_is)))
      (case h3 => (refine' Pv.freeIn ?a; (case a => k_is)))
      (case h4 => (refine' Pv.freeIn ?a; (case a => k_is)))
      (case h5 => (refine' Pv.freeIn ?a; (case a => k_is)))
      (case h6 => (refine' Pv.freeIn ?a; (case a => k_is)))
      (case h7 => (refine' Pv.freeIn ?a; (case a => k_is)))
      (case h8 => (refine' Pv.freeIn ?a; (case a => k_is)))
      (case h9 => (refine' Pv.freeIn ?a; (case a => k_is)))
      (case h10 => (refine' Pv.freeIn ?a; (case a => k_is)))
      (case h11 => (refine' Pv.freeIn ?a; (case a => k_is)))
    case gl =>
      refine ⟨?h0, ?h1, True.intro⟩
      (case h0 => (refine' Pv.glb_of ?a ?r; (case a => k_is); (case r => exact Pv.krp_int)))
      (case h1 => (refine' Pv.glb_of ?a ?r; (case a => k_is); (case r => exact Pv.krp_int)))
    case ex =>
      refine ⟨?h0, True.intro⟩
      (case h0 => (refine' Pv.exIn ?xa ?xk ?xq ?xb ?xt; (case xa => k_is); (case xk => k_is); (case xq => k_exc); (case xb => k_is); (case xt => k_is)))
