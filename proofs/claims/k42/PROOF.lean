import PyProof.Rows.All
import Wide.All
import OpenK.AllK
import Wide.FinOn
import HandS.ForMost
import HandS.Walk
import HandS.TupAny
import HandS.Wide
import HandS.Deep
import HandS.Flow
import HandS.Style
import HandS.IsInst
import HandS.Zip
import HandS.Lambda
import KE.DataAny
import HandS.SetFor
import HandS.SortInts
import HandS.Star
import HandS.Conv
import HandS.Iter
import HandS.Words
import KE.KLam
import HandS.EndTab
import PySem.Challenge.RW_stepcovers_k42_whole_fraenkels_rows
set_option Elab.async false
set_option linter.all false
set_option maxRecDepth 100000
set_option maxHeartbeats 4000000
/-! EvA: a small evaluator of its own over a heap of its own (plain Lean, no machine). -/
namespace EV
open PySem

/-- a value -/
inductive AV where
  | non | bl (b : Bool) | int (i : Int) | str (x : Str) | ref (n : Nat) | ty (s : String) | fn (k : Nat) | scr
  deriving DecidableEq
/-- what stands at an address -/
inductive AO where
  | lst (xs : List AV) | tup (xs : List AV) | dk (kvs : List (L2.Key × AV)) | dt (kvs : List (List L2.Key × AV)) | clo (e : List (Option AV))
  deriving DecidableEq

/-! ### the heap: a trie -/
inductive Tr where
  | lf | nd (o : Option AO) (l r : Tr)
def Tr.get : Tr → Nat → Option AO
  | .lf, _ => none
  | .nd o l r, n => if n = 0 then o else if n % 2 = 1 then l.get (n / 2) else r.get (n / 2 - 1)
def Tr.setF : Nat → Tr → Nat → AO → Tr
  | 0, t, _, _ => t
  | f + 1, .lf, n, o => if n = 0 then .nd (some o) .lf .lf else if n % 2 = 1 then .nd none (Tr.setF f .lf (n / 2) o) .lf else .nd none .lf (Tr.setF f .lf (n / 2 - 1) o)
  | f + 1, .nd o' l r, n, o => if n = 0 then .nd (some o) l r else if n % 2 = 1 then .nd o' (Tr.setF f l (n / 2) o) r else .nd o' l (Tr.setF f r (n / 2 - 1) o)
theorem Tr.get_setF : ∀ (f : Nat) (t : Tr) (n m : Nat) (o : AO), n < f → (Tr.setF f t n o).get m = if m = n then some o else t.get m
  | 0, _, _, _, _, h => absurd h (Nat.not_lt_zero _)
  | f + 1, .lf, n, m, o, h => by
    unfold Tr.setF
    by_cases h0 : n = 0
    · rw [if_pos h0]
      subst h0
      by_cases hm : m = 0
      · simp [Tr.get, hm]
      · simp [Tr.get, hm]
    · rw [if_neg h0]
      by_cases h1 : n % 2 = 1
      · rw [if_pos h1]
        unfold Tr.get
        by_cases hm : m = 0
        · rw [if_pos hm, if_neg (by omega)]
        · rw [if_neg hm]
          by_cases hm1 : m % 2 = 1
          · rw [if_pos hm1, Tr.get_setF f .lf (n / 2) (m / 2) o (by omega)]
            by_cases e : m = n
            · rw [if_pos e, if_pos (by omega)]
            · rw [if_neg e, if_neg (by omega)]
              rfl
          · rw [if_neg hm1, if_neg (by omega)]
            rfl
      · rw [if_neg h1]
        unfold Tr.get
        by_cases hm : m = 0
        · rw [if_pos hm, if_neg (by omega)]
        · rw [if_neg hm]
          by_cases hm1 : m % 2 = 1
          · rw [if_pos hm1, if_neg (by omega)]
            rfl
          · rw [if_neg hm1, Tr.get_setF f .lf (n / 2 - 1) (m / 2 - 1) o (by omega)]
            by_cases e : m = n
            · rw [if_pos e, if_pos (by omega)]
            · rw [if_neg e, if_neg (by omega)]
              rfl
  | f + 1, .nd o' l r, n, m, o, h => by
    unfold Tr.setF
    by_cases h0 : n = 0
    · rw [if_pos h0]
      subst h0
      by_cases hm : m = 0
      · simp [Tr.get, hm]
      · simp [Tr.get, hm]
    · rw [if_neg h0]
      by_cases h1 : n % 2 = 1
      · rw [if_pos h1]
        unfold Tr.get
        by_cases hm : m = 0
        · rw [if_pos hm, if_pos hm, if_neg (by omega)]
        · rw [if_neg hm, if_neg hm]
          by_cases hm1 : m % 2 = 1
          · rw [if_pos hm1, if_pos hm1, Tr.get_setF f l (n / 2) (m / 2) o (by omega)]
            by_cases e : m = n
            · rw [if_pos e, if_pos (by omega)]
            · rw [if_neg e, if_neg (by omega)]
          · rw [if_neg hm1, if_neg hm1, if_neg (by omega)]
      · rw [if_neg h1]
        unfold Tr.get
        by_cases hm : m = 0
        · rw [if_pos hm, if_pos hm, if_neg (by omega)]
        · rw [if_neg hm, if_neg hm]
          by_cases hm1 : m % 2 = 1
          · rw [if_pos hm1, if_pos hm1, if_neg (by omega)]
          · rw [if_neg hm1, if_neg hm1, Tr.get_setF f r (n / 2 - 1) (m / 2 - 1) o (by omega)]
            by_cases e : m = n
            · rw [if_pos e, if_pos (by omega)]
            · rw [if_neg e, if_neg (by omega)]

/-- z: the script -/
structure AH where
  sz : Nat
  t : Tr
  z : List Int
def AH.get (h : AH) (n : Nat) : Option AO := h.t.get n
def AH.set (h : AH) (n : Nat) (o : AO) : AH := ⟨h.sz, Tr.setF (n + 1) h.t n o, h.z⟩
def AH.push (h : AH) (o : AO) : AH := ⟨h.sz + 1, Tr.setF (h.sz + 1) h.t h.sz o, h.z⟩
def AH.nil (z : List Int) : AH := ⟨0, .lf, z⟩
theorem AH.get_set (h : AH) (n m : Nat) (o : AO) : (h.set n o).get m = if m = n then some o else h.get m := Tr.get_setF _ _ _ _ _ (Nat.lt_succ_self _)
theorem AH.get_push (h : AH) (m : Nat) (o : AO) : (h.push o).get m = if m = h.sz then some o else h.get m := Tr.get_setF _ _ _ _ _ (Nat.lt_succ_self _)
theorem AH.sz_push (h : AH) (o : AO) : (h.push o).sz = h.sz + 1 := rfl
theorem AH.sz_set (h : AH) (n : Nat) (o : AO) : (h.set n o).sz = h.sz := rfl

/-! ### results -/
/-- an expression's result: a value; an exception of the program's own class c with the values of its fields; nothing is known -/
inductive Rs (α : Type) where
  | ok (a : α) (h : AH) | exc (c : Nat) (vs : List AV) (h : AH) | no
def Rs.bind {α β : Type} : Rs α → (α → AH → Rs β) → Rs β
  | .ok a h, f => f a h
  | .exc c vs h, _ => .exc c vs h
  | .no, _ => .no
abbrev En := List (Option AV)
/-- a statement's result -/
inductive Rt where
  | nx (e : En) (h : AH) | rt (v : AV) (h : AH) | bk (e : En) (h : AH) | ct (e : En) (h : AH) | exc (c : Nat) (vs : List AV) (e : En) (h : AH) | no

/-! ### the syntax -/
/-- how a name is read (of no account here; for the evaluator over trees) -/
inductive Mo where
  | rd | mv | bo
  deriving DecidableEq
inductive BOp where
  | add | sub | mul | fdiv | mod | pow | shl | shr
  deriving DecidableEq
inductive COp where
  | eq | ne | lt | le | gt | ge | isin | notin | is | isnot
  deriving DecidableEq
/-- built-in functions -/
inductive Bi where
  | len | abs | int | list | tuple | sorted | sum | min | max | all | any | dict | str
  deriving DecidableEq
/-- methods -/
inductive Mt where
  | append | extend | pop | index | count | insert | remove | get | setdefault | update
  deriving DecidableEq
/-- what a loop walks: a list or tuple, range(..), enumerate(..), zip(.., ..) -/
inductive Sk where
  | seq | range | enum | zip
  deriving DecidableEq
/-- a target: a name's slot, or a written tuple of names -/
inductive Tg where
  | nm (i : Nat) | tp (is : List Nat)
  deriving DecidableEq
inductive E where
  | bad
  | k (c : AV)
  | var (i : Nat) (m : Mo)
  | glo (k : Nat)
  | bin (op : BOp) (a b : E)
  | neg (a : E)
  | no (a : E)
  | an (a b : E)
  | orr (a b : E)
  | ite (c a b : E)
  | cmp (op : COp) (a b : E)
  | cmp2 (op op' : COp) (a b c : E)
  | ix (a b : E)
  | sl (a : E) (lo hi : Option E)
  | rev (a : E)
  | lst (es : List E)
  | tup (es : List E)
  | dnew (t : Bool)
  | disp (ks vs : List E)
  | call (k : Nat) (es : List E)
  | app (i : Nat)
  | calll (k : Nat) (es ls : List E)
  | callk (k : Nat) (es ks : List E) (pm : List Nat)
  | bi (b : Bi) (es : List E)
  | isi (a : E) (ts : List String)
  | mt (m : Mt) (o : E) (es : List E)
  | lstS (fs : List Bool) (es : List E)
  | lrg1 (a : E)
  | lrg2 (a b : E)
  | lc (own : List Nat) (elt : E) (tg : Tg) (sk : Sk) (src : List E) (cond : Option E)
  | lc2 (own own1 : List Nat) (elt : E) (tg : Tg) (sk : Sk) (src : List E) (cond : Option E) (tg1 : Tg) (sk1 : Sk) (src1 : List E) (cond1 : Option E)

inductive S where
  | bad
  | set (i : Nat) (e : E)
  | par (is : List Nat) (es : List E)
  | asg (t : Tg) (e : E)
  | sub (o i e : E)
  | aug (i : Nat) (op : BOp) (e : E)
  | augs (o i : E) (op : BOp) (e : E)
  | ex (e : E)
  | ret (e : E)
  | retn
  | iff (c : E) (a b : List S)
  | whl (c : E) (b : List S)
  | for_ (t : Tg) (sk : Sk) (src : List E) (b : List S)
  | brk | cnt | pass
  | raise (c : Nat) (es : List E)
  | spo (k i : Nat)

/-! ### values by the heap -/
def typN (h : AH) : AV → Option String
  | .non => some "NoneType"
  | .bl _ => some "bool"
  | .int _ => some "int"
  | .str _ => some "str"
  | .ref n => match h.get n with
    | some (.lst _) => some "list"
    | some (.tup _) => some "tuple"
    | some (.dk _) => some "dict"
    | some (.dt _) => some "dict"
    | _ => none
  | _ => none
def isiB (t u : String) : Bool := t == u || (t == "bool" && u == "int")
def lstA (h : AH) : AV → Option (List AV)
  | .ref n => match h.get n with
    | some (.lst xs) => some xs
    | _ => none
  | _ => none
def tupA (h : AH) : AV → Option (List AV)
  | .ref n => match h.get n with
    | some (.tup xs) => some xs
    | _ => none
  | _ => none
def truA (h : AH) : AV → Option Bool
  | .non => some false
  | .bl b => some b
  | .int i => some (i != 0)
  | .str x => if x.length ≤ sizeLine then some ((x.length : Int) != 0) else none
  | .ref n => match h.get n with
    | some (.lst xs) => some (!xs.isEmpty)
    | some (.tup xs) => some (!xs.isEmpty)
    | some (.dk kvs) => some (!kvs.isEmpty)
    | _ => none
  | _ => none
/-- a list's item's truth -/
def tlA (h : AH) (v : AV) : Option Bool := match v with
  | .non => some false
  | .bl b => some b
  | .int i => some (i != 0)
  | .str x => if x.length ≤ sizeLine then some ((x.length : Int) != 0) else none
  | .ref n => match h.get n with
    | some (.lst xs) => some (!xs.isEmpty)
    | some (.tup xs) => some (!xs.isEmpty)
    | _ => none
  | _ => none
def mapO {α β : Type} (f : α → Option β) : List α → Option (List β)
  | [] => some []
  | x :: xs => match f x, mapO f xs with
    | some d, some ds => some (d :: ds)
    | _, _ => none
def toPy : Nat → AH → AV → Option PyData
  | 0, _, _ => none
  | f + 1, h, v => match v with
    | .non => some .none
    | .bl b => some (.bool b)
    | .int i => some (.int i)
    | .str x => some (.str x)
    | .ref n => match h.get n with
      | some (.lst xs) => (mapO (toPy f h) xs).map .list
      | some (.tup xs) => (mapO (toPy f h) xs).map .tuple
      | _ => none
    | _ => none
/-- the data that a value tells, of a shape that == serves -/
def datA (h : AH) (v : AV) : Option PyData := match toPy 200 h v with
  | some d => if SeqAt.shaped d then some d else none
  | none => none
def keyA : AV → Option L2.Key
  | .int i => some (.inl i)
  | .str x => some (.inr x)
  | _ => none
def keysA : List AV → Option (List L2.Key)
  | [] => some []
  | x :: xs => match keyA x, keysA xs with
    | some k, some ks => some (k :: ks)
    | _, _ => none
/-- a tuple of ints and texts as a key -/
def tkeyA (h : AH) (v : AV) : Option (List L2.Key) := match tupA h v with
  | some xs => keysA xs
  | none => none
def valA {κ : Type} [DecidableEq κ] (kvs : List (κ × AV)) (k : κ) : Option AV := (kvs.find? fun kv => decide (kv.1 = k)).map (·.2)
def putA {κ : Type} [DecidableEq κ] (kvs : List (κ × AV)) (k : κ) (v : AV) : List (κ × AV) :=
  if kvs.any (fun kv => decide (kv.1 = k)) then kvs.map fun kv => if kv.1 = k then (kv.1, v) else kv else kvs ++ [(k, v)]
def intsA : List AV → Option (List Int)
  | [] => some []
  | .int i :: xs => match intsA xs with
    | some is => some (i :: is)
    | none => none
  | _ => none
def blsA : List AV → Option (List Bool)
  | [] => some []
  | .bl b :: xs => match blsA xs with
    | some is => some (b :: is)
    | none => none
  | _ => none
/-- a subscript for reading: a list, a tuple, a dict, a text -/
def ixA (h : AH) (o i : AV) : Option AV := match o, i with
  | .ref n, i => match h.get n with
    | some (.lst xs) => match i with | .int j => L2.atI xs j | _ => none
    | some (.tup xs) => match i with | .int j => L2.atI xs j | _ => none
    | some (.dk kvs) => match keyA i with | some k => valA kvs k | none => none
    | some (.dt kvs) => match tkeyA h i with | some k => valA kvs k | none => none
    | _ => none
  | .str z, .int j => if z.length ≤ sizeLine then (L2.atI z.cps.toList j).map fun c => .str ⟨#[c]⟩ else none
  | _, _ => none
def newA (h : AH) (o : AO) : Rs AV := .ok (.ref h.sz) (h.push o)
def opt (h : AH) : Option AV → Rs AV
  | some v => .ok v h
  | none => .no
def binA (op : BOp) (h : AH) (x y : AV) : Rs AV := match op, x, y with
  | .add, .int i, .int j => .ok (.int (i + j)) h
  | .add, .str a, .str b => if a.length + b.length ≤ sizeLine then .ok (.str (a ++ b)) h else .no
  | .add, .ref a, .ref b => match h.get a, h.get b with
    | some (.lst xs), some (.lst ys) => if xs.length + ys.length ≤ sizeLine then newA h (.lst (xs ++ ys)) else .no
    | some (.tup xs), some (.tup ys) => if xs.length + ys.length ≤ sizeLine then (if xs.isEmpty then .ok (.ref b) h else if ys.isEmpty then .ok (.ref a) h else newA h (.tup (xs ++ ys))) else .no
    | _, _ => .no
  | .sub, .int i, .int j => .ok (.int (i - j)) h
  | .mul, .int i, .int j => if i.natAbs.log2 + j.natAbs.log2 < 1000000 then .ok (.int (i * j)) h else .no
  | .mul, .ref a, .int j => match h.get a with
    | some (.lst xs) => if -(2 ^ 63) ≤ j ∧ j < 2 ^ 63 ∧ xs.length * j.toNat ≤ sizeLine then newA h (.lst (List.replicate j.toNat xs).flatten) else .no
    | _ => .no
  | .fdiv, .int i, .int j => if j ≠ 0 ∧ (j.natAbs < 1073741824 ∨ (0 < j ∧ j.natAbs.log2 < 9000)) then .ok (.int (i.fdiv j)) h else .no
  | .mod, .int i, .int j => if j ≠ 0 then .ok (.int (i.fmod j)) h else .no
  | .pow, .int i, .int j => if 0 ≤ j ∧ j ≤ 1000000 ∧ i.natAbs < 2 ^ 64 then .ok (.int (i ^ j.toNat)) h else .no
  | .shl, .int i, .int j => if 0 ≤ j ∧ j ≤ 1000000 ∧ i.natAbs < 2 ^ 64 then .ok (.int (i * 2 ^ j.toNat)) h else .no
  | .shr, .int i, .int j => if 0 ≤ j then .ok (.int (i / 2 ^ j.toNat)) h else .no
  | _, _, _ => .no
/-- a op= b, for ints -/
def augA (op : BOp) (h : AH) (x y : AV) : Rs AV := match op, x, y with
  | .add, .int i, .int j => .ok (.int (i + j)) h
  | .sub, .int i, .int j => .ok (.int (i - j)) h
  | _, _, _ => .no
def lexA : List Int → List Int → Bool
  | [], [] => false
  | [], _ :: _ => true
  | _ :: _, [] => false
  | x :: xs, y :: ys => if x = y then lexA xs ys else decide (x < y)
def cmpA (op : COp) (h : AH) (x y : AV) : Option Bool := match op with
  | .eq => match datA h x, datA h y with
    | some d, some e => some (PyData.eqv d e)
    | _, _ => none
  | .ne => match datA h x, datA h y with
    | some d, some e => some (!PyData.eqv d e)
    | _, _ => none
  | .lt => match x, y with
    | .int i, .int j => some (decide (i < j))
    | .ref _, .ref _ => match tupA h x, tupA h y with
      | some xs, some ys => match intsA xs, intsA ys with
        | some is, some js => some (lexA is js)
        | _, _ => none
      | _, _ => none
    | _, _ => none
  | .le => match x, y with
    | .int i, .int j => some (decide (i ≤ j))
    | _, _ => none
  | .gt => match x, y with
    | .int i, .int j => some (decide (j < i))
    | _, _ => none
  | .ge => match x, y with
    | .int i, .int j => some (decide (j ≤ i))
    | _, _ => none
  | .is => match y with
    | .non => some (decide (x = .non))
    | _ => none
  | .isnot => match y with
    | .non => some (!decide (x = .non))
    | _ => none
  | .isin => match inA h x y with
    | some b => some b
    | none => none
  | .notin => match inA h x y with
    | some b => some (!b)
    | none => none
where
  inA (h : AH) (x y : AV) : Option Bool := match y with
    | .ref n => match h.get n with
      | some (.dk kvs) => match keyA x with | some k => some (valA kvs k).isSome | none => none
      | some (.dt kvs) => match tkeyA h x with | some k => some (valA kvs k).isSome | none => none
      | some (.tup xs) => if flatA x && xs.all flatA then some (xs.any fun y => eqF y x) else none
      | _ => match datA h y, datA h x with
        | some (.list ds), some d => some (ds.any fun z => PyData.eqv z d)
        | _, _ => none
    | _ => none
  flatA : AV → Bool
    | .non => true
    | .bl _ => true
    | .int _ => true
    | .str _ => true
    | _ => false
  eqF : AV → AV → Bool
    | .non, .non => true
    | .bl a, .bl b => a == b
    | .bl a, .int b => (if a then 1 else 0) == b
    | .int a, .bl b => a == (if b then 1 else 0)
    | .int a, .int b => a == b
    | .str a, .str b => a == b
    | _, _ => false
def sliceA (h : AH) (o : AV) (lo hi : Option Int) : Rs AV := match o with
  | .ref n => match h.get n with
    | some (.lst xs) => newA h (.lst (cut xs lo hi))
    | some (.tup xs) => if HT.sIx xs.length 0 lo = 0 ∧ HT.sIx xs.length xs.length hi = xs.length then .ok o h else newA h (.tup (cut xs lo hi))
    | _ => .no
  | _ => .no
where
  cut (xs : List AV) (lo hi : Option Int) : List AV := (xs.drop (HT.sIx xs.length 0 lo)).take (HT.sIx xs.length xs.length hi - HT.sIx xs.length 0 lo)
def insI (x : Int) : List Int → List Int
  | [] => [x]
  | y :: ys => if x ≤ y then x :: y :: ys else y :: insI x ys
def sortI : List Int → List Int
  | [] => []
  | x :: xs => insI x (sortI xs)
def biA (b : Bi) (h : AH) (xs : List AV) : Rs AV := match b, xs with
  | .len, [.str x] => if x.length ≤ sizeLine then .ok (.int x.length) h else .no
  | .len, [.ref n] => match h.get n with
    | some (.lst ys) => .ok (.int ys.length) h
    | some (.tup ys) => .ok (.int ys.length) h
    | some (.dk ys) => .ok (.int ys.length) h
    | _ => .no
  | .abs, [.int i] => .ok (.int (if i < 0 then -i else i)) h
  | .int, [.int i] => .ok (.int i) h
  | .int, [.bl b] => .ok (.int (if b then 1 else 0)) h
  | .list, [.scr] => newA h (.lst (h.z.map .int))
  | .list, [.ref n] => match h.get n with
    | some (.lst ys) => newA h (.lst ys)
    | some (.tup ys) => newA h (.lst ys)
    | _ => .no
  | .tuple, [.ref n] => match h.get n with
    | some (.lst ys) => newA h (.tup ys)
    | some (.tup _) => .ok (.ref n) h
    | _ => .no
  | .sum, [x] => match lstA h x with
    | some ys => match intsA ys with
      | some is => .ok (.int is.sum) h
      | none => .no
    | none => .no
  | .sorted, [x] => match lstA h x with
    | some ys => match intsA ys with
      | some is => newA h (.lst ((sortI is).map .int))
      | none => .no
    | none => .no
  | .max, [x] => match lstA h x with
    | some ys => match intsA ys with
      | some (i :: is) => .ok (.int (is.foldl (fun a b => if a < b then b else a) i)) h
      | _ => .no
    | none => .no
  | .min, [x] => match lstA h x with
    | some ys => match intsA ys with
      | some (i :: is) => .ok (.int (is.foldl (fun a b => if b < a then b else a) i)) h
      | _ => .no
    | none => .no
  | .all, [x] => match lstA h x with
    | some ys => match mapO (tlA h) ys with
      | some bs => .ok (.bl (bs.all id)) h
      | none => .no
    | none => .no
  | .any, [x] => match lstA h x with
    | some ys => match mapO (tlA h) ys with
      | some bs => .ok (.bl (bs.any id)) h
      | none => .no
    | none => .no
  | _, _ => .no
def mtA (m : Mt) (h : AH) (o : AV) (xs : List AV) : Rs AV := match o with
  | .ref n => match h.get n with
    | some (.lst ys) => match m, xs with
      | .append, [x] => if ys.length < sizeLine then .ok .non (h.set n (.lst (ys ++ [x]))) else .no
      | .extend, [.ref b] => match h.get b with
        | some (.lst zs) => if ys.length + zs.length ≤ sizeLine then .ok .non (h.set n (.lst (ys ++ zs))) else .no
        | _ => .no
      | .pop, [] => match ys[ys.length - 1]? with
        | some y => .ok y (h.set n (.lst ys.dropLast))
        | none => .no
      | .pop, [.int i] => if -(2 ^ 63) ≤ i ∧ i < 2 ^ 63 then match L2.ixN ys.length i with
          | some k => match ys[k]? with
            | some y => .ok y (h.set n (.lst (ys.eraseIdx k)))
            | none => .no
          | none => .no
        else .no
      | .index, [x] => match datA h o, datA h x with
        | some (.list ds), some d => match ds.findIdx? fun z => PyData.eqv z d with
          | some j => .ok (.int j) h
          | none => .no
        | _, _ => .no
      | .count, [.int x] => match intsA ys with
        | some is => .ok (.int (is.count x)) h
        | none => .no
      | _, _ => .no
    | some (.dk kvs) => match m, xs with
      | .get, [k] => match keyA k with
        | some k => .ok ((valA kvs k).getD .non) h
        | none => .no
      | .get, [k, d] => match keyA k with
        | some k => .ok ((valA kvs k).getD d) h
        | none => .no
      | _, _ => .no
    | some (.dt kvs) => match m, xs with
      | .get, [k] => match tkeyA h k with
        | some k => .ok ((valA kvs k).getD .non) h
        | none => .no
      | .get, [k, d] => match tkeyA h k with
        | some k => .ok ((valA kvs k).getD d) h
        | none => .no
      | _, _ => .no
    | _ => .no
  | _ => .no
/-- the receiver is of the method's type -/
def rcvA (m : Mt) (h : AH) (x : AV) : Bool := match m with
  | .get => (match x with
    | .ref n => (match h.get n with
      | some (.dk _) => true
      | some (.dt _) => true
      | _ => false)
    | _ => false)
  | _ => (lstA h x).isSome
/-- o[i] = v -/
def setA (h : AH) (o i v : AV) : Option AH := match o with
  | .ref n => match h.get n with
    | some (.lst xs) => match i with
      | .int j => match L2.ixN xs.length j with
        | some k => some (h.set n (.lst (xs.set k v)))
        | none => none
      | _ => none
    | some (.dk kvs) => match keyA i with
      | some k => if kvs.length < sizeLine then some (h.set n (.dk (putA kvs k v))) else none
      | none => none
    | some (.dt kvs) => match tkeyA h i with
      | some k => if kvs.length < sizeLine then some (h.set n (.dt (putA kvs k v))) else none
      | none => none
    | _ => none
  | _ => none

/-! ### what is walked -/
inductive Tv where
  | one (v : AV) | two (a b : AV)
structure Itv where
  turns : List Tv
  ck : AH → Bool
def isL (n : Nat) (xs : List AV) (h : AH) : Bool := match h.get n with
  | some (.lst ys) => decide (ys = xs)
  | _ => false
def isT (n : Nat) (xs : List AV) (h : AH) : Bool := match h.get n with
  | some (.tup ys) => decide (ys = xs)
  | _ => false
def enumFrom : Nat → List AV → List Tv
  | _, [] => []
  | i, x :: xs => .two (.int i) x :: enumFrom (i + 1) xs
def zipTv : List AV → List AV → List Tv
  | x :: xs, y :: ys => .two x y :: zipTv xs ys
  | _, _ => []
def rangeTv (lo : Int) : Nat → List Tv
  | 0 => []
  | n + 1 => .one (.int lo) :: rangeTv (lo + 1) n
/-- how many a range by steps above nought has -/
def rangeSz (i j c : Int) : Nat := if i < j then ((j - i - 1) / c + 1).toNat else 0
def stepTv (lo c : Int) : Nat → List Tv
  | 0 => []
  | n + 1 => .one (.int lo) :: stepTv (lo + c) c n
/-- lo, lo + 1, .. as values -/
def rgA (lo : Int) (n : Nat) : List AV := (List.range n).map fun k => .int (lo + (k : Nat))
def inR (i : Int) : Bool := decide (-(2 ^ 62) ≤ i) && decide (i < 2 ^ 62)
def srcA (sk : Sk) (h : AH) (xs : List AV) : Option Itv := match sk, xs with
  | .seq, [.ref n] => match h.get n with
    | some (.lst ys) => some ⟨ys.map .one, isL n ys⟩
    | some (.tup ys) => some ⟨ys.map .one, isT n ys⟩
    | _ => none
  | .range, [.int j] => if inR j then some ⟨rangeTv 0 j.toNat, fun _ => true⟩ else none
  | .range, [.int i, .int j] => if inR i && inR j then some ⟨rangeTv i (j - i).toNat, fun _ => true⟩ else none
  | .range, [.int i, .int j, .int c] => if (inR i && inR j) && (decide (0 < c) && decide (c < 1073741824)) then some ⟨stepTv i c (rangeSz i j c), fun _ => true⟩ else none
  | .enum, [.ref n] => match h.get n with
    | some (.lst ys) => some ⟨enumFrom 0 ys, isL n ys⟩
    | _ => none
  | .zip, [.ref n, .ref m] => match h.get n, h.get m with
    | some (.lst ys), some (.lst zs) => some ⟨zipTv ys zs, fun h => isL n ys h && isL m zs h⟩
    | some (.tup ys), some (.tup zs) => some ⟨zipTv ys zs, fun h => isT n ys h && isT m zs h⟩
    | _, _ => none
  | _, _ => none
def setMany : En → List Nat → List AV → Option En
  | e, [], [] => some e
  | e, i :: is, v :: vs => setMany (e.set i (some v)) is vs
  | _, _, _ => none
def bindT (t : Tg) (h : AH) (v : Tv) (e : En) : Option En := match t, v with
  | .nm i, .one v => some (e.set i (some v))
  | .tp is, .one v => match tupA h v with
    | some xs => setMany e is xs
    | none => none
  | .tp is, .two a b => setMany e is [a, b]
  | _, _ => none
def wipeA (e : En) : List Nat → En
  | [] => e
  | v :: vs => (wipeA e vs).set v none
/-- a comprehension's loop: f at a turn gives the new item, or none -/
def compL (ck : AH → Bool) (f : Tv → AH → Rs (Option AV)) : List Tv → AH → List AV → Rs (List AV)
  | [], h, acc => if ck h then .ok acc h else .no
  | t :: ts, h, acc => if ck h then (f t h).bind fun o h1 => match o with
      | some v => if acc.length < sizeLine then compL ck f ts h1 (acc ++ [v]) else .no
      | none => compL ck f ts h1 acc
    else .no
/-- the inner loop of two clauses -/
def compL2 (ck : AH → Bool) (f : Tv → AH → List AV → Rs (List AV)) : List Tv → AH → List AV → Rs (List AV)
  | [], h, acc => if ck h then .ok acc h else .no
  | t :: ts, h, acc => if ck h then (f t h acc).bind fun acc1 h1 => compL2 ck f ts h1 acc1 else .no
def forL (ck : AH → Bool) (f : Tv → En → AH → Rt) : List Tv → En → AH → Rt
  | [], e, h => if ck h then .nx e h else .no
  | t :: ts, e, h => if ck h then match f t e h with
      | .nx e1 h1 => forL ck f ts e1 h1
      | .ct e1 h1 => forL ck f ts e1 h1
      | .bk e1 h1 => .nx e1 h1
      | r => r
    else .no
def whlL (c : En → AH → Rs Bool) (f : En → AH → Rt) : Nat → En → AH → Rt
  | 0, _, _ => .no
  | g + 1, e, h => match c e h with
    | .ok false h1 => .nx e h1
    | .ok true h1 => match f e h1 with
      | .nx e1 h2 => whlL c f g e1 h2
      | .ct e1 h2 => whlL c f g e1 h2
      | .bk e1 h2 => .nx e1 h2
      | r => r
    | .exc k vs h1 => .exc k vs e h1
    | .no => .no

def lrgA (h : AH) (xs : List AV) : Rs AV := match xs with
  | [.int j] => if inR j && decide (j.toNat ≤ 16777216) then newA h (.lst (rgA 0 j.toNat)) else .no
  | [.int i, .int j] => if (inR i && inR j) && decide ((j - i).toNat ≤ 16777216) then newA h (.lst (rgA i (j - i).toNat)) else .no
  | _ => .no
/-- the items of a list or tuple -/
def seqA (h : AH) : AV → Option (List AV)
  | .ref n => match h.get n with
    | some (.lst xs) => some xs
    | some (.tup xs) => some xs
    | _ => none
  | _ => none
def finL (r : Rs (List AV)) : Rs AV := match r with
  | .ok acc h2 => newA h2 (.lst acc)
  | _ => .no
/-- one turn of a comprehension -/
def turnA (tgt : Tg) (own : List Nat) (cv : En → AH → Rs Bool) (ev : En → AH → Rs AV) (env : En) : Tv → AH → Rs (Option AV) := fun t h2 => match bindT tgt h2 t (wipeA env own) with
  | some e2 => (cv e2 h2).bind fun b h3 => if b then (ev e2 h3).bind fun v h4 => .ok (some v) h4 else .ok none h3
  | none => .no
/-- an outer turn of two clauses -/
def turnB (tgt : Tg) (own own1 : List Nat) (cv : En → AH → Rs Bool) (sk1 : Sk) (evs1 : En → AH → Rs (List AV)) (tgt1 : Tg) (cv1 : En → AH → Rs Bool) (ev : En → AH → Rs AV) (env : En) : Tv → AH → List AV → Rs (List AV) := fun t h2 acc => match bindT tgt h2 t (wipeA env own) with
  | some e2 => (cv e2 h2).bind fun b h3 => if b then (evs1 e2 h3).bind fun ys h4 => match srcA sk1 h4 ys with
      | some it1 => compL it1.ck (turnA tgt1 own1 cv1 ev e2) it1.turns h4 acc
      | none => .no
    else .ok acc h3
  | none => .no
/-- what calls do: of a def; of what was handed; of a def that is handed lambdas -/
structure Cs where
  call : Nat → List AV → AH → Rs AV
  app : Nat → AH → Rs AV
  cl : List E → En → Nat → Nat → List AV → AH → Rs AV
/-- new places for lambdas -/
def AH.pushL (h : AH) (e : En) : Nat → AH
  | 0 => h
  | n + 1 => (h.push (.clo e)).pushL e n
/-- the lambdas made at n, one behind another -/
def appL (n : Nat) (fs : List (AH → Rs AV)) : Nat → AH → Rs AV := fun m h => if n ≤ m then match fs[m - n]? with
  | some f => f h
  | none => .no
  else .no
def argL (n k : Nat) : List AV := (List.range k).map fun j => .ref (n + j)
/-! ### the evaluator. C: what calls do; W: how many turns of a while are tried -/
section
variable (C : Cs) (W : Nat)
def tru (h : AH) (v : AV) : Rs Bool := match truA h v with
  | some b => .ok b h
  | none => .no
def vt (f : En → AH → Rs AV) : (En → AH → Rs AV) × (En → AH → Rs Bool) := (f, fun e h => (f e h).bind fun x h1 => tru h1 x)
mutual
/-- an expression as a value, and as a test -/
def evP : E → (En → AH → Rs AV) × (En → AH → Rs Bool)
  | .bad => vt fun _ _ => .no
  | .k c => vt fun _ h => .ok c h
  | .var i _ => vt fun e h => opt h ((e[i]?).getD none)
  | .glo k => vt fun _ h => .ok (.fn k) h
  | .bin op a b => vt fun e h => ((evP a).1 e h).bind fun x h1 => ((evP b).1 e h1).bind fun y h2 => binA op h2 x y
  | .neg a => vt fun e h => ((evP a).1 e h).bind fun x h1 => match x with
    | .int i => .ok (.int (-i)) h1
    | _ => .no
  | .no a => (fun e h => ((evP a).1 e h).bind fun x h1 => (tru h1 x).bind fun b h2 => .ok (.bl (!b)) h2, fun e h => ((evP a).2 e h).bind fun b h1 => .ok (!b) h1)
  | .an a b => (fun e h => ((evP a).1 e h).bind fun x h1 => (tru h1 x).bind fun t h2 => if t then (evP b).1 e h2 else .ok x h2, fun e h => ((evP a).2 e h).bind fun t h1 => if t then (evP b).2 e h1 else .ok false h1)
  | .orr a b => (fun e h => ((evP a).1 e h).bind fun x h1 => (tru h1 x).bind fun t h2 => if t then .ok x h2 else (evP b).1 e h2, fun e h => ((evP a).2 e h).bind fun t h1 => if t then .ok true h1 else (evP b).2 e h1)
  | .ite c a b => (fun e h => ((evP c).2 e h).bind fun t h1 => if t then (evP a).1 e h1 else (evP b).1 e h1, fun _ _ => .no)
  | .cmp op a b => vt fun e h => ((evP a).1 e h).bind fun x h1 => ((evP b).1 e h1).bind fun y h2 => match cmpA op h2 x y with
    | some t => .ok (.bl t) h2
    | none => .no
  | .cmp2 op op' a b c => vt fun e h => ((evP a).1 e h).bind fun x h1 => ((evP b).1 e h1).bind fun y h2 => match cmpA op h2 x y with
    | some true => ((evP c).1 e h2).bind fun z h3 => match cmpA op' h3 y z with
      | some t => .ok (.bl t) h3
      | none => .no
    | some false => .ok (.bl false) h2
    | none => .no
  | .ix a b => vt fun e h => ((evP a).1 e h).bind fun x h1 => ((evP b).1 e h1).bind fun y h2 => opt h2 (ixA h2 x y)
  | .sl a lo hi => vt fun e h => ((evP a).1 e h).bind fun x h1 => (evO lo e h1).bind fun l h2 => (evO hi e h2).bind fun u h3 => sliceA h3 x l u
  | .rev a => vt fun e h => ((evP a).1 e h).bind fun x h1 => match lstA h1 x with
    | some xs => newA h1 (.lst xs.reverse)
    | none => .no
  | .lst es => vt fun e h => (evEs es e h).bind fun xs h1 => if xs.length ≤ sizeLine then newA h1 (.lst xs) else .no
  | .tup es => vt fun e h => (evEs es e h).bind fun xs h1 => if xs.length ≤ sizeLine then newA h1 (.tup xs) else .no
  | .lstS fs es => vt fun e h => (evFs fs es e h).bind fun xs h1 => if xs.length ≤ sizeLine then newA h1 (.lst xs) else .no
  | .lrg1 a => vt fun e h => ((evP a).1 e h).bind fun x h1 => lrgA h1 [x]
  | .lrg2 a b => vt fun e h => ((evP a).1 e h).bind fun x h1 => ((evP b).1 e h1).bind fun y h2 => lrgA h2 [x, y]
  | .dnew t => vt fun _ h => newA h (if t then .dt [] else .dk [])
  | .disp _ _ => vt fun _ _ => .no
  | .call k es => vt fun e h => (evEs es e h).bind fun xs h1 => C.call k xs h1
  | .app i => vt fun e h => match (e[i]?).getD none with
    | some (.ref n) => match h.get n with
      | some (.clo _) => C.app n h
      | _ => .no
    | _ => .no
  | .calll k es ls => vt fun e h => (evEs es e h).bind fun xs h1 => C.cl ls e h1.sz k (xs ++ argL h1.sz ls.length) (h1.pushL e ls.length)
  | .callk k es ks pm => vt fun e h => (evEs es e h).bind fun xs h1 => (evEs ks e h1).bind fun zs h2 => if xs.length = es.length ∧ zs.length = ks.length then C.call k (xs ++ pm.filterMap fun j => zs[j]?) h2 else .no
  | .bi b es => vt fun e h => (evEs es e h).bind fun xs h1 => biA b h1 xs
  | .isi a ts => vt fun e h => ((evP a).1 e h).bind fun x h1 => match typN h1 x with
    | some t => .ok (.bl (ts.any (isiB t))) h1
    | none => .no
  | .mt m o es => vt fun e h => ((evP o).1 e h).bind fun x h1 => if rcvA m h1 x then (evEs es e h1).bind fun xs h2 => mtA m h2 x xs else .no
  | .lc own elt tg sk src cond => vt fun e h => (evEs src e h).bind fun xs h1 => match srcA sk h1 xs with
    | some it => finL (compL it.ck (turnA tg own (evC cond) (evP elt).1 e) it.turns h1 [])
    | none => .no
  | .lc2 own own1 elt tg sk src cond tg1 sk1 src1 cond1 => vt fun e h => (evEs src e h).bind fun xs h1 => match srcA sk h1 xs with
    | some it => finL (compL2 it.ck (turnB tg own own1 (evC cond) sk1 (evEs src1) tg1 (evC cond1) (evP elt).1 e) it.turns h1 [])
    | none => .no
def evC : Option E → En → AH → Rs Bool
  | none => fun _ h => .ok true h
  | some p => (evP p).2
def evO : Option E → En → AH → Rs (Option Int)
  | none => fun _ h => .ok none h
  | some p => fun e h => ((evP p).1 e h).bind fun x h1 => match x with
    | .int i => .ok (some i) h1
    | _ => .no
def evEs : List E → En → AH → Rs (List AV)
  | [] => fun _ h => .ok [] h
  | p :: ps => fun e h => ((evP p).1 e h).bind fun x h1 => (evEs ps e h1).bind fun xs h2 => .ok (x :: xs) h2
/-- items, some of them starred -/
def evFs : List Bool → List E → En → AH → Rs (List AV)
  | _, [] => fun _ h => .ok [] h
  | fs, p :: ps => match fs.headD false with
    | true => fun e h => ((evP p).1 e h).bind fun x h1 => match seqA h1 x with
      | some ys => (evFs fs.tail ps e h1).bind fun xs h2 => .ok (ys ++ xs) h2
      | none => .no
    | false => fun e h => ((evP p).1 e h).bind fun x h1 => (evFs fs.tail ps e h1).bind fun xs h2 => .ok (x :: xs) h2
end
theorem evFs_t {fs : List Bool} {p : E} {ps : List E} (hf : fs.headD false = true) : evFs C fs (p :: ps) = fun e h => ((evP C p).1 e h).bind fun x h1 => match seqA h1 x with
    | some ys => (evFs C fs.tail ps e h1).bind fun xs h2 => .ok (ys ++ xs) h2
    | none => .no := by
  rw [evFs, hf]
theorem evFs_f {fs : List Bool} {p : E} {ps : List E} (hf : fs.headD false = false) : evFs C fs (p :: ps) = fun e h => ((evP C p).1 e h).bind fun x h1 => (evFs C fs.tail ps e h1).bind fun xs h2 => .ok (x :: xs) h2 := by
  rw [evFs, hf]
def evLs (ps : List E) (e : En) : List (AH → Rs AV) := ps.map fun p => (evP C p).1 e
def evE (p : E) : En → AH → Rs AV := (evP C p).1
def evT (p : E) : En → AH → Rs Bool := (evP C p).2
/-- an expression's result handed on in a statement -/
def ofE {α : Type} (e : En) (r : Rs α) (f : α → AH → Rt) : Rt := match r with
  | .ok a h => f a h
  | .exc c vs h => .exc c vs e h
  | .no => .no
mutual
def evS : S → En → AH → Rt
  | .bad => fun _ _ => .no
  | .set i p => fun e h => ofE e (evE C p e h) fun v h1 => .nx (e.set i (some v)) h1
  | .par is ps => fun e h => ofE e (evEs C ps e h) fun vs h1 => match setMany e is vs with
    | some e1 => .nx e1 h1
    | none => .no
  | .asg t p => fun e h => ofE e (evE C p e h) fun v h1 => match bindT t h1 (.one v) e with
    | some e1 => .nx e1 h1
    | none => .no
  | .sub o i p => fun e h => ofE e (evE C p e h) fun v h1 => ofE e (evE C o e h1) fun x h2 => ofE e (evE C i e h2) fun y h3 => match setA h3 x y v with
    | some h4 => .nx e h4
    | none => .no
  | .aug i op p => fun e h => match (e[i]?).getD none with
    | some x => ofE e (evE C p e h) fun y h1 => ofE e (augA op h1 x y) fun v h2 => .nx (e.set i (some v)) h2
    | none => .no
  | .augs o i op p => fun e h => ofE e (evE C o e h) fun x h1 => ofE e (evE C i e h1) fun y h2 => match ixA h2 x y with
    | some old => ofE e (evE C p e h2) fun z h3 => ofE e (augA op h3 old z) fun v h4 => match setA h4 x y v with
      | some h5 => .nx e h5
      | none => .no
    | none => .no
  | .ex p => fun e h => ofE e (evE C p e h) fun _ h1 => .nx e h1
  | .ret p => fun e h => ofE e (evE C p e h) fun v h1 => .rt v h1
  | .retn => fun _ h => .rt .non h
  | .iff c a b => fun e h => ofE e (evT C c e h) fun t h1 => if t then evSs a e h1 else evSs b e h1
  | .whl c b => fun e h => whlL (evT C c) (evSs b) W e h
  | .for_ t sk src b => fun e h => ofE e (evEs C src e h) fun xs h1 => match srcA sk h1 xs with
    | some it => forL it.ck (fun v e1 h2 => match bindT t h2 v e1 with
        | some e2 => evSs b e2 h2
        | none => .no) it.turns e h1
    | none => .no
  | .brk => fun e h => .bk e h
  | .cnt => fun e h => .ct e h
  | .pass => fun e h => .nx e h
  | .raise c ps => fun e h => ofE e (evEs C ps e h) fun vs h1 => .exc c vs e h1
  | .spo k i => fun e h => ofE e (evE C (.call k [.var i .rd]) e h) fun _ h1 => .nx e h1
def evSs : List S → En → AH → Rt
  | [] => fun e h => .nx e h
  | s :: ss => fun e h => match evS s e h with
    | .nx e1 h1 => evSs ss e1 h1
    | r => r
end
end
/-- a def: how many parameters, how many slots, its body -/
structure Fd where
  np : Nat
  ns : Nat
  body : List S
def retOf : Rt → Rs AV
  | .nx _ h => .ok .non h
  | .rt v h => .ok v h
  | .exc c vs _ h => .exc c vs h
  | _ => .no
def enOf (ns : Nat) (vs : List AV) : En := vs.map some ++ List.replicate (ns - vs.length) none
def noL : Nat → AH → Rs AV := fun _ _ => .no
/-- a def's body run -/
def runF (T : List Fd) (C : Cs) (W k : Nat) (vs : List AV) (h : AH) : Rs AV := match T[k]? with
  | some d => if vs.length = d.np then retOf (evSs C W d.body (enOf d.ns vs) h) else .no
  | none => .no
/-- no call -/
def csN (L : Nat → AH → Rs AV) : Cs := ⟨fun _ _ _ => .no, L, fun _ _ _ _ _ _ => .no⟩
/-- one level more: A, the level below; B, the one below that -/
def csS (T : List Fd) (W : Nat) (A : (Nat → AH → Rs AV) → Cs) (B : Option Cs) (L : Nat → AH → Rs AV) : Cs := ⟨runF T (A noL) W, L, match B with
  | none => fun _ _ _ _ _ _ => .no
  | some Cl => fun ls e u => runF T (A (appL u (evLs Cl ls e))) W⟩
def csR (T : List Fd) (W : Nat) : Nat → ((Nat → AH → Rs AV) → Cs) × Option Cs
  | 0 => (csN, none)
  | n + 1 => (csS T W (csR T W n).1 (csR T W n).2, some ((csR T W n).1 noL))
/-- what calls do, at most n within one another; L: what was handed -/
def csF (T : List Fd) (W n : Nat) (L : Nat → AH → Rs AV) : Cs := (csR T W n).1 L
def evF (T : List Fd) (W n : Nat) : Nat → List AV → AH → Rs AV := (csF T W n noL).call
theorem evF_succ (T : List Fd) (W n : Nat) : evF T W (n + 1) = runF T (csF T W n noL) W := rfl
theorem csF_call (T : List Fd) (W n : Nat) (L : Nat → AH → Rs AV) : (csF T W n L).call = evF T W n := by
  cases n <;> rfl
theorem csF_app (T : List Fd) (W n : Nat) (L : Nat → AH → Rs AV) : (csF T W n L).app = L := by
  cases n <;> rfl
end EV

/-! EvB: how the evaluator's heap lies in the machine's abstract heap. -/
namespace EV
open PySem PySem.Spec PyProof.Rows L2

/-- what is fixed: the program, its written part, where its defs lie, where the script lies -/
structure Gc where
  P : Program
  w : World
  K : PySem.W.Frag
  mg : Str → Option Value
  base : Heap
  F : List Addr
  sa : Addr
  /-- what a lambda that stands at a place does -/
  app : Nat → AH → Rs AV := fun _ _ => .no
  /-- the first places -/
  pre : List Addr := []
  /-- objects that stay as they are -/
  pers : List (Addr × (Heap → Prop)) := []
  /-- tables of code objects, and the name that all in one bear -/
  tb : List (Addr × Str) := []
  /-- the def: 1, it is handed lambdas; 2, it makes some; 0, neither -/
  mode : Nat := 0
/-- a value's picture -/
def vT (G : Gc) (ι : List Addr) : AV → V
  | .non => .non
  | .bl b => .bl b
  | .int i => .int i
  | .str x => .str x
  | .ref n => .ref (ι.getD n 0)
  | .ty s => .ty s
  | .fn k => .ref (G.F.getD k 0)
  | .scr => .ref G.sa
def okA (ι : List Addr) : AV → Prop
  | .ref n => n < ι.length
  | _ => True
/-- the script: read, never written -/
def ScrAt (G : Gc) (z : List Int) (H : Hp) : Prop :=
  (∃ o, H G.sa = some (.frz o (.lst (z.map V.int)))) ∨
    ∃ (o : Obj) (its : Array Value) (n : Nat), G.K.lookup G.sa = some o ∧ o.cls = .type "list" ∧ o.dict = none ∧ o.data = .seq its n ∧ its.size ≤ sizeLine ∧ Vals (z.map V.int) its.toList
theorem ScrAt.seq {G : Gc} {z : List Int} {H : Hp} (h : ScrAt G z H) : SqL G.K H G.sa (z.map V.int) := by
  rcases h with ⟨o, h⟩ | h
  · exact .inl (.inr ⟨o, h⟩)
  · exact .inr h
def At (G : Gc) (ι : List Addr) (o : AO) : HO → Prop := fun u => match o with
  | .lst xs => u = .lst (xs.map (vT G ι)) ∧ ∀ x ∈ xs, okA ι x
  | .tup xs => u = .tup (xs.map (vT G ι)) ∧ ∀ x ∈ xs, okA ι x
  | .dk kvs => u = .dK (kvs.map fun p => (p.1, vT G ι p.2)) ∧ ∀ p ∈ kvs, okA ι p.2
  | .dt kvs => u = .dT (kvs.map fun p => (p.1, vT G ι p.2)) ∧ ∀ p ∈ kvs, okA ι p.2
  | .clo _ => ∃ P, u = .ext P
/-- what stays as it is -/
structure Fix (G : Gc) (H : Hp) : Prop where
  pers : ∀ q ∈ G.pers, H q.1 = some (.ext q.2)
  tabs : LamX.Tabs G.tb H
/-- what may be put in the place of another object -/
def Soft (o : Option HO) : Prop := ∀ x, o = some x → (∀ ps, x ≠ .tbl ps) ∧ ∀ P, x ≠ .ext P
theorem Soft.none {H : Hp} {p : Addr} (n : H p = none) : Soft (H p) := fun x e => by rw [n] at e; cases e
theorem soft_lst {xs : List V} : Soft (some (.lst xs)) := fun x e => by
  cases e
  exact ⟨fun _ z => (by cases z), fun _ z => (by cases z)⟩
theorem soft_dK {xs : List (Key × V)} : Soft (some (.dK xs)) := fun x e => by
  cases e
  exact ⟨fun _ z => (by cases z), fun _ z => (by cases z)⟩
theorem soft_dT {xs : List (List Key × V)} : Soft (some (.dT xs)) := fun x e => by
  cases e
  exact ⟨fun _ z => (by cases z), fun _ z => (by cases z)⟩
theorem Fix.upd {G : Gc} {H : Hp} {p : Addr} {u : HO} (F : Fix G H) (n : Soft (H p)) : Fix G (upd H p u) := by
  have ex : ∀ {b : Addr} {P : Heap → Prop}, H b = some (.ext P) → L2.upd H p u b = some (.ext P) := fun {b P} e => by
    rw [upd_ne]
    · exact e
    · intro z
      subst z
      exact (n _ e).2 P rfl
  refine ⟨fun q m => ex (F.pers q m), fun q m => ?_⟩
  obtain ⟨ps, h1, h2, h3⟩ := F.tabs q m
  refine ⟨ps, ?_, h2, fun pos cv hc => ?_⟩
  · rw [upd_ne]
    · exact h1
    · intro z
      subst z
      exact (n _ h1).1 ps rfl
  · obtain ⟨c, e1, e2⟩ := h3 pos cv hc
    exact ⟨c, e1, ex e2⟩
structure HR (G : Gc) (ι : List Addr) (h : AH) (H : Hp) : Prop where
  len : ι.length = h.sz
  inj : ∀ (n m : Nat) (a : Addr), ι[n]? = some a → ι[m]? = some a → n ≠ m → ∃ xs, H a = some (.tup xs)
  at_ : ∀ (n : Nat) (a : Addr), ι[n]? = some a → ∃ o u, h.get n = some o ∧ H a = some u ∧ At G ι o u
  scr : ScrAt G h.z H
  fix : Fix G H
  pre : G.pre <+: ι
/-- what is tracked besides stays -/
def Keep (ι : List Addr) (H : Hp) (ι' : List Addr) (H' : Hp) : Prop := (∀ a o, H a = some o → (∀ ps, o ≠ .tbl ps) → a ∉ ι → H' a = some o ∧ a ∉ ι') ∧ ∀ a P, H a = some (.ext P) → H' a = some (.ext P)
theorem Keep.refl (ι : List Addr) (H : Hp) : Keep ι H ι H := ⟨fun _ _ h _ n => ⟨h, n⟩, fun _ _ h => h⟩
theorem Keep.trans {ι ι1 ι2 : List Addr} {H H1 H2 : Hp} (a : Keep ι H ι1 H1) (b : Keep ι1 H1 ι2 H2) : Keep ι H ι2 H2 := ⟨fun c o h t n =>
  let ⟨h1, n1⟩ := a.1 c o h t n
  b.1 c o h1 t n1, fun c P h => b.2 c P (a.2 c P h)⟩
theorem Keep.upd {ι ι' : List Addr} {H : Hp} {p : Addr} {u : HO} (n : Soft (H p)) (h : ∀ a o, H a = some o → (∀ ps, o ≠ .tbl ps) → a ∉ ι → L2.upd H p u a = some o ∧ a ∉ ι') : Keep ι H ι' (L2.upd H p u) := ⟨h, fun a P e => by
  rw [upd_ne]
  · exact e
  · intro z
    subst z
    exact (n _ e).2 P rfl⟩
section
variable {G : Gc} {ι ι' : List Addr} {h h' : AH} {H H' : Hp}
theorem okA.ext {x : AV} (o : okA ι x) (e : ι <+: ι') : okA ι' x := by
  cases x with
  | ref n => exact Nat.lt_of_lt_of_le (show n < ι.length from o) e.length_le
  | _ => trivial
theorem vT_ext {x : AV} (o : okA ι x) (e : ι <+: ι') : vT G ι' x = vT G ι x := by
  cases x with
  | ref n =>
    have o' : n < ι.length := o
    obtain ⟨t, rfl⟩ := e
    show V.ref ((ι ++ t).getD n 0) = V.ref (ι.getD n 0)
    rw [List.getD_eq_getElem?_getD, List.getD_eq_getElem?_getD, List.getElem?_append_left o']
  | _ => rfl
theorem map_ext {xs : List AV} (o : ∀ x ∈ xs, okA ι x) (e : ι <+: ι') : xs.map (vT G ι') = xs.map (vT G ι) :=
  List.map_congr_left fun x hx => vT_ext (o x hx) e
theorem pair_ext {κ : Type} {xs : List (κ × AV)} (o : ∀ p ∈ xs, okA ι p.2) (e : ι <+: ι') : (xs.map fun p => (p.1, vT G ι' p.2)) = xs.map fun p => (p.1, vT G ι p.2) :=
  List.map_congr_left fun p hp => by rw [vT_ext (o p hp) e]
theorem At.ext {o : AO} {u : HO} (a : At G ι o u) (e : ι <+: ι') : At G ι' o u := by
  cases o with
  | lst xs => exact ⟨by rw [a.1, map_ext a.2 e], fun x hx => (a.2 x hx).ext e⟩
  | tup xs => exact ⟨by rw [a.1, map_ext a.2 e], fun x hx => (a.2 x hx).ext e⟩
  | dk xs => exact ⟨by rw [a.1, pair_ext a.2 e], fun x hx => (a.2 x hx).ext e⟩
  | dt xs => exact ⟨by rw [a.1, pair_ext a.2 e], fun x hx => (a.2 x hx).ext e⟩
  | clo e => exact a
theorem HR.atR {n : Nat} (r : HR G ι h H) (ok : okA ι (.ref n)) : ∃ o u, h.get n = some o ∧ H (ι.getD n 0) = some u ∧ At G ι o u := by
  have ok' : n < ι.length := ok
  have e : ι[n]? = some (ι.getD n 0) := by
    rw [List.getD_eq_getElem?_getD, List.getElem?_eq_getElem ok']
    rfl
  exact r.at_ n _ e
theorem getD_at {n : Nat} (ok : n < ι.length) : ι[n]? = some (ι.getD n 0) := by
  rw [List.getD_eq_getElem?_getD, List.getElem?_eq_getElem ok]
  rfl
theorem HR.lst {n : Nat} {xs : List AV} (r : HR G ι h H) (ok : okA ι (.ref n)) (e : h.get n = some (.lst xs)) : H (ι.getD n 0) = some (.lst (xs.map (vT G ι))) ∧ ∀ x ∈ xs, okA ι x := by
  obtain ⟨o, u, e1, e2, a⟩ := r.atR ok
  rw [e] at e1
  cases e1
  exact ⟨by rw [e2, a.1], a.2⟩
theorem HR.tup {n : Nat} {xs : List AV} (r : HR G ι h H) (ok : okA ι (.ref n)) (e : h.get n = some (.tup xs)) : H (ι.getD n 0) = some (.tup (xs.map (vT G ι))) ∧ ∀ x ∈ xs, okA ι x := by
  obtain ⟨o, u, e1, e2, a⟩ := r.atR ok
  rw [e] at e1
  cases e1
  exact ⟨by rw [e2, a.1], a.2⟩
theorem HR.dk {n : Nat} {xs : List (Key × AV)} (r : HR G ι h H) (ok : okA ι (.ref n)) (e : h.get n = some (.dk xs)) : H (ι.getD n 0) = some (.dK (xs.map fun p => (p.1, vT G ι p.2))) ∧ ∀ p ∈ xs, okA ι p.2 := by
  obtain ⟨o, u, e1, e2, a⟩ := r.atR ok
  rw [e] at e1
  cases e1
  exact ⟨by rw [e2, a.1], a.2⟩
theorem HR.dt {n : Nat} {xs : List (List Key × AV)} (r : HR G ι h H) (ok : okA ι (.ref n)) (e : h.get n = some (.dt xs)) : H (ι.getD n 0) = some (.dT (xs.map fun p => (p.1, vT G ι p.2))) ∧ ∀ p ∈ xs, okA ι p.2 := by
  obtain ⟨o, u, e1, e2, a⟩ := r.atR ok
  rw [e] at e1
  cases e1
  exact ⟨by rw [e2, a.1], a.2⟩
theorem HR.notin {p : Addr} (r : HR G ι h H) (n : H p = none) : p ∉ ι := fun m => by
  obtain ⟨i, hi, e⟩ := List.mem_iff_getElem.mp m
  obtain ⟨o, u, _, e2, _⟩ := r.at_ i p (by rw [List.getElem?_eq_getElem hi, e])
  rw [n] at e2
  cases e2
theorem ScrAt.upd {z : List Int} {p : Addr} {u : HO} (s : ScrAt G z H) (n : ∀ o u', H p ≠ some (.frz o u')) : ScrAt G z (upd H p u) := by
  rcases s with ⟨o, e⟩ | s
  · refine .inl ⟨o, ?_⟩
    rw [upd_ne]
    · exact e
    · intro z
      rw [z] at e
      exact n _ _ e
  · exact .inr s
/-- a new object -/
theorem HR.push {p : Addr} {o : AO} {u : HO} (r : HR G ι h H) (n : H p = none) (a : At G ι o u) : HR G (ι ++ [p]) (h.push o) (upd H p u) ∧ Keep ι H (ι ++ [p]) (upd H p u) := by
  have ni := r.notin n
  have ex : ι <+: ι ++ [p] := List.prefix_append _ _
  have cases_ : ∀ (i : Nat) (a : Addr), (ι ++ [p])[i]? = some a → (ι[i]? = some a ∧ a ≠ p ∧ i < ι.length) ∨ (i = ι.length ∧ a = p) := fun i a e => by
    by_cases hi : i < ι.length
    · rw [List.getElem?_append_left hi] at e
      refine .inl ⟨e, fun z => ni ?_, hi⟩
      rw [← z]
      exact List.mem_of_getElem? e
    · rw [List.getElem?_append_right (by omega)] at e
      by_cases hz : i - ι.length = 0
      · rw [hz] at e
        refine .inr ⟨by omega, ?_⟩
        exact (Option.some.inj e).symm
      · rw [List.getElem?_eq_none (by simp; omega)] at e
        cases e
  refine ⟨⟨?_, fun i m b e1 e2 ne => ?_, fun i b e => ?_, ?_, r.fix.upd (Soft.none n), r.pre.trans ex⟩, Keep.upd (Soft.none n) fun b ob e t nb => ?_⟩
  · rw [List.length_append, List.length_singleton, r.len]
    rfl
  · rcases cases_ i b e1 with ⟨f1, f2, f3⟩ | ⟨f1, f2⟩
    · rcases cases_ m b e2 with ⟨g1, g2, g3⟩ | ⟨g1, g2⟩
      · obtain ⟨xs, hx⟩ := r.inj i m b f1 g1 ne
        exact ⟨xs, by rw [upd_ne f2]; exact hx⟩
      · exact absurd g2 f2
    · rcases cases_ m b e2 with ⟨g1, g2, g3⟩ | ⟨g1, g2⟩
      · exact absurd f2 g2
      · omega
  · rcases cases_ i b e with ⟨f1, f2, f3⟩ | ⟨f1, f2⟩
    · obtain ⟨ob, ub, e1, e2, a2⟩ := r.at_ i b f1
      refine ⟨ob, ub, ?_, by rw [upd_ne f2]; exact e2, a2.ext ex⟩
      rw [AH.get_push, if_neg (by rw [← r.len]; omega)]
      exact e1
    · subst f2
      refine ⟨o, u, ?_, upd_same, a.ext ex⟩
      rw [AH.get_push, if_pos (by rw [f1, r.len])]
  · exact r.scr.upd fun o u' z => by rw [n] at z; cases z
  · have bp : b ≠ p := fun z => by
      rw [z, n] at e
      cases e
    refine ⟨by rw [upd_ne bp]; exact e, fun m => ?_⟩
    rcases List.mem_append.mp m with m | m
    · exact nb m
    · exact bp (by simpa using m)
/-- an object beside -/
theorem HR.beside {p : Addr} {u : HO} (r : HR G ι h H) (n : H p = none) : HR G ι h (upd H p u) ∧ Keep ι H ι (upd H p u) := by
  have ne : ∀ b u', H b = some u' → b ≠ p := fun b u' e z => by
    rw [z, n] at e
    cases e
  refine ⟨⟨r.len, fun i m b e1 e2 d => ?_, fun i b e => ?_, r.scr.upd (fun o u' z => by rw [n] at z; cases z), r.fix.upd (Soft.none n), r.pre⟩, Keep.upd (Soft.none n) fun b ob e t nb => ⟨by rw [upd_ne (ne b _ e)]; exact e, nb⟩⟩
  · obtain ⟨xs, hx⟩ := r.inj i m b e1 e2 d
    exact ⟨xs, by rw [upd_ne (ne b _ hx)]; exact hx⟩
  · obtain ⟨ob, ub, e1, e2, a2⟩ := r.at_ i b e
    exact ⟨ob, ub, e1, by rw [upd_ne (ne b _ e2)]; exact e2, a2⟩
/-- an object is changed -/
theorem HR.set {n : Nat} {o o' : AO} {u u' : HO} (r : HR G ι h H) (ok : okA ι (.ref n)) (e : h.get n = some o) (hu : H (ι.getD n 0) = some u) (nt : ∀ xs, u ≠ .tup xs) (nf : ∀ o v, u ≠ .frz o v) (a : At G ι o' u') (sf : Soft (some u) := by first | exact soft_lst | exact soft_dK | exact soft_dT) :
    HR G ι (h.set n o') (upd H (ι.getD n 0) u') ∧ Keep ι H ι (upd H (ι.getD n 0) u') := by
  have ok' : n < ι.length := ok
  have en := getD_at ok'
  refine ⟨⟨r.len, fun i m b e1 e2 d => ?_, fun i b eb => ?_, r.scr.upd (fun o v z => by rw [hu] at z; exact nf o v (Option.some.inj z)), r.fix.upd (by rw [hu]; exact sf), r.pre⟩, Keep.upd (by rw [hu]; exact sf) fun b ob e t nb => ⟨?_, nb⟩⟩
  · obtain ⟨xs, hx⟩ := r.inj i m b e1 e2 d
    refine ⟨xs, ?_⟩
    rw [upd_ne]
    · exact hx
    · intro z
      rw [z, hu] at hx
      exact nt _ (Option.some.inj hx)
  · by_cases hi : i = n
    · subst hi
      rw [en] at eb
      cases eb
      exact ⟨o', u', by rw [AH.get_set, if_pos rfl], upd_same, a⟩
    · obtain ⟨ob, ub, f1, f2, f3⟩ := r.at_ i b eb
      refine ⟨ob, ub, by rw [AH.get_set, if_neg hi]; exact f1, ?_, f3⟩
      rw [upd_ne]
      · exact f2
      · intro z
        subst z
        obtain ⟨xs, hx⟩ := r.inj i n _ eb en hi
        rw [hu] at hx
        exact nt _ (Option.some.inj hx)
  · rw [upd_ne]
    · exact e
    · intro z
      apply nb
      rw [z]
      exact List.mem_of_getElem? en
end

/-- but for what is one def's own -/
def Gc.core (G : Gc) : Gc := ⟨G.P, G.w, G.K, G.mg, G.base, G.F, G.sa, fun _ _ => .no, [], [], G.tb, 0⟩
theorem HR.core {G : Gc} {ι : List Addr} {h : AH} {H : Hp} (r : HR G ι h H) : HR G.core ι h H :=
  ⟨r.len, r.inj, fun n a e => by
    obtain ⟨o, u, h1, h2, h3⟩ := r.at_ n a e
    exact ⟨o, u, h1, h2, by cases o <;> exact h3⟩, r.scr, ⟨fun _ m => (by cases m), r.fix.tabs⟩, List.nil_prefix⟩
/-! ### results -/
class Vld (α : Type) where
  ok : List Addr → α → Prop
instance : Vld AV := ⟨okA⟩
instance : Vld (List AV) := ⟨fun ι xs => ∀ x ∈ xs, okA ι x⟩
instance : Vld Bool := ⟨fun _ _ => True⟩
instance : Vld (Option Int) := ⟨fun _ _ => True⟩
instance : Vld (Option AV) := ⟨fun ι o => ∀ x, o = some x → okA ι x⟩
/-- what is wanted behind a result -/
def GA {α : Type} [Vld α] (G : Gc) (r : Rs α) (ι : List Addr) (H : Hp) (k : α → AH → List Addr → Hp → Prop) : Prop := match r with
  | .ok a h => ∀ ι' H', ι <+: ι' → Keep ι H ι' H' → HR G ι' h H' → Vld.ok ι' a → k a h ι' H'
  | .exc _ _ _ => False
  | .no => False
section
variable {α β : Type} [Vld α] [Vld β] {G : Gc} {ι ι1 : List Addr} {H H1 : Hp}
theorem GA.shift {r : Rs α} {k : α → AH → List Addr → Hp → Prop} (g : GA G r ι H k) (e : ι <+: ι1) (p : Keep ι H ι1 H1) : GA G r ι1 H1 k := by
  cases r with
  | ok a h => exact fun ι' H' e' p' hr v => g ι' H' (e.trans e') (p.trans p') hr v
  | exc _ _ _ => exact g
  | no => exact g
theorem GA.bind {r : Rs α} {f : α → AH → Rs β} {k : β → AH → List Addr → Hp → Prop} (g : GA G (r.bind f) ι H k) : GA G r ι H fun a h1 ι1 H1 => GA G (f a h1) ι1 H1 k := by
  cases r with
  | ok a h => exact fun ι' H' e' p' _ _ => GA.shift (r := f a h) g e' p'
  | exc _ _ _ => exact g
  | no => exact g
theorem GA.imp {r : Rs α} {k k' : α → AH → List Addr → Hp → Prop} (g : GA G r ι H k) (f : ∀ a h ι1 H1, ι <+: ι1 → Keep ι H ι1 H1 → HR G ι1 h H1 → Vld.ok ι1 a → k a h ι1 H1 → k' a h ι1 H1) : GA G r ι H k' := by
  cases r with
  | ok a h => exact fun ι' H' e' p' hr v => f a h ι' H' e' p' hr v (g ι' H' e' p' hr v)
  | exc _ _ _ => exact g
  | no => exact g
theorem GA.now {a : α} {h : AH} {k : α → AH → List Addr → Hp → Prop} (g : GA G (.ok a h) ι H k) (hr : HR G ι h H) (v : Vld.ok ι a) : k a h ι H := g ι H (List.prefix_refl _) (Keep.refl _ _) hr v
end
theorem HR.ofCore {G : Gc} {ι ι' : List Addr} {h h' : AH} {H H' : Hp} (r : HR G ι h H) (e : ι <+: ι') (k : Keep ι H ι' H') (r' : HR G.core ι' h' H') : HR G ι' h' H' :=
  ⟨r'.len, r'.inj, fun n a e => by
    obtain ⟨o, u, h1, h2, h3⟩ := r'.at_ n a e
    exact ⟨o, u, h1, h2, by cases o <;> exact h3⟩, r'.scr, ⟨fun q m => k.2 _ _ (r.fix.pers q m), r'.fix.tabs⟩, r.pre.trans e⟩
theorem GA.core {α : Type} [Vld α] {G : Gc} {r : Rs α} {ι : List Addr} {h : AH} {H : Hp} {k : α → AH → List Addr → Hp → Prop} (hr : HR G ι h H) (g : GA G r ι H k) : GA G.core r ι H k := by
  cases r with
  | ok a h => exact fun ι' H' e p r' v => g ι' H' e p (hr.ofCore e p r') v
  | exc _ _ _ => exact g
  | no => exact g
theorem GA.ofCore {α : Type} [Vld α] {G : Gc} {r : Rs α} {ι : List Addr} {H : Hp} {k : α → AH → List Addr → Hp → Prop} (g : GA G.core r ι H k) : GA G r ι H k := by
  cases r with
  | ok a h => exact fun ι' H' e p r' v => g ι' H' e p r'.core v
  | exc _ _ _ => exact g
  | no => exact g
theorem vT_core (G : Gc) (ι : List Addr) : vT G.core ι = vT G ι := by
  funext v
  cases v <;> rfl
/-- the slots -/
def SR (G : Gc) (ι : List Addr) (e : En) (σ : L2.St) : Prop := e.length = σ.length ∧ ∀ (i : Nat) (v : AV), e[i]? = some (some v) → okA ι v ∧ σ[i]? = some (some (vT G ι v))
section
variable {G : Gc} {ι ι1 : List Addr} {e : En} {σ : L2.St}
theorem SR.ext (s : SR G ι e σ) (x : ι <+: ι1) : SR G ι1 e σ := ⟨s.1, fun i v h => by
  obtain ⟨a, b⟩ := s.2 i v h
  exact ⟨a.ext x, by rw [vT_ext a x]; exact b⟩⟩
theorem SR.set {i : Nat} {v : AV} (s : SR G ι e σ) (o : okA ι v) : SR G ι (e.set i (some v)) (σ.set i (some (vT G ι v))) := ⟨by rw [List.length_set, List.length_set]; exact s.1, fun j w hj => by
  by_cases hij : i = j
  · subst hij
    by_cases hl : i < e.length
    · rw [List.getElem?_set_self hl] at hj
      cases hj
      exact ⟨o, by rw [List.getElem?_set_self (by rw [← s.1]; exact hl)]⟩
    · rw [List.getElem?_eq_none (by rw [List.length_set]; omega)] at hj
      cases hj
  · rw [List.getElem?_set_ne hij] at hj
    obtain ⟨a, b⟩ := s.2 j w hj
    exact ⟨a, by rw [List.getElem?_set_ne hij]; exact b⟩⟩
theorem SR.unset {i : Nat} (s : SR G ι e σ) : SR G ι (e.set i none) (σ.set i none) := ⟨by rw [List.length_set, List.length_set]; exact s.1, fun j w hj => by
  by_cases hij : i = j
  · subst hij
    by_cases hl : i < e.length
    · rw [List.getElem?_set_self hl] at hj
      cases hj
    · rw [List.getElem?_eq_none (by rw [List.length_set]; omega)] at hj
      cases hj
  · rw [List.getElem?_set_ne hij] at hj
    obtain ⟨a, b⟩ := s.2 j w hj
    exact ⟨a, by rw [List.getElem?_set_ne hij]; exact b⟩⟩
theorem SR.wipe (s : SR G ι e σ) : ∀ vs : List Nat, SR G ι (wipeA e vs) (L2.wipe σ vs)
  | [] => s
  | v :: vs => (SR.wipe s vs).unset
end
end EV

/-! EvC: the evaluator's operations are the machine's. -/
namespace EV
open PySem PySem.Spec PyProof.Rows L2

section
variable {G : Gc} {ι : List Addr} {h : AH} {H : Hp} {k : AV → AH → List Addr → Hp → Prop} {Q : VK}
theorem vT_new {p : Addr} (l : ι.length = h.sz) : vT G (ι ++ [p]) (.ref h.sz) = .ref p := by
  show V.ref ((ι ++ [p]).getD h.sz 0) = V.ref p
  rw [List.getD_eq_getElem?_getD, ← l, List.getElem?_append_right (Nat.le_refl _), Nat.sub_self]
  rfl
theorem GA.new {p : Addr} {o : AO} {u : HO} (g : GA G (newA h o) ι H fun v _ ι' H' => Q (vT G ι' v) H') (r : HR G ι h H) (n : H p = none) (a : At G ι o u) : Q (.ref p) (upd H p u) := by
  obtain ⟨r1, k1⟩ := r.push n a
  have q : Q (vT G (ι ++ [p]) (.ref h.sz)) (upd H p u) := g (ι ++ [p]) _ (List.prefix_append _ _) k1 r1 (show h.sz < (ι ++ [p]).length by rw [List.length_append, r.len]; exact Nat.lt_succ_self _)
  rw [vT_new r.len] at q
  exact q
theorem GA.val {v : AV} (g : GA G (.ok v h) ι H fun v _ ι' H' => Q (vT G ι' v) H') (r : HR G ι h H) (o : okA ι v) : Q (vT G ι v) H := GA.now g r o
theorem all_append {xs ys : List AV} (a : ∀ x ∈ xs, okA ι x) (b : ∀ x ∈ ys, okA ι x) : ∀ x ∈ xs ++ ys, okA ι x := fun x m => (List.mem_append.mp m).elim (a x) (b x)

def opM : BOp → Operator
  | .add => .Add | .sub => .Sub | .mul => .Mult | .fdiv => .FloorDiv | .mod => .Mod | .pow => .Pow | .shl => .LShift | .shr => .RShift
/-- an operation of the machine does what the evaluator's does -/
def OpOk (G : Gc) (X : Cx) (f : Value → Value → Sem Value) (g : AH → AV → AV → Rs AV) : Prop :=
  ∃ r : R2, OpR X f r ∧ ∀ (ι : List Addr) (h : AH) (H : Hp) (x y : AV) (Q : VK), HR G ι h H → okA ι x → okA ι y → GA G (g h x y) ι H (fun v _ ι' H' => Q (vT G ι' v) H') → r (vT G ι x) (vT G ι y) H Q
theorem flat_rep {xs : List AV} {n : Nat} (a : ∀ x ∈ xs, okA ι x) : ∀ x ∈ (List.replicate n xs).flatten, okA ι x := fun x m => by
  obtain ⟨l, hl, hx⟩ := List.mem_flatten.mp m
  rw [List.eq_of_mem_replicate hl] at hx
  exact a x hx
theorem map_rep {xs : List AV} {n : Nat} : ((List.replicate n xs).flatten).map (vT G ι) = (List.replicate n (xs.map (vT G ι))).flatten := by
  rw [List.map_flatten, List.map_replicate]
variable {X : Cx}
theorem bin_ok (hK : X.K = G.K) : ∀ b : BOp, OpOk G X (binaryOp (opM b)) (binA b)
  | .add => by
    refine ⟨_, (((op_add.or op_add_str).or op_cat).or op_catA), fun ι h H x y Q r ox oy g => ?_⟩
    cases x <;> cases y <;> first | exact False.elim g | skip
    · exact .inl (.inl (.inl ⟨_, _, rfl, rfl, GA.val g r trivial⟩))
    · rename_i a b
      unfold binA at g
      simp only at g
      split at g
      · rename_i hz
        exact .inl (.inl (.inr ⟨a, b, rfl, rfl, hz, GA.val g r trivial⟩))
      · exact False.elim g
    · rename_i a b
      unfold binA at g
      simp only at g
      split at g
      · rename_i xs ys ea eb
        split at g
        · rename_i hz
          obtain ⟨h1, o1⟩ := r.lst ox ea
          obtain ⟨h2, o2⟩ := r.lst oy eb
          refine .inl (.inr ⟨_, _, _, _, rfl, rfl, h1, h2, by simpa using hz, fun p n => ?_⟩)
          exact GA.new g r n ⟨by rw [List.map_append], all_append o1 o2⟩
        · exact False.elim g
      · rename_i xs ys ea eb
        split at g
        · rename_i hz
          obtain ⟨h1, o1⟩ := r.tup ox ea
          obtain ⟨h2, o2⟩ := r.tup oy eb
          refine .inr ⟨_, _, _, _, rfl, rfl, SqT.of h1, SqT.of h2, by simpa using hz, fun e => ?_, fun e1 e2 => ?_, fun e1 e2 p n => ?_⟩
          · have e' : xs = [] := by simpa using e
            subst e'
            exact GA.val g r oy
          · have e1' : xs ≠ [] := fun z => e1 (by rw [z]; rfl)
            have e2' : ys = [] := by simpa using e2
            subst e2'
            cases xs with
            | nil => exact absurd rfl e1'
            | cons _ _ => exact GA.val g r ox
          · cases xs with
            | nil => exact absurd rfl e1
            | cons x xs =>
              cases ys with
              | nil => exact absurd rfl e2
              | cons y ys => exact GA.new g r n ⟨by rw [List.map_append], all_append o1 o2⟩
        · exact False.elim g
      · exact False.elim g
  | .sub => by
    refine ⟨_, op_sub, fun ι h H x y Q r ox oy g => ?_⟩
    cases x <;> cases y <;> first | exact False.elim g | skip
    exact ⟨_, _, rfl, rfl, GA.val g r trivial⟩
  | .mul => by
    refine ⟨_, op_mulW.or op_rep, fun ι h H x y Q r ox oy g => ?_⟩
    cases x <;> cases y <;> first | exact False.elim g | skip
    · unfold binA at g
      simp only at g
      split at g
      · rename_i hz
        exact .inl ⟨_, _, rfl, rfl, hz, GA.val g r trivial⟩
      · exact False.elim g
    · unfold binA at g
      simp only at g
      split at g
      · rename_i xs ea
        split at g
        · rename_i hz
          obtain ⟨h1, o1⟩ := r.lst ox ea
          refine .inr ⟨_, _, _, rfl, rfl, h1, hz.1, hz.2.1, by simpa using hz.2.2, fun p n => ?_⟩
          exact GA.new g r n ⟨by rw [map_rep], flat_rep o1⟩
        · exact False.elim g
      · exact False.elim g
  | .fdiv => by
    refine ⟨_, op_fdivN.or op_fdivW, fun ι h H x y Q r ox oy g => ?_⟩
    cases x <;> cases y <;> first | exact False.elim g | skip
    unfold binA at g
    simp only at g
    split at g
    · rename_i hz
      rcases hz with ⟨h0, h1 | h1⟩
      · exact .inl ⟨_, _, rfl, rfl, ⟨h0, h1⟩, GA.val g r trivial⟩
      · have q : Q (.int _) H := GA.val g r trivial
        rw [Int.fdiv_eq_ediv_of_nonneg _ (Int.le_of_lt h1.1)] at q
        exact .inr ⟨_, _, rfl, rfl, h1, q⟩
    · exact False.elim g
  | .mod => by
    refine ⟨_, op_modN, fun ι h H x y Q r ox oy g => ?_⟩
    cases x <;> cases y <;> first | exact False.elim g | skip
    unfold binA at g
    simp only at g
    split at g
    · rename_i hz
      exact ⟨_, _, rfl, rfl, hz, GA.val g r trivial⟩
    · exact False.elim g
  | .pow => by
    refine ⟨_, op_pow, fun ι h H x y Q r ox oy g => ?_⟩
    cases x <;> cases y <;> first | exact False.elim g | skip
    unfold binA at g
    simp only at g
    split at g
    · rename_i hz
      exact ⟨_, _, rfl, rfl, hz, GA.val g r trivial⟩
    · exact False.elim g
  | .shl => by
    refine ⟨_, op_shl, fun ι h H x y Q r ox oy g => ?_⟩
    cases x <;> cases y <;> first | exact False.elim g | skip
    unfold binA at g
    simp only at g
    split at g
    · rename_i hz
      exact ⟨_, _, rfl, rfl, hz, GA.val g r trivial⟩
    · exact False.elim g
  | .shr => by
    refine ⟨_, op_shr, fun ι h H x y Q r ox oy g => ?_⟩
    cases x <;> cases y <;> first | exact False.elim g | skip
    unfold binA at g
    simp only at g
    split at g
    · rename_i hz
      exact ⟨_, _, rfl, rfl, hz, GA.val g r trivial⟩
    · exact False.elim g
theorem aug_ok : ∀ b : BOp, OpOk G X (inplaceOp (opM b)) (augA b)
  | .add => by
    refine ⟨_, iop_add, fun ι h H x y Q r ox oy g => ?_⟩
    cases x <;> cases y <;> first | exact False.elim g | skip
    exact ⟨_, _, rfl, rfl, GA.val g r trivial⟩
  | .sub => by
    refine ⟨_, iop_sub, fun ι h H x y Q r ox oy g => ?_⟩
    cases x <;> cases y <;> first | exact False.elim g | skip
    exact ⟨_, _, rfl, rfl, GA.val g r trivial⟩
  | .mul => ⟨_, iop_mul, fun ι h H x y Q r ox oy g => False.elim g⟩
  | .fdiv => ⟨_, iop_fdiv, fun ι h H x y Q r ox oy g => False.elim g⟩
  | .mod => ⟨_, iop_mod, fun ι h H x y Q r ox oy g => False.elim g⟩
  | .pow => ⟨fun _ _ _ _ => False, fun _ _ _ _ _ _ _ _ _ _ _ _ z => z.elim, fun ι h H x y Q r ox oy g => False.elim g⟩
  | .shl => ⟨_, iop_shl, fun ι h H x y Q r ox oy g => False.elim g⟩
  | .shr => ⟨_, iop_shr, fun ι h H x y Q r ox oy g => False.elim g⟩

/-! ### data -/
theorem dp_of (r : HR G ι h H) : ∀ (f : Nat) (v : AV) (d : PyData), okA ι v → toPy f h v = some d → Dp G.K H (vT G ι v) d
  | 0, _, _, _, e => nomatch e
  | f + 1, v, d, ov, e => by
    have many : ∀ (xs : List AV) (ds : List PyData), (∀ x ∈ xs, okA ι x) → mapO (toPy f h) xs = some ds → DpAll G.K H (xs.map (vT G ι)) ds := by
      intro xs
      induction xs with
      | nil =>
        intro ds _ e
        cases e
        exact .nil
      | cons x xs ih =>
        intro ds o e
        unfold mapO at e
        split at e
        · rename_i d ds e1 e2
          cases e
          exact .cons (dp_of r f x d (o x List.mem_cons_self) e1) (ih ds (fun y m => o y (List.mem_cons_of_mem _ m)) e2)
        · cases e
    unfold toPy at e
    cases v with
    | non => cases e; exact .non
    | bl b => cases e; exact .bl b
    | int b => cases e; exact .int b
    | str b => cases e; exact .str b
    | ref n =>
      simp only at e
      split at e
      · rename_i xs ex
        obtain ⟨h1, o1⟩ := r.lst ov ex
        cases em : mapO (toPy f h) xs with
        | none => rw [em] at e; cases e
        | some ds =>
          rw [em] at e
          cases e
          exact .lst (SqL.of h1) (many xs ds o1 em)
      · rename_i xs ex
        obtain ⟨h1, o1⟩ := r.tup ov ex
        cases em : mapO (toPy f h) xs with
        | none => rw [em] at e; cases e
        | some ds =>
          rw [em] at e
          cases e
          exact .tup (SqT.of h1) (many xs ds o1 em)
      · cases e
    | ty _ => cases e
    | fn _ => cases e
    | scr => cases e
theorem dat_of {v : AV} {d : PyData} (r : HR G ι h H) (ov : okA ι v) (e : datA h v = some d) : Dp G.K H (vT G ι v) d ∧ SeqAt.shaped d = true := by
  unfold datA at e
  split at e
  · rename_i d' e1
    split at e
    · rename_i hs
      cases e
      exact ⟨dp_of r _ v _ ov e1, hs⟩
    · cases e
  · cases e
theorem kV_of {v : AV} {key : Key} (e : keyA v = some key) : vT G ι v = kV key := by
  cases v <;> first | (cases e; rfl) | cases e
theorem keys_of : ∀ {xs : List AV} {ks : List Key}, keysA xs = some ks → xs.map (vT G ι) = ks.map kV
  | [], _, e => by cases e; rfl
  | x :: xs, ks, e => by
    unfold keysA at e
    split at e
    · rename_i k ks e1 e2
      cases e
      rw [List.map_cons, List.map_cons, kV_of e1, keys_of e2]
    · cases e
theorem tkey_of {v : AV} {ks : List Key} (r : HR G ι h H) (ov : okA ι v) (e : tkeyA h v = some ks) : ∃ b, vT G ι v = .ref b ∧ H b = some (.tup (ks.map kV)) := by
  unfold tkeyA tupA at e
  cases v with
  | ref n =>
    simp only at e
    split at e
    · rename_i xs ex
      split at ex
      · rename_i ys ey
        cases ex
        obtain ⟨h1, _⟩ := r.tup ov ey
        exact ⟨_, rfl, by rw [h1, keys_of e]⟩
      · cases ex
    · cases e
  | _ => cases e
theorem valA_map {κ : Type} [DecidableEq κ] {kvs : List (κ × AV)} {key : κ} : valV (kvs.map fun p => (p.1, vT G ι p.2)) key = (valA kvs key).map (vT G ι) := by
  induction kvs with
  | nil => rfl
  | cons p r ih =>
    by_cases e : p.1 = key
    · rw [List.map_cons, valV_pos e]
      simp [valA, List.find?_cons, e]
    · rw [List.map_cons, valV_neg e, ih]
      simp [valA, List.find?_cons, e]
theorem valA_ok {κ : Type} [DecidableEq κ] {kvs : List (κ × AV)} {key : κ} {v : AV} (o : ∀ p ∈ kvs, okA ι p.2) (e : valA kvs key = some v) : okA ι v := by
  unfold valA at e
  cases ef : kvs.find? fun kv => decide (kv.1 = key) with
  | none => rw [ef] at e; cases e
  | some p =>
    rw [ef] at e
    cases e
    exact o p (List.mem_of_find?_eq_some ef)
theorem putA_map {κ : Type} [DecidableEq κ] {kvs : List (κ × AV)} {key : κ} {v : AV} : (putA kvs key v).map (fun p => (p.1, vT G ι p.2)) = putK (kvs.map fun p => (p.1, vT G ι p.2)) key (vT G ι v) := by
  unfold putA putK
  have e : ((kvs.map fun p => (p.1, vT G ι p.2)).any fun kv => decide (kv.1 = key)) = kvs.any fun kv => decide (kv.1 = key) := by
    rw [List.any_map]
    rfl
  rw [e]
  split
  · rw [List.map_map, List.map_map]
    refine List.map_congr_left fun p _ => ?_
    simp only [Function.comp]
    split <;> rfl
  · rw [List.map_append]
    rfl
theorem putA_ok {κ : Type} [DecidableEq κ] {kvs : List (κ × AV)} {key : κ} {v : AV} (o : ∀ p ∈ kvs, okA ι p.2) (ov : okA ι v) : ∀ p ∈ putA kvs key v, okA ι p.2 := by
  intro p hp
  unfold putA at hp
  split at hp
  · obtain ⟨q, hq, e⟩ := List.mem_map.mp hp
    subst e
    split
    · exact ov
    · exact o q hq
  · rcases List.mem_append.mp hp with m | m
    · exact o p m
    · rw [List.mem_singleton.mp m]
      exact ov
end
end EV

/-! EvD: comparisons, subscripts, built-ins, methods, stores. -/
namespace EV
open PySem PySem.Spec PyProof.Rows L2
section
variable {G : Gc} {ι : List Addr} {h : AH} {H : Hp} {Q : VK} {X : Cx}

def copM : COp → CmpOp
  | .eq => .Eq | .ne => .NotEq | .lt => .Lt | .le => .LtE | .gt => .Gt | .ge => .GtE | .isin => .In | .notin => .NotIn | .is => .Is | .isnot => .IsNot
/-- a comparison by values -/
def CmOk (G : Gc) (X : Cx) (op : COp) : Prop :=
  ∃ r : R2, OpR X (compareOp (copM op)) r ∧ ∀ (ι : List Addr) (h : AH) (H : Hp) (x y : AV) (b : Bool) (Q : VK), HR G ι h H → okA ι x → okA ι y → cmpA op h x y = some b → Q (.bl b) H → r (vT G ι x) (vT G ι y) H Q
theorem ints_mapA : ∀ {xs : List AV} {is : List Int}, intsA xs = some is → xs = is.map AV.int
  | [], _, e => by cases e; rfl
  | .int i :: xs, is, e => by
    unfold intsA at e
    split at e
    · rename_i js ej
      cases e
      rw [List.map_cons, ← ints_mapA ej]
    · cases e
  | .non :: _, _, e => nomatch e
  | .bl _ :: _, _, e => nomatch e
  | .str _ :: _, _, e => nomatch e
  | .ref _ :: _, _, e => nomatch e
  | .ty _ :: _, _, e => nomatch e
  | .fn _ :: _, _, e => nomatch e
  | .scr :: _, _, e => nomatch e
theorem bls_mapA : ∀ {xs : List AV} {is : List Bool}, blsA xs = some is → xs = is.map AV.bl
  | [], _, e => by cases e; rfl
  | .bl i :: xs, is, e => by
    unfold blsA at e
    split at e
    · rename_i js ej
      cases e
      rw [List.map_cons, ← bls_mapA ej]
    · cases e
  | .non :: _, _, e => nomatch e
  | .int _ :: _, _, e => nomatch e
  | .str _ :: _, _, e => nomatch e
  | .ref _ :: _, _, e => nomatch e
  | .ty _ :: _, _, e => nomatch e
  | .fn _ :: _, _, e => nomatch e
  | .scr :: _, _, e => nomatch e
theorem vT_ints {is : List Int} : (is.map AV.int).map (vT G ι) = is.map V.int := by
  rw [List.map_map]
  rfl
theorem vT_bls {is : List Bool} : (is.map AV.bl).map (vT G ι) = is.map V.bl := by
  rw [List.map_map]
  rfl
theorem lexA_eq : ∀ xs ys : List Int, lexA xs ys = HT.lexLt xs ys
  | [], [] => rfl
  | [], _ :: _ => rfl
  | _ :: _, [] => rfl
  | x :: xs, y :: ys => by
    rw [show HT.lexLt (x :: xs) (y :: ys) = if x = y then HT.lexLt xs ys else decide (x < y) from rfl, ← lexA_eq xs ys]
    rfl
theorem flatA_V {x : AV} (f : cmpA.flatA x = true) : flatV (vT G ι x) = true := by
  cases x <;> first | rfl | cases f
theorem eqF_V {x y : AV} (fx : cmpA.flatA x = true) (fy : cmpA.flatA y = true) : eqV (vT G ι y) (vT G ι x) = cmpA.eqF y x := by
  cases x <;> cases y <;> first | rfl | cases fx | cases fy
theorem any_flat {x : AV} (fx : cmpA.flatA x = true) : ∀ {xs : List AV}, xs.all cmpA.flatA = true → (xs.map (vT G ι)).any (fun y => eqV y (vT G ι x)) = xs.any fun y => cmpA.eqF y x
  | [], _ => rfl
  | y :: ys, f => by
    rw [List.all_cons, Bool.and_eq_true] at f
    rw [List.map_cons, List.any_cons, List.any_cons, eqF_V fx f.1, any_flat fx f.2]
theorem all_flat : ∀ {xs : List AV}, xs.all cmpA.flatA = true → (xs.map (vT G ι)).all flatV = true
  | [], _ => rfl
  | y :: ys, f => by
    rw [List.all_cons, Bool.and_eq_true] at f
    rw [List.map_cons, List.all_cons, flatA_V f.1, all_flat f.2]
    rfl
theorem vT_none {x : AV} : decide (vT G ι x = .non) = decide (x = .non) := by
  cases x <;> rfl

/-- in, by a membership test of the dict's -/
def rDIn (neg : Bool) : R2 := fun y x H Q => ∃ a o, x = .ref a ∧ DGet H a y o ∧ Q (.bl (if neg then !o.isSome else o.isSome)) H
theorem op_din (hu : X.A.units + 1 < cLine) : OpR X (compareOp .In) (rDIn false) := by
  intro pins s σ H y x u v Q I ry rx h
  obtain ⟨a, o, rfl, g, q⟩ := h
  cases rx
  exact d_in hu I g ry fun s' I' => ⟨.bl _, H, I', rfl, q⟩
theorem op_dnotin (hu : X.A.units + 1 < cLine) : OpR X (compareOp .NotIn) (rDIn true) := by
  intro pins s σ H y x u v Q I ry rx h
  obtain ⟨a, o, rfl, g, q⟩ := h
  cases rx
  exact d_notIn hu I g ry fun s' I' => ⟨.bl _, H, I', rfl, q⟩
theorem dget_k {n : Nat} {kvs : List (Key × AV)} {i : AV} {key : Key} (r : HR G ι h H) (on : okA ι (.ref n)) (e : h.get n = some (.dk kvs)) (ek : keyA i = some key) : DGet H (ι.getD n 0) (vT G ι i) ((valA kvs key).map (vT G ι)) := by
  obtain ⟨h1, o1⟩ := r.dk on e
  have g := DGet.k (k := key) h1
  rw [valA_map, ← kV_of (G := G) (ι := ι) ek] at g
  exact g
theorem dget_t {n : Nat} {kvs : List (List Key × AV)} {i : AV} {key : List Key} (r : HR G ι h H) (on : okA ι (.ref n)) (oi : okA ι i) (e : h.get n = some (.dt kvs)) (ek : tkeyA h i = some key) : DGet H (ι.getD n 0) (vT G ι i) ((valA kvs key).map (vT G ι)) := by
  obtain ⟨h1, o1⟩ := r.dt on e
  obtain ⟨b, eb, hb⟩ := tkey_of r oi ek
  have g := DGet.t (k := key) h1 hb
  rw [valA_map] at g
  rw [eb]
  exact g
def rD (K : PySem.W.Frag) (neg : Bool) : R2 := fun x y H Q => ∃ d ds, Dp K H x d ∧ Dp K H y (.list ds) ∧ SeqAt.shaped d = true ∧ SeqAt.shaped (.list ds) = true ∧ Q (.bl (if neg then !(ds.any fun z => PyData.eqv z d) else ds.any fun z => PyData.eqv z d)) H
theorem op_inD' (hu : X.A.units + 65 < cLine) : OpR X (compareOp .In) (rD X.K false) := fun pins s σ H x y v u Q I rx ry ⟨d, ds, a, b, c, e, q⟩ => op_inD hu pins s σ H x y v u Q I rx ry ⟨d, ds, a, b, c, e, q⟩
theorem op_notInD' (hu : X.A.units + 65 < cLine) : OpR X (compareOp .NotIn) (rD X.K true) := fun pins s σ H x y v u Q I rx ry ⟨d, ds, a, b, c, e, q⟩ => op_notInD hu pins s σ H x y v u Q I rx ry ⟨d, ds, a, b, c, e, q⟩
theorem in_okA {neg : Bool} {x y : AV} {b : Bool} (r : HR G ι h H) (ox : okA ι x) (oy : okA ι y) (e : cmpA.inA h x y = some b) (q : Q (.bl (if neg then !b else b)) H) :
    (rIn G.K neg (vT G ι x) (vT G ι y) H Q ∨ rD G.K neg (vT G ι x) (vT G ι y) H Q) ∨ rDIn neg (vT G ι x) (vT G ι y) H Q := by
  have list : ∀ n, (match datA h (.ref n), datA h x with
        | some (.list ds), some d => some (ds.any fun z => PyData.eqv z d)
        | _, _ => none) = some b → okA ι (.ref n) → rD G.K neg (vT G ι x) (vT G ι (.ref n)) H Q := by
    intro n e on
    split at e
    · rename_i ds d e1 e2
      cases e
      obtain ⟨d1, s1⟩ := dat_of r on e1
      obtain ⟨d2, s2⟩ := dat_of r ox e2
      exact ⟨d, ds, d2, d1, s2, s1, q⟩
    · cases e
  unfold cmpA.inA at e
  cases y with
  | ref n =>
    simp only at e
    split at e
    · rename_i kvs ek
      split at e
      · rename_i key ekey
        cases e
        exact .inr ⟨_, _, rfl, dget_k r oy ek ekey, by rw [Option.isSome_map]; exact q⟩
      · cases e
    · rename_i kvs ek
      split at e
      · rename_i key ekey
        cases e
        exact .inr ⟨_, _, rfl, dget_t r oy ox ek ekey, by rw [Option.isSome_map]; exact q⟩
      · cases e
    · rename_i xs ex
      split at e
      · rename_i f
        rw [Bool.and_eq_true] at f
        cases e
        obtain ⟨h1, o1⟩ := r.tup oy ex
        refine .inl (.inl ⟨_, _, rfl, .inr (SqT.of h1), flatA_V f.1, all_flat f.2, ?_⟩)
        unfold inV
        rw [any_flat f.1 f.2]
        exact q
      · cases e
    · exact .inl (.inr (list n e oy))
  | _ => cases e
theorem cmp_ok (hK : X.K = G.K) (hu : X.A.units + 65 < cLine) : ∀ op : COp, CmOk G X op
  | .eq => by
    refine ⟨_, op_eqD (by omega), fun ι h H x y b Q r ox oy e q => ?_⟩
    simp only [cmpA] at e
    split at e
    · rename_i d1 d2 e1 e2
      cases e
      obtain ⟨a1, s1⟩ := dat_of r ox e1
      obtain ⟨a2, s2⟩ := dat_of r oy e2
      rw [hK]
      exact ⟨_, _, a1, a2, s1, s2, q⟩
    · cases e
  | .ne => by
    refine ⟨_, op_neD (by omega), fun ι h H x y b Q r ox oy e q => ?_⟩
    simp only [cmpA] at e
    split at e
    · rename_i d1 d2 e1 e2
      cases e
      obtain ⟨a1, s1⟩ := dat_of r ox e1
      obtain ⟨a2, s2⟩ := dat_of r oy e2
      rw [hK]
      exact ⟨_, _, a1, a2, s1, s2, q⟩
    · cases e
  | .lt => by
    refine ⟨_, op_lt.or (op_ltT (by omega)), fun ι h H x y b Q r ox oy e q => ?_⟩
    simp only [cmpA] at e
    split at e
    · cases e
      exact .inl ⟨_, _, rfl, rfl, q⟩
    · rename_i n m
      split at e
      · rename_i xs ys e1 e2
        split at e
        · rename_i is js e3 e4
          cases e
          unfold tupA at e1 e2
          simp only at e1 e2
          split at e1 <;> cases e1
          rename_i ex
          split at e2 <;> cases e2
          rename_i ey
          obtain ⟨h1, _⟩ := r.tup ox ex
          obtain ⟨h2, _⟩ := r.tup oy ey
          rw [ints_mapA e3, vT_ints] at h1
          rw [ints_mapA e4, vT_ints] at h2
          rw [lexA_eq] at q
          exact .inr ⟨_, _, _, _, rfl, rfl, SqT.of h1, SqT.of h2, q⟩
        · cases e
      · cases e
    · cases e
  | .le => by
    refine ⟨_, op_le, fun ι h H x y b Q r ox oy e q => ?_⟩
    simp only [cmpA] at e
    split at e
    · cases e
      exact ⟨_, _, rfl, rfl, q⟩
    · cases e
  | .gt => by
    refine ⟨_, op_gt, fun ι h H x y b Q r ox oy e q => ?_⟩
    simp only [cmpA] at e
    split at e
    · cases e
      exact ⟨_, _, rfl, rfl, q⟩
    · cases e
  | .ge => by
    refine ⟨_, op_ge, fun ι h H x y b Q r ox oy e q => ?_⟩
    simp only [cmpA] at e
    split at e
    · cases e
      exact ⟨_, _, rfl, rfl, q⟩
    · cases e
  | .is => by
    refine ⟨_, op_isN, fun ι h H x y b Q r ox oy e q => ?_⟩
    simp only [cmpA] at e
    split at e
    · cases e
      exact ⟨rfl, by rw [vT_none]; exact q⟩
    · cases e
  | .isnot => by
    refine ⟨_, op_notN, fun ι h H x y b Q r ox oy e q => ?_⟩
    simp only [cmpA] at e
    split at e
    · cases e
      exact ⟨rfl, by rw [vT_none]; exact q⟩
    · cases e
  | .isin => by
    refine ⟨_, ((op_in_seq.or (op_inD' hu)).or (op_din (by omega))), fun ι h H x y b Q r ox oy e q => ?_⟩
    simp only [cmpA] at e
    split at e
    · rename_i b' eb
      cases e
      have := in_okA (neg := false) r ox oy eb q
      rw [hK]
      exact this
    · cases e
  | .notin => by
    refine ⟨_, ((op_notIn_seq.or (op_notInD' hu)).or (op_dnotin (by omega))), fun ι h H x y b Q r ox oy e q => ?_⟩
    simp only [cmpA] at e
    split at e
    · rename_i b' eb
      cases e
      have := in_okA (neg := true) r ox oy eb q
      rw [hK]
      exact this
    · cases e

/-! ### truth, types -/
theorem tru_at {v : AV} {b : Bool} (r : HR G ι h H) (ov : okA ι v) (e : truA h v = some b) : TruV G.K (vT G ι v) H b := by
  unfold truA at e
  cases v with
  | non => cases e; rfl
  | bl b => cases e; rfl
  | int b => cases e; rfl
  | str x =>
    simp only at e
    split at e
    · rename_i hx
      cases e
      exact ⟨hx, rfl⟩
    · cases e
  | ref n =>
    simp only at e
    split at e
    · rename_i xs ex
      cases e
      obtain ⟨h1, _⟩ := r.lst ov ex
      exact .inl ⟨_, SqL.of h1, by rw [List.isEmpty_map]⟩
    · rename_i xs ex
      cases e
      obtain ⟨h1, _⟩ := r.tup ov ex
      exact .inr (.inl ⟨_, SqT.of h1, by rw [List.isEmpty_map]⟩)
    · rename_i xs ex
      cases e
      obtain ⟨h1, _⟩ := r.dk ov ex
      exact .inr (.inr ⟨_, h1, by rw [List.isEmpty_map]⟩)
    · cases e
  | _ => cases e
end
end EV

/-! EvFa: any, all of a list by its items' truth. -/
namespace EV
open PySem PySem.Spec PySem.W PyProof.Rows L2
/-- an item's truth -/
def TrV (K : PySem.W.Frag) (H : Hp) (x : V) (b : Bool) : Prop := match x with
  | .non => b = false
  | .bl c => b = c
  | .int i => b = (i != 0)
  | .str z => z.length ≤ sizeLine ∧ b = ((z.length : Int) != 0)
  | .ref a => ∃ ys : List V, (SqL K H a ys ∨ SqT K H a ys) ∧ b = !ys.isEmpty
  | _ => False
theorem vals_get : ∀ {xs : List V} {us : List Value} {i : Nat} {v : Value}, Vals xs us → us[i]? = some v → ∃ x, xs[i]? = some x ∧ RelV x v
  | _, _, _, _, .nil, e => by simp at e
  | _, _, 0, v, .cons r rr, e => by
    cases e
    exact ⟨_, rfl, r⟩
  | _, _, i + 1, v, .cons r rr, e => by
    obtain ⟨x, h1, h2⟩ := vals_get (i := i) rr (by simpa using e)
    exact ⟨x, by simpa using h1, h2⟩
section
variable {X : Cx} {pins : List (Addr × Obj)} {σ : L2.St} {H : Hp} {s : Shared} {A : Around}
theorem empty_of {ys : List V} {its : List Value} (r : Vals ys its) : its.toArray.isEmpty = ys.isEmpty := by
  have := r.length
  cases ys <;> cases its <;> first | rfl | simp at this
theorem truth_items (I : Inv X pins σ H s) {xs : List V} {us : List Value} (r : Vals xs us) {bs : List Bool} (hb : ∀ i x, xs[i]? = some x → TrV X.K H x (bs.getD i false)) : TruthIn X.prog X.w A s.heap (fun i v => us.toArray[i]? = some v) (fun i => bs.getD i false) := by
  intro i v s' Q E hk hv hq
  have hv' : us[i]? = some v := by simpa using hv
  obtain ⟨x, hx, rx⟩ := vals_get r hv'
  have t := hb i x hx
  have hq : ∀ tk, s'.toks ≤ tk → Q (bs.getD i false) { s' with toks := tk } := hq
  cases x with
  | non =>
    have t : bs.getD i false = false := t
    rw [t] at hq
    cases rx
    exact PyProof.Rows.truthy_none (hq s'.toks (Nat.le_refl _))
  | bl c =>
    have t : bs.getD i false = c := t
    rw [t] at hq
    cases rx
    exact wpAny_truthy_bool (hq s'.toks (Nat.le_refl _))
  | int n =>
    have t : bs.getD i false = (n != 0) := t
    rw [t] at hq
    obtain ⟨tk, rfl⟩ := rx
    exact PySem.P.truthy_int (hq s'.toks (Nat.le_refl _))
  | str z =>
    obtain ⟨hz, t⟩ := t
    rw [t] at hq
    obtain ⟨tk, rfl⟩ := rx
    exact PySem.P.truthy_str (by rw [sizeLine_eq] at hz; omega) (hq _ (Nat.le_succ_of_le (Nat.le_succ _)))
  | ref a =>
    obtain ⟨ys, hs, t⟩ := t
    rw [t] at hq
    obtain rfl : v = .ref a := rx
    rcases hs with hs | hs
    · obtain ⟨its, rv, p, hz⟩ := I.list hs
      refine wpAny_truthy_list (p.isList.at fun o e => hk _ o e) ?_ ?_
      · rw [List.size_toArray, ← rv.length]
        rw [sizeLine_eq] at hz
        omega
      · rw [empty_of rv]
        exact hq _ (Nat.le_succ_of_le (Nat.le_succ _))
    · obtain ⟨its, rv, p, hz⟩ := I.tuple hs
      refine PyProof.Rows.truthy_tuple (by obtain ⟨o, e, z⟩ := p; exact ⟨o, hk _ o e, z⟩) ?_ ?_
      · rw [List.size_toArray, ← rv.length]
        rw [sizeLine_eq] at hz
        omega
      · rw [empty_of rv]
        exact hq _ (Nat.le_succ_of_le (Nat.le_succ _))
  | _ => exact t.elim
def rAnyT (K : PySem.W.Frag) : List V → Hp → VK → Prop := fun vs H Q => ∃ (a : Addr) (xs : List V) (bs : List Bool), vs = [V.ref a] ∧ SqL K H a xs ∧ bs.length = xs.length ∧ (∀ i x, xs[i]? = some x → TrV K H x (bs.getD i false)) ∧ Q (.bl (bs.any id)) H
def rAllT (K : PySem.W.Frag) : List V → Hp → VK → Prop := fun vs H Q => ∃ (a : Addr) (xs : List V) (bs : List Bool), vs = [V.ref a] ∧ SqL K H a xs ∧ bs.length = xs.length ∧ (∀ i x, xs[i]? = some x → TrV K H x (bs.getD i false)) ∧ Q (.bl (bs.all id)) H
theorem cr_anyT (hc : X.calm = true) : CallR X (.builtin "any") (rAnyT X.K) := by
  intro pins s σ H vs us Q I r h
  obtain ⟨a, xs, bs, rfl, hs, hl, hb, q⟩ := h
  obtain ⟨its, rv, p, hz⟩ := I.list hs
  rw [Vals.ref1 r]
  refine call_any_walkH (iter_listW (A := X.A.in1) (I.ok.hd hc) p.isList fun s₂ e W st hfp hw hk => ?_)
  refine ⟨_, _, _, _, _, _, _, s.heap, _, rfl, W, st, hw, hk, truth_items I rv hb, fun s' m => ?_⟩
  obtain ⟨h', tk, rfl, hk'⟩ := moved_old e rfl m
  refine ⟨.bl _, H, I.kept fun b o eo => hk' b o eo, ?_, q⟩
  show Value.bool _ = Value.bool _
  rw [← L2.any_range, List.size_toArray, ← rv.length, hl]
theorem cr_allT (hc : X.calm = true) : CallR X (.builtin "all") (rAllT X.K) := by
  intro pins s σ H vs us Q I r h
  obtain ⟨a, xs, bs, rfl, hs, hl, hb, q⟩ := h
  obtain ⟨its, rv, p, hz⟩ := I.list hs
  rw [Vals.ref1 r]
  refine call_all_walkH (iter_listW (A := X.A.in1) (I.ok.hd hc) p.isList fun s₂ e W st hfp hw hk => ?_)
  refine ⟨_, _, _, _, _, _, _, s.heap, _, rfl, W, st, hw, hk, truth_items I rv hb, fun s' m => ?_⟩
  obtain ⟨h', tk, rfl, hk'⟩ := moved_old e rfl m
  refine ⟨.bl _, H, I.kept fun b o eo => hk' b o eo, ?_, q⟩
  show Value.bool _ = Value.bool _
  rw [← L2.all_range, List.size_toArray, ← rv.length, hl]
end
end EV

/-! EvF: isinstance, subscripts, slices, built-ins, methods, stores, what is walked. -/
namespace EV
open PySem PySem.Spec PyProof.Rows L2
section
variable {G : Gc} {ι : List Addr} {h : AH} {H : Hp} {Q : VK} {X : Cx}

/-! ### isinstance -/
def tysK : List String := ["list", "tuple", "dict", "int", "bool", "str"]
theorem kit_all : ∀ t ∈ ["NoneType", "bool", "int", "str", "list", "tuple", "dict"], ∀ u ∈ tysK, kitB t u = some (isiB t u) := by decide +kernel
theorem boot_all : ∀ u ∈ tysK, bootBuiltins (Str.ofString u) = some (.type u) := by
  intro u hu
  simp only [tysK, List.mem_cons, List.not_mem_nil, or_false] at hu
  rcases hu with rfl | rfl | rfl | rfl | rfl | rfl <;> decide +kernel
theorem typN_mem {v : AV} {t : String} (e : typN h v = some t) : t ∈ ["NoneType", "bool", "int", "str", "list", "tuple", "dict"] := by
  unfold typN at e
  cases v with
  | ref n =>
    simp only at e
    split at e <;> cases e <;> simp
  | non => cases e; simp
  | bl _ => cases e; simp
  | int _ => cases e; simp
  | str _ => cases e; simp
  | _ => cases e
theorem ty_of {v : AV} {t : String} (r : HR G ι h H) (ov : okA ι v) (e : typN h v = some t) : TyX G.K H (vT G ι v) (.type t) := by
  unfold typN at e
  cases v with
  | ref n =>
    simp only at e
    split at e
    · rename_i xs ex
      cases e
      exact .base (.lst (r.lst ov ex).1)
    · rename_i xs ex
      cases e
      exact .base (.tup (r.tup ov ex).1)
    · rename_i xs ex
      cases e
      exact .base (.dK (r.dk ov ex).1)
    · rename_i xs ex
      cases e
      exact .base (.dT (r.dt ov ex).1)
    · cases e
  | non => cases e; exact .base .non
  | bl _ => cases e; exact .base (.bl _)
  | int _ => cases e; exact .base (.int _)
  | str _ => cases e; exact .base (.str _)
  | _ => cases e
theorem ty_up {v : AV} {t : String} (r : HR G ι h H) (ov : okA ι v) (e : typN h v = some t) {p : Addr} {u : HO} (n : H p = none) : TyX G.K (upd H p u) (vT G ι v) (.type t) := ty_of (r.beside n).1 ov e
theorem kit_any {t : String} (ht : t ∈ ["NoneType", "bool", "int", "str", "list", "tuple", "dict"]) : ∀ us : List String, (∀ u ∈ us, u ∈ tysK) → PySem.W.kitAny G.K (.type t) (us.map Value.type) = some (us.any (isiB t))
  | [], _ => rfl
  | u :: us, hu => by
    have e1 : PySem.W.kitOne G.K (.type t) (.type u) = some (isiB t u) := kit_ty (kit_all t ht u (hu u List.mem_cons_self))
    have e2 := kit_any ht us fun v hv => hu v (List.mem_cons_of_mem _ hv)
    rw [List.map_cons, List.any_cons]
    cases eb : isiB t u with
    | true => exact kitAny_cons (b := true) (by rw [← eb]; exact e1) (fun z => nomatch z) fun _ => by simp
    | false => exact kitAny_cons (b := false) (by rw [← eb]; exact e1) (fun _ => by simpa using e2) fun z => nomatch z

/-! ### subscripts -/
def rIxA (K : PySem.W.Frag) : R2 := rIx K
theorem atI_map {α β : Type} {f : α → β} {xs : List α} {i : Int} : atI (xs.map f) i = (atI xs i).map f := by
  unfold atI
  rw [List.length_map]
  cases ixN xs.length i with
  | none => rfl
  | some j => simp
theorem atI_mem {α : Type} {xs : List α} {i : Int} {v : α} (e : atI xs i = some v) : v ∈ xs := by
  unfold atI at e
  cases ej : ixN xs.length i with
  | none => rw [ej] at e; cases e
  | some j => rw [ej] at e; exact List.mem_of_getElem? e
theorem ix_at {o i v : AV} (r : HR G ι h H) (oo : okA ι o) (oi : okA ι i) (e : ixA h o i = some v) (q : okA ι v → Q (vT G ι v) H) :
    rIx G.K (vT G ι o) (vT G ι i) H Q ∨ ∃ a w, vT G ι o = .ref a ∧ DGet H a (vT G ι i) (some w) ∧ Q w H := by
  unfold ixA at e
  cases o with
  | ref n =>
    simp only at e
    split at e
    · rename_i xs ex
      split at e
      · rename_i j
        obtain ⟨h1, o1⟩ := r.lst oo ex
        exact .inl (.inl ⟨_, _, _, _, rfl, rfl, SqL.of h1, by rw [atI_map, e]; rfl, q (o1 _ (atI_mem e))⟩)
      · cases e
    · rename_i xs ex
      split at e
      · rename_i j
        obtain ⟨h1, o1⟩ := r.tup oo ex
        exact .inl (.inr (.inl ⟨_, _, _, _, rfl, rfl, SqT.of h1, by rw [atI_map, e]; rfl, q (o1 _ (atI_mem e))⟩))
      · cases e
    · rename_i kvs ex
      split at e
      · rename_i key ek
        have g := dget_k r oo ex ek
        rw [e] at g
        exact .inr ⟨_, _, rfl, g, q (valA_ok (r.dk oo ex).2 e)⟩
      · cases e
    · rename_i kvs ex
      split at e
      · rename_i key ek
        have g := dget_t r oo oi ex ek
        rw [e] at g
        exact .inr ⟨_, _, rfl, g, q (valA_ok (r.dt oo ex).2 e)⟩
      · cases e
    · cases e
  | str z =>
    cases i with
    | int j =>
      simp only at e
      split at e
      · rename_i hz
        cases ea : atI z.cps.toList j with
        | none => rw [ea] at e; cases e
        | some c =>
          rw [ea] at e
          cases e
          exact .inl (.inr (.inr ⟨_, _, _, rfl, rfl, hz, ea, q trivial⟩))
      · cases e
    | _ => cases e
  | _ => cases e
theorem cut_map {xs : List AV} {lo hi : Option Int} : (sliceA.cut xs lo hi).map (vT G ι) = cutV (xs.map (vT G ι)) lo hi := by
  unfold sliceA.cut cutV
  rw [List.map_take, List.map_drop, List.length_map]
theorem cut_okA {xs : List AV} {lo hi : Option Int} (o : ∀ x ∈ xs, okA ι x) : ∀ x ∈ sliceA.cut xs lo hi, okA ι x := fun x m => o x (List.mem_of_mem_drop (List.mem_of_mem_take m))
theorem slice_at {o : AV} {lo hi : Option Int} (r : HR G ι h H) (oo : okA ι o) (g : GA G (sliceA h o lo hi) ι H fun v _ ι' H' => Q (vT G ι' v) H') : rSlL G.K (vT G ι o) lo hi H Q ∨ rSlA G.K (vT G ι o) lo hi H Q := by
  unfold sliceA at g
  cases o with
  | ref n =>
    simp only at g
    split at g
    · rename_i xs ex
      obtain ⟨h1, o1⟩ := r.lst oo ex
      exact .inl ⟨_, _, rfl, SqL.of h1, fun p n => GA.new g r n ⟨by rw [cut_map], cut_okA o1⟩⟩
    · rename_i xs ex
      obtain ⟨h1, o1⟩ := r.tup oo ex
      refine .inr ⟨_, _, rfl, SqT.of h1, fun e => ?_, fun e p n => ?_⟩
      · rw [List.length_map] at e
        rw [if_pos e] at g
        exact GA.val g r oo
      · rw [List.length_map] at e
        rw [if_neg e] at g
        exact GA.new g r n ⟨by rw [cut_map], cut_okA o1⟩
    · exact False.elim g
  | _ => exact False.elim g

/-! ### built-in functions -/
def bNm : Bi → String
  | .len => "len" | .abs => "abs" | .int => "int" | .list => "list" | .tuple => "tuple" | .sorted => "sorted" | .sum => "sum" | .min => "min" | .max => "max" | .all => "all" | .any => "any" | .dict => "dict" | .str => "str"
/-- the value that the built-in name bears -/
def bVal : Bi → Value
  | .int => .type "int" | .list => .type "list" | .tuple => .type "tuple" | .dict => .type "dict" | .str => .type "str"
  | b => .builtin (bNm b)
theorem bBoot (b : Bi) : bootBuiltins (Str.ofString (bNm b)) = some (bVal b) := by cases b <;> decide +kernel
def BiOk (G : Gc) (X : Cx) (b : Bi) : Prop :=
  ∃ r : List V → Hp → VK → Prop, CallR X (bVal b) r ∧ ∀ (ι : List Addr) (h : AH) (H : Hp) (xs : List AV) (Q : VK), HR G ι h H → (∀ x ∈ xs, okA ι x) → GA G (biA b h xs) ι H (fun v _ ι' H' => Q (vT G ι' v) H') → r (xs.map (vT G ι)) H Q
theorem no_call {f : Value} : CallR X f fun _ _ _ => False := fun _ _ _ _ _ _ _ _ _ z => z.elim
theorem lst_at {x : AV} {ys : List AV} (r : HR G ι h H) (ox : okA ι x) (e : lstA h x = some ys) : ∃ a, vT G ι x = .ref a ∧ SqL G.K H a (ys.map (vT G ι)) ∧ ∀ y ∈ ys, okA ι y := by
  unfold lstA at e
  cases x with
  | ref n =>
    simp only at e
    split at e
    · rename_i xs ex
      cases e
      obtain ⟨h1, o1⟩ := r.lst ox ex
      exact ⟨_, rfl, SqL.of h1, o1⟩
    · cases e
  | _ => cases e
theorem fold_max : ∀ (is : List Int) (i : Int), (is.foldl (fun a b => if a < b then b else a) i) ∈ i :: is ∧ ∀ y ∈ i :: is, y ≤ is.foldl (fun a b => if a < b then b else a) i
  | [], i => ⟨List.mem_cons_self, fun y m => by rw [List.mem_singleton.mp m]; exact Int.le_refl _⟩
  | j :: is, i => by
    obtain ⟨m, l⟩ := fold_max is (if i < j then j else i)
    rw [List.foldl_cons]
    refine ⟨?_, fun y my => ?_⟩
    · rcases List.mem_cons.mp m with e | m
      · rw [e]
        split
        · exact List.mem_cons_of_mem _ List.mem_cons_self
        · exact List.mem_cons_self
      · exact List.mem_cons_of_mem _ (List.mem_cons_of_mem _ m)
    · have l0 := l _ List.mem_cons_self
      have hi : i ≤ (if i < j then j else i) := by split <;> omega
      have hj : j ≤ (if i < j then j else i) := by split <;> omega
      rcases List.mem_cons.mp my with e | my
      · subst e
        exact Int.le_trans hi l0
      · rcases List.mem_cons.mp my with e | my
        · subst e
          exact Int.le_trans hj l0
        · exact l y (List.mem_cons_of_mem _ my)
theorem fold_min : ∀ (is : List Int) (i : Int), (is.foldl (fun a b => if b < a then b else a) i) ∈ i :: is ∧ ∀ y ∈ i :: is, is.foldl (fun a b => if b < a then b else a) i ≤ y
  | [], i => ⟨List.mem_cons_self, fun y m => by rw [List.mem_singleton.mp m]; exact Int.le_refl _⟩
  | j :: is, i => by
    obtain ⟨m, l⟩ := fold_min is (if j < i then j else i)
    rw [List.foldl_cons]
    refine ⟨?_, fun y my => ?_⟩
    · rcases List.mem_cons.mp m with e | m
      · rw [e]
        split
        · exact List.mem_cons_of_mem _ List.mem_cons_self
        · exact List.mem_cons_self
      · exact List.mem_cons_of_mem _ (List.mem_cons_of_mem _ m)
    · have l0 := l _ List.mem_cons_self
      have hi : (if j < i then j else i) ≤ i := by split <;> omega
      have hj : (if j < i then j else i) ≤ j := by split <;> omega
      rcases List.mem_cons.mp my with e | my
      · subst e
        exact Int.le_trans l0 hi
      · rcases List.mem_cons.mp my with e | my
        · subst e
          exact Int.le_trans l0 hj
        · exact l y (List.mem_cons_of_mem _ my)
theorem insI_perm (x : Int) : ∀ ys : List Int, (insI x ys).Perm (x :: ys)
  | [] => List.Perm.refl _
  | y :: ys => by
    unfold insI
    split
    · exact List.Perm.refl _
    · exact ((insI_perm x ys).cons y).trans (List.Perm.swap x y ys)
theorem sortI_perm : ∀ xs : List Int, (sortI xs).Perm xs
  | [] => List.Perm.refl _
  | x :: xs => (insI_perm x (sortI xs)).trans ((sortI_perm xs).cons x)
theorem insI_sorted {x : Int} : ∀ {ys : List Int}, ys.Pairwise (· ≤ ·) → (insI x ys).Pairwise (· ≤ ·)
  | [], _ => List.pairwise_singleton _ _
  | y :: ys, h => by
    obtain ⟨h1, h2⟩ := List.pairwise_cons.mp h
    unfold insI
    split
    · rename_i z
      exact List.pairwise_cons.mpr ⟨fun w m => by
        rcases List.mem_cons.mp m with e | m
        · rw [e]; exact z
        · exact Int.le_trans z (h1 w m), h⟩
    · rename_i z
      refine List.pairwise_cons.mpr ⟨fun w m => ?_, insI_sorted h2⟩
      rcases List.mem_cons.mp ((insI_perm x ys).mem_iff.mp m) with e | m
      · rw [e]; omega
      · exact h1 w m
theorem sortI_sorted : ∀ xs : List Int, (sortI xs).Pairwise (· ≤ ·)
  | [] => List.Pairwise.nil
  | x :: xs => insI_sorted (sortI_sorted xs)
theorem sorted_uniq : ∀ {xs ys : List Int}, xs.Perm ys → xs.Pairwise (· ≤ ·) → ys.Pairwise (· ≤ ·) → xs = ys
  | [], ys, p, _, _ => (List.Perm.nil_eq p)
  | x :: xs, [], p, _, _ => absurd p.symm.nil_eq (by simp)
  | x :: xs, y :: ys, p, h, g => by
    obtain ⟨h1, h2⟩ := List.pairwise_cons.mp h
    obtain ⟨g1, g2⟩ := List.pairwise_cons.mp g
    have a : x ≤ y := by
      rcases List.mem_cons.mp (p.mem_iff.mpr List.mem_cons_self) with e | m
      · omega
      · exact h1 y m
    have b : y ≤ x := by
      rcases List.mem_cons.mp (p.mem_iff.mp List.mem_cons_self) with e | m
      · omega
      · exact g1 x m
    have e : x = y := Int.le_antisymm a b
    subst e
    rw [sorted_uniq (List.Perm.cons_inv p) h2 g2]
theorem sortI_uniq {xs ys : List Int} (p : ys.Perm xs) (h : ys.Pairwise (· ≤ ·)) : ys = sortI xs := sorted_uniq (p.trans (sortI_perm xs).symm) h (sortI_sorted xs)
theorem tl_trv {v : AV} {b : Bool} (r : HR G ι h H) (ov : okA ι v) (e : tlA h v = some b) : TrV G.K H (vT G ι v) b := by
  unfold tlA at e
  cases v with
  | non => cases e; rfl
  | bl c => cases e; rfl
  | int i => cases e; rfl
  | str x =>
    simp only at e
    split at e
    · rename_i hz
      cases e
      exact ⟨hz, rfl⟩
    · cases e
  | ref n =>
    simp only at e
    split at e
    · rename_i xs ex
      cases e
      exact ⟨_, .inl (SqL.of (r.lst ov ex).1), by cases xs <;> rfl⟩
    · rename_i xs ex
      cases e
      exact ⟨_, .inr (SqT.of (r.tup ov ex).1), by cases xs <;> rfl⟩
    · cases e
  | _ => cases e
theorem tl_at {ys : List AV} {bs : List Bool} (r : HR G ι h H) (oy : ∀ y ∈ ys, okA ι y) (e : mapO (tlA h) ys = some bs) : bs.length = (ys.map (vT G ι)).length ∧ ∀ i x, (ys.map (vT G ι))[i]? = some x → TrV G.K H x (bs.getD i false) := by
  induction ys generalizing bs with
  | nil =>
    cases e
    exact ⟨rfl, fun i x z => by simp at z⟩
  | cons y ys ih =>
    unfold mapO at e
    split at e
    · rename_i b bs' e1 e2
      cases e
      obtain ⟨h1, h2⟩ := ih (fun z m => oy z (List.mem_cons_of_mem _ m)) e2
      refine ⟨by simp at h1 ⊢; exact h1, fun i x z => ?_⟩
      cases i with
      | zero =>
        simp at z
        subst z
        exact tl_trv r (oy y List.mem_cons_self) e1
      | succ i => exact h2 i x (by simpa using z)
    · cases e
theorem len_dict : CallR X (.builtin "len") (fun xs H Q => ∃ (a : Addr) (kvs : List (Key × V)), xs = [.ref a] ∧ H a = some (.dK kvs) ∧ Q (.int kvs.length) H) := by
  intro pins s σ H xs us Q I r h
  obtain ⟨a, kvs, rfl, e, q⟩ := h
  obtain ⟨u, rfl, rx⟩ := vals1 r
  cases rx
  exact d_len I (.inl e) fun t s' I' => ⟨.int _, H, I', ⟨t, rfl⟩, q⟩
theorem bi_ok (hK : X.K = G.K) (hc : X.calm = true) : ∀ b : Bi, BiOk G X b
  | .len => by
    refine ⟨_, (call_len_seq.or call_len_str).or len_dict, fun ι h H xs Q r oxs g => ?_⟩
    rw [hK]
    cases xs with
    | nil => exact False.elim g
    | cons x xs =>
      cases xs with
      | cons _ _ => cases x <;> exact False.elim g
      | nil =>
        have ox := oxs x List.mem_cons_self
        cases x <;> first | exact False.elim g | skip
        · unfold biA at g
          simp only at g
          split at g
          · rename_i hz
            exact .inl (.inr ⟨_, rfl, hz, GA.val g r trivial⟩)
          · exact False.elim g
        · rename_i n
          unfold biA at g
          simp only at g
          split at g
          · rename_i ys ey
            have q : Q (.int (ys.length : Nat)) H := GA.val g r trivial
            exact .inl (.inl ⟨_, _, rfl, .inl (SqL.of (r.lst ox ey).1), by rw [List.length_map]; exact q⟩)
          · rename_i ys ey
            have q : Q (.int (ys.length : Nat)) H := GA.val g r trivial
            exact .inl (.inl ⟨_, _, rfl, .inr (SqT.of (r.tup ox ey).1), by rw [List.length_map]; exact q⟩)
          · rename_i ys ey
            have q : Q (.int (ys.length : Nat)) H := GA.val g r trivial
            exact .inr ⟨_, _, rfl, (r.dk ox ey).1, by rw [List.length_map]; exact q⟩
          · exact False.elim g
  | .abs => by
    refine ⟨_, call_abs, fun ι h H xs Q r oxs g => ?_⟩
    cases xs with
    | nil => exact False.elim g
    | cons x xs =>
      cases xs with
      | cons _ _ => cases x <;> exact False.elim g
      | nil =>
        have ox := oxs x List.mem_cons_self
        cases x <;> first | exact False.elim g | skip
        exact ⟨_, rfl, GA.val g r trivial⟩
  | .int => by
    refine ⟨_, call_int1, fun ι h H xs Q r oxs g => ?_⟩
    cases xs with
    | nil => exact False.elim g
    | cons x xs =>
      cases xs with
      | cons _ _ => cases x <;> exact False.elim g
      | nil =>
        have ox := oxs x List.mem_cons_self
        cases x <;> first | exact False.elim g | skip
        · exact .inr ⟨_, rfl, GA.val g r trivial⟩
        · exact .inl ⟨_, rfl, GA.val g r trivial⟩
  | .list => by
    refine ⟨_, call_list_of, fun ι h H xs Q r oxs g => ?_⟩
    rw [hK]
    cases xs with
    | nil => exact False.elim g
    | cons x xs =>
      cases xs with
      | cons _ _ => cases x <;> exact False.elim g
      | nil =>
        have ox := oxs x List.mem_cons_self
        cases x <;> first | exact False.elim g | skip
        · rename_i n
          unfold biA at g
          simp only at g
          split at g
          · rename_i ys ey
            obtain ⟨h1, o1⟩ := r.lst ox ey
            exact ⟨_, _, rfl, .inl (SqL.of h1), fun p n => GA.new g r n ⟨rfl, o1⟩⟩
          · rename_i ys ey
            obtain ⟨h1, o1⟩ := r.tup ox ey
            exact ⟨_, _, rfl, .inr (SqT.of h1), fun p n => GA.new g r n ⟨rfl, o1⟩⟩
          · exact False.elim g
        · refine ⟨G.sa, _, rfl, .inl r.scr.seq, fun p n => GA.new g r n ⟨?_, fun x m => ?_⟩⟩
          · rw [vT_ints]
          · obtain ⟨i, _, rfl⟩ := List.mem_map.mp m
            trivial
  | .tuple => by
    refine ⟨_, call_tuple_of, fun ι h H xs Q r oxs g => ?_⟩
    rw [hK]
    cases xs with
    | nil => exact False.elim g
    | cons x xs =>
      cases xs with
      | cons _ _ => cases x <;> exact False.elim g
      | nil =>
        have ox := oxs x List.mem_cons_self
        cases x <;> first | exact False.elim g | skip
        · rename_i n
          unfold biA at g
          simp only at g
          split at g
          · rename_i ys ey
            obtain ⟨h1, o1⟩ := r.lst ox ey
            exact ⟨_, _, rfl, .inl ⟨SqL.of h1, fun p n => GA.new g r n ⟨rfl, o1⟩⟩⟩
          · rename_i ys ey
            obtain ⟨h1, o1⟩ := r.tup ox ey
            exact ⟨_, _, rfl, .inr ⟨SqT.of h1, GA.val g r ox⟩⟩
          · exact False.elim g
  | .sorted => by
    refine ⟨_, cr_sortedI, fun ι h H xs Q r oxs g => ?_⟩
    rw [hK]
    cases xs with
    | nil => exact False.elim g
    | cons x xs =>
      cases xs with
      | cons _ _ => exact False.elim g
      | nil =>
        have ox := oxs x List.mem_cons_self
        unfold biA at g
        simp only at g
        split at g
        · rename_i ys ey
          split at g
          · rename_i is ei
            obtain ⟨a, ea, sq, o1⟩ := lst_at r ox ey
            rw [ints_mapA ei, vT_ints] at sq
            refine ⟨_, _, by rw [List.map_cons, ea]; rfl, sq, fun ns' p hp hw n => ?_⟩
            rw [sortI_uniq hp hw]
            exact GA.new g r n ⟨by rw [vT_ints], fun x m => by obtain ⟨i, _, rfl⟩ := List.mem_map.mp m; trivial⟩
          · exact False.elim g
        · exact False.elim g
  | .dict => ⟨_, no_call, fun ι h H xs Q r oxs g => by unfold biA at g; exact False.elim g⟩
  | .str => ⟨_, no_call, fun ι h H xs Q r oxs g => by unfold biA at g; exact False.elim g⟩
  | .sum => by
    refine ⟨_, cr_sum hc, fun ι h H xs Q r oxs g => ?_⟩
    rw [hK]
    cases xs with
    | nil => exact False.elim g
    | cons x xs =>
      cases xs with
      | cons _ _ => exact False.elim g
      | nil =>
        have ox := oxs x List.mem_cons_self
        unfold biA at g
        simp only at g
        split at g
        · rename_i ys ey
          split at g
          · rename_i is ei
            obtain ⟨a, ea, sq, o1⟩ := lst_at r ox ey
            rw [ints_mapA ei, vT_ints] at sq
            exact ⟨_, _, by rw [List.map_cons, ea]; rfl, sq, GA.val g r trivial⟩
          · exact False.elim g
        · exact False.elim g
  | .all => by
    refine ⟨_, cr_allT hc, fun ι h H xs Q r oxs g => ?_⟩
    rw [hK]
    cases xs with
    | nil => exact False.elim g
    | cons x xs =>
      cases xs with
      | cons _ _ => exact False.elim g
      | nil =>
        have ox := oxs x List.mem_cons_self
        unfold biA at g
        simp only at g
        split at g
        · rename_i ys ey
          split at g
          · rename_i is ei
            obtain ⟨a, ea, sq, o1⟩ := lst_at r ox ey
            obtain ⟨hl, hb⟩ := tl_at r o1 ei
            exact ⟨_, _, _, by rw [List.map_cons, ea]; rfl, sq, hl, hb, GA.val g r trivial⟩
          · exact False.elim g
        · exact False.elim g
  | .any => by
    refine ⟨_, cr_anyT hc, fun ι h H xs Q r oxs g => ?_⟩
    rw [hK]
    cases xs with
    | nil => exact False.elim g
    | cons x xs =>
      cases xs with
      | cons _ _ => exact False.elim g
      | nil =>
        have ox := oxs x List.mem_cons_self
        unfold biA at g
        simp only at g
        split at g
        · rename_i ys ey
          split at g
          · rename_i is ei
            obtain ⟨a, ea, sq, o1⟩ := lst_at r ox ey
            obtain ⟨hl, hb⟩ := tl_at r o1 ei
            exact ⟨_, _, _, by rw [List.map_cons, ea]; rfl, sq, hl, hb, GA.val g r trivial⟩
          · exact False.elim g
        · exact False.elim g
  | .max => by
    refine ⟨_, cr_max hc, fun ι h H xs Q r oxs g => ?_⟩
    rw [hK]
    cases xs with
    | nil => exact False.elim g
    | cons x xs =>
      cases xs with
      | cons _ _ => exact False.elim g
      | nil =>
        have ox := oxs x List.mem_cons_self
        unfold biA at g
        simp only at g
        split at g
        · rename_i ys ey
          split at g
          · rename_i i is ei
            obtain ⟨a, ea, sq, o1⟩ := lst_at r ox ey
            rw [ints_mapA ei, vT_ints] at sq
            refine ⟨_, _, by rw [List.map_cons, ea]; rfl, sq, Nat.succ_pos _, fun m hm hl => ?_⟩
            have q : Q (.int _) H := GA.val g r trivial
            obtain ⟨m1, l1⟩ := fold_max is i
            have e : m = _ := Int.le_antisymm (l1 m hm) (hl _ m1)
            rw [e]
            exact q
          · exact False.elim g
        · exact False.elim g
  | .min => by
    refine ⟨_, cr_min hc, fun ι h H xs Q r oxs g => ?_⟩
    rw [hK]
    cases xs with
    | nil => exact False.elim g
    | cons x xs =>
      cases xs with
      | cons _ _ => exact False.elim g
      | nil =>
        have ox := oxs x List.mem_cons_self
        unfold biA at g
        simp only at g
        split at g
        · rename_i ys ey
          split at g
          · rename_i i is ei
            obtain ⟨a, ea, sq, o1⟩ := lst_at r ox ey
            rw [ints_mapA ei, vT_ints] at sq
            refine ⟨_, _, by rw [List.map_cons, ea]; rfl, sq, Nat.succ_pos _, fun m hm hl => ?_⟩
            have q : Q (.int _) H := GA.val g r trivial
            obtain ⟨m1, l1⟩ := fold_min is i
            have e : m = _ := Int.le_antisymm (hl _ m1) (l1 m hm)
            rw [e]
            exact q
          · exact False.elim g
        · exact False.elim g

end
end EV

/-! EvH: methods, stores, what is walked. -/
namespace EV
open PySem PySem.Spec PyProof.Rows L2
section
variable {G : Gc} {ι : List Addr} {h : AH} {H : Hp} {Q : VK} {X : Cx}

/-! ### methods of lists -/
def mNm : Mt → String
  | .append => "append" | .extend => "extend" | .pop => "pop" | .index => "index" | .count => "count" | .insert => "insert" | .remove => "remove" | .get => "get" | .setdefault => "setdefault" | .update => "update"
/-- a list's method by values; z: called without arguments -/
def MtOk (G : Gc) (X : Cx) (m : Mt) (z : Bool) : Prop :=
  ∃ r : V → List V → Hp → VK → Prop, MtR X ("list." ++ mNm m) r ∧ ∀ (ι : List Addr) (h : AH) (H : Hp) (o : AV) (xs : List AV) (Q : VK), xs.isEmpty = z → HR G ι h H → okA ι o → (∀ x ∈ xs, okA ι x) → GA G (mtA m h o xs) ι H (fun v _ ι' H' => Q (vT G ι' v) H') → r (vT G ι o) (xs.map (vT G ι)) H Q
theorem no_meth {id : String} : MtR X id fun _ _ _ _ => False := fun _ _ _ _ _ _ _ _ _ _ _ _ z => z.elim
theorem rcv_lst {o : AV} (r : HR G ι h H) (oo : okA ι o) (e : (lstA h o).isSome = true) : tyV G.K "list" (vT G ι o) H := by
  cases e1 : lstA h o with
  | none => rw [e1] at e; cases e
  | some ys =>
    obtain ⟨a, ea, sq, _⟩ := lst_at r oo e1
    rw [ea]
    exact .inl ⟨rfl, _, sq⟩
theorem GA.set' {n : Nat} {xs ys : List AV} {v : AV} (g : GA G (.ok v (h.set n (.lst ys))) ι H fun v _ ι' H' => Q (vT G ι' v) H') (r : HR G ι h H) (on : okA ι (.ref n)) (e : h.get n = some (.lst xs)) (ov : okA ι v) (oy : ∀ y ∈ ys, okA ι y) :
    Q (vT G ι v) (upd H (ι.getD n 0) (.lst (ys.map (vT G ι)))) := by
  obtain ⟨h1, o1⟩ := r.lst on e
  obtain ⟨r2, k2⟩ := r.set on e h1 (fun _ z => nomatch z) (fun _ _ z => nomatch z) (o' := .lst ys) (u' := .lst (ys.map (vT G ι))) ⟨rfl, oy⟩
  exact g ι _ (List.prefix_refl _) k2 r2 ov
theorem mem_dropLast {α : Type} {l : List α} {x : α} (m : x ∈ l.dropLast) : x ∈ l := List.dropLast_subset _ m
theorem mem_erase {α : Type} : ∀ {l : List α} {k : Nat} {x : α}, x ∈ l.eraseIdx k → x ∈ l := fun {l k x} m => List.eraseIdx_subset m
theorem findIdx_spec {ds : List PyData} {d : PyData} {j : Nat} (e : (ds.findIdx? fun z => PyData.eqv z d) = some j) :
    ∃ z, ds[j]? = some z ∧ PyData.eqv z d = true ∧ ∀ (m : Nat) (z' : PyData), m < j → ds[m]? = some z' → PyData.eqv z' d = false := by
  rw [List.findIdx?_eq_some_iff_getElem] at e
  obtain ⟨hj, h1, h2⟩ := e
  refine ⟨ds[j], by rw [List.getElem?_eq_getElem hj], h1, fun m z' hm hz => ?_⟩
  obtain ⟨hlt, e⟩ := List.getElem?_eq_some_iff.mp hz
  have := h2 m hm
  rw [← e]
  simpa using this
theorem eraseIdx_mapV {xs : List AV} {k : Nat} : (xs.eraseIdx k).map (vT G ι) = (xs.map (vT G ι)).eraseIdx k := by
  rw [List.eraseIdx_eq_take_drop_succ, List.eraseIdx_eq_take_drop_succ, List.map_append, List.map_take, List.map_drop]
theorem mt_none (m : Mt) (z : Bool) (e : ∀ (h : AH) (o : AV) (xs : List AV), xs.isEmpty = z → (∃ ys, lstA h o = some ys) → mtA m h o xs = .no) (e2 : ∀ (h : AH) (o : AV) (xs : List AV), xs.isEmpty = z → lstA h o = none → mtA m h o xs = .no) : MtOk G X m z :=
  ⟨_, no_meth, fun ι h H o xs Q hz r oo ox g => by
    cases el : lstA h o with
    | none => rw [e2 h o xs hz el] at g; exact False.elim g
    | some ys => rw [e h o xs hz ⟨ys, el⟩] at g; exact False.elim g⟩
/-- the methods of lists that are served; z: without arguments -/
def mServed : Mt → Bool → Bool
  | .append, false => true
  | .extend, false => true
  | .pop, _ => true
  | .index, false => true
  | .count, false => true
  | _, _ => false
theorem mt_ok (hK : X.K = G.K) (hu : X.A.units + 65 < cLine) : ∀ (m : Mt) (z : Bool), mServed m z = true → MtOk G X m z
  | .append, false, _ => by
    refine ⟨_, mt_append, fun ι h H o xs Q hz r oo ox g => ?_⟩
    unfold mtA at g
    cases o with
    | ref n =>
      simp only at g
      split at g
      · rename_i ys ey
        cases xs with
        | nil => exact False.elim g
        | cons x xs =>
          cases xs with
          | cons _ _ => exact False.elim g
          | nil =>
            simp only at g
            split at g
            · rename_i hl
              obtain ⟨h1, o1⟩ := r.lst oo ey
              have ox1 := ox x List.mem_cons_self
              have q := GA.set' g r oo ey trivial (all_append o1 fun y m => by rw [List.mem_singleton.mp m]; exact ox1)
              rw [List.map_append] at q
              exact ⟨_, _, _, rfl, rfl, h1, by rw [List.length_map]; exact hl, q⟩
            · exact False.elim g
      · cases xs with
        | nil => exact False.elim g
        | cons x xs => cases xs <;> exact False.elim g
      · cases xs with
        | nil => exact False.elim g
        | cons x xs => cases xs <;> exact False.elim g
      · exact False.elim g
    | _ => exact False.elim g
  | .extend, false, _ => by
    refine ⟨_, mt_extend, fun ι h H o xs Q hz r oo ox g => ?_⟩
    unfold mtA at g
    cases o with
    | ref n =>
      simp only at g
      split at g
      · rename_i ys ey
        cases xs with
        | nil => exact False.elim g
        | cons x xs =>
          cases xs with
          | cons _ _ => cases x <;> exact False.elim g
          | nil =>
            cases x <;> first | exact False.elim g | skip
            rename_i b
            simp only at g
            split at g
            · rename_i zs ez
              split at g
              · rename_i hl
                obtain ⟨h1, o1⟩ := r.lst oo ey
                have ox1 := ox _ List.mem_cons_self
                obtain ⟨h2, o2⟩ := r.lst ox1 ez
                have q := GA.set' g r oo ey trivial (all_append o1 o2)
                rw [List.map_append] at q
                exact ⟨_, _, _, _, rfl, rfl, h1, h2, by rw [List.length_map, List.length_map]; exact hl, q⟩
              · exact False.elim g
            · exact False.elim g
      · cases xs with
        | nil => exact False.elim g
        | cons x xs => cases xs <;> exact False.elim g
      · cases xs with
        | nil => exact False.elim g
        | cons x xs => cases xs <;> exact False.elim g
      · exact False.elim g
    | _ => exact False.elim g
  | .pop, true, _ => by
    refine ⟨_, mt_pop, fun ι h H o xs Q hz r oo ox g => ?_⟩
    have ex : xs = [] := by simpa using hz
    subst ex
    unfold mtA at g
    cases o with
    | ref n =>
      simp only at g
      split at g
      · rename_i ys ey
        split at g
        · rename_i y hy
          obtain ⟨h1, o1⟩ := r.lst oo ey
          have q := GA.set' g r oo ey (o1 y (List.mem_of_getElem? hy)) fun z m => o1 z (mem_dropLast m)
          rw [List.map_dropLast] at q
          exact ⟨_, _, _, rfl, rfl, h1, by rw [List.length_map, List.getElem?_map, hy]; rfl, q⟩
        · exact False.elim g
      · exact False.elim g
      · exact False.elim g
      · exact False.elim g
    | _ => exact False.elim g
  | .pop, false, _ => by
    refine ⟨_, mt_popAt, fun ι h H o xs Q hz r oo ox g => ?_⟩
    unfold mtA at g
    cases o with
    | ref n =>
      simp only at g
      split at g
      · rename_i ys ey
        cases xs with
        | nil => cases hz
        | cons x xs =>
          cases xs with
          | cons _ _ => cases x <;> exact False.elim g
          | nil =>
            cases x <;> first | exact False.elim g | skip
            rename_i i
            simp only at g
            split at g
            · rename_i hb
              split at g
              · rename_i k hk
                split at g
                · rename_i y hy
                  obtain ⟨h1, o1⟩ := r.lst oo ey
                  obtain ⟨k1, k2, k3, k4⟩ := ixN_seq hk
                  have q := GA.set' g r oo ey (o1 y (List.mem_of_getElem? hy)) fun z m => o1 z (mem_erase m)
                  rw [eraseIdx_mapV] at q
                  exact ⟨_, _, _, k, _, rfl, rfl, h1, hb.1, hb.2, by rw [List.length_map]; exact k1, by rw [List.getElem?_map, hy]; rfl, q⟩
                · exact False.elim g
              · exact False.elim g
            · exact False.elim g
      · cases xs with
        | nil => exact False.elim g
        | cons x xs => cases xs <;> exact False.elim g
      · cases xs with
        | nil => exact False.elim g
        | cons x xs => cases xs <;> exact False.elim g
      · exact False.elim g
    | _ => exact False.elim g
  | .index, false, _ => by
    refine ⟨_, mt_indexD hu, fun ι h H o xs Q hz r oo ox g => ?_⟩
    rw [hK]
    unfold mtA at g
    cases o with
    | ref n =>
      simp only at g
      split at g
      · rename_i ys ey
        cases xs with
        | nil => cases hz
        | cons x xs =>
          cases xs with
          | cons _ _ => exact False.elim g
          | nil =>
            simp only at g
            split at g
            · rename_i ds d e1 e2
              split at g
              · rename_i j ej
                obtain ⟨d1, s1⟩ := dat_of r oo e1
                obtain ⟨d2, s2⟩ := dat_of r (ox x List.mem_cons_self) e2
                obtain ⟨z, z1, z2, z3⟩ := findIdx_spec ej
                exact ⟨_, _, d, ds, j, z, rfl, rfl, d1, d2, s1, s2, z1, z2, z3, GA.val g r trivial⟩
              · exact False.elim g
            · exact False.elim g
      · cases xs with
        | nil => exact False.elim g
        | cons x xs => cases xs <;> exact False.elim g
      · cases xs with
        | nil => exact False.elim g
        | cons x xs => cases xs <;> exact False.elim g
      · exact False.elim g
    | _ => exact False.elim g
  | .count, false, _ => by
    refine ⟨_, mt_lcount, fun ι h H o xs Q hz r oo ox g => ?_⟩
    rw [hK]
    unfold mtA at g
    cases o with
    | ref n =>
      simp only at g
      split at g
      · rename_i ys ey
        cases xs with
        | nil => cases hz
        | cons x xs =>
          cases xs with
          | cons _ _ => cases x <;> exact False.elim g
          | nil =>
            cases x <;> first | exact False.elim g | skip
            simp only at g
            split at g
            · rename_i is ei
              obtain ⟨h1, o1⟩ := r.lst oo ey
              rw [ints_mapA ei, vT_ints] at h1
              exact ⟨_, _, _, rfl, rfl, SqL.of h1, GA.val g r trivial⟩
            · exact False.elim g
      · cases xs with
        | nil => exact False.elim g
        | cons x xs => cases xs <;> exact False.elim g
      · cases xs with
        | nil => exact False.elim g
        | cons x xs => cases xs <;> exact False.elim g
      · exact False.elim g
    | _ => exact False.elim g
theorem slot_of : ∀ (m : Mt) (z : Bool), mServed m z = true → Slot "list" (Str.ofString (mNm m)) ("list." ++ mNm m)
  | .append, false, _ => PySem.F.slot_list_append
  | .extend, false, _ => PySem.F.slot_list_extend
  | .pop, _, _ => PySem.F.slot_list_pop
  | .index, false, _ => PySem.F.slot_list_index
  | .count, false, _ => PySem.F.slot_list_count
theorem type_of : ∀ (m : Mt) (z : Bool), mServed m z = true → typeOf (.builtin ("list." ++ mNm m)) = pure (.type "method_descriptor")
  | .append, false, _ => PySem.F.type_list_append
  | .extend, false, _ => PySem.F.type_list_extend
  | .pop, _, _ => PySem.F.type_list_pop
  | .index, false, _ => PySem.F.type_list_index
  | .count, false, _ => PySem.F.type_list_count

/-! ### stores -/
def rSetD : V → V → V → Hp → (Hp → Prop) → Prop := fun o i v H Q => ∃ a H4, o = .ref a ∧ DPut H a i v H4 ∧ Q H4
theorem set_dict (hu : X.A.units + 1 < cLine) : PSet X rSetD := by
  intro pins s σ H o i v ov iv u Q I ro ri rv h
  obtain ⟨a, H4, rfl, g, q⟩ := h
  cases ro
  exact d_setItem hu I g ri rv fun s' I' => ⟨H4, I', q⟩
theorem PSet.or {t t' : TSet} (a : PSet X t) (b : PSet X t') : PSet X (fun o i v H Q => t o i v H Q ∨ t' o i v H Q) := by
  intro pins s σ H o i v ov iv u Q I ro ri rv h
  rcases h with h | h
  · exact a pins s σ H o i v ov iv u Q I ro ri rv h
  · exact b pins s σ H o i v ov iv u Q I ro ri rv h
theorem set_mem {α : Type} {l : List α} {k : Nat} {v x : α} (m : x ∈ l.set k v) : x ∈ l ∨ x = v := List.mem_or_eq_of_mem_set m
theorem set_at {o i v : AV} {h' : AH} {R : Hp → Prop} (r : HR G ι h H) (oo : okA ι o) (oi : okA ι i) (ov : okA ι v) (e : setA h o i v = some h') (q : ∀ H', HR G ι h' H' → Keep ι H ι H' → R H') :
    rSetL (vT G ι o) (vT G ι i) (vT G ι v) H R ∨ rSetD (vT G ι o) (vT G ι i) (vT G ι v) H R := by
  unfold setA at e
  cases o with
  | ref n =>
    simp only at e
    split at e
    · rename_i xs ex
      split at e
      · rename_i j
        split at e
        · rename_i k hk
          cases e
          obtain ⟨h1, o1⟩ := r.lst oo ex
          obtain ⟨r2, k2⟩ := r.set oo ex h1 (fun _ z => nomatch z) (fun _ _ z => nomatch z) (o' := .lst (xs.set k v)) (u' := .lst ((xs.map (vT G ι)).set k (vT G ι v)))
            ⟨by rw [List.map_set], fun x m => (set_mem m).elim (o1 x) fun e => by rw [e]; exact ov⟩
          exact .inl ⟨_, _, _, k, rfl, rfl, h1, by rw [List.length_map]; exact hk, q _ r2 k2⟩
        · cases e
      · cases e
    · rename_i kvs ek
      split at e
      · rename_i key ekey
        split at e
        · rename_i hl
          cases e
          obtain ⟨h1, o1⟩ := r.dk oo ek
          obtain ⟨r2, k2⟩ := r.set oo ek h1 (fun _ z => nomatch z) (fun _ _ z => nomatch z) (o' := .dk (putA kvs key v)) (u' := .dK (putK (kvs.map fun p => (p.1, vT G ι p.2)) key (vT G ι v)))
            ⟨by rw [putA_map], putA_ok o1 ov⟩
          refine .inr ⟨_, _, rfl, ?_, q _ r2 k2⟩
          rw [kV_of ekey]
          exact DPut.k h1 (by rw [List.length_map]; exact hl)
        · cases e
      · cases e
    · rename_i kvs ek
      split at e
      · rename_i key ekey
        split at e
        · rename_i hl
          cases e
          obtain ⟨h1, o1⟩ := r.dt oo ek
          obtain ⟨b, eb, hb⟩ := tkey_of r oi ekey
          obtain ⟨r2, k2⟩ := r.set oo ek h1 (fun _ z => nomatch z) (fun _ _ z => nomatch z) (o' := .dt (putA kvs key v)) (u' := .dT (putK (kvs.map fun p => (p.1, vT G ι p.2)) key (vT G ι v)))
            ⟨by rw [putA_map], putA_ok o1 ov⟩
          refine .inr ⟨_, _, rfl, ?_, q _ r2 k2⟩
          rw [eb]
          exact DPut.t h1 hb (by rw [List.length_map]; exact hl)
        · cases e
      · cases e
    · cases e
  | _ => cases e
end
end EV

/-! EvI: the forms of the text, and what is walked. -/
namespace EV
open PySem PySem.Spec PyProof.Rows L2

/-! ### forms -/
def plainE : Expr → Bool
  | .Starred _ _ => false
  | .Set _ _ _ => false
  | .Slice _ _ _ _ => false
  | _ => true
def tstE : Expr → Bool
  | .UnaryOp .Not _ _ => false
  | .BoolOp _ _ _ => false
  | .IfExp _ _ _ _ => false
  | .Compare _ _ _ _ => false
  | _ => true
def noComp : Expr → Bool
  | .ListComp _ _ _ _ => false
  | .SetComp _ _ _ _ => false
  | .DictComp _ _ _ _ _ => false
  | _ => true
def baseE : Expr → Bool
  | .Call (.Name _ _) [] [] _ => false
  | _ => true
theorem plain_star {e : Expr} {es : List Expr} {env : Env} (h : plainE e = true) : starEach (e :: es) env = (false, eval e env) :: starEach es env := by
  cases e <;> first | rfl | cases h
theorem plain_ix {e : Expr} (h : plainE e = true) : PlainIx e := by
  intro o i
  cases e <;> first | rfl | cases h
theorem plain_nosl {e : Expr} (h : plainE e = true) : NoSl e := by
  intro o i
  cases e <;> first | rfl | cases h
theorem plain_fold {e : Expr} {env : Env} (h : plainE e = true) : ∀ x, foldedSetIterable e env x = pure x := by
  intro x
  cases e <;> first | rfl | cases h
theorem plain_mark {e : Expr} {op : CmpOp} (h : plainE e = true) : behindInMarks op e = false := by
  cases e <;> first | rfl | cases h
theorem tst_is {e : Expr} {env : Env} (h : tstE e = true) : ∀ whole, isTrue e env whole = (do let v ← whole; standAt e.pos; holding [v] (truthy v)) := by
  intro whole
  cases e with
  | UnaryOp op x pos => cases op <;> first | rfl | cases h
  | _ => first | rfl | cases h
theorem noComp_sw {e : Expr} {t : Option Expr} {l : Nat} {env : Env} (h : noComp e = true) : swapsWith e t l env = pure false := by
  cases e <;> first | rfl | cases h
theorem base_of {e : Expr} {a : Str} {env : Env} {w : Sem Value} (h : baseE e = true) : attributeBase e a env w = w := by
  cases e with
  | Call f as ks pos =>
    cases f with
    | Name id p =>
      cases as with
      | nil =>
        cases ks with
        | nil => cases h
        | cons _ _ => rfl
      | cons _ _ => rfl
    | _ => rfl
  | _ => rfl
def plains : List Expr → Bool
  | [] => true
  | e :: es => plainE e && plains es
theorem plains_any : ∀ {es : List Expr} {env : Env} {pos : Pos}, plains es = true → (backTo pos (starEach es env)).any (·.1) = false
  | [], _, _, _ => rfl
  | e :: es, env, pos, h => by
    have h' : plainE e = true ∧ plains es = true := by simpa [plains] using h
    rw [plain_star h'.1]
    show (false || (backTo pos (starEach es env)).any (·.1)) = false
    rw [plains_any h'.2]
    rfl
theorem plains_all : ∀ {es : List Expr} {env : Env} {pos : Pos}, plains es = true → (backTo pos (starEach es env)).all (fun x => !x.1) = true
  | [], _, _, _ => rfl
  | e :: es, env, pos, h => by
    have h' : plainE e = true ∧ plains es = true := by simpa [plains] using h
    rw [plain_star h'.1]
    show (true && (backTo pos (starEach es env)).all (fun x => !x.1)) = true
    rw [plains_all h'.2]
    rfl
theorem boolop_pw {X : Cx} {op : BoolOp} {vs : List Expr} {pos : Pos} {t : TT} (h : PT X (.BoolOp op vs pos) t) : PW X (.BoolOp op vs pos) t := ⟨fun _ => h.run⟩

/-! ### readings joined -/
section
variable {X : Cx} {e : Expr}
theorem PE.or {t u : TE} (a : PE X e t) (b : PE X e u) : PE X e (fun σ H Q => t σ H Q ∨ u σ H Q) := ⟨fun pins s σ H Q I h => h.elim (a.run pins s σ H Q I) (b.run pins s σ H Q I)⟩
theorem PI.or {tg : Expr} {t u : TI} (a : PI X tg e t) (b : PI X tg e u) : PI X tg e (fun σ H Q => t σ H Q ∨ u σ H Q) := ⟨fun pins s σ H Q I h => h.elim (a.run pins s σ H Q I) (b.run pins s σ H Q I)⟩
theorem PE.never : PE X e (fun _ _ _ => False) := ⟨fun _ _ _ _ _ _ h => h.elim⟩
theorem PT.never : PT X e (fun _ _ _ => False) := ⟨fun _ _ _ _ _ _ h => h.elim⟩
theorem PI.never {tg : Expr} : PI X tg e (fun _ _ _ => False) := ⟨fun _ _ _ _ _ _ h => h.elim⟩
end

/-! ### what is walked -/
section
variable {G : Gc} {ι : List Addr} {h : AH} {H : Hp}
def TvR (G : Gc) (ι : List Addr) (t : Tv) (H : Hp) (x : V) (H' : Hp) : Prop := match t with
  | .one v => H' = H ∧ x = vT G ι v
  | .two a b => ∃ T, x = .ref T ∧ H T = none ∧ H' = upd H T (.tup [vT G ι a, vT G ι b])
def okTv (ι : List Addr) : Tv → Prop
  | .one v => okA ι v
  | .two a b => okA ι a ∧ okA ι b
structure ItOk (G : Gc) (ι : List Addr) (it : Itv) (J : It) : Prop where
  ex : ∃ (Gp : Hp → Prop) (Y : Nat → Hp → V → Hp → Prop), Walk J it.turns.length Gp Y ∧ (∀ ι' h' H', ι <+: ι' → HR G ι' h' H' → it.ck h' = true → Gp H') ∧ ∀ (i : Nat) H x H' t, Y i H x H' → it.turns[i]? = some t → TvR G ι t H x H'
  ok : ∀ t ∈ it.turns, okTv ι t
theorem getD_ext {n : Nat} {ι ι' : List Addr} (on : okA ι (.ref n)) (e : ι <+: ι') : ι'.getD n 0 = ι.getD n 0 := by
  have o' : n < ι.length := on
  obtain ⟨t, rfl⟩ := e
  rw [List.getD_eq_getElem?_getD, List.getD_eq_getElem?_getD, List.getElem?_append_left o']
theorem isL_at {n : Nat} {ys : List AV} {ι' : List Addr} {h' : AH} {H' : Hp} (on : okA ι (.ref n)) (oy : ∀ y ∈ ys, okA ι y) (e : ι <+: ι') (r : HR G ι' h' H') (c : isL n ys h' = true) : SqL G.K H' (ι.getD n 0) (ys.map (vT G ι)) := by
  unfold isL at c
  split at c
  · rename_i zs ez
    have ez' : zs = ys := of_decide_eq_true c
    subst ez'
    obtain ⟨h1, _⟩ := r.lst (on.ext e) ez
    rw [getD_ext on e, map_ext oy e] at h1
    exact SqL.of h1
  · cases c
theorem isT_at {n : Nat} {ys : List AV} {ι' : List Addr} {h' : AH} {H' : Hp} (on : okA ι (.ref n)) (oy : ∀ y ∈ ys, okA ι y) (e : ι <+: ι') (r : HR G ι' h' H') (c : isT n ys h' = true) : SqT G.K H' (ι.getD n 0) (ys.map (vT G ι)) := by
  unfold isT at c
  split at c
  · rename_i zs ez
    have ez' : zs = ys := of_decide_eq_true c
    subst ez'
    obtain ⟨h1, _⟩ := r.tup (on.ext e) ez
    rw [getD_ext on e, map_ext oy e] at h1
    exact SqT.of h1
  · cases c
theorem one_getA {ys : List AV} {i : Nat} {t : Tv} (e : (ys.map Tv.one)[i]? = some t) : ∃ y, ys[i]? = some y ∧ t = .one y := by
  rw [List.getElem?_map] at e
  cases ey : ys[i]? with
  | none => rw [ey] at e; cases e
  | some y => rw [ey] at e; cases e; exact ⟨y, rfl, rfl⟩
theorem enum_get : ∀ {ys : List AV} {k i : Nat} {t : Tv}, (enumFrom k ys)[i]? = some t → ∃ y, ys[i]? = some y ∧ t = .two (.int ((k + i : Nat) : Int)) y
  | [], _, _, _, e => by simp [enumFrom] at e
  | y :: ys, k, 0, t, e => by
    simp [enumFrom] at e
    exact ⟨y, rfl, by rw [← e]; simp⟩
  | y :: ys, k, i + 1, t, e => by
    have e' : (enumFrom (k + 1) ys)[i]? = some t := by simpa [enumFrom] using e
    obtain ⟨z, h1, h2⟩ := enum_get e'
    exact ⟨z, by simpa using h1, by rw [h2, Nat.add_right_comm]; rfl⟩
theorem enum_len : ∀ (ys : List AV) (k : Nat), (enumFrom k ys).length = ys.length
  | [], _ => rfl
  | y :: ys, k => by
    show (enumFrom (k + 1) ys).length + 1 = ys.length + 1
    rw [enum_len ys]
theorem enum_ok : ∀ {ys : List AV} {k : Nat}, (∀ y ∈ ys, okA ι y) → ∀ t ∈ enumFrom k ys, okTv ι t
  | [], _, _, t, m => by cases m
  | y :: ys, k, o, t, m => by
    rcases List.mem_cons.mp m with e | m
    · rw [e]
      exact ⟨trivial, o y List.mem_cons_self⟩
    · exact enum_ok (fun z m => o z (List.mem_cons_of_mem _ m)) t m
theorem zip_get : ∀ {ys zs : List AV} {i : Nat} {t : Tv}, (zipTv ys zs)[i]? = some t → ∃ y z, ys[i]? = some y ∧ zs[i]? = some z ∧ t = .two y z
  | [], _, _, _, e => by simp [zipTv] at e
  | _ :: _, [], _, _, e => by simp [zipTv] at e
  | y :: ys, z :: zs, 0, t, e => by
    simp [zipTv] at e
    exact ⟨y, z, rfl, rfl, e.symm⟩
  | y :: ys, z :: zs, i + 1, t, e => by
    obtain ⟨a, b, h1, h2, h3⟩ := zip_get (i := i) (t := t) (by simpa [zipTv] using e)
    exact ⟨a, b, by simpa using h1, by simpa using h2, h3⟩
theorem zip_lenA : ∀ (ys zs : List AV), (zipTv ys zs).length = min ys.length zs.length
  | [], zs => by simp [zipTv]
  | _ :: _, [] => by simp [zipTv]
  | y :: ys, z :: zs => by
    show (zipTv ys zs).length + 1 = min (ys.length + 1) (zs.length + 1)
    rw [zip_lenA ys zs]
    omega
theorem zip_ok : ∀ {ys zs : List AV}, (∀ y ∈ ys, okA ι y) → (∀ y ∈ zs, okA ι y) → ∀ t ∈ zipTv ys zs, okTv ι t
  | [], _, _, _, t, m => by cases m
  | _ :: _, [], _, _, t, m => by cases m
  | y :: ys, z :: zs, o, p, t, m => by
    rcases List.mem_cons.mp m with e | m
    · rw [e]
      exact ⟨o y List.mem_cons_self, p z List.mem_cons_self⟩
    · exact zip_ok (fun z m => o z (List.mem_cons_of_mem _ m)) (fun z m => p z (List.mem_cons_of_mem _ m)) t m
theorem range_get : ∀ {n : Nat} {lo : Int} {i : Nat} {t : Tv}, (rangeTv lo n)[i]? = some t → t = .one (.int (lo + i))
  | 0, _, _, _, e => by simp [rangeTv] at e
  | n + 1, lo, 0, t, e => by
    simp [rangeTv] at e
    rw [← e]
    simp
  | n + 1, lo, i + 1, t, e => by
    have := range_get (n := n) (lo := lo + 1) (i := i) (t := t) (by simpa [rangeTv] using e)
    rw [this]
    congr 2
    push_cast
    omega
theorem range_len : ∀ (n : Nat) (lo : Int), (rangeTv lo n).length = n
  | 0, _ => rfl
  | n + 1, lo => by
    show (rangeTv (lo + 1) n).length + 1 = n + 1
    rw [range_len n]
theorem range_ok {n : Nat} {lo : Int} : ∀ t ∈ rangeTv lo n, okTv ι t := fun t m => by
  obtain ⟨i, hi, e⟩ := List.mem_iff_getElem.mp m
  have := range_get (n := n) (lo := lo) (i := i) (t := t) (by rw [List.getElem?_eq_getElem hi, e])
  rw [this]
  trivial
theorem it_list {n : Nat} {ys : List AV} (r : HR G ι h H) (on : okA ι (.ref n)) (ey : h.get n = some (.lst ys)) : ItOk G ι ⟨ys.map .one, isL n ys⟩ (Itl G.K (ι.getD n 0)) := by
  obtain ⟨h1, o1⟩ := r.lst on ey
  refine ⟨⟨_, _, (by rw [List.length_map, ← List.length_map (f := vT G ι)]; exact walk_list (xs := ys.map (vT G ι))), fun ι' h' H' e r' c => isL_at on o1 e r' c, fun i H x H' t y et => ?_⟩, fun t m => ?_⟩
  · obtain ⟨z, hz, rfl⟩ := one_getA et
    obtain ⟨y1, y2⟩ := y
    rw [List.getElem?_map, hz] at y2
    exact ⟨y1, (Option.some.inj y2).symm⟩
  · obtain ⟨y, hy, rfl⟩ := List.mem_map.mp m
    exact o1 y hy
theorem it_tup {n : Nat} {ys : List AV} (r : HR G ι h H) (on : okA ι (.ref n)) (ey : h.get n = some (.tup ys)) : ItOk G ι ⟨ys.map .one, isT n ys⟩ (Itt G.K (ι.getD n 0)) := by
  obtain ⟨h1, o1⟩ := r.tup on ey
  refine ⟨⟨_, _, (by rw [List.length_map, ← List.length_map (f := vT G ι)]; exact walk_tup (xs := ys.map (vT G ι))), fun ι' h' H' e r' c => isT_at on o1 e r' c, fun i H x H' t y et => ?_⟩, fun t m => ?_⟩
  · obtain ⟨z, hz, rfl⟩ := one_getA et
    obtain ⟨y1, y2⟩ := y
    rw [List.getElem?_map, hz] at y2
    exact ⟨y1, (Option.some.inj y2).symm⟩
  · obtain ⟨y, hy, rfl⟩ := List.mem_map.mp m
    exact o1 y hy
theorem walk_zipT {K : PySem.W.Frag} {a b : Addr} {xs ys : List V} {n : Nat} (hn : n = min xs.length ys.length) : Walk (RZ.ItzT K a b) n (fun H => SqT K H a xs ∧ SqT K H b ys) (YPair (fun i => xs[i]?) (fun i => ys[i]?)) := by
  subst hn
  refine ⟨fun i _ hi q => ?_, fun _ q => ⟨xs, ys, q.1, q.2, by omega⟩, fun i H v H' _ q y => ?_⟩
  · have h1 : i < xs.length := by omega
    have h2 : i < ys.length := by omega
    exact ⟨xs, ys, xs[i], ys[i], q.1, q.2, by simp [h1], by simp [h2]⟩
  · obtain ⟨T, x, z, h1, h2, h3, h4, h5⟩ := y
    exact ⟨T, x, z, h1, h2, h3, h4 xs q.1, h5 ys q.2⟩
theorem it_range {lo : Int} {n : Nat} : ItOk G ι ⟨rangeTv lo n, fun _ => true⟩ (Itr lo n) := by
  refine ⟨⟨_, _, (by show Walk _ (rangeTv lo n).length _ _; rw [range_len]; exact walk_range), fun _ _ _ _ _ _ => trivial, fun i H x H' t y et => ?_⟩, range_ok⟩
  rw [range_get et]
  exact y
theorem step_get : ∀ {n : Nat} {lo c : Int} {i : Nat} {t : Tv}, (stepTv lo c n)[i]? = some t → t = .one (.int (lo + (i : Nat) * c))
  | 0, _, _, _, _, e => by simp [stepTv] at e
  | n + 1, lo, c, 0, t, e => by
    simp [stepTv] at e
    rw [← e]
    simp
  | n + 1, lo, c, i + 1, t, e => by
    have := step_get (n := n) (lo := lo + c) (c := c) (i := i) (t := t) (by simpa [stepTv] using e)
    rw [this]
    congr 2
    push_cast
    rw [Int.add_mul]
    omega
theorem step_len : ∀ (n : Nat) (lo c : Int), (stepTv lo c n).length = n
  | 0, _, _ => rfl
  | n + 1, lo, c => by
    show (stepTv (lo + c) c n).length + 1 = n + 1
    rw [step_len n]
theorem step_ok {n : Nat} {lo c : Int} : ∀ t ∈ stepTv lo c n, okTv ι t := fun t m => by
  obtain ⟨i, hi, e⟩ := List.mem_iff_getElem.mp m
  have := step_get (n := n) (lo := lo) (c := c) (i := i) (t := t) (by rw [List.getElem?_eq_getElem hi, e])
  rw [this]
  trivial
theorem it_rangeC {lo c : Int} {n : Nat} : ItOk G ι ⟨stepTv lo c n, fun _ => true⟩ (Itc lo c n) := by
  refine ⟨⟨_, _, (by show Walk _ (stepTv lo c n).length _ _; rw [step_len]; exact walk_rangeC), fun _ _ _ _ _ _ => trivial, fun i H x H' t y et => ?_⟩, step_ok⟩
  rw [step_get et]
  exact y
theorem it_enum {n : Nat} {ys : List AV} (r : HR G ι h H) (on : okA ι (.ref n)) (ey : h.get n = some (.lst ys)) : ItOk G ι ⟨enumFrom 0 ys, isL n ys⟩ (Ite G.K (ι.getD n 0)) := by
  obtain ⟨h1, o1⟩ := r.lst on ey
  refine ⟨⟨_, _, (by show Walk _ (enumFrom 0 ys).length _ _; rw [enum_len, ← List.length_map (f := vT G ι)]; exact walk_enum (xs := ys.map (vT G ι))), fun ι' h' H' e r' c => isL_at on o1 e r' c, fun i H x H' t y et => ?_⟩, enum_ok o1⟩
  obtain ⟨z, hz, rfl⟩ := enum_get et
  obtain ⟨T, a, b, e1, e2, e3, e4, e5⟩ := y
  dsimp only at e4 e5
  rw [List.getElem?_map, hz] at e5
  cases e4
  cases e5
  rw [Nat.zero_add]
  exact ⟨T, e1, e2, e3⟩
theorem it_zip {n m : Nat} {ys zs : List AV} (r : HR G ι h H) (on : okA ι (.ref n)) (om : okA ι (.ref m)) (ey : h.get n = some (.lst ys)) (ez : h.get m = some (.lst zs)) :
    ItOk G ι ⟨zipTv ys zs, fun h => isL n ys h && isL m zs h⟩ (Itz G.K (ι.getD n 0) (ι.getD m 0)) := by
  obtain ⟨h1, o1⟩ := r.lst on ey
  obtain ⟨h2, o2⟩ := r.lst om ez
  refine ⟨⟨_, _, walk_zip (xs := ys.map (vT G ι)) (ys := zs.map (vT G ι)) (by show (zipTv ys zs).length = _; rw [zip_lenA, List.length_map, List.length_map]), fun ι' h' H' e r' c => ?_, fun i H x H' t y et => ?_⟩, zip_ok o1 o2⟩
  · rw [Bool.and_eq_true] at c
    exact ⟨isL_at on o1 e r' c.1, isL_at om o2 e r' c.2⟩
  · obtain ⟨a, b, ha, hb, rfl⟩ := zip_get et
    obtain ⟨T, a', b', e1, e2, e3, e4, e5⟩ := y
    dsimp only at e4 e5
    rw [List.getElem?_map, ha] at e4
    rw [List.getElem?_map, hb] at e5
    cases e4
    cases e5
    exact ⟨T, e1, e2, e3⟩
theorem it_zipT {n m : Nat} {ys zs : List AV} (r : HR G ι h H) (on : okA ι (.ref n)) (om : okA ι (.ref m)) (ey : h.get n = some (.tup ys)) (ez : h.get m = some (.tup zs)) :
    ItOk G ι ⟨zipTv ys zs, fun h => isT n ys h && isT m zs h⟩ (RZ.ItzT G.K (ι.getD n 0) (ι.getD m 0)) := by
  obtain ⟨h1, o1⟩ := r.tup on ey
  obtain ⟨h2, o2⟩ := r.tup om ez
  refine ⟨⟨_, _, walk_zipT (xs := ys.map (vT G ι)) (ys := zs.map (vT G ι)) (by show (zipTv ys zs).length = _; rw [zip_lenA, List.length_map, List.length_map]), fun ι' h' H' e r' c => ?_, fun i H x H' t y et => ?_⟩, zip_ok o1 o2⟩
  · rw [Bool.and_eq_true] at c
    exact ⟨isT_at on o1 e r' c.1, isT_at om o2 e r' c.2⟩
  · obtain ⟨a, b, ha, hb, rfl⟩ := zip_get et
    obtain ⟨T, a', b', e1, e2, e3, e4, e5⟩ := y
    dsimp only at e4 e5
    rw [List.getElem?_map, ha] at e4
    rw [List.getElem?_map, hb] at e5
    cases e4
    cases e5
    exact ⟨T, e1, e2, e3⟩
/-- the sources by values -/
theorem seq_src {K : PySem.W.Frag} {xs : List AV} {it : Itv} (hK : K = G.K) (r : HR G ι h H) (ox : ∀ x ∈ xs, okA ι x) (e : srcA .seq h xs = some it) :
    ∃ v a, xs.map (vT G ι) = [v] ∧ v = .ref a ∧ (((∃ ys, SqL K H a ys) ∧ ItOk G ι it (Itl K a)) ∨ ((∃ ys, SqT K H a ys) ∧ ItOk G ι it (Itt K a))) := by
  subst hK
  unfold srcA at e
  split at e
  · rename_i n _
    have on := ox _ List.mem_cons_self
    split at e
    · rename_i ys ey
      cases e
      exact ⟨_, _, rfl, rfl, .inl ⟨⟨_, SqL.of (r.lst on ey).1⟩, it_list r on ey⟩⟩
    · rename_i ys ey
      cases e
      exact ⟨_, _, rfl, rfl, .inr ⟨⟨_, SqT.of (r.tup on ey).1⟩, it_tup r on ey⟩⟩
    · cases e
  · contradiction
  · contradiction
  · contradiction
  · contradiction
  · contradiction
  · cases e
end
end EV

/-! EvJ: expressions: each form keeps the evaluator's promise. -/
namespace EV
open PySem PySem.Spec PyProof.Rows L2

/-- a call of a lambda that slot i holds -/
def tApp (G : Gc) (i : Nat) : TE := fun σ H Q => ∃ env h ι n, SR G ι env σ ∧ env[i]? = some (some (.ref n)) ∧ HR G ι h H ∧ GA G (G.app n h) ι H fun v _ ι' H' => Q (vT G ι' v) H'
structure XO (G : Gc) (n : Nat) (N : List Str) (sc : Scope) (X : Cx) : Prop where
  cur : G.mode = 2 → ∃ c P, X.env.code = .ref c ∧ (P, X.env.qual ++ "<lambda>") ∈ G.tb ∧ (∀ t ∈ G.tb, t.1 = P → t.2 = X.env.qual ++ "<lambda>") ∧ LamX.TabB X.base X.mg c P
  clo : G.mode = 1 → ∀ (i : Nat) (a : Str) (p1 p2 : Pos), N[i]? = some a → Vis sc a → (a == ("__debug__" : Str)) = false → (a == ("__classdict__" : Str)) = false → PE X (.Call (.Name a p1) [] [] p2) (tApp G i)
  prog : X.prog = G.P
  w : X.w = G.w
  K : X.K = G.K
  mg : X.mg = G.mg
  base : X.base = G.base
  calm : X.calm = true
  nd : N.Nodup
  N : X.N = N
  sc : X.env.scope = sc
  hr : Room n X.A
  xe : X.xe = fun _ _ => False
theorem XO.hu {G : Gc} {n : Nat} {N : List Str} {sc : Scope} {X : Cx} (x : XO G n N sc X) : X.A.units + 65 < cLine := by
  have h1 := x.hr.un
  omega
def bltN : List String := ["len", "abs", "int", "list", "tuple", "sorted", "sum", "min", "max", "all", "any", "dict", "str", "isinstance", "range", "enumerate", "zip", "bool"]
def BltOk (G : Gc) : Prop := ∀ x ∈ bltN, G.mg (Str.ofString x) = none
def glB (sc : Scope) (x : Str) : Bool := decide (sc.names.lookup x = some .globalImplicit)
def visB (sc : Scope) (x : Str) : Bool := match sc.names.lookup x with
  | some .local => true
  | some .cell => true
  | some .free => true
  | _ => false
def locB (sc : Scope) (x : Str) : Bool := match sc.names.lookup x with
  | some .local => true
  | some .cell => true
  | _ => false
theorem vis_of {sc : Scope} {x : Str} (h : visB sc x = true) : Vis sc x := by
  unfold visB at h
  split at h <;> first | exact .inl (by assumption) | exact .inr (.inl (by assumption)) | exact .inr (.inr (by assumption)) | cases h
theorem loc_of {sc : Scope} {x : Str} (h : locB sc x = true) : Loc sc x := by
  unfold locB at h
  split at h <;> first | exact .inl (by assumption) | exact .inr (by assumption) | cases h

section
variable (G : Gc) (n : Nat) (N : List Str) (sc : Scope)
def SEf (ev : En → AH → Rs AV) (e : Expr) : Prop := ∀ X, XO G n N sc X → ∃ t, PE X e t ∧ ∀ env h ι σ H Q, SR G ι env σ → HR G ι h H → GA G (ev env h) ι H (fun v _ ι' H' => Q (vT G ι' v) H') → t σ H Q
def STf (ev : En → AH → Rs Bool) (e : Expr) : Prop := ∀ X, XO G n N sc X → ∃ t, PT X e t ∧ ∀ env h ι σ H Q, SR G ι env σ → HR G ι h H → GA G (ev env h) ι H (fun v _ _ H' => Q v H') → t σ H Q
def SAf (ev : En → AH → Rs (List AV)) (es : List Expr) : Prop := ∀ X, XO G n N sc X → ∃ t, PA X es t ∧ ∀ env h ι σ H Q, SR G ι env σ → HR G ι h H → GA G (ev env h) ι H (fun v _ ι' H' => Q (v.map (vT G ι')) H') → t σ H Q
def SOf (ev : En → AH → Rs (Option Int)) (e : Option Expr) : Prop := ∀ X, XO G n N sc X → ∃ t, PO X e t ∧ ∀ env h ι σ H Q, SR G ι env σ → HR G ι h H → GA G (ev env h) ι H (fun v _ _ H' => Q v H') → t σ H Q
end
section
variable {G : Gc} {n : Nat} {N : List Str} {sc : Scope} {e a b c : Expr} {ev ev1 ev2 ev3 : En → AH → Rs AV} {pos : Pos}

theorem se_bad : SEf G n N sc (fun _ _ => .no) e := fun X x => ⟨_, PE.never, fun _ _ _ _ _ _ _ _ g => g⟩
theorem se_int {i : Int} {j : Nat} : SEf G n N sc (fun _ h => .ok (.int i) h) (.Constant (.int i) j pos) := fun X x => ⟨_, pe_int, fun _ _ _ _ _ _ s r g => GA.now g r trivial⟩
theorem se_str {i : Str} {j : Nat} : SEf G n N sc (fun _ h => .ok (.str i) h) (.Constant (.str i) j pos) := fun X x => ⟨_, pe_str, fun _ _ _ _ _ _ s r g => GA.now g r trivial⟩
theorem se_bl {i : Bool} {j : Nat} : SEf G n N sc (fun _ h => .ok (.bl i) h) (.Constant (.bool i) j pos) := fun X x => ⟨_, pe_bl, fun _ _ _ _ _ _ s r g => GA.now g r trivial⟩
theorem se_non {j : Nat} : SEf G n N sc (fun _ h => .ok .non h) (.Constant .none j pos) := fun X x => ⟨_, pe_non, fun _ _ _ _ _ _ s r g => GA.now g r trivial⟩
theorem se_var {i : Nat} {x : Str} (hN : N[i]? = some x) (hv : visB sc x = true) (hd : (x == ("__debug__" : Str)) = false) (hc : (x == ("__classdict__" : Str)) = false) :
    SEf G n N sc (fun e h => opt h ((e[i]?).getD none)) (.Name x pos) := fun X o => ⟨_, pe_var (i := i) (by rw [o.N]; exact hN) (by rw [o.sc]; exact vis_of hv) hd hc, fun env h ι σ H Q s r g => by
  dsimp only at g
  cases ev : env[i]? with
  | none => rw [ev] at g; exact False.elim g
  | some v =>
    cases v with
    | none => rw [ev] at g; exact False.elim g
    | some v =>
      rw [ev] at g
      obtain ⟨s1, s2⟩ := s.2 i v ev
      exact ⟨_, s2, GA.now g r s1⟩⟩
theorem se_bin {op : BOp} (ha : SEf G n N sc ev a) (hb : SEf G n N sc ev1 b) : SEf G n N sc (fun e h => (ev e h).bind fun x h1 => (ev1 e h1).bind fun y h2 => binA op h2 x y) (.BinOp a (opM op) b pos) := fun X o => by
  obtain ⟨ta, pa, qa⟩ := ha X o
  obtain ⟨tb, pb, qb⟩ := hb X o
  obtain ⟨r, po, qo⟩ := bin_ok (X := X) o.K op
  refine ⟨_, pe_op po pa pb, fun env h ι σ H Q s hr g => ?_⟩
  refine qa env h ι σ H _ s hr (g.bind.imp fun x h1 ι1 H1 e1 k1 r1 o1 g1 => ?_)
  refine qb env h1 ι1 σ H1 _ (s.ext e1) r1 (g1.bind.imp fun y h2 ι2 H2 e2 k2 r2 o2 g2 => ?_)
  rw [← vT_ext o1 e2]
  exact qo ι2 h2 H2 x y Q r2 (o1.ext e2) o2 g2
theorem se_neg (ha : SEf G n N sc ev a) : SEf G n N sc (fun e h => (ev e h).bind fun x h1 => match x with
    | .int i => .ok (.int (-i)) h1
    | _ => .no) (.UnaryOp .USub a pos) := fun X o => by
  obtain ⟨ta, pa, qa⟩ := ha X o
  refine ⟨_, pe_un un_neg pa, fun env h ι σ H Q s hr g => ?_⟩
  refine qa env h ι σ H _ s hr (g.bind.imp fun x h1 ι1 H1 e1 k1 r1 o1 g1 => ?_)
  cases x <;> first | exact False.elim g1 | skip
  exact ⟨_, rfl, GA.val g1 r1 trivial⟩
theorem tru_ga {α : Type} [Vld α] {h1 : AH} {ι1 : List Addr} {H1 : Hp} {x : AV} {f : Bool → AH → Rs α} {k : α → AH → List Addr → Hp → Prop} (r1 : HR G ι1 h1 H1) (o1 : okA ι1 x) (g : GA G ((tru h1 x).bind f) ι1 H1 k) :
    ∃ t, TruV G.K (vT G ι1 x) H1 t ∧ GA G (f t h1) ι1 H1 k := by
  unfold tru at g
  cases e : truA h1 x with
  | none => rw [e] at g; exact False.elim g
  | some t => rw [e] at g; exact ⟨t, tru_at r1 o1 e, g⟩
theorem se_no (ha : SEf G n N sc ev a) : SEf G n N sc (fun e h => (ev e h).bind fun x h1 => (tru h1 x).bind fun b h2 => .ok (.bl (!b)) h2) (.UnaryOp .Not a pos) := fun X o => by
  obtain ⟨ta, pa, qa⟩ := ha X o
  refine ⟨_, pe_notT pa, fun env h ι σ H Q s hr g => ?_⟩
  refine qa env h ι σ H _ s hr (g.bind.imp fun x h1 ι1 H1 e1 k1 r1 o1 g1 => ?_)
  obtain ⟨t, ht, g2⟩ := tru_ga r1 o1 g1
  rw [o.K]
  exact ⟨t, ht, GA.val g2 r1 trivial⟩
theorem se_an {rest : List Expr} (ha : SEf G n N sc ev a) (hb : SEf G n N sc ev1 (.BoolOp .And (b :: rest) pos)) :
    SEf G n N sc (fun e h => (ev e h).bind fun x h1 => (tru h1 x).bind fun t h2 => if t then ev1 e h2 else .ok x h2) (.BoolOp .And (a :: b :: rest) pos) := fun X o => by
  obtain ⟨ta, pa, qa⟩ := ha X o
  obtain ⟨tb, pb, qb⟩ := hb X o
  refine ⟨_, pe_andT pa pb, fun env h ι σ H Q s hr g => ?_⟩
  refine qa env h ι σ H _ s hr (g.bind.imp fun x h1 ι1 H1 e1 k1 r1 o1 g1 => ?_)
  obtain ⟨t, ht, g2⟩ := tru_ga r1 o1 g1
  rw [o.K]
  refine ⟨t, ht, ?_⟩
  cases t with
  | true => exact qb env h1 ι1 σ H1 Q (s.ext e1) r1 g2
  | false => exact GA.val g2 r1 o1
theorem se_orr {rest : List Expr} (ha : SEf G n N sc ev a) (hb : SEf G n N sc ev1 (.BoolOp .Or (b :: rest) pos)) :
    SEf G n N sc (fun e h => (ev e h).bind fun x h1 => (tru h1 x).bind fun t h2 => if t then .ok x h2 else ev1 e h2) (.BoolOp .Or (a :: b :: rest) pos) := fun X o => by
  obtain ⟨ta, pa, qa⟩ := ha X o
  obtain ⟨tb, pb, qb⟩ := hb X o
  refine ⟨_, pe_orT pa pb, fun env h ι σ H Q s hr g => ?_⟩
  refine qa env h ι σ H _ s hr (g.bind.imp fun x h1 ι1 H1 e1 k1 r1 o1 g1 => ?_)
  obtain ⟨t, ht, g2⟩ := tru_ga r1 o1 g1
  rw [o.K]
  refine ⟨t, ht, ?_⟩
  cases t with
  | true => exact GA.val g2 r1 o1
  | false => exact qb env h1 ι1 σ H1 Q (s.ext e1) r1 g2
theorem se_one {op : BoolOp} (ha : SEf G n N sc ev a) : SEf G n N sc ev (.BoolOp op [a] pos) := fun X o => by
  obtain ⟨ta, pa, qa⟩ := ha X o
  exact ⟨_, pe_one pa, qa⟩
theorem se_ite {tv : En → AH → Rs Bool} (hc : STf G n N sc tv c) (ha : SEf G n N sc ev a) (hb : SEf G n N sc ev1 b) : SEf G n N sc (fun e h => (tv e h).bind fun t h1 => if t then ev e h1 else ev1 e h1) (.IfExp c a b pos) := fun X o => by
  obtain ⟨tc, pc, qc⟩ := hc X o
  obtain ⟨ta, pa, qa⟩ := ha X o
  obtain ⟨tb, pb, qb⟩ := hb X o
  refine ⟨_, pe_ifExp pc pa pb, fun env h ι σ H Q s hr g => ?_⟩
  refine qc env h ι σ H _ s hr (g.bind.imp fun t h1 ι1 H1 e1 k1 r1 o1 g1 => ?_)
  cases t with
  | true => exact qa env h1 ι1 σ H1 Q (s.ext e1) r1 g1
  | false => exact qb env h1 ι1 σ H1 Q (s.ext e1) r1 g1
theorem cmp_ga {op : COp} {h2 : AH} {ι2 : List Addr} {H2 : Hp} {x y : AV} {Q : VK} (r2 : HR G ι2 h2 H2) (g : GA G (match cmpA op h2 x y with
    | some t => .ok (.bl t) h2
    | none => .no) ι2 H2 fun v _ ι' H' => Q (vT G ι' v) H') : ∃ t, cmpA op h2 x y = some t ∧ Q (.bl t) H2 := by
  cases e : cmpA op h2 x y with
  | none => rw [e] at g; exact False.elim g
  | some t => rw [e] at g; exact ⟨t, rfl, GA.val g r2 trivial⟩
theorem se_cmp {op : COp} (ha : SEf G n N sc ev a) (hb : SEf G n N sc ev1 b) (hp : plainE b = true) : SEf G n N sc (fun e h => (ev e h).bind fun x h1 => (ev1 e h1).bind fun y h2 => match cmpA op h2 x y with
    | some t => .ok (.bl t) h2
    | none => .no) (.Compare a [copM op] [b] pos) := fun X o => by
  obtain ⟨ta, pa, qa⟩ := ha X o
  obtain ⟨tb, pb, qb⟩ := hb X o
  obtain ⟨r, po, qo⟩ := cmp_ok o.K o.hu op
  refine ⟨_, pe_cmpR po pa pb (plain_mark hp), fun env h ι σ H Q s hr g => ?_⟩
  refine qa env h ι σ H _ s hr (g.bind.imp fun x h1 ι1 H1 e1 k1 r1 o1 g1 => ?_)
  refine qb env h1 ι1 σ H1 _ (s.ext e1) r1 (g1.bind.imp fun y h2 ι2 H2 e2 k2 r2 o2 g2 => ?_)
  rw [← vT_ext o1 e2]
  obtain ⟨t, e3, q⟩ := cmp_ga r2 g2
  exact qo ι2 h2 H2 x y t Q r2 (o1.ext e2) o2 e3 q
/-- a comparison as a test -/
theorem st_cmp {op : COp} (ha : SEf G n N sc ev a) (hb : SEf G n N sc ev1 b) (hp : plainE b = true) : STf G n N sc (fun e h => ((ev e h).bind fun x h1 => (ev1 e h1).bind fun y h2 => match cmpA op h2 x y with
    | some t => .ok (.bl t) h2
    | none => .no).bind fun x h1 => tru h1 x) (.Compare a [copM op] [b] pos) := fun X o => by
  obtain ⟨ta, pa, qa⟩ := ha X o
  obtain ⟨tb, pb, qb⟩ := hb X o
  obtain ⟨r, po, qo⟩ := cmp_ok o.K o.hu op
  refine ⟨_, pt_cmpR po pa pb (plain_mark hp), fun env h ι σ H Q s hr g => ?_⟩
  have g := g.bind
  refine qa env h ι σ H _ s hr (g.bind.imp fun x h1 ι1 H1 e1 k1 r1 o1 g1 => ?_)
  refine qb env h1 ι1 σ H1 _ (s.ext e1) r1 (g1.bind.imp fun y h2 ι2 H2 e2 k2 r2 o2 g2 => ?_)
  rw [← vT_ext o1 e2]
  cases e : cmpA op h2 x y with
  | none => rw [e] at g2; exact False.elim g2
  | some t =>
    rw [e] at g2
    refine qo ι2 h2 H2 x y t _ r2 (o1.ext e2) o2 e ⟨t, rfl, ?_⟩
    have g3 := GA.now g2 r2 trivial
    exact GA.now g3 r2 trivial
theorem se_cmp2 {op op' : COp} (ha : SEf G n N sc ev a) (hb : SEf G n N sc ev1 b) (hc : SEf G n N sc ev2 c) (hp : plainE b = true) (hp2 : plainE c = true) : SEf G n N sc (fun e h => (ev e h).bind fun x h1 => (ev1 e h1).bind fun y h2 => match cmpA op h2 x y with
    | some true => (ev2 e h2).bind fun z h3 => match cmpA op' h3 y z with
      | some t => .ok (.bl t) h3
      | none => .no
    | some false => .ok (.bl false) h2
    | none => .no) (.Compare a [copM op, copM op'] [b, c] pos) := fun X o => by
  obtain ⟨ta, pa, qa⟩ := ha X o
  obtain ⟨tb, pb, qb⟩ := hb X o
  obtain ⟨tc, pc, qc⟩ := hc X o
  obtain ⟨r, po, qo⟩ := cmp_ok o.K o.hu op
  obtain ⟨r', po', qo'⟩ := cmp_ok o.K o.hu op'
  refine ⟨_, pe_chain po po' pa pb pc (show behindInMarks _ c = false from plain_mark hp2), fun env h ι σ H Q s hr g => ?_⟩
  refine qa env h ι σ H _ s hr (g.bind.imp fun x h1 ι1 H1 e1 k1 r1 o1 g1 => ?_)
  refine qb env h1 ι1 σ H1 _ (s.ext e1) r1 (g1.bind.imp fun y h2 ι2 H2 e2 k2 r2 o2 g2 => ?_)
  rw [← vT_ext o1 e2]
  cases e : cmpA op h2 x y with
  | none => rw [e] at g2; exact False.elim g2
  | some t =>
    rw [e] at g2
    refine qo ι2 h2 H2 x y t _ r2 (o1.ext e2) o2 e ⟨t, rfl, ?_⟩
    cases t with
    | false => exact GA.val g2 r2 trivial
    | true =>
      refine qc env h2 ι2 σ H2 _ ((s.ext e1).ext e2) r2 (g2.bind.imp fun z h3 ι3 H3 e3 k3 r3 o3 g3 => ?_)
      rw [← vT_ext o2 e3]
      obtain ⟨t, e4, q⟩ := cmp_ga r3 g3
      exact qo' ι3 h3 H3 y z t Q r3 (o2.ext e3) o3 e4 q
theorem st_cmp2 {op op' : COp} (ha : SEf G n N sc ev a) (hb : SEf G n N sc ev1 b) (hc : SEf G n N sc ev2 c) (hp : plainE b = true) (hp2 : plainE c = true) : STf G n N sc (fun e h => ((ev e h).bind fun x h1 => (ev1 e h1).bind fun y h2 => match cmpA op h2 x y with
    | some true => (ev2 e h2).bind fun z h3 => match cmpA op' h3 y z with
      | some t => .ok (.bl t) h3
      | none => .no
    | some false => .ok (.bl false) h2
    | none => .no).bind fun x h1 => tru h1 x) (.Compare a [copM op, copM op'] [b, c] pos) := fun X o => by
  obtain ⟨ta, pa, qa⟩ := ha X o
  obtain ⟨tb, pb, qb⟩ := hb X o
  obtain ⟨tc, pc, qc⟩ := hc X o
  obtain ⟨r, po, qo⟩ := cmp_ok o.K o.hu op
  obtain ⟨r', po', qo'⟩ := cmp_ok o.K o.hu op'
  refine ⟨_, pt_chain po po' pa pb pc (show behindInMarks _ c = false from plain_mark hp2), fun env h ι σ H Q s hr g => ?_⟩
  have g := g.bind
  refine qa env h ι σ H _ s hr (g.bind.imp fun x h1 ι1 H1 e1 k1 r1 o1 g1 => ?_)
  refine qb env h1 ι1 σ H1 _ (s.ext e1) r1 (g1.bind.imp fun y h2 ι2 H2 e2 k2 r2 o2 g2 => ?_)
  rw [← vT_ext o1 e2]
  cases e : cmpA op h2 x y with
  | none => rw [e] at g2; exact False.elim g2
  | some t =>
    rw [e] at g2
    refine qo ι2 h2 H2 x y t _ r2 (o1.ext e2) o2 e ⟨t, rfl, ?_⟩
    cases t with
    | false =>
      have g3 := GA.now g2 r2 trivial
      exact ⟨false, rfl, GA.now g3 r2 trivial⟩
    | true =>
      refine qc env h2 ι2 σ H2 _ ((s.ext e1).ext e2) r2 (g2.bind.imp fun z h3 ι3 H3 e3 k3 r3 o3 g3 => ?_)
      rw [← vT_ext o2 e3]
      cases e' : cmpA op' h3 y z with
      | none => rw [e'] at g3; exact False.elim g3
      | some t =>
        rw [e'] at g3
        refine qo' ι3 h3 H3 y z t _ r3 (o2.ext e3) o3 e' ⟨t, rfl, ?_⟩
        have g4 := GA.now g3 r3 trivial
        exact GA.now g4 r3 trivial
def rIxD : R2 := fun x y H Q => ∃ a w, x = .ref a ∧ DGet H a y (some w) ∧ Q w H
theorem ix_dict {X : Cx} (hu : X.A.units + 1 < cLine) : IxR X rIxD := by
  intro value slice pins s σ H x y v u Q I rx ry h hs
  obtain ⟨a, w, rfl, g, q⟩ := h
  cases rx
  exact tail_any (dict_typeIs I g) PySem.F.slot_dict_getitem.lookup (d_getItem hu I g ry fun w' s3 I3 rw' => ⟨w, H, I3, rw', q⟩) hs
theorem se_ix (ha : SEf G n N sc ev a) (hb : SEf G n N sc ev1 b) (hp : plainE b = true) : SEf G n N sc (fun e h => (ev e h).bind fun x h1 => (ev1 e h1).bind fun y h2 => opt h2 (ixA h2 x y)) (.Subscript a b pos) := fun X o => by
  obtain ⟨ta, pa, qa⟩ := ha X o
  obtain ⟨tb, pb, qb⟩ := hb X o
  refine ⟨_, pe_ix (ix_seq.or (ix_dict (by have := o.hu; omega))) pa pb (plain_ix hp), fun env h ι σ H Q s hr g => ?_⟩
  refine qa env h ι σ H _ s hr (g.bind.imp fun x h1 ι1 H1 e1 k1 r1 o1 g1 => ?_)
  refine qb env h1 ι1 σ H1 _ (s.ext e1) r1 (g1.bind.imp fun y h2 ι2 H2 e2 k2 r2 o2 g2 => ?_)
  rw [← vT_ext o1 e2, o.K]
  cases e : ixA h2 x y with
  | none => rw [e] at g2; exact False.elim g2
  | some v =>
    rw [e] at g2
    exact ix_at r2 (o1.ext e2) o2 e fun ov => GA.val g2 r2 ov
theorem se_sl {lo hi : Option Expr} {p2 : Pos} {evl evh : En → AH → Rs (Option Int)} (ha : SEf G n N sc ev a) (hl : SOf G n N sc evl lo) (hh : SOf G n N sc evh hi) :
    SEf G n N sc (fun e h => (ev e h).bind fun x h1 => (evl e h1).bind fun l h2 => (evh e h2).bind fun u h3 => sliceA h3 x l u) (.Subscript a (.Slice lo hi none p2) pos) := fun X o => by
  obtain ⟨ta, pa, qa⟩ := ha X o
  obtain ⟨tl, pl, ql⟩ := hl X o
  obtain ⟨th, ph, qh⟩ := hh X o
  refine ⟨_, pe_slice (sl_list.or sl_tupA) pa pl ph, fun env h ι σ H Q s hr g => ?_⟩
  refine qa env h ι σ H _ s hr (g.bind.imp fun x h1 ι1 H1 e1 k1 r1 o1 g1 => ?_)
  refine ql env h1 ι1 σ H1 _ (s.ext e1) r1 (g1.bind.imp fun l h2 ι2 H2 e2 k2 r2 o2 g2 => ?_)
  refine qh env h2 ι2 σ H2 _ ((s.ext e1).ext e2) r2 (g2.bind.imp fun u h3 ι3 H3 e3 k3 r3 o3 g3 => ?_)
  rw [← vT_ext o1 (e2.trans e3), o.K]
  exact slice_at r3 (o1.ext (e2.trans e3)) g3
theorem so_none : SOf G n N sc (fun _ h => .ok none h) none := fun X o => ⟨_, po_none, fun env h ι σ H Q s hr g => GA.now g hr trivial⟩
theorem so_some (ha : SEf G n N sc ev a) : SOf G n N sc (fun e h => (ev e h).bind fun x h1 => match x with
    | .int i => .ok (some i) h1
    | _ => .no) (some a) := fun X o => by
  obtain ⟨ta, pa, qa⟩ := ha X o
  refine ⟨_, po_some pa, fun env h ι σ H Q s hr g => ?_⟩
  refine qa env h ι σ H _ s hr (g.bind.imp fun x h1 ι1 H1 e1 k1 r1 o1 g1 => ?_)
  cases x <;> first | exact False.elim g1 | skip
  exact ⟨_, rfl, GA.now g1 r1 trivial⟩
theorem se_rev {k : Nat} {p1 p2 p3 : Pos} (ha : SEf G n N sc ev a) : SEf G n N sc (fun e h => (ev e h).bind fun x h1 => match lstA h1 x with
    | some xs => newA h1 (.lst xs.reverse)
    | none => .no) (.Subscript a (.Slice none none (some (.UnaryOp .USub (.Constant (.int 1) k p1) p2)) p3) pos) := fun X o => by
  obtain ⟨ta, pa, qa⟩ := ha X o
  refine ⟨_, pe_revL pa, fun env h ι σ H Q s hr g => ?_⟩
  refine qa env h ι σ H _ s hr (g.bind.imp fun x h1 ι1 H1 e1 k1 r1 o1 g1 => ?_)
  cases e : lstA h1 x with
  | none => rw [e] at g1; exact False.elim g1
  | some xs =>
    rw [e] at g1
    obtain ⟨a, ea, sq, ok⟩ := lst_at r1 o1 e
    rw [o.K]
    exact ⟨a, _, ea, sq, fun p np => GA.new g1 r1 np ⟨by rw [List.map_reverse], fun y m => ok y (List.mem_reverse.mp m)⟩⟩
/-! ### argument lists -/
theorem sa_nil : SAf G n N sc (fun _ h => .ok [] h) [] := fun X o => ⟨_, pa_nil, fun env h ι σ H Q s hr g => GA.now g hr (fun _ m => nomatch m)⟩
theorem sa_cons {es : List Expr} {evs : En → AH → Rs (List AV)} (hp : plainE a = true) (ha : SEf G n N sc ev a) (hs : SAf G n N sc evs es) :
    SAf G n N sc (fun e h => (ev e h).bind fun x h1 => (evs e h1).bind fun xs h2 => .ok (x :: xs) h2) (a :: es) := fun X o => by
  obtain ⟨ta, pa, qa⟩ := ha X o
  obtain ⟨ts, ps, qs⟩ := hs X o
  refine ⟨_, pa_cons pa ps (plain_star hp), fun env h ι σ H Q s hr g => ?_⟩
  refine qa env h ι σ H _ s hr (g.bind.imp fun x h1 ι1 H1 e1 k1 r1 o1 g1 => ?_)
  refine qs env h1 ι1 σ H1 _ (s.ext e1) r1 (g1.bind.imp fun xs h2 ι2 H2 e2 k2 r2 o2 g2 => ?_)
  rw [← vT_ext o1 e2]
  exact GA.now g2 r2 (fun y m => by
    rcases List.mem_cons.mp m with e | m
    · rw [e]
      exact o1.ext e2
    · exact o2 y m)
theorem se_lst {es : List Expr} {evs : En → AH → Rs (List AV)} (hs : SAf G n N sc evs es) : SEf G n N sc (fun e h => (evs e h).bind fun xs h1 => if xs.length ≤ sizeLine then newA h1 (.lst xs) else .no) (.List es pos) := fun X o => by
  obtain ⟨ts, ps, qs⟩ := hs X o
  refine ⟨_, pe_lst ps, fun env h ι σ H Q s hr g => ?_⟩
  refine qs env h ι σ H _ s hr (g.bind.imp fun xs h1 ι1 H1 e1 k1 r1 o1 g1 => ?_)
  split at g1
  · rename_i hl
    exact ⟨by rw [List.length_map]; exact hl, fun p np => GA.new g1 r1 np ⟨rfl, o1⟩⟩
  · exact False.elim g1
theorem se_tup {es : List Expr} {k : Nat} {evs : En → AH → Rs (List AV)} (hs : SAf G n N sc evs es) : SEf G n N sc (fun e h => (evs e h).bind fun xs h1 => if xs.length ≤ sizeLine then newA h1 (.tup xs) else .no) (.Tuple es k pos) := fun X o => by
  obtain ⟨ts, ps, qs⟩ := hs X o
  refine ⟨_, pe_tup ps, fun env h ι σ H Q s hr g => ?_⟩
  refine qs env h ι σ H _ s hr (g.bind.imp fun xs h1 ι1 H1 e1 k1 r1 o1 g1 => ?_)
  split at g1
  · rename_i hl
    exact ⟨by rw [List.length_map]; exact hl, fun p np => GA.new g1 r1 np ⟨rfl, o1⟩⟩
  · exact False.elim g1
theorem seq_at {x : AV} {ys : List AV} {ι : List Addr} {h : AH} {H : Hp} (r : HR G ι h H) (ox : okA ι x) (e : seqA h x = some ys) : ∃ a, vT G ι x = .ref a ∧ (SqT G.K H a (ys.map (vT G ι)) ∨ SqL G.K H a (ys.map (vT G ι))) ∧ ∀ y ∈ ys, okA ι y := by
  unfold seqA at e
  cases x with
  | ref n =>
    simp only at e
    split at e
    · rename_i xs ex
      cases e
      obtain ⟨h1, o1⟩ := r.lst ox ex
      exact ⟨_, rfl, .inr (SqL.of h1), o1⟩
    · rename_i xs ex
      cases e
      obtain ⟨h1, o1⟩ := r.tup ox ex
      exact ⟨_, rfl, .inl (SqT.of h1), o1⟩
    · cases e
  | _ => cases e
theorem sa_star {es : List Expr} {sp : Pos} {evs : En → AH → Rs (List AV)} (ha : SEf G n N sc ev a) (hs : SAf G n N sc evs es) :
    SAf G n N sc (fun e h => (ev e h).bind fun x h1 => match seqA h1 x with
      | some ys => (evs e h1).bind fun xs h2 => .ok (ys ++ xs) h2
      | none => .no) (.Starred a sp :: es) := fun X o => by
  obtain ⟨ta, pa, qa⟩ := ha X o
  obtain ⟨ts, ps, qs⟩ := hs X o
  refine ⟨_, StX.pa_star pa ps rfl, fun env h ι σ H Q s hr g => ?_⟩
  refine qa env h ι σ H _ s hr (g.bind.imp fun x h1 ι1 H1 e1 k1 r1 o1 g1 => ?_)
  cases es' : seqA h1 x with
  | none => rw [es'] at g1; exact False.elim g1
  | some ys =>
    rw [es'] at g1
    obtain ⟨b, eb, sq, oy⟩ := seq_at r1 o1 es'
    rw [o.K]
    refine ⟨b, _, eb, sq, ?_⟩
    refine qs env h1 ι1 σ H1 _ (s.ext e1) r1 (g1.bind.imp fun xs h2 ι2 H2 e2 k2 r2 o2 g2 => ?_)
    rw [← map_ext oy e2, ← List.map_append]
    exact GA.now g2 r2 (fun y m => by
      rcases List.mem_append.mp m with m | m
      · exact (oy y m).ext e2
      · exact o2 y m)
theorem rgA_map {ι : List Addr} (i j : Int) : (rgA i (j - i).toNat).map (vT G ι) = rgV i j := by
  unfold rgA rgV
  rw [List.map_map]
  rfl
theorem rgA_ok {ι : List Addr} {i : Int} {n : Nat} : ∀ y ∈ rgA i n, okA ι y := fun y m => by
  obtain ⟨k, _, rfl⟩ := List.mem_map.mp m
  trivial
theorem inR_of' {i : Int} (h : inR i = true) : -(2 ^ 62) ≤ i ∧ i < 2 ^ 62 := by
  unfold inR at h
  simpa using h
theorem se_lrg1 {p p2 pos2 : Pos} (hB : BltOk G) (hg : glB sc "list" = true) (hg2 : glB sc "range" = true) (hp : plainE a = true) (ha : SEf G n N sc ev a) : SEf G n N sc (fun e h => (ev e h).bind fun x h1 => lrgA h1 [x]) (.Call (.Name "list" p) [.Call (.Name "range" p2) [a] [] pos2] [] pos) := fun X o => by
  obtain ⟨ta, pa, qa⟩ := ha X o
  refine ⟨_, pe_listRg o.calm (show X.env.scope.names.lookup _ = _ by rw [o.sc]; exact of_decide_eq_true hg) (by rw [o.mg]; exact hB "list" (by decide)) (prg_1 (show X.env.scope.names.lookup _ = _ by rw [o.sc]; exact of_decide_eq_true hg2) (by rw [o.mg]; exact hB "range" (by decide)) pa (plain_star hp)) rfl, fun env h ι σ H Q s hr g => ?_⟩
  refine qa env h ι σ H _ s hr (g.bind.imp fun x h1 ι1 H1 e1 k1 r1 o1 g1 => ?_)
  unfold lrgA at g1
  split at g1
  · rename_i j e
    cases e
    split at g1
    · rename_i hb
      simp only [Bool.and_eq_true, decide_eq_true_eq] at hb
      obtain ⟨b1, b2⟩ := inR_of' hb.1
      refine ⟨j, rfl, ⟨by omega, by omega, b1, b2, by omega⟩, fun q np => GA.new g1 r1 np ⟨?_, rgA_ok⟩⟩
      have := rgA_map (G := G) (ι := ι1) 0 j
      rw [Int.sub_zero] at this
      rw [this]
    · exact False.elim g1
  · rename_i e
    cases e
  · exact False.elim g1
theorem se_lrg2 {p p2 pos2 : Pos} (hB : BltOk G) (hg : glB sc "list" = true) (hg2 : glB sc "range" = true) (hp : plainE a = true) (hp2 : plainE b = true) (ha : SEf G n N sc ev a) (hb : SEf G n N sc ev1 b) : SEf G n N sc (fun e h => (ev e h).bind fun x h1 => (ev1 e h1).bind fun y h2 => lrgA h2 [x, y]) (.Call (.Name "list" p) [.Call (.Name "range" p2) [a, b] [] pos2] [] pos) := fun X o => by
  obtain ⟨ta, pa, qa⟩ := ha X o
  obtain ⟨tb, pb, qb⟩ := hb X o
  refine ⟨_, pe_listRg o.calm (show X.env.scope.names.lookup _ = _ by rw [o.sc]; exact of_decide_eq_true hg) (by rw [o.mg]; exact hB "list" (by decide)) (prg_2 (show X.env.scope.names.lookup _ = _ by rw [o.sc]; exact of_decide_eq_true hg2) (by rw [o.mg]; exact hB "range" (by decide)) pa pb (plain_star hp) (plain_star hp2) (by rw [plain_star hp2]; rfl)) rfl, fun env h ι σ H Q s hr g => ?_⟩
  refine qa env h ι σ H _ s hr (g.bind.imp fun x h1 ι1 H1 e1 k1 r1 o1 g1 => ?_)
  refine qb env h1 ι1 σ H1 _ (s.ext e1) r1 (g1.bind.imp fun y h2 ι2 H2 e2 k2 r2 o2 g2 => ?_)
  unfold lrgA at g2
  split at g2
  · rename_i e
    cases e
  · rename_i i j e
    cases e
    split at g2
    · rename_i hb
      simp only [Bool.and_eq_true, decide_eq_true_eq] at hb
      obtain ⟨b1, b2⟩ := inR_of' hb.1.1
      obtain ⟨b3, b4⟩ := inR_of' hb.1.2
      exact ⟨i, j, rfl, rfl, ⟨b1, b2, b3, b4, by omega⟩, fun q np => GA.new g2 r2 np ⟨by rw [rgA_map], rgA_ok⟩⟩
    · exact False.elim g2
  · exact False.elim g2
theorem se_dnew {t : Bool} : SEf G n N sc (fun _ h => newA h (if t then .dt [] else .dk [])) (.Dict [] [] pos) := fun X o => by
  cases t with
  | false => exact ⟨_, pe_dnewK, fun env h ι σ H Q s hr g => fun p np => GA.new g hr np ⟨rfl, fun _ m => nomatch m⟩⟩
  | true => exact ⟨_, pe_dnewT, fun env h ι σ H Q s hr g => fun p np => GA.new g hr np ⟨rfl, fun _ m => nomatch m⟩⟩
/-! ### calls -/
/-- the promise of a def by what the evaluator says of its calls -/
def spC (G : Gc) (Ck : List AV → AH → Rs AV) (np : Nat) : Sp := fun vs H Q _ => vs.length = np ∧ ∃ ι h args, HR G.core ι h H ∧ (∀ x ∈ args, okA ι x) ∧ vs = args.map (vT G ι) ∧ GA G.core (Ck args h) ι H fun v _ ι' H' => Q (vT G ι' v) H'
structure CallOk (G : Gc) (n : Nat) (Ck : List AV → AH → Rs AV) (x : Str) : Prop where
  ex : ∃ f fd ps, G.mg x = some (.ref f) ∧ PySem.W.keepIn G.K (.ref f) = true ∧ Binds G.K fd ps [] ∧ FnOk G.P G.w G.K G.mg G.base CX0 n f fd ps (spC G Ck ps.length) ∧ ∀ args h, args.length ≠ ps.length → Ck args h = .no
/-- a call with keywords: us by place, then the keywords' values as pm says -/
structure KwOk (G : Gc) (n : Nat) (Ck : List AV → AH → Rs AV) (x : Str) (np : Nat) (ks : List Str) (pm : List Nat) : Prop where
  ex : ∃ f fd ps, G.mg x = some (.ref f) ∧ PySem.W.keepIn G.K (.ref f) = true ∧ FnOk G.P G.w G.K G.mg G.base CX0 n f fd ps (spC G Ck ps.length) ∧ (∀ args h, args.length ≠ ps.length → Ck args h = .no) ∧
    ∀ (s : Shared) (us ws : List Value), us.length = np → ws.length = ks.length → BindsTo s fd ⟨us, ks.zip ws⟩ (ps.zip (us ++ pm.filterMap fun j => ws[j]?))
theorem GA.args {Ck : List AV → AH → Rs AV} {xs : List AV} {h : AH} {ι : List Addr} {H : Hp} {Q : VK} {m : Nat} {E : XK} (r : HR G ι h H) (o : ∀ x ∈ xs, okA ι x) (l : ∀ args h, args.length ≠ m → Ck args h = .no) (g : GA G (Ck xs h) ι H fun v _ ι' H' => Q (vT G ι' v) H') : spC G Ck m (xs.map (vT G ι)) H Q E := by
  refine ⟨?_, ι, h, xs, r.core, o, rfl, GA.core r g⟩
  rw [List.length_map]
  by_cases e : xs.length = m
  · exact e
  · rw [l xs h e] at g
    exact False.elim g
theorem se_call {Ck : List AV → AH → Rs AV} {x : Str} {p : Pos} {es : List Expr} {evs : En → AH → Rs (List AV)} (hC : CallOk G n Ck x) (hg : glB sc x = true) (hd : (x == ("__debug__" : Str)) = false) (hp : plains (a :: es) = true) (hs : SAf G n N sc evs (a :: es)) :
    SEf G n N sc (fun e h => (evs e h).bind fun xs h1 => Ck xs h1) (.Call (.Name x p) (a :: es) [] pos) := fun X o => by
  obtain ⟨f, fd, ps, hm, hk, hb, F, hl⟩ := hC.ex
  obtain ⟨ts, ps', qs⟩ := hs X o
  have hp' : plainE a = true ∧ plains es = true := by simpa [plains] using hp
  have F' : FnOk X.prog X.w X.K X.mg X.base CX0 n f fd ps (spC G Ck ps.length) := by
    rw [o.prog, o.w, o.K, o.mg, o.base]
    exact F
  refine ⟨_, pe_call F' o.hr (show X.env.scope.names.lookup x = _ by rw [o.sc]; exact of_decide_eq_true hg) (by rw [o.mg]; exact hm) (by rw [o.K]; exact hk) (by rw [o.K]; exact hb) .nil pass0 ps' hd (plain_star hp'.1) (plains_any hp'.2), fun env h ι σ H Q s hr g => ?_⟩
  refine qs env h ι σ H _ s hr (g.bind.imp fun xs h1 ι1 H1 e1 k1 r1 o1 g1 => ?_)
  rw [List.append_nil]
  exact GA.args r1 o1 hl g1
theorem se_call0 {Ck : List AV → AH → Rs AV} {x : Str} {p : Pos} (hC : CallOk G n Ck x) (hg : glB sc x = true) (hd : (x == ("__debug__" : Str)) = false) :
    SEf G n N sc (fun e h => (Rs.ok [] h).bind fun xs h1 => Ck xs h1) (.Call (.Name x p) [] [] pos) := fun X o => by
  obtain ⟨f, fd, ps, hm, hk, hb, F, hl⟩ := hC.ex
  have F' : FnOk X.prog X.w X.K X.mg X.base CX0 n f fd ps (spC G Ck ps.length) := by
    rw [o.prog, o.w, o.K, o.mg, o.base]
    exact F
  refine ⟨_, pe_call0 F' o.hr (show X.env.scope.names.lookup x = _ by rw [o.sc]; exact of_decide_eq_true hg) (by rw [o.mg]; exact hm) (by rw [o.K]; exact hk) (by rw [o.K]; exact hb) .nil pass0 hd, fun env h ι σ H Q s hr g => ?_⟩
  exact GA.args (xs := []) (E := E0) hr (fun _ m => nomatch m) hl g

/-! ### keywords -/
def SKf (G : Gc) (n : Nat) (N : List Str) (sc : Scope) (ev : En → AH → Rs (List AV)) (ks : List Keyword) : Prop := ∀ X, XO G n N sc X → ∃ t, PK X ks t ∧ ∀ env h ι σ H (Q : List V → Hp → Prop), SR G ι env σ → HR G ι h H → GA G (ev env h) ι H (fun v _ ι' H' => Q (v.map (vT G ι')) H') → t σ H Q
theorem sk_nil : SKf G n N sc (fun _ h => .ok [] h) [] := fun X o => ⟨_, pk_nil, fun env h ι σ H Q s hr g => GA.now g hr (fun _ m => nomatch m)⟩
theorem sk_cons {nm : Option Str} {kp : Pos} {ks : List Keyword} {evs : En → AH → Rs (List AV)} (ha : SEf G n N sc ev a) (hs : SKf G n N sc evs ks) :
    SKf G n N sc (fun e h => (ev e h).bind fun x h1 => (evs e h1).bind fun xs h2 => .ok (x :: xs) h2) (⟨nm, a, kp⟩ :: ks) := fun X o => by
  obtain ⟨ta, pa, qa⟩ := ha X o
  obtain ⟨ts, ps, qs⟩ := hs X o
  refine ⟨_, pk_cons pa ps, fun env h ι σ H Q s hr g => ?_⟩
  refine qa env h ι σ H _ s hr (g.bind.imp fun x h1 ι1 H1 e1 k1 r1 o1 g1 => ?_)
  refine qs env h1 ι1 σ H1 _ (s.ext e1) r1 (g1.bind.imp fun xs h2 ι2 H2 e2 k2 r2 o2 g2 => ?_)
  rw [← vT_ext o1 e2]
  exact GA.now g2 r2 (fun y m => by
    rcases List.mem_cons.mp m with e | m
    · rw [e]
      exact o1.ext e2
    · exact o2 y m)
theorem filterMap_mapV {ι : List Addr} {zs : List AV} (pm : List Nat) : (pm.filterMap fun j => zs[j]?).map (vT G ι) = pm.filterMap fun j => (zs.map (vT G ι))[j]? := by
  induction pm with
  | nil => rfl
  | cons j pm ih =>
    rw [List.filterMap_cons, List.filterMap_cons, List.getElem?_map]
    cases zs[j]? with
    | none => exact ih
    | some z =>
      show vT G ι z :: _ = vT G ι z :: _
      rw [ih]
theorem fm_ok {ι : List Addr} {zs : List AV} (o : ∀ x ∈ zs, okA ι x) (pm : List Nat) : ∀ x ∈ (pm.filterMap fun j => zs[j]?), okA ι x := fun x m => by
  obtain ⟨j, _, e⟩ := List.mem_filterMap.mp m
  exact o x (List.mem_of_getElem? e)
theorem vals_fm {zs : List V} {ws : List Value} (r : Vals zs ws) : ∀ pm : List Nat, Vals (pm.filterMap fun j => zs[j]?) (pm.filterMap fun j => ws[j]?)
  | [] => .nil
  | j :: pm => by
    rw [List.filterMap_cons, List.filterMap_cons]
    cases e : zs[j]? with
    | none =>
      rw [r.none_of e]
      exact vals_fm r pm
    | some z =>
      obtain ⟨u, hu, ru⟩ := r.get e
      rw [hu]
      exact .cons ru (vals_fm r pm)
def kwNames : List Keyword → List Str
  | [] => []
  | ⟨some x, _, _⟩ :: ks => x :: kwNames ks
  | ⟨none, _, _⟩ :: ks => kwNames ks
def kwAll : List Keyword → Bool
  | [] => true
  | ⟨some _, _, _⟩ :: ks => kwAll ks
  | ⟨none, _, _⟩ :: _ => false
theorem kw_all : ∀ {ks : List Keyword} {env : Env} {pos : Pos}, kwAll ks = true → (backToKw pos (keywordEach ks env)).all (·.1.isSome) = true
  | [], _, _, _ => rfl
  | ⟨some x, e, p⟩ :: ks, env, pos, h => by
    show (true && (backToKw pos (keywordEach ks env)).all (·.1.isSome)) = true
    rw [kw_all (ks := ks) h]
    rfl
  | ⟨none, _, _⟩ :: _, _, _, h => nomatch h
theorem kw_any : ∀ {ks : List Keyword} {env : Env} {pos : Pos}, kwAll ks = true → (backToKw pos (keywordEach ks env)).any (·.1.isNone) = false
  | [], _, _, _ => rfl
  | ⟨some x, e, p⟩ :: ks, env, pos, h => by
    show (false || (backToKw pos (keywordEach ks env)).any (·.1.isNone)) = false
    rw [kw_any (ks := ks) h]
    rfl
  | ⟨none, _, _⟩ :: _, _, _, h => nomatch h
theorem kw_nms : ∀ {ks : List Keyword} {env : Env} {pos : Pos}, kwAll ks = true → (backToKw pos (keywordEach ks env)).filterMap (·.1) = kwNames ks
  | [], _, _, _ => rfl
  | ⟨some x, e, p⟩ :: ks, env, pos, h => by
    show x :: (backToKw pos (keywordEach ks env)).filterMap (·.1) = x :: kwNames ks
    rw [kw_nms (ks := ks) h]
  | ⟨none, _, _⟩ :: _, _, _, h => nomatch h
theorem kw_len : ∀ {ks : List Keyword}, kwAll ks = true → (kwNames ks).length = ks.length
  | [], _ => rfl
  | ⟨some x, e, p⟩ :: ks, h => by
    show (kwNames ks).length + 1 = ks.length + 1
    rw [kw_len (ks := ks) h]
  | ⟨none, _, _⟩ :: _, h => nomatch h
def tCallP (sp : Sp) (np nk : Nat) (pm : List Nat) (E : XK) (t tk : TA) : TE := fun σ H Q => t σ H fun vs H1 => tk σ H1 fun zs H2 => vs.length = np ∧ zs.length = nk ∧ sp (vs ++ pm.filterMap fun j => zs[j]?) H2 Q E
section
variable {X : Cx} {f : Addr} {fd : FuncData} {ps ks' : List Str} {sp : Sp} {np k : Nat} {pm : List Nat} {x : Str} {p : Pos} {es : List Expr} {kws : List Keyword} {t tk : TA}
theorem run_kw {pins : List (Addr × Obj)} {σ : L2.St} {H : Hp} {s : Shared} {Q : VK} {us ws : List Value} {vs zs : List V} (F : FnOk X.prog X.w X.K X.mg X.base CX0 k f fd ps sp) (hr : Room k X.A)
    (hb : ∀ (s : Shared) (us ws : List Value), us.length = np → ws.length = ks'.length → BindsTo s fd ⟨us, ks'.zip ws⟩ (ps.zip (us ++ pm.filterMap fun j => ws[j]?)))
    (I : Inv X pins σ H s) (r : Vals vs us) (rz : Vals zs ws) (l1 : vs.length = np) (l2 : zs.length = ks'.length) (h : sp (vs ++ pm.filterMap fun j => zs[j]?) H Q E0) : wpAny (model X.prog X.w) X.A (call (.ref f) us (ks'.zip ws)) (EP X pins σ Q) X.xe s := by
  have r2 := r.append (vals_fm rz pm)
  refine wpAny_call (codeAny_mono (F.run X.A X.stack s H ⟨us, ks'.zip ws⟩ _ _ Q E0 hr I.env0 (hb s us ws (by rw [← r.length]; exact l1) (by rw [← rz.length]; exact l2)) r2 h) fun r s' hq => ?_)
  cases r with
  | error e => exact hq.elim
  | ok fl =>
    cases fl with
    | ret u => exact I.after hq
    | next => exact False.elim hq
    | brk => exact False.elim hq
    | cont => exact False.elim hq
theorem pe_kw (F : FnOk X.prog X.w X.K X.mg X.base CX0 k f fd ps sp) (hr : Room k X.A) (hg : Gl X x) (hm : X.mg x = some (.ref f)) (hk : PySem.W.keepIn X.K (.ref f) = true)
    (hb : ∀ (s : Shared) (us ws : List Value), us.length = np → ws.length = (kwNames kws).length → BindsTo s fd ⟨us, (kwNames kws).zip ws⟩ (ps.zip (us ++ pm.filterMap fun j => ws[j]?)))
    (hp : plains (a :: es) = true) (hw : kwAll kws = true) (ha : PA X (a :: es) t) (hkw : PK X kws tk) (hdb : (x == ("__debug__" : Str)) = false) : PE X (.Call (.Name x p) (a :: es) kws pos) (tCallP sp np (kwNames kws).length pm E0 t tk) := by
  have hp' : plainE a = true ∧ plains es = true := by simpa [plains] using hp
  refine ⟨fun pins s σ H Q I h => ?_⟩
  refine wpAny_Call_Name_kw (ld_glob I hg hm ?_ hdb)
  refine PySem.W.callWith_KW (h₀ := X.base) I.ok.mod.kin hk (kw_all hw) (thn (ha.run pos pins s σ H _ I h) fun us s1 ⟨vs, H1, I1, r, q⟩ => ?_) (by rw [plains_any hp, kw_any hw]; rfl) (plain_star hp'.1)
  refine thn (hkw.run pos pins s1 σ H1 _ I1 q) fun ws s2 ⟨zs, H2, I2, rz, l1, l2, q2⟩ => ⟨I2.kIn, ?_⟩
  rw [kw_nms hw]
  exact run_kw F hr hb I2 r rz l1 l2 q2
theorem pe_kw0 (F : FnOk X.prog X.w X.K X.mg X.base CX0 k f fd ps sp) (hr : Room k X.A) (hg : Gl X x) (hm : X.mg x = some (.ref f)) (hk : PySem.W.keepIn X.K (.ref f) = true)
    (hb : ∀ (s : Shared) (us ws : List Value), us.length = 0 → ws.length = (kwNames kws).length → BindsTo s fd ⟨us, (kwNames kws).zip ws⟩ (ps.zip (us ++ pm.filterMap fun j => ws[j]?)))
    (hw : kwAll kws = true) (hkw : PK X kws tk) (hdb : (x == ("__debug__" : Str)) = false) : PE X (.Call (.Name x p) [] kws pos) (tCallP sp 0 (kwNames kws).length pm E0 tNil tk) := by
  refine ⟨fun pins s σ H Q I h => ?_⟩
  refine wpAny_Call_Name_kw (ld_glob I hg hm ?_ hdb)
  refine PySem.W.callWith_KW0 (h₀ := X.base) I.ok.mod.kin hk (kw_all hw) ?_ (by show ((backTo pos (starEach [] X.env)).any (·.1) || _) = false; rw [kw_any hw]; rfl)
  refine thn (hkw.run pos pins s σ H _ I h) fun ws s2 ⟨zs, H2, I2, rz, l1, l2, q2⟩ => ⟨I2.kIn, ?_⟩
  rw [kw_nms hw]
  exact run_kw (us := []) (vs := []) F hr hb I2 .nil rz l1 l2 q2
end
theorem se_callk {Ck : List AV → AH → Rs AV} {x : Str} {p : Pos} {es : List Expr} {kws : List Keyword} {evs evk : En → AH → Rs (List AV)} {ne nk : Nat} {pm : List Nat} (hC : KwOk G n Ck x (a :: es).length (kwNames kws) pm) (hg : glB sc x = true) (hd : (x == ("__debug__" : Str)) = false)
    (hp : plains (a :: es) = true) (hw : kwAll kws = true) (h1 : ne = (a :: es).length) (h2 : nk = kws.length) (hs : SAf G n N sc evs (a :: es)) (hk' : SKf G n N sc evk kws) :
    SEf G n N sc (fun e h => (evs e h).bind fun xs h1 => (evk e h1).bind fun zs h2 => if xs.length = ne ∧ zs.length = nk then Ck (xs ++ pm.filterMap fun j => zs[j]?) h2 else .no) (.Call (.Name x p) (a :: es) kws pos) := fun X o => by
  subst h1 h2
  obtain ⟨f, fd, ps, hm, hk, F, hl, hb⟩ := hC.ex
  obtain ⟨ts, ps', qs⟩ := hs X o
  obtain ⟨tk, pk', qk⟩ := hk' X o
  have F' : FnOk X.prog X.w X.K X.mg X.base CX0 n f fd ps (spC G Ck ps.length) := by
    rw [o.prog, o.w, o.K, o.mg, o.base]
    exact F
  have gl : Gl X x := show X.env.scope.names.lookup x = _ by rw [o.sc]; exact of_decide_eq_true hg
  refine ⟨_, pe_kw F' o.hr gl (by rw [o.mg]; exact hm) (by rw [o.K]; exact hk) hb hp hw ps' pk' hd, fun env h ι σ H Q s hr g => ?_⟩
  refine qs env h ι σ H _ s hr (g.bind.imp fun xs h1 ι1 H1 e1 k1 r1 o1 g1 => ?_)
  refine qk env h1 ι1 σ H1 _ (s.ext e1) r1 (g1.bind.imp fun zs h2 ι2 H2 e2 k2 r2 o2 g2 => ?_)
  split at g2
  · rename_i hlz
    refine ⟨by rw [List.length_map]; exact hlz.1, by rw [List.length_map, kw_len hw]; exact hlz.2, ?_⟩
    rw [← map_ext o1 e2, ← filterMap_mapV, ← List.map_append]
    exact GA.args r2 (all_append (fun y m => (o1 y m).ext e2) (fm_ok o2 pm)) hl g2
  · exact False.elim g2
theorem se_callk0 {Ck : List AV → AH → Rs AV} {x : Str} {p : Pos} {kws : List Keyword} {evk : En → AH → Rs (List AV)} {nk : Nat} {pm : List Nat} (hC : KwOk G n Ck x 0 (kwNames kws) pm) (hg : glB sc x = true) (hd : (x == ("__debug__" : Str)) = false)
    (hw : kwAll kws = true) (h2 : nk = kws.length) (hk' : SKf G n N sc evk kws) :
    SEf G n N sc (fun e h => (Rs.ok [] h).bind fun xs h1 => (evk e h1).bind fun zs h2 => if xs.length = 0 ∧ zs.length = nk then Ck (xs ++ pm.filterMap fun j => zs[j]?) h2 else .no) (.Call (.Name x p) [] kws pos) := fun X o => by
  subst h2
  obtain ⟨f, fd, ps, hm, hk, F, hl, hb⟩ := hC.ex
  obtain ⟨tk, pk', qk⟩ := hk' X o
  have F' : FnOk X.prog X.w X.K X.mg X.base CX0 n f fd ps (spC G Ck ps.length) := by
    rw [o.prog, o.w, o.K, o.mg, o.base]
    exact F
  have gl : Gl X x := show X.env.scope.names.lookup x = _ by rw [o.sc]; exact of_decide_eq_true hg
  refine ⟨_, pe_kw0 F' o.hr gl (by rw [o.mg]; exact hm) (by rw [o.K]; exact hk) hb hw pk' hd, fun env h ι σ H Q s hr g => ?_⟩
  have g : GA G ((evk env h).bind fun zs h2 => if ([] : List AV).length = 0 ∧ zs.length = kws.length then Ck ([] ++ pm.filterMap fun j => zs[j]?) h2 else .no) ι H fun v _ ι' H' => Q (vT G ι' v) H' := g
  refine qk env h ι σ H _ s hr (g.bind.imp fun zs h2 ι2 H2 e2 k2 r2 o2 g2 => ?_)
  split at g2
  · rename_i hlz
    refine ⟨rfl, by rw [List.length_map, kw_len hw]; exact hlz.2, ?_⟩
    rw [List.nil_append, ← filterMap_mapV]
    exact GA.args r2 (fm_ok o2 pm) hl g2
  · exact False.elim g2
/-! ### built-ins, isinstance, methods -/
theorem se_bi {b : Bi} {x : Str} {p : Pos} {es : List Expr} {evs : En → AH → Rs (List AV)} (hB : BltOk G) (hx : x = Str.ofString (bNm b)) (hg : glB sc x = true) (hp : plains (a :: es) = true) (hs : SAf G n N sc evs (a :: es)) :
    SEf G n N sc (fun e h => (evs e h).bind fun xs h1 => biA b h1 xs) (.Call (.Name x p) (a :: es) [] pos) := fun X o => by
  subst hx
  obtain ⟨ts, ps', qs⟩ := hs X o
  have hp' : plainE a = true ∧ plains es = true := by simpa [plains] using hp
  obtain ⟨r, pr, qr⟩ := bi_ok (X := X) o.K o.calm b
  have gl : Gl X (Str.ofString (bNm b)) := show X.env.scope.names.lookup _ = _ by rw [o.sc]; exact of_decide_eq_true hg
  have mgn : X.mg (Str.ofString (bNm b)) = none := by
    rw [o.mg]
    exact hB _ (by cases b <;> decide)
  have hn : Str.ofString (bNm b) ≠ "__name__" := by cases b <;> decide
  have hd : (Str.ofString (bNm b) == ("__debug__" : Str)) = false := by cases b <;> decide
  have main : ∀ t, PE X (.Call (.Name (Str.ofString (bNm b)) p) (a :: es) [] pos) t → t = tCB r ts → ∃ t, PE X (.Call (.Name (Str.ofString (bNm b)) p) (a :: es) [] pos) t ∧ ∀ env h ι σ H Q, SR G ι env σ → HR G ι h H → GA G ((evs env h).bind fun xs h1 => biA b h1 xs) ι H (fun v _ ι' H' => Q (vT G ι' v) H') → t σ H Q := fun t pt et => by
    subst et
    refine ⟨_, pt, fun env h ι σ H Q s hr g => ?_⟩
    refine qs env h ι σ H _ s hr (g.bind.imp fun xs h1 ι1 H1 e1 k1 r1 o1 g1 => ?_)
    exact qr ι1 h1 H1 xs Q r1 o1 g1
  cases hv : bVal b with
  | builtin id =>
    rw [hv] at pr
    exact main _ (pe_callB pr gl mgn (by rw [bBoot, hv]) ps' hn hd (plain_star hp'.1) (plains_any hp'.2)) rfl
  | type T =>
    rw [hv] at pr
    exact main _ (pe_callTy pr gl mgn (by rw [bBoot, hv]) ps' hn hd (plain_star hp'.1) (plains_any hp'.2)) rfl
  | _ => cases b <;> cases hv
end
end EV

/-! EvK: isinstance, methods, tests, targets, comprehensions. -/
namespace EV
open PySem PySem.Spec PyProof.Rows L2
section
variable {G : Gc} {n : Nat} {N : List Str} {sc : Scope} {e a b c : Expr} {ev ev1 ev2 ev3 : En → AH → Rs AV} {pos : Pos}

/-- written names of built-in types -/
def tyNames (sc : Scope) : List String → List Expr → Bool
  | [], [] => true
  | u :: us, .Name x _ :: es => decide (x = Str.ofString u) && decide (u ∈ tysK) && glB sc x && tyNames sc us es
  | _, _ => false
theorem tysK_name {u : String} (h : u ∈ tysK) : Str.ofString u ≠ "__name__" ∧ (Str.ofString u == ("__debug__" : Str)) = false ∧ u ∈ bltN := by
  simp only [tysK, List.mem_cons, List.not_mem_nil, or_false] at h
  rcases h with rfl | rfl | rfl | rfl | rfl | rfl <;> decide
theorem pe_tyn {X : Cx} {u : String} {p : Pos} (o : XO G n N sc X) (hB : BltOk G) (hu : u ∈ tysK) (hg : glB sc (Str.ofString u) = true) : PE X (.Name (Str.ofString u) p) (tC (.ty u)) := by
  obtain ⟨h1, h2, h3⟩ := tysK_name hu
  exact pe_bltn (show X.env.scope.names.lookup _ = _ by rw [o.sc]; exact of_decide_eq_true hg) (by rw [o.mg]; exact hB _ h3) (boot_all u hu) rfl h1 h2
def tTys (us : List String) : TA := fun _ H Q => Q (us.map V.ty) H
theorem pa_tys {X : Cx} (o : XO G n N sc X) (hB : BltOk G) : ∀ {us : List String} {es : List Expr}, tyNames sc us es = true → PA X es (tTys us)
  | [], [], _ => pa_nil
  | u :: us, e :: es, h => by
    cases e with
    | Name x p =>
      simp only [tyNames, Bool.and_eq_true, decide_eq_true_eq] at h
      obtain ⟨⟨⟨rfl, hu⟩, hg⟩, hr⟩ := h
      exact pa_cons (pe_tyn o hB hu hg) (pa_tys o hB hr)
    | _ => cases h
  | [], _ :: _, h => by cases h
  | _ :: _, [], h => by cases h
theorem ty_all : ∀ {us : List String} {es : List Expr}, tyNames sc us es = true → ∀ u ∈ us, u ∈ tysK
  | [], _, _, _, m => by cases m
  | u :: us, e :: es, h, v, m => by
    cases e with
    | Name x p =>
      simp only [tyNames, Bool.and_eq_true, decide_eq_true_eq] at h
      rcases List.mem_cons.mp m with e | m
      · rw [e]
        exact h.1.1.2
      · exact ty_all h.2 v m
    | _ => cases h
  | _ :: _, [], h, _, _ => by cases h
theorem clsV_all : ∀ us : List String, Paired ClsV (us.map V.ty) (us.map Value.type)
  | [] => .nil
  | u :: us => .cons (.ty u) (clsV_all us)
theorem boot_isi : bootBuiltins "isinstance" = some (.builtin "isinstance") := by decide +kernel
theorem se_isi1 {u : String} {p p2 : Pos} (hB : BltOk G) (hu : u ∈ tysK) (hg : glB sc "isinstance" = true) (hg2 : glB sc (Str.ofString u) = true) (hp : plainE a = true) (ha : SEf G n N sc ev a) :
    SEf G n N sc (fun e h => (ev e h).bind fun x h1 => match typN h1 x with
    | some t => .ok (.bl ([u].any (isiB t))) h1
    | none => .no) (.Call (.Name "isinstance" p) [a, .Name (Str.ofString u) p2] [] pos) := fun X o => by
  obtain ⟨ta, pa, qa⟩ := ha X o
  refine ⟨_, pe_callB call_isi (show X.env.scope.names.lookup _ = _ by rw [o.sc]; exact of_decide_eq_true hg) (by rw [o.mg]; exact hB "isinstance" (by decide)) boot_isi (pa_cons pa (pa_cons (pe_tyn o hB hu hg2) pa_nil) (plain_star hp)) (by decide) (by decide) (plain_star hp) rfl, fun env h ι σ H Q s hr g => ?_⟩
  refine qa env h ι σ H _ s hr (g.bind.imp fun x h1 ι1 H1 e1 k1 r1 o1 g1 => ?_)
  cases et : typN h1 x with
  | none => rw [et] at g1; exact False.elim g1
  | some t =>
    rw [et] at g1
    have q : Q (.bl ([u].any (isiB t))) H1 := GA.val g1 r1 trivial
    rw [List.any_cons, List.any_nil, Bool.or_false] at q
    rw [o.K]
    exact ⟨_, _, _, _, _, rfl, .ty u, ty_of r1 o1 et, kit_ty (kit_all t (typN_mem et) u hu), q⟩
theorem se_isi {ts : List String} {es : List Expr} {k : Nat} {p p2 : Pos} (hB : BltOk G) (hg : glB sc "isinstance" = true) (ht : tyNames sc ts es = true) (hl : ts.length ≤ 10) (hp : plainE a = true) (ha : SEf G n N sc ev a) :
    SEf G n N sc (fun e h => (ev e h).bind fun x h1 => match typN h1 x with
    | some t => .ok (.bl (ts.any (isiB t))) h1
    | none => .no) (.Call (.Name "isinstance" p) [a, .Tuple es k p2] [] pos) := fun X o => by
  obtain ⟨ta, pa, qa⟩ := ha X o
  refine ⟨_, pe_callB call_isiT (show X.env.scope.names.lookup _ = _ by rw [o.sc]; exact of_decide_eq_true hg) (by rw [o.mg]; exact hB "isinstance" (by decide)) boot_isi (pa_cons pa (pa_cons (pe_tup (pa_tys o hB ht)) pa_nil) (plain_star hp)) (by decide) (by decide) (plain_star hp) rfl, fun env h ι σ H Q s hr g => ?_⟩
  refine qa env h ι σ H _ s hr (g.bind.imp fun x h1 ι1 H1 e1 k1 r1 o1 g1 => ?_)
  refine ⟨by rw [List.length_map, sizeLine_eq]; omega, fun q nq => ?_⟩
  cases et : typN h1 x with
  | none => rw [et] at g1; exact False.elim g1
  | some t =>
    rw [et] at g1
    obtain ⟨rb, kb⟩ := r1.beside (u := .tup (ts.map V.ty)) nq
    have q : Q (.bl (ts.any (isiB t))) _ := g1 ι1 _ (List.prefix_refl _) kb rb trivial
    rw [o.K]
    exact ⟨_, _, _, _, _, _, rfl, upd_same, clsV_all ts, ty_of rb o1 et, kit_any (typN_mem et) ts (ty_all ht), q⟩
theorem mNm_few {es : List Expr} {X : Cx} {cpos : Pos} (hp : plains es = true) (hl : es.length < 20) : ((backTo cpos (starEach es X.env)).all (fun x => !x.1) && (backToKw cpos (keywordEach [] X.env)).all (fun x => x.1.isSome)
      && decide (es.length + ([] : List Keyword).length + (if ([] : List Keyword).isEmpty then 0 else 1) < 30)) = true := by
  rw [plains_all hp]
  show (true && true && decide (es.length + 0 + 0 < 30)) = true
  rw [decide_eq_true (by omega)]
  rfl
theorem se_mt {m : Mt} {apos cpos : Pos} {es : List Expr} {evs : En → AH → Rs (List AV)} (hm : mServed m false = true) (hp : plains (b :: es) = true) (hl : (b :: es).length < 20) (hbs : baseE a = true) (hline : (apos.endLine == cpos.line) = true) (ha : SEf G n N sc ev a) (hs : SAf G n N sc evs (b :: es))
    (hne : ∀ env h xs h', evs env h = .ok xs h' → xs.isEmpty = false) :
    SEf G n N sc (fun e h => (ev e h).bind fun x h1 => if rcvA m h1 x then (evs e h1).bind fun xs h2 => mtA m h2 x xs else .no) (.Call (.Attribute a (Str.ofString (mNm m)) apos) (b :: es) [] cpos) := fun X o => by
  obtain ⟨ta, pa, qa⟩ := ha X o
  obtain ⟨ts, ps, qs⟩ := hs X o
  obtain ⟨r, pr, qr⟩ := mt_ok (X := X) o.K o.hu m false hm
  have hp' : plainE b = true ∧ plains es = true := by simpa [plains] using hp
  have hrcv : ∀ h1 x, rcvA m h1 x = (lstA h1 x).isSome := fun h1 x => by cases m <;> first | rfl | cases hm
  refine ⟨_, pe_bm PySem.F.plainAttrs_list (slot_of m false hm) (type_of m false hm) pr pa ps (base_of hbs) (mNm_few hp hl) hline (plain_star hp'.1) (plains_any hp'.2), fun env h ι σ H Q s hr g => ?_⟩
  refine qa env h ι σ H _ s hr (g.bind.imp fun x h1 ι1 H1 e1 k1 r1 o1 g1 => ?_)
  split at g1
  · rename_i hr1
    rw [hrcv] at hr1
    rw [o.K]
    refine ⟨rcv_lst r1 o1 hr1, ?_⟩
    cases ee : evs env h1 with
    | ok xs h2 =>
      rw [ee] at g1
      refine qs env h1 ι1 σ H1 _ (s.ext e1) r1 ?_
      rw [ee]
      intro ι2 H2 e2 k2 r2 o2
      have g2 : GA G (mtA m h2 x xs) ι2 H2 fun v _ ι' H' => Q (vT G ι' v) H' := GA.shift (r := mtA m h2 x xs) g1 e2 k2
      rw [← vT_ext o1 e2]
      exact qr ι2 h2 H2 x xs Q (hne _ _ _ _ ee) r2 (o1.ext e2) o2 g2
    | exc _ _ _ => rw [ee] at g1; exact False.elim g1
    | no => rw [ee] at g1; exact False.elim g1
  · exact False.elim g1
theorem se_mt0 {m : Mt} {apos cpos : Pos} (hm : mServed m true = true) (hbs : baseE a = true) (hline : (apos.endLine == cpos.line) = true) (ha : SEf G n N sc ev a) :
    SEf G n N sc (fun e h => (ev e h).bind fun x h1 => if rcvA m h1 x then (Rs.ok [] h1).bind fun xs h2 => mtA m h2 x xs else .no) (.Call (.Attribute a (Str.ofString (mNm m)) apos) [] [] cpos) := fun X o => by
  obtain ⟨ta, pa, qa⟩ := ha X o
  obtain ⟨r, pr, qr⟩ := mt_ok (X := X) o.K o.hu m true hm
  have hrcv : ∀ h1 x, rcvA m h1 x = (lstA h1 x).isSome := fun h1 x => by cases m <;> first | rfl | cases hm
  refine ⟨_, pe_bm0 PySem.F.plainAttrs_list (slot_of m true hm) (type_of m true hm) pr pa (base_of hbs) hline, fun env h ι σ H Q s hr g => ?_⟩
  refine qa env h ι σ H _ s hr (g.bind.imp fun x h1 ι1 H1 e1 k1 r1 o1 g1 => ?_)
  split at g1
  · rename_i hr1
    rw [hrcv] at hr1
    rw [o.K]
    exact ⟨rcv_lst r1 o1 hr1, qr ι1 h1 H1 x [] Q rfl r1 o1 (fun _ m => nomatch m) g1⟩
  · exact False.elim g1

/-! ### tests -/
theorem st_val (ht : tstE a = true) (ha : SEf G n N sc ev a) : STf G n N sc (fun e h => (ev e h).bind fun x h1 => tru h1 x) a := fun X o => by
  obtain ⟨ta, pa, qa⟩ := ha X o
  refine ⟨_, pt_truth pa (tst_is ht), fun env h ι σ H Q s hr g => ?_⟩
  refine qa env h ι σ H _ s hr (g.bind.imp fun x h1 ι1 H1 e1 k1 r1 o1 g1 => ?_)
  unfold tru at g1
  cases e : truA h1 x with
  | none => rw [e] at g1; exact False.elim g1
  | some t =>
    rw [e] at g1
    rw [o.K]
    exact ⟨t, tru_at r1 o1 e, GA.now g1 r1 trivial⟩
theorem st_no {tv : En → AH → Rs Bool} (ha : STf G n N sc tv a) : STf G n N sc (fun e h => (tv e h).bind fun b h1 => .ok (!b) h1) (.UnaryOp .Not a pos) := fun X o => by
  obtain ⟨ta, pa, qa⟩ := ha X o
  refine ⟨_, pt_not pa, fun env h ι σ H Q s hr g => ?_⟩
  exact qa env h ι σ H _ s hr (g.bind.imp fun x h1 ι1 H1 e1 k1 r1 o1 g1 => GA.now g1 r1 trivial)
theorem st_an1 {tv : En → AH → Rs Bool} (ha : STf G n N sc tv a) : STf G n N sc tv (.BoolOp .And [a] pos) := fun X o => by
  obtain ⟨ta, pa, qa⟩ := ha X o
  exact ⟨_, (pw_and1 pa).pt, qa⟩
theorem st_or1 {tv : En → AH → Rs Bool} (ha : STf G n N sc tv a) : STf G n N sc tv (.BoolOp .Or [a] pos) := fun X o => by
  obtain ⟨ta, pa, qa⟩ := ha X o
  exact ⟨_, (pw_or1 pa).pt, qa⟩
theorem st_an {rest : List Expr} {tv tv1 : En → AH → Rs Bool} (ha : STf G n N sc tv a) (hb : STf G n N sc tv1 (.BoolOp .And (b :: rest) pos)) :
    STf G n N sc (fun e h => (tv e h).bind fun t h1 => if t then tv1 e h1 else .ok false h1) (.BoolOp .And (a :: b :: rest) pos) := fun X o => by
  obtain ⟨ta, pa, qa⟩ := ha X o
  obtain ⟨tb, pb, qb⟩ := hb X o
  refine ⟨_, (pw_and pa (boolop_pw pb)).pt, fun env h ι σ H Q s hr g => ?_⟩
  refine qa env h ι σ H _ s hr (g.bind.imp fun t h1 ι1 H1 e1 k1 r1 o1 g1 => ?_)
  cases t with
  | true => exact qb env h1 ι1 σ H1 Q (s.ext e1) r1 g1
  | false => exact GA.now g1 r1 trivial
theorem st_or {rest : List Expr} {tv tv1 : En → AH → Rs Bool} (ha : STf G n N sc tv a) (hb : STf G n N sc tv1 (.BoolOp .Or (b :: rest) pos)) :
    STf G n N sc (fun e h => (tv e h).bind fun t h1 => if t then .ok true h1 else tv1 e h1) (.BoolOp .Or (a :: b :: rest) pos) := fun X o => by
  obtain ⟨ta, pa, qa⟩ := ha X o
  obtain ⟨tb, pb, qb⟩ := hb X o
  refine ⟨_, (pw_or pa (boolop_pw pb)).pt, fun env h ι σ H Q s hr g => ?_⟩
  refine qa env h ι σ H _ s hr (g.bind.imp fun t h1 ι1 H1 e1 k1 r1 o1 g1 => ?_)
  cases t with
  | true => exact GA.now g1 r1 trivial
  | false => exact qb env h1 ι1 σ H1 Q (s.ext e1) r1 g1
end
end EV

/-! EvL: readings of one form, targets, sources, comprehensions. -/
namespace EV
open PySem PySem.Spec PyProof.Rows L2

/-! ### readings that do not hang on the place -/
def TEv (G : Gc) (ev : En → AH → Rs AV) : TE := fun σ H Q => ∃ env h ι, SR G ι env σ ∧ HR G ι h H ∧ GA G (ev env h) ι H fun v _ ι' H' => Q (vT G ι' v) H'
def TTvA (G : Gc) (ev : En → AH → Rs Bool) : TT := fun σ H Q => ∃ env h ι, SR G ι env σ ∧ HR G ι h H ∧ GA G (ev env h) ι H fun v _ _ H' => Q v H'
section
variable {G : Gc} {n : Nat} {N : List Str} {sc rs : Scope} {e tg iter : Expr}
theorem SEf.pe {ev : En → AH → Rs AV} (s : SEf G n N sc ev e) {X : Cx} (o : XO G n N sc X) : PE X e (TEv G ev) := by
  obtain ⟨t, p, q⟩ := s X o
  exact ⟨fun pins s σ H Q I ⟨env, h, ι, s1, r1, g1⟩ => p.run pins s σ H Q I (q env h ι σ H Q s1 r1 g1)⟩
theorem STf.pt {ev : En → AH → Rs Bool} (s : STf G n N sc ev e) {X : Cx} (o : XO G n N sc X) : PT X e (TTvA G ev) := by
  obtain ⟨t, p, q⟩ := s X o
  exact ⟨fun pins s σ H Q I ⟨env, h, ι, s1, r1, g1⟩ => p.run pins s σ H Q I (q env h ι σ H Q s1 r1 g1)⟩

/-! ### targets -/
def slotsT : Tg → List Nat
  | .nm i => [i]
  | .tp is => is
/-- the names of rs may be stored -/
def FnK (rs : Scope) (X : Cx) : Prop := ∀ x, locB rs x = true → X.fn x = true ∨ X.env.scope.names.lookup x = some .local
def TGv (G : Gc) (t : Tg) : TG := fun v σ H R => ∃ env h ι tv H0 env', SR G ι env σ ∧ HR G ι h H ∧ TvR G ι tv H0 v H ∧ okTv ι tv ∧ bindT t h tv env = some env' ∧
  ∀ σ', SR G ι env' σ' → (∀ vs, (∀ i ∈ slotsT t, i ∈ vs) → L2.wipe σ' vs = L2.wipe σ vs) → R σ' H
def chkNm (N : List Str) (sc rs : Scope) (i : Nat) (x : Str) : Bool := decide (N[i]? = some x) && locB sc x && locB rs x
def chkNms (N : List Str) (sc rs : Scope) : List Nat → List Expr → Bool
  | [], [] => true
  | i :: is, .Name x _ :: es => chkNm N sc rs i x && chkNms N sc rs is es
  | _, _ => false
def chkT (N : List Str) (sc rs : Scope) : Tg → Expr → Bool
  | .nm i, .Name x _ => chkNm N sc rs i x
  | .tp is, .Tuple es _ _ => chkNms N sc rs is es
  | _, _ => false
theorem wipe_set {σ : L2.St} {i : Nat} {v : Option V} : ∀ {vs : List Nat}, i ∈ vs → L2.wipe (σ.set i v) vs = L2.wipe σ vs
  | [], m => by cases m
  | w :: vs, m => by
    unfold L2.wipe
    by_cases hw : i ∈ vs
    · rw [wipe_set hw]
    · have e : i = w := (List.mem_cons.mp m).resolve_right hw
      subst e
      have aux : ∀ vs : List Nat, i ∉ vs → L2.wipe (σ.set i v) vs = (L2.wipe σ vs).set i v := by
        intro vs
        induction vs with
        | nil => intro _; rfl
        | cons u us ih =>
          intro hn
          have h1 : i ≠ u := fun z => hn (by rw [z]; exact List.mem_cons_self)
          have h2 : i ∉ us := fun z => hn (List.mem_cons_of_mem _ z)
          unfold L2.wipe
          rw [ih h2, List.set_comm _ _ h1]
      rw [aux vs hw, List.set_set]
theorem pg_nm {X : Cx} {i : Nat} {x : Str} {p : Pos} (o : XO G n N sc X) (fk : FnK rs X) (h : chkNm N sc rs i x = true) : PG X (.Name x p) (gName i) := by
  unfold chkNm at h
  simp only [Bool.and_eq_true, decide_eq_true_eq] at h
  obtain ⟨⟨h1, h2⟩, h3⟩ := h
  exact pg_name (by rw [o.N]; exact o.nd) (by rw [o.N]; exact h1) (by rw [o.sc]; exact loc_of h2) (fk x h3)
theorem pg_t {X : Cx} {t : Tg} (o : XO G n N sc X) (fk : FnK rs X) (h : chkT N sc rs t e = true) : PG X e (TGv G t) := by
  cases t with
  | nm i =>
    cases e <;> first | cases h | skip
    rename_i x p
    have pg := pg_nm (p := p) o fk h
    refine ⟨fun pins s σ H v u Q I r q => pg.run pins s σ H v u Q I r ?_⟩
    obtain ⟨env, h, ι, tv, H0, env', s1, r1, t1, o1, b1, q⟩ := q
    cases tv with
    | two a b => cases b1
    | one w =>
      cases b1
      obtain ⟨rfl, rfl⟩ := t1
      exact q _ (s1.set o1) fun vs m => wipe_set (m i List.mem_cons_self)
  | tp is =>
    cases e <;> first | cases h | skip
    rename_i es k p
    have names : ∀ (is : List Nat) (es : List Expr), chkNms N sc rs is es = true → ∃ g, PGs X es g ∧ (assignEach es X.env).length = es.length ∧ es.length = is.length ∧ (assignEach es X.env).findIdx? (·.1) = none ∧
        ∀ (ι : List Addr) (env env' : En) (σ : L2.St) (H : Hp) (xs : List AV) (R : L2.St → Hp → Prop), SR G ι env σ → (∀ x ∈ xs, okA ι x) → setMany env is xs = some env' →
          (∀ σ', SR G ι env' σ' → (∀ vs, (∀ i ∈ is, i ∈ vs) → L2.wipe σ' vs = L2.wipe σ vs) → R σ' H) → g (xs.map (vT G ι)) σ H R := by
      intro is
      induction is with
      | nil =>
        intro es h
        cases es with
        | cons _ _ => cases h
        | nil =>
          refine ⟨_, pgs_nil, rfl, rfl, rfl, fun ι env env' σ H xs R s o b q => ?_⟩
          cases xs with
          | cons _ _ => cases b
          | nil =>
            cases b
            exact ⟨rfl, q σ s fun _ _ => rfl⟩
      | cons i is ih =>
        intro es h
        cases es with
        | nil => cases h
        | cons e es =>
          cases e <;> first | cases h | skip
          rename_i x px
          have h' : chkNm N sc rs i x = true ∧ chkNms N sc rs is es = true := by simpa [chkNms] using h
          obtain ⟨g, pg, l1, l2, l3, q⟩ := ih es h'.2
          refine ⟨_, pgs_cons (pg_nm o fk h'.1) pg rfl, ?_, ?_, ?_, fun ι env env' σ H xs R s ok b q' => ?_⟩
          · show (assignEach es X.env).length + 1 = es.length + 1
            rw [l1]
          · show es.length + 1 = is.length + 1
            rw [l2]
          · show (((false, assign (.Name x px) X.env) :: assignEach es X.env).findIdx? (·.1)) = none
            rw [List.findIdx?_cons, l3]
            rfl
          · cases xs with
            | nil => cases b
            | cons y ys =>
              refine ⟨_, _, rfl, ?_⟩
              refine q ι _ env' _ H ys R (s.set (ok y List.mem_cons_self)) (fun z m => ok z (List.mem_cons_of_mem _ m)) b fun σ' s' w' => q' σ' s' fun vs m => ?_
              rw [w' vs fun j hj => m j (List.mem_cons_of_mem _ hj), wipe_set (m i List.mem_cons_self)]
    obtain ⟨g, pgs, l1, l2, l3, q⟩ := names is es h
    have pg := pg_tup (k := k) (pos := p) (n := is.length) o.calm pgs (by rw [l1, l2]) l3
    refine ⟨fun pins s σ H v u Q I r q' => pg.run pins s σ H v u Q I r ?_⟩
    obtain ⟨env, h, ι, tv, H0, env', s1, r1, t1, o1, b1, q'⟩ := q'
    have len : ∀ {is : List Nat} {xs : List AV} {env env' : En}, setMany env is xs = some env' → xs.length = is.length := by
      intro is
      induction is with
      | nil =>
        intro xs env env' b
        cases xs with
        | nil => rfl
        | cons _ _ => cases b
      | cons i is ih =>
        intro xs env env' b
        cases xs with
        | nil => cases b
        | cons x xs =>
          have := ih (xs := xs) b
          show xs.length + 1 = is.length + 1
          rw [this]
    cases tv with
    | one w =>
      unfold bindT at b1
      simp only at b1
      split at b1
      · rename_i xs ex
        obtain ⟨rfl, rfl⟩ := t1
        unfold tupA at ex
        cases w with
        | ref m =>
          simp only at ex
          split at ex
          · rename_i ys ey
            cases ex
            obtain ⟨h1, ok⟩ := r1.tup o1 ey
            exact ⟨_, _, rfl, by rw [o.K]; exact SqT.of h1, by rw [List.length_map]; exact len b1, q ι env env' σ _ xs Q s1 ok b1 q'⟩
          · cases ex
        | _ => cases ex
      · cases b1
    | two a b =>
      obtain ⟨T, rfl, nT, rfl⟩ := t1
      exact ⟨T, [vT G ι a, vT G ι b], rfl, SqT.of upd_same, len b1, q ι env env' σ _ [a, b] Q s1 (fun z m => by
        rcases List.mem_cons.mp m with e | m
        · rw [e]; exact o1.1
        · rw [List.mem_singleton.mp m]; exact o1.2) b1 q'⟩
end
end EV

/-! EvM: sources, comprehensions. -/
namespace EV
open PySem PySem.Spec PyProof.Rows L2
section
variable {G : Gc} {n : Nat} {N : List Str} {sc rs : Scope} {e tg iter : Expr}

/-! ### sources -/
def SIf (G : Gc) (n : Nat) (N : List Str) (sc : Scope) (sk : Sk) (evs : En → AH → Rs (List AV)) (tg iter : Expr) : Prop := ∀ X, XO G n N sc X → ∃ wi, PI X tg iter wi ∧ ∀ env h ι σ H (R : It → Hp → Prop), SR G ι env σ → HR G ι h H →
  GA G (evs env h) ι H (fun xs h1 ι1 H1 => ∃ it, srcA sk h1 xs = some it ∧ ∀ J, ItOk G ι1 it J → R J H1) → wi σ H R
def TIv (G : Gc) (sk : Sk) (evs : En → AH → Rs (List AV)) : TI := fun σ H R => ∃ env h ι, SR G ι env σ ∧ HR G ι h H ∧ GA G (evs env h) ι H fun xs h1 ι1 H1 => ∃ it, srcA sk h1 xs = some it ∧ ∀ J, ItOk G ι1 it J → R J H1
theorem SIf.pi {sk : Sk} {evs : En → AH → Rs (List AV)} (s : SIf G n N sc sk evs tg iter) {X : Cx} (o : XO G n N sc X) : PI X tg iter (TIv G sk evs) := by
  obtain ⟨t, p, q⟩ := s X o
  exact ⟨fun pins s σ H Q I ⟨env, h, ι, s1, r1, g1⟩ => p.run pins s σ H Q I (q env h ι σ H Q s1 r1 g1)⟩
def iSeq (K : PySem.W.Frag) (tl : TE) : TI := fun σ H R => tl σ H fun x H1 => ∃ a, x = .ref a ∧ (((∃ xs, SqL K H1 a xs) ∧ R (Itl K a) H1) ∨ ((∃ xs, SqT K H1 a xs) ∧ R (Itt K a) H1))
theorem pi_seq {X : Cx} {l : Expr} {tl : TE} (hl : PE X l tl) : PI X tg l (iSeq X.K tl) := by
  refine ⟨fun pins s σ H R I h => thn (hl.run pins s σ H _ I h) fun v s1 ⟨x, H1, I1, r1, a, ex, q⟩ => ?_⟩
  subst ex
  cases r1
  have fp : ∀ b ∈ [s1.heap.objs.size], FpOk X pins H1 b := fun b hb => by
    rw [List.mem_singleton.mp hb]
    exact I1.fpOk (Nat.le_refl _) (I1.hok.fresh (Nat.le_refl _))
  rcases q with ⟨⟨xs, hq⟩, q⟩ | ⟨⟨xs, hq⟩, q⟩
  · obtain ⟨its, rv, p, hz⟩ := I1.list hq
    exact wpAny_pyIter_list p.isList ⟨_, [s1.heap.objs.size], _, _, H1, rfl, I1.kept (t' := s1.toks) fun b o e => Heap.get?_push_of_some _ e, turn_list a _, ⟨_, Heap.get?_push_size _ rfl, rfl, rfl⟩, fp, q⟩
  · obtain ⟨its, rv, p, hz⟩ := I1.tuple hq
    exact wpAny_pyIter_tuple p ⟨_, [s1.heap.objs.size], _, _, H1, rfl, I1.kept (t' := s1.toks) fun b o e => Heap.get?_push_of_some _ e, turn_tuple a _, ⟨_, Heap.get?_push_size _ rfl, rfl, rfl⟩, fp, q⟩
theorem si_seq {ev : En → AH → Rs AV} (ha : SEf G n N sc ev iter) : SIf G n N sc .seq (fun e h => (ev e h).bind fun x h1 => (Rs.ok [] h1).bind fun xs h2 => .ok (x :: xs) h2) tg iter := fun X o => by
  obtain ⟨ta, pa, qa⟩ := ha X o
  refine ⟨_, pi_seq pa, fun env h ι σ H R s hr g => ?_⟩
  refine qa env h ι σ H _ s hr (g.bind.imp fun x h1 ι1 H1 e1 k1 r1 o1 g1 => ?_)
  obtain ⟨it, es, q⟩ := GA.now g1 r1 (fun y m => by rw [List.mem_singleton.mp m]; exact o1)
  obtain ⟨v, a, e2, e3, d⟩ := seq_src o.K r1 (fun y m => by rw [List.mem_singleton.mp m]; exact o1) es
  have e2' : vT G ι1 x = v := (List.cons.inj e2).1
  refine ⟨a, e2'.trans e3, ?_⟩
  rcases d with ⟨sq, io⟩ | ⟨sq, io⟩
  · exact .inl ⟨sq, q _ io⟩
  · exact .inr ⟨sq, q _ io⟩
theorem inR_of {i : Int} (h : inR i = true) : -(2 ^ 62) ≤ i ∧ i < 2 ^ 62 := by
  unfold inR at h
  simpa using h
theorem GA.impP {α : Type} [Vld α] {r : Rs α} {P : α → Prop} {ι : List Addr} {H : Hp} {k k' : α → AH → List Addr → Hp → Prop} (hP : ∀ a h, r = .ok a h → P a) (g : GA G r ι H k)
    (f : ∀ a h ι1 H1, ι <+: ι1 → Keep ι H ι1 H1 → HR G ι1 h H1 → Vld.ok ι1 a → P a → k a h ι1 H1 → k' a h ι1 H1) : GA G r ι H k' := by
  cases r with
  | ok a h => exact fun ι' H' e' p' hr v => f a h ι' H' e' p' hr v (hP a h rfl) (g ι' H' e' p' hr v)
  | exc _ _ _ => exact g
  | no => exact g
def HasLen (evs : En → AH → Rs (List AV)) (m : Nat) : Prop := ∀ env h xs h', evs env h = .ok xs h' → xs.length = m
theorem si_range1 {a : Expr} {p pos : Pos} {evs : En → AH → Rs (List AV)} (hB : BltOk G) (hg : glB sc "range" = true) (hp : plainE a = true) (hl : HasLen evs 1) (ha : SAf G n N sc evs [a]) : SIf G n N sc .range evs tg (.Call (.Name "range" p) [a] [] pos) := fun X o => by
  obtain ⟨ta, pa, qa⟩ := ha X o
  refine ⟨_, pi_range1 (show X.env.scope.names.lookup _ = _ by rw [o.sc]; exact of_decide_eq_true hg) (by rw [o.mg]; exact hB "range" (by decide)) pa (plain_star hp), fun env h ι σ H R s hr g => ?_⟩
  refine qa env h ι σ H _ s hr (GA.impP (hl env h) g fun xs h1 ι1 H1 e1 k1 r1 o1 l1 ⟨it, es, q⟩ => ?_)
  unfold srcA at es
  split at es <;> first | contradiction | skip
  · split at es
    · rename_i hb
      cases es
      obtain ⟨b1, b2⟩ := inR_of hb
      exact ⟨_, rfl, b1, b2, q _ it_range⟩
    · cases es
  · cases l1
  · cases l1
theorem si_range2 {a b : Expr} {p pos : Pos} {evs : En → AH → Rs (List AV)} (hB : BltOk G) (hg : glB sc "range" = true) (hp : plainE a = true) (hp2 : plainE b = true) (hl : HasLen evs 2) (ha : SAf G n N sc evs [a, b]) : SIf G n N sc .range evs tg (.Call (.Name "range" p) [a, b] [] pos) := fun X o => by
  obtain ⟨ta, pa, qa⟩ := ha X o
  refine ⟨_, pi_range2 (show X.env.scope.names.lookup _ = _ by rw [o.sc]; exact of_decide_eq_true hg) (by rw [o.mg]; exact hB "range" (by decide)) pa (by rw [plain_star hp, plain_star hp2]; rfl) (plain_star hp2), fun env h ι σ H R s hr g => ?_⟩
  refine qa env h ι σ H _ s hr (GA.impP (hl env h) g fun xs h1 ι1 H1 e1 k1 r1 o1 l1 ⟨it, es, q⟩ => ?_)
  unfold srcA at es
  split at es <;> first | contradiction | skip
  · cases l1
  · split at es
    · rename_i hb
      rw [Bool.and_eq_true] at hb
      cases es
      obtain ⟨b1, b2⟩ := inR_of hb.1
      obtain ⟨b3, b4⟩ := inR_of hb.2
      exact ⟨_, _, rfl, ⟨b1, b2, b3, b4⟩, q _ it_range⟩
    · cases es
  · cases l1
theorem rangeSz_eq {i j c : Int} (hc : 0 < c) : Builtin.Range.rangeSize i j c = (rangeSz i j c : Int) := by
  unfold Builtin.Range.rangeSize rangeSz
  rw [if_pos (by omega)]
  split
  · rename_i h
    have := Int.ediv_nonneg (show 0 ≤ j - i - 1 by omega) (show 0 ≤ c by omega)
    omega
  · rfl
theorem rgC_of {i j c : Int} (h1 : -(2 ^ 62) ≤ i ∧ i < 2 ^ 62) (h2 : -(2 ^ 62) ≤ j ∧ j < 2 ^ 62) (c0 : 0 < c) (c1 : c < 1073741824) : RgC i j c (rangeSz i j c) := by
  have e := rangeSz_eq (i := i) (j := j) c0
  refine ⟨by omega, by omega, ?_, e⟩
  have hl : (rangeSz i j c : Int) ≤ 2 ^ 63 - 1 := by
    unfold rangeSz
    split
    · have := Int.ediv_le_self c (show 0 ≤ j - i - 1 by omega)
      omega
    · omega
  unfold Builtin.Range.small
  rw [e]
  simp only [Builtin.Range.rangeFitsLong, Bool.and_eq_true, Bool.or_eq_true, decide_eq_true_eq, beq_iff_eq, show c > 0 from c0, if_true]
  omega
theorem si_range3 {a b d : Expr} {p pos : Pos} {evs : En → AH → Rs (List AV)} (hB : BltOk G) (hg : glB sc "range" = true) (hp : plainE a = true) (hp2 : plainE b = true) (hp3 : plainE d = true) (hl : HasLen evs 3) (ha : SAf G n N sc evs [a, b, d]) : SIf G n N sc .range evs tg (.Call (.Name "range" p) [a, b, d] [] pos) := fun X o => by
  obtain ⟨ta, pa, qa⟩ := ha X o
  refine ⟨_, pi_range3 (show X.env.scope.names.lookup _ = _ by rw [o.sc]; exact of_decide_eq_true hg) (by rw [o.mg]; exact hB "range" (by decide)) pa (plain_star hp) (by rw [plain_star hp2, plain_star hp3]; rfl), fun env h ι σ H R s hr g => ?_⟩
  refine qa env h ι σ H _ s hr (GA.impP (hl env h) g fun xs h1 ι1 H1 e1 k1 r1 o1 l1 ⟨it, es, q⟩ => ?_)
  unfold srcA at es
  split at es <;> first | contradiction | skip
  · cases l1
  · cases l1
  · split at es
    · rename_i hb
      simp only [Bool.and_eq_true, decide_eq_true_eq] at hb
      cases es
      exact ⟨_, _, _, _, rfl, rgC_of (inR_of hb.1.1) (inR_of hb.1.2) hb.2.1 hb.2.2, q _ it_rangeC⟩
    · cases es
theorem si_enum {a : Expr} {p pos tp : Pos} {elts : List Expr} {kk : Nat} {evs : En → AH → Rs (List AV)} (hB : BltOk G) (hg : glB sc "enumerate" = true) (hp : plainE a = true) (ha : SAf G n N sc evs [a]) : SIf G n N sc .enum evs (.Tuple elts kk tp) (.Call (.Name "enumerate" p) [a] [] pos) := fun X o => by
  obtain ⟨ta, pa, qa⟩ := ha X o
  refine ⟨_, pi_enum (show X.env.scope.names.lookup _ = _ by rw [o.sc]; exact of_decide_eq_true hg) (by rw [o.mg]; exact hB "enumerate" (by decide)) pa (plain_star hp), fun env h ι σ H R s hr g => ?_⟩
  refine qa env h ι σ H _ s hr (g.imp fun xs h1 ι1 H1 e1 k1 r1 o1 ⟨it, es, q⟩ => ?_)
  unfold srcA at es
  split at es <;> first | contradiction | skip
  · split at es
    · rename_i ys ey
      cases es
      have on := o1 _ List.mem_cons_self
      rw [o.K]
      exact ⟨_, _, rfl, SqL.of (r1.lst on ey).1, q _ (it_enum r1 on ey)⟩
    · cases es
theorem si_zip {a b : Expr} {p pos tp : Pos} {elts : List Expr} {kk : Nat} {evs : En → AH → Rs (List AV)} (hB : BltOk G) (hg : glB sc "zip" = true) (hp : plainE a = true) (hp2 : plainE b = true) (ha : SAf G n N sc evs [a, b]) : SIf G n N sc .zip evs (.Tuple elts kk tp) (.Call (.Name "zip" p) [a, b] [] pos) := fun X o => by
  obtain ⟨ta, pa, qa⟩ := ha X o
  refine ⟨_, RZ.pi_zipA (show X.env.scope.names.lookup _ = _ by rw [o.sc]; exact of_decide_eq_true hg) (by rw [o.mg]; exact hB "zip" (by decide)) pa (plain_star hp) (by rw [plain_star hp2]; rfl), fun env h ι σ H R s hr g => ?_⟩
  refine qa env h ι σ H _ s hr (g.imp fun xs h1 ι1 H1 e1 k1 r1 o1 ⟨it, es, q⟩ => ?_)
  unfold srcA at es
  split at es <;> first | contradiction | skip
  · have on := o1 _ List.mem_cons_self
    have om := o1 _ (List.mem_cons_of_mem _ List.mem_cons_self)
    rw [o.K]
    split at es
    · rename_i ys zs ey ez
      cases es
      exact ⟨_, _, _, _, rfl, .inl ⟨SqL.of (r1.lst on ey).1, SqL.of (r1.lst om ez).1, q _ (it_zip r1 on om ey ez)⟩⟩
    · rename_i ys zs ey ez
      cases es
      exact ⟨_, _, _, _, rfl, .inr ⟨SqT.of (r1.tup on ey).1, SqT.of (r1.tup om ez).1, q _ (it_zipT r1 on om ey ez)⟩⟩
    · cases es
end

/-! ### the new list beside -/
section
variable {G : Gc} {ι : List Addr} {h : AH} {H : Hp} {D : Addr}
theorem HR.aside {xs : List V} {u : HO} (r : HR G ι h H) (nD : D ∉ ι) (hD : H D = some (.lst xs)) : HR G ι h (upd H D u) := by
  have ne : ∀ (i : Nat) (b : Addr), ι[i]? = some b → b ≠ D := fun i b e z => nD (by rw [← z]; exact List.mem_of_getElem? e)
  refine ⟨r.len, fun i m b e1 e2 d => ?_, fun i b e => ?_, r.scr.upd (fun o v z => by rw [hD] at z; cases z), r.fix.upd (by rw [hD]; exact soft_lst), r.pre⟩
  · obtain ⟨xs, hx⟩ := r.inj i m b e1 e2 d
    exact ⟨xs, by rw [upd_ne (ne i b e1)]; exact hx⟩
  · obtain ⟨ob, ub, e1, e2, a2⟩ := r.at_ i b e
    exact ⟨ob, ub, e1, by rw [upd_ne (ne i b e)]; exact e2, a2⟩
theorem HR.adopt {o : AO} {u : HO} (r : HR G ι h H) (nD : D ∉ ι) (hD : H D = some u) (a : At G ι o u) : HR G (ι ++ [D]) (h.push o) H := by
  have ex : ι <+: ι ++ [D] := List.prefix_append _ _
  have cases_ : ∀ (i : Nat) (a : Addr), (ι ++ [D])[i]? = some a → (ι[i]? = some a ∧ a ≠ D ∧ i < ι.length) ∨ (i = ι.length ∧ a = D) := fun i a e => by
    by_cases hi : i < ι.length
    · rw [List.getElem?_append_left hi] at e
      refine .inl ⟨e, fun z => nD ?_, hi⟩
      rw [← z]
      exact List.mem_of_getElem? e
    · rw [List.getElem?_append_right (by omega)] at e
      by_cases hz : i - ι.length = 0
      · rw [hz] at e
        exact .inr ⟨by omega, (Option.some.inj e).symm⟩
      · rw [List.getElem?_eq_none (by simp; omega)] at e
        cases e
  refine ⟨?_, fun i m b e1 e2 ne => ?_, fun i b e => ?_, r.scr, r.fix, r.pre.trans ex⟩
  · rw [List.length_append, List.length_singleton, r.len]
    rfl
  · rcases cases_ i b e1 with ⟨f1, f2, f3⟩ | ⟨f1, f2⟩
    · rcases cases_ m b e2 with ⟨g1, g2, g3⟩ | ⟨g1, g2⟩
      · exact r.inj i m b f1 g1 ne
      · exact absurd g2 f2
    · rcases cases_ m b e2 with ⟨g1, g2, g3⟩ | ⟨g1, g2⟩
      · exact absurd f2 g2
      · omega
  · rcases cases_ i b e with ⟨f1, f2, f3⟩ | ⟨f1, f2⟩
    · obtain ⟨ob, ub, e1, e2, a2⟩ := r.at_ i b f1
      refine ⟨ob, ub, ?_, e2, a2.ext ex⟩
      rw [AH.get_push, if_neg (by rw [← r.len]; omega)]
      exact e1
    · subst f2
      refine ⟨o, u, ?_, hD, a.ext ex⟩
      rw [AH.get_push, if_pos (by rw [f1, r.len])]
end
end EV

/-! EvN: comprehensions of one clause. -/
namespace EV
open PySem PySem.Spec PyProof.Rows L2

section
variable {G : Gc} {n : Nat} {N : List Str} {sc scope : Scope} {elt tg iter : Expr}
def blkK (cl : Nat) (N : List Str) (sc scope : Scope) (own : List (Str × Nat)) : Bool := decide (cl ≠ 1) && blkC N sc scope own
theorem blkK_c {cl : Nat} {own : List (Str × Nat)} (h : blkK cl N sc scope own = true) : blkC N sc scope own = true := (Bool.and_eq_true_iff.mp h).2
theorem blkK_n {cl : Nat} {own : List (Str × Nat)} (h : blkK cl N sc scope own = true) : cl ≠ 1 := of_decide_eq_true (Bool.and_eq_true_iff.mp h).1
theorem XO.blk {X : Cx} (o : XO G n N sc X) (hc : G.mode ≠ 1) (s : Shared) (H : Hp) (C : Addr) (cl : List (Str × Addr)) (fp : List Addr) : XO G n N (relS scope sc) (X.blk s H scope (compEnvC scope cl C X.env) fp) where
  prog := o.prog
  w := o.w
  K := o.K
  mg := o.mg
  base := o.base
  calm := o.calm
  nd := o.nd
  N := o.N
  sc := by
    show relS scope X.env.scope = relS scope sc
    rw [o.sc]
  hr := o.hr
  xe := rfl
  cur := o.cur
  clo := fun z => absurd z hc
theorem fnk_blk {X : Cx} (o : XO G n N sc X) (s : Shared) (H : Hp) (C : Addr) (cl : List (Str × Addr)) (fp : List Addr) : FnK scope (X.blk s H scope (compEnvC scope cl C X.env) fp) := fun x h => by
  unfold locB at h
  split at h
  · rename_i e
    exact .inr (lookup_relS_keep (sc := X.env.scope) (by decide) e)
  · rename_i e
    refine .inl ?_
    show (scope.names.lookup x == some .cell) = true
    rw [e]
    rfl
  · cases h
theorem TvR.ext {ι ι' : List Addr} {t : Tv} {H H' : Hp} {x : V} (r : TvR G ι t H x H') (o : okTv ι t) (e : ι <+: ι') : TvR G ι' t H x H' := by
  cases t with
  | one v => exact ⟨r.1, by rw [vT_ext o e]; exact r.2⟩
  | two a b =>
    obtain ⟨T, h1, h2, h3⟩ := r
    exact ⟨T, h1, h2, by rw [vT_ext o.1 e, vT_ext o.2 e]; exact h3⟩
theorem okTv.ext {ι ι' : List Addr} {t : Tv} (o : okTv ι t) (e : ι <+: ι') : okTv ι' t := by
  cases t with
  | one v => exact okA.ext o e
  | two a b => exact ⟨o.1.ext e, o.2.ext e⟩
/-- behind the item: all stands as before -/
theorem TvR.stay {ι : List Addr} {t : Tv} {h : AH} {H H' : Hp} {x : V} (r : TvR G ι t H x H') (hr : HR G ι h H) : HR G ι h H' ∧ Keep ι H ι H' ∧ ∀ D o, H D = some o → H' D = some o := by
  cases t with
  | one v =>
    obtain ⟨rfl, _⟩ := r
    exact ⟨hr, Keep.refl _ _, fun _ _ h => h⟩
  | two a b =>
    obtain ⟨T, _, nT, rfl⟩ := r
    obtain ⟨h1, h2⟩ := hr.beside (u := .tup [vT G ι a, vT G ι b]) nT
    exact ⟨h1, h2, fun D o hD => by rw [upd_ne (ne_of_none hD nT)]; exact hD⟩
theorem wipe_wipe {σ : L2.St} : ∀ vs : List Nat, L2.wipe (L2.wipe σ vs) vs = L2.wipe σ vs := fun vs => by
  refine List.ext_getElem? fun i => ?_
  by_cases hi : i ∈ vs
  · have aux : ∀ (τ : L2.St) (vs : List Nat), i ∈ vs → (L2.wipe τ vs)[i]? = if i < τ.length then some none else none := by
      intro τ vs
      induction vs with
      | nil => intro m; cases m
      | cons v vs ih =>
        intro m
        unfold L2.wipe
        by_cases e : v = i
        · subst e
          rw [List.getElem?_set]
          simp [wipe_length]
        · rw [List.getElem?_set_ne e]
          exact ih ((List.mem_cons.mp m).resolve_left fun z => e z.symm)
    rw [aux _ vs hi, aux _ vs hi, wipe_length]
  · rw [wipe_out hi]
theorem GA.fin {α : Type} [Vld α] {r : Rs α} {f : α → AH → Rs (List AV)} {ι ι' : List Addr} {H H' : Hp} {k : AV → AH → List Addr → Hp → Prop} (g : GA G (finL (r.bind f)) ι H k) : GA G r ι' H' fun a h _ _ => GA G (finL (f a h)) ι H k := by
  cases r with
  | ok a h => exact fun _ _ _ _ _ _ => g
  | exc _ _ _ => exact g
  | no => exact g
/-- a clause's tests -/
inductive CondOk (G : Gc) (n : Nat) (N : List Str) (sc : Scope) : (En → AH → Rs Bool) → List Expr → Prop
  | no : CondOk G n N sc (fun _ h => .ok true h) []
  | one {cv : En → AH → Rs Bool} {c : Expr} (h : STf G n N sc cv c) : CondOk G n N sc cv [c]
theorem CondOk.pts {cv : En → AH → Rs Bool} {ifs : List Expr} {X : Cx} (c : CondOk G n N sc cv ifs) (o : XO G n N sc X) : PTs X ifs (TTvA G cv) := by
  cases c with
  | no => exact ⟨fun pins s σ H Q I ⟨env, h, ι, s1, r1, g1⟩ => pts_nil.run pins s σ H Q I (GA.now g1 r1 trivial)⟩
  | one h => exact pts_one (h.pt o)
/-- the state within a comprehension's loop: the list at D so far is acc -/
structure LcAt (G : Gc) (ι1 : List Addr) (H1 : Hp) (D : Addr) (ιi : List Addr) (hi : AH) (acc : List AV) (H : Hp) : Prop where
  e : ι1 <+: ιi
  k : Keep ι1 H1 ιi H
  r : HR G ιi hi H
  nD : D ∉ ιi
  at_ : H D = some (.lst (acc.map (vT G ιi)))
  ok : ∀ x ∈ acc, okA ιi x
theorem LcAt.go {ι1 ιi ι3 : List Addr} {H1 H H3 : Hp} {D : Addr} {hi h3 : AH} {acc : List AV} (l : LcAt G ι1 H1 D ιi hi acc H) (e : ιi <+: ι3) (k : Keep ιi H ι3 H3) (r : HR G ι3 h3 H3) : LcAt G ι1 H1 D ι3 h3 acc H3 := by
  obtain ⟨d1, d2⟩ := k.1 D _ l.at_ (fun _ z => nomatch z) l.nD
  exact ⟨l.e.trans e, l.k.trans k, r, d2, by rw [d1, map_ext l.ok e], fun x m => (l.ok x m).ext e⟩
theorem LcAt.add {ι1 ιi : List Addr} {H1 H : Hp} {D : Addr} {hi : AH} {acc : List AV} {v : AV} (l : LcAt G ι1 H1 D ιi hi acc H) (nD1 : H1 D = none) (ov : okA ιi v) : LcAt G ι1 H1 D ιi hi (acc ++ [v]) (upd H D (.lst (acc.map (vT G ιi) ++ [vT G ιi v]))) :=
  ⟨l.e, ⟨fun a o h t n => by
    obtain ⟨h1, n1⟩ := l.k.1 a o h t n
    refine ⟨?_, n1⟩
    rw [upd_ne (ne_of_none h nD1)]
    exact h1, fun a P h => by
    rw [upd_ne (ne_of_none h nD1)]
    exact l.k.2 a P h⟩, l.r.aside l.nD l.at_, l.nD, by rw [upd_same, List.map_append]; rfl, all_append l.ok fun x m => by rw [List.mem_singleton.mp m]; exact ov⟩
theorem drop_get {α : Type} {l : List α} {i : Nat} (h : i < l.length) : ∃ t, l[i]? = some t ∧ l.drop i = t :: l.drop (i + 1) := ⟨l[i], by rw [List.getElem?_eq_getElem h], List.drop_eq_getElem_cons h⟩
/-- the loop's reading, by the evaluator's -/
theorem lc_read {tgt : Tg} {own : List Nat} {cv : En → AH → Rs Bool} {ev : En → AH → Rs AV} {env : En} {ι1 : List Addr} {h1 : AH} {H1 : Hp} {σ : L2.St} {it : Itv} {J : It} {k : AV → AH → List Addr → Hp → Prop} {Q : VK} {D : Addr}
    (hts : ∀ i ∈ slotsT tgt, i ∈ own) (s : SR G ι1 env σ) (hr : HR G ι1 h1 H1) (nD : H1 D = none) (io : ItOk G ι1 it J) (hk : k = fun v _ ι' H' => Q (vT G ι' v) H')
    (g : GA G (finL (compL it.ck (turnA tgt own cv ev env) it.turns h1 [])) ι1 H1 k) :
    ∃ W : Nat → Nat → Hp → Prop, (∃ m, W 0 m (upd H1 D (.lst []))) ∧ ∀ i m H, W i m H →
      (J.stop i H ∧ Q (.ref D) H) ∨ (J.go i H ∧ ∃ Nx : Hp → Prop, (∀ H', Nx H' → ∃ m', m' < m ∧ W (i + 1) m' H') ∧ ∀ x H', J.yld i H x H' → TGv G tgt x (L2.wipe σ own) H' fun σ2 H2 => L2.wipe σ2 own = L2.wipe σ own ∧ TTvA G cv σ2 H2 fun b H3 =>
        if b = true then TEv G ev σ2 H3 fun y H4 => ∃ acc, H4 D = some (.lst acc) ∧ acc.length < sizeLine ∧ Nx (upd H4 D (.lst (acc ++ [y]))) else Nx H3) := by
  subst hk
  obtain ⟨Gp, Y, w, g3, y3⟩ := io.ex
  have ckOf : ∀ {ts : List Tv} {hi : AH} {acc : List AV}, GA G (finL (compL it.ck (turnA tgt own cv ev env) ts hi acc)) ι1 H1 (fun v _ ι' H' => Q (vT G ι' v) H') → it.ck hi = true := fun {ts hi acc} g => by
    cases ts with
    | nil =>
      unfold compL at g
      split at g
      · assumption
      · exact False.elim g
    | cons t ts =>
      unfold compL at g
      split at g
      · assumption
      · exact False.elim g
  refine lc_it w (fun i H => ∃ ιi hi acc, LcAt G ι1 H1 D ιi hi acc H ∧ GA G (finL (compL it.ck (turnA tgt own cv ev env) (it.turns.drop i) hi acc)) ι1 H1 fun v _ ι' H' => Q (vT G ι' v) H') ?_ ?_ ?_ ?_
  · obtain ⟨b1, b2⟩ := hr.beside (u := .lst []) nD
    exact ⟨ι1, h1, [], ⟨List.prefix_refl _, b2, b1, hr.notin nD, upd_same, fun _ m => nomatch m⟩, g⟩
  · rintro i H hi ⟨ιi, hh, acc, l, gg⟩
    exact g3 ιi hh H l.e l.r (ckOf gg)
  · rintro i x H H' hi ⟨ιi, hh, acc, l, gg⟩ y
    obtain ⟨t, et, ed⟩ := drop_get hi
    have ot := io.ok t (List.mem_of_getElem? et)
    have tr := (y3 i H x H' t y et).ext ot l.e
    obtain ⟨r1, k1, st⟩ := tr.stay l.r
    have l1 : LcAt G ι1 H1 D ιi hh acc H' := l.go (List.prefix_refl _) k1 r1
    rw [ed] at gg
    have ck := ckOf gg
    unfold compL at gg
    rw [if_pos ck] at gg
    have g2 := gg.fin (ι' := ιi) (H' := H')
    unfold turnA at g2
    cases eb : bindT tgt hh t (wipeA env own) with
    | none => rw [eb] at g2; exact False.elim g2
    | some e2 =>
      rw [eb] at g2
      refine ⟨wipeA env own, hh, ιi, t, H, e2, (s.ext l.e).wipe own, r1, tr, ot.ext l.e, eb, fun σ' s' w' => ⟨by rw [w' own hts, wipe_wipe], e2, hh, ιi, s', r1, ?_⟩⟩
      refine g2.bind.imp fun b h3 ι3 H3 e3 k3 r3 _ g4 => ?_
      have l3 := l1.go e3 k3 r3
      cases b with
      | false => exact ⟨ι3, h3, acc, l3, GA.now g4 r3 fun x z => nomatch z⟩
      | true =>
        refine iteT ?_
        refine ⟨e2, h3, ι3, s'.ext e3, r3, GA.imp (GA.bind g4) fun v h4 ι4 H4 e4 k4 r4 o4 g5 => ?_⟩
        have l4 := l3.go e4 k4 r4
        have g6 := GA.now g5 r4 fun x z => by cases z; exact o4
        dsimp only at g6
        split at g6
        · rename_i hz
          exact ⟨_, l4.at_, by rw [List.length_map]; exact hz, ι4, h4, acc ++ [v], l4.add nD o4, g6⟩
        · exact False.elim g6
  · rintro H ⟨ιi, hh, acc, l, gg⟩
    rw [List.drop_length] at gg
    have ck := ckOf gg
    unfold compL at gg
    rw [if_pos ck] at gg
    have q := gg (ιi ++ [D]) H (l.e.trans (List.prefix_append _ _)) ⟨fun a o h t nn => by
      obtain ⟨h1, n1⟩ := l.k.1 a o h t nn
      refine ⟨h1, fun m => ?_⟩
      rcases List.mem_append.mp m with m | m
      · exact n1 m
      · have z : a = D := by simpa using m
        rw [z, nD] at h
        (cases h), l.k.2⟩ (l.r.adopt l.nD l.at_ ⟨rfl, l.ok⟩) (show hh.sz < (ιi ++ [D]).length by rw [List.length_append, l.r.len]; exact Nat.lt_succ_self _)
    dsimp only at q
    rw [vT_new l.r.len] at q
    exact q

theorem plain_fold' {e : Expr} {env : Env} (h : plainE e = true) : ∀ x, foldedSetIterable e env x = pure x := plain_fold h
def lcEv (own : List Nat) (tgt : Tg) (sk : Sk) (evs : En → AH → Rs (List AV)) (cv : En → AH → Rs Bool) (ev : En → AH → Rs AV) : En → AH → Rs AV := fun env h => (evs env h).bind fun xs h1 => match srcA sk h1 xs with
  | some it => finL (compL it.ck (turnA tgt own cv ev env) it.turns h1 [])
  | none => .no
/-- the parts of a comprehension of one clause -/
structure LcOk (G : Gc) (n : Nat) (N : List Str) (sc scope : Scope) (own : List (Str × Nat)) (tgt : Tg) (sk : Sk) (evs : En → AH → Rs (List AV)) (cv : En → AH → Rs Bool) (ev : En → AH → Rs AV) (elt tg iter : Expr) (ifs : List Expr) : Prop where
  blk : blkK G.mode N sc scope own = true
  src : SIf G n N sc sk evs tg iter
  tg : chkT N (relS scope sc) scope tgt tg = true
  sl : ∀ i ∈ slotsT tgt, i ∈ own.map (·.2)
  cond : CondOk G n N (relS scope sc) cv ifs
  elt : SEf G n N (relS scope sc) ev elt
  it : plainE iter = true
variable {own : List (Str × Nat)} {tgt : Tg} {sk : Sk} {evs : En → AH → Rs (List AV)} {cv : En → AH → Rs Bool} {ev : En → AH → Rs AV} {ifs : List Expr} {pos : Pos}
theorem LcOk.read (l : LcOk G n N sc scope own tgt sk evs cv ev elt tg iter ifs) {env : En} {h : AH} {ι : List Addr} {σ : L2.St} {H : Hp} {Q : VK} (s : SR G ι env σ) (hr : HR G ι h H)
    (g : GA G (lcEv (own.map (·.2)) tgt sk evs cv ev env h) ι H fun v _ ι' H' => Q (vT G ι' v) H') : tLc (TIv G sk evs) (TGv G tgt) (TTvA G cv) (TEv G ev) (own.map (·.2)) σ H Q := by
  refine ⟨env, h, ι, s, hr, g.bind.imp fun xs h1 ι1 H1 e1 k1 r1 o1 g1 => ?_⟩
  cases e : srcA sk h1 xs with
  | none => rw [e] at g1; exact False.elim g1
  | some it =>
    rw [e] at g1
    exact ⟨it, rfl, fun J io D nD => lc_read l.sl (s.ext e1) r1 nD io rfl g1⟩
theorem LcOk.bo {X : Cx} (l : LcOk G n N sc scope own tgt sk evs cv ev elt tg iter ifs) (o : XO G n N sc X) : BlkOk X.N X.env.scope scope own := by
  rw [o.N, o.sc]
  exact blkOk_by (blkK_c l.blk)
theorem se_lc (l : LcOk G n N sc scope own tgt sk evs cv ev elt tg iter ifs) : SEf G n N sc (lcEv (own.map (·.2)) tgt sk evs cv ev) (.ListComp elt [⟨tg, iter, ifs, 0⟩] scope pos) := fun X o =>
  ⟨_, pe_lc o.calm (by rw [o.N]; exact o.nd) (l.src.pi o) (l.bo o) (fun s H C cl fp => pg_t (o.blk (blkK_n l.blk) s H C cl fp) (fnk_blk o s H C cl fp) l.tg) (fun s H C cl fp => l.cond.pts (o.blk (blkK_n l.blk) s H C cl fp)) (fun s H C cl fp => l.elt.pe (o.blk (blkK_n l.blk) s H C cl fp)) (plain_fold l.it),
    fun env h ι σ H Q s hr g => l.read s hr g⟩
end
end EV

/-! EvO: comprehensions of two clauses. -/
namespace EV
open PySem PySem.Spec PyProof.Rows L2
theorem Rs.bind_assoc {α β γ : Type} {r : Rs α} {f : α → AH → Rs β} {g : β → AH → Rs γ} : (r.bind f).bind g = r.bind fun a h => (f a h).bind g := by
  cases r <;> rfl
section
variable {G : Gc} {n : Nat} {N : List Str} {sc scope : Scope} {elt tg iter tg1 iter1 : Expr}
/-- a loop's reading by a walk: W by the turn -/
theorem loop_it {J : It} {m : Nat} {Gp : Hp → Prop} {Y : Nat → Hp → V → Hp → Prop} (w : Walk J m Gp Y) {B : Nat → (Hp → Prop) → V → Hp → Prop} {Qd : Hp → Prop} {H0 : Hp} (Pv : Nat → Hp → Prop) (h0 : Pv 0 H0) (hG : ∀ i H, i ≤ m → Pv i H → Gp H)
    (hs : ∀ i x H H', i < m → Pv i H → Y i H x H' → B i (Pv (i + 1)) x H') (hd : ∀ H, Pv m H → Qd H) :
    ∃ W : Nat → Nat → Hp → Prop, (∃ m, W 0 m H0) ∧ ∀ i m H, W i m H → (J.stop i H ∧ Qd H) ∨ (J.go i H ∧ ∃ Nx : Hp → Prop, (∀ H', Nx H' → ∃ m', m' < m ∧ W (i + 1) m' H') ∧ ∀ x H', J.yld i H x H' → B i Nx x H') := by
  refine ⟨fun i k H => k = m - i ∧ i ≤ m ∧ Pv i H, ⟨m, by simp, Nat.zero_le _, h0⟩, ?_⟩
  rintro i k H ⟨rfl, hi, p⟩
  have q := hG i H hi p
  by_cases hlt : i < m
  · exact .inr ⟨w.goes i H hlt q, Pv (i + 1), fun H' p' => ⟨m - (i + 1), by omega, rfl, hlt, p'⟩, fun x H' y => hs i x H H' hlt p (w.yields i H x H' hlt q y)⟩
  · have e : i = m := by omega
    subst e
    exact .inl ⟨w.stops H q, hd H p⟩
def lc2Ev (own own1 : List Nat) (tgt : Tg) (sk : Sk) (evs : En → AH → Rs (List AV)) (cv : En → AH → Rs Bool) (sk1 : Sk) (evs1 : En → AH → Rs (List AV)) (tgt1 : Tg) (cv1 : En → AH → Rs Bool) (ev : En → AH → Rs AV) : En → AH → Rs AV := fun env h => (evs env h).bind fun xs h1 => match srcA sk h1 xs with
  | some it => finL (compL2 it.ck (turnB tgt own own1 cv sk1 evs1 tgt1 cv1 ev env) it.turns h1 [])
  | none => .no
structure Lc2Ok (G : Gc) (n : Nat) (N : List Str) (sc scope : Scope) (own : List (Str × Nat)) (own1 : List Nat) (tgt : Tg) (sk : Sk) (evs : En → AH → Rs (List AV)) (cv : En → AH → Rs Bool) (sk1 : Sk) (evs1 : En → AH → Rs (List AV)) (tgt1 : Tg) (cv1 : En → AH → Rs Bool) (ev : En → AH → Rs AV) (elt tg iter : Expr) (ifs : List Expr) (tg1 iter1 : Expr) (ifs1 : List Expr) : Prop where
  blk : blkK G.mode N sc scope own = true
  src : SIf G n N sc sk evs tg iter
  tg : chkT N (relS scope sc) scope tgt tg = true
  sl : ∀ i ∈ slotsT tgt, i ∈ own.map (·.2)
  cond : CondOk G n N (relS scope sc) cv ifs
  src1 : SIf G n N (relS scope sc) sk1 evs1 tg1 iter1
  tg1 : chkT N (relS scope sc) scope tgt1 tg1 = true
  sl1 : ∀ i ∈ slotsT tgt1, i ∈ own1
  in1 : ∀ i ∈ own1, i ∈ own.map (·.2)
  cond1 : CondOk G n N (relS scope sc) cv1 ifs1
  elt : SEf G n N (relS scope sc) ev elt
  it : plainE iter = true
  it1 : plainE iter1 = true
variable {own : List (Str × Nat)} {own1 : List Nat} {tgt tgt1 : Tg} {sk sk1 : Sk} {evs evs1 : En → AH → Rs (List AV)} {cv cv1 : En → AH → Rs Bool} {ev : En → AH → Rs AV} {ifs ifs1 : List Expr} {pos : Pos}
theorem ck_of {ck : AH → Bool} {f : Tv → AH → Rs (Option AV)} {c : List AV → AH → Rs (List AV)} {ι1 : List Addr} {H1 : Hp} {k : AV → AH → List Addr → Hp → Prop} {ts : List Tv} {hi : AH} {acc : List AV} (g : GA G (finL ((compL ck f ts hi acc).bind c)) ι1 H1 k) : ck hi = true := by
  cases ts with
  | nil =>
    unfold compL at g
    split at g
    · assumption
    · exact False.elim g
  | cons t ts =>
    unfold compL at g
    split at g
    · assumption
    · exact False.elim g
theorem ck_of2 {ck : AH → Bool} {f : Tv → AH → List AV → Rs (List AV)} {ι1 : List Addr} {H1 : Hp} {k : AV → AH → List Addr → Hp → Prop} {ts : List Tv} {hi : AH} {acc : List AV} (g : GA G (finL (compL2 ck f ts hi acc)) ι1 H1 k) : ck hi = true := by
  cases ts with
  | nil =>
    unfold compL2 at g
    split at g
    · assumption
    · exact False.elim g
  | cons t ts =>
    unfold compL2 at g
    split at g
    · assumption
    · exact False.elim g
theorem Lc2Ok.read (l : Lc2Ok G n N sc scope own own1 tgt sk evs cv sk1 evs1 tgt1 cv1 ev elt tg iter ifs tg1 iter1 ifs1) {env : En} {h : AH} {ι : List Addr} {σ : L2.St} {H : Hp} {Q : VK} (s0 : SR G ι env σ) (hr0 : HR G ι h H)
    (g : GA G (lc2Ev (own.map (·.2)) own1 tgt sk evs cv sk1 evs1 tgt1 cv1 ev env h) ι H fun v _ ι' H' => Q (vT G ι' v) H') : tLc2 (TIv G sk evs) (TGv G tgt) (TTvA G cv) (TIv G sk1 evs1) (TGv G tgt1) (TTvA G cv1) (TEv G ev) (own.map (·.2)) own1 σ H Q := by
  refine ⟨env, h, ι, s0, hr0, g.bind.imp fun xs h1 ι1 H1 e1 k1 hr o1 g1 => ?_⟩
  cases e : srcA sk h1 xs with
  | none => rw [e] at g1; exact False.elim g1
  | some it =>
  rw [e] at g1
  refine ⟨it, rfl, fun J io D nD => ?_⟩
  have s := s0.ext e1
  obtain ⟨Gp, Y, w, g3, y3⟩ := io.ex
  refine loop_it w (fun i H => ∃ ιi hi acc, LcAt G ι1 H1 D ιi hi acc H ∧ GA G (finL (compL2 it.ck (turnB tgt (own.map (·.2)) own1 cv sk1 evs1 tgt1 cv1 ev env) (it.turns.drop i) hi acc)) ι1 H1 fun v _ ι' H' => Q (vT G ι' v) H') ?_ ?_ ?_ ?_
  · obtain ⟨b1, b2⟩ := hr.beside (u := .lst []) nD
    exact ⟨ι1, h1, [], ⟨List.prefix_refl _, b2, b1, hr.notin nD, upd_same, fun _ m => nomatch m⟩, g1⟩
  · rintro i H hi ⟨ιi, hh, acc, l', gg⟩
    exact g3 ιi hh H l'.e l'.r (ck_of2 gg)
  · rintro i x H H' hi ⟨ιi, hh, acc, l0, gg⟩ y
    obtain ⟨t, et, ed⟩ := drop_get hi
    have ot := io.ok t (List.mem_of_getElem? et)
    have tr := (y3 i H x H' t y et).ext ot l0.e
    obtain ⟨r1, k1', st⟩ := tr.stay l0.r
    have l1 : LcAt G ι1 H1 D ιi hh acc H' := l0.go (List.prefix_refl _) k1' r1
    rw [ed] at gg
    have ck := ck_of2 gg
    unfold compL2 at gg
    rw [if_pos ck] at gg
    cases eb : bindT tgt hh t (wipeA env (own.map (·.2))) with
    | none =>
      unfold turnB at gg
      rw [eb] at gg
      exact False.elim gg
    | some e2 =>
      have ef : turnB tgt (own.map (·.2)) own1 cv sk1 evs1 tgt1 cv1 ev env t hh acc = (cv e2 hh).bind fun b h3 => if b then (evs1 e2 h3).bind fun ys h4 => match srcA sk1 h4 ys with
          | some it1 => compL it1.ck (turnA tgt1 own1 cv1 ev e2) it1.turns h4 acc
          | none => .no
        else .ok acc h3 := by
        unfold turnB
        rw [eb]
        all_goals rfl
      rw [ef, Rs.bind_assoc] at gg
      refine ⟨wipeA env (own.map (·.2)), hh, ιi, t, H, e2, (s.ext l0.e).wipe _, r1, tr, ot.ext l0.e, eb, fun σ' s' w' => ⟨by rw [w' _ l.sl, wipe_wipe], e2, hh, ιi, s', r1, ?_⟩⟩
      refine (GA.fin (ι' := ιi) (H' := H') gg).imp fun b h3 ι3 H3 e3 k3 r3 _ g4 => ?_
      have l3 := l1.go e3 k3 r3
      cases b with
      | false => exact ⟨ι3, h3, acc, l3, g4⟩
      | true =>
        refine iteT ?_
        rw [if_pos rfl, Rs.bind_assoc] at g4
        refine ⟨e2, h3, ι3, s'.ext e3, r3, (GA.fin (ι' := ι3) (H' := H3) g4).imp fun ys h4 ι4 H4 e4 k4 r4 o4 g5 => ?_⟩
        have l4 := l3.go e4 k4 r4
        cases es : srcA sk1 h4 ys with
        | none => rw [es] at g5; exact False.elim g5
        | some it1 =>
        rw [es] at g5
        refine ⟨it1, rfl, fun J1 io1 => ?_⟩
        have s4 := (s'.ext e3).ext e4
        obtain ⟨Gp1, Y1, w1, g31, y31⟩ := io1.ex
        refine loop_it w1 (fun j H => ∃ ιj hj acc', LcAt G ι1 H1 D ιj hj acc' H ∧ ι4 <+: ιj ∧ GA G (finL ((compL it1.ck (turnA tgt1 own1 cv1 ev e2) (it1.turns.drop j) hj acc').bind fun a h => compL2 it.ck (turnB tgt (own.map (·.2)) own1 cv sk1 evs1 tgt1 cv1 ev env) (it.turns.drop (i + 1)) h a)) ι1 H1 fun v _ ι' H' => Q (vT G ι' v) H') ?_ ?_ ?_ ?_
        · exact ⟨ι4, h4, acc, l4, List.prefix_refl _, g5⟩
        · rintro j H hj ⟨ιj, hh', acc', l', ee, gg'⟩
          exact g31 ιj hh' H ee l'.r (ck_of gg')
        · rintro j x1 Hj Hj' hj ⟨ιj, hj', acc', lj, ee, gg'⟩ y1
          obtain ⟨t1, et1, ed1⟩ := drop_get hj
          have ot1 := io1.ok t1 (List.mem_of_getElem? et1)
          have tr1 := (y31 j Hj x1 Hj' t1 y1 et1).ext ot1 ee
          obtain ⟨r11, k11, st1⟩ := tr1.stay lj.r
          have lj1 : LcAt G ι1 H1 D ιj hj' acc' Hj' := lj.go (List.prefix_refl _) k11 r11
          rw [ed1] at gg'
          have ck1 := ck_of gg'
          unfold compL at gg'
          rw [if_pos ck1, Rs.bind_assoc] at gg'
          cases eb1 : bindT tgt1 hj' t1 (wipeA e2 own1) with
          | none =>
            unfold turnA at gg'
            rw [eb1] at gg'
            exact False.elim gg'
          | some e5 =>
            have ef1 : turnA tgt1 own1 cv1 ev e2 t1 hj' = (cv1 e5 hj').bind fun b h3 => if b then (ev e5 h3).bind fun v h4 => .ok (some v) h4 else .ok none h3 := by
              unfold turnA
              rw [eb1]
              first | done | rfl
            rw [ef1, Rs.bind_assoc] at gg'
            refine ⟨wipeA e2 own1, hj', ιj, t1, Hj, e5, (s4.ext ee).wipe _, r11, tr1, ot1.ext ee, eb1, fun σ5 s5 w5 => ⟨by rw [w5 _ l.sl1, wipe_wipe], e5, hj', ιj, s5, r11, ?_⟩⟩
            refine (GA.fin (ι' := ιj) (H' := Hj') gg').imp fun b h6 ι6 H6 e6 k6 r6 _ g6 => ?_
            have l6 := lj1.go e6 k6 r6
            cases b with
            | false => exact ⟨ι6, h6, acc', l6, ee.trans e6, g6⟩
            | true =>
              refine iteT ?_
              rw [if_pos rfl, Rs.bind_assoc] at g6
              refine ⟨e5, h6, ι6, s5.ext e6, r6, (GA.fin (ι' := ι6) (H' := H6) g6).imp fun v h7 ι7 H7 e7 k7 r7 o7 g7 => ?_⟩
              have l7 := l6.go e7 k7 r7
              have g8 : GA G (finL ((if acc'.length < sizeLine then compL it1.ck (turnA tgt1 own1 cv1 ev e2) (it1.turns.drop (j + 1)) h7 (acc' ++ [v]) else .no).bind fun a h => compL2 it.ck (turnB tgt (own.map (·.2)) own1 cv sk1 evs1 tgt1 cv1 ev env) (it.turns.drop (i + 1)) h a)) ι1 H1 fun v _ ι' H' => Q (vT G ι' v) H' := g7
              split at g8
              · rename_i hz
                exact ⟨_, l7.at_, by rw [List.length_map]; exact hz, ι7, h7, acc' ++ [v], l7.add nD o7, (ee.trans e6).trans e7, g8⟩
              · exact False.elim g8
        · rintro Hd ⟨ιj, hj', acc', lj, ee, gg'⟩
          rw [List.drop_length] at gg'
          have ck1 := ck_of gg'
          unfold compL at gg'
          rw [if_pos ck1] at gg'
          exact ⟨ιj, hj', acc', lj, gg'⟩
  · rintro H ⟨ιi, hh, acc, l', gg⟩
    rw [List.drop_length] at gg
    have ck := ck_of2 gg
    unfold compL2 at gg
    rw [if_pos ck] at gg
    have q := gg (ιi ++ [D]) H (l'.e.trans (List.prefix_append _ _)) ⟨fun a o h t nn => by
      obtain ⟨h1, n1⟩ := l'.k.1 a o h t nn
      refine ⟨h1, fun m => ?_⟩
      rcases List.mem_append.mp m with m | m
      · exact n1 m
      · have z : a = D := by simpa using m
        rw [z, nD] at h
        (cases h), l'.k.2⟩ (l'.r.adopt l'.nD l'.at_ ⟨rfl, l'.ok⟩) (show hh.sz < (ιi ++ [D]).length by rw [List.length_append, l'.r.len]; exact Nat.lt_succ_self _)
    dsimp only at q
    rw [vT_new l'.r.len] at q
    exact q
theorem Lc2Ok.bo {X : Cx} (l : Lc2Ok G n N sc scope own own1 tgt sk evs cv sk1 evs1 tgt1 cv1 ev elt tg iter ifs tg1 iter1 ifs1) (o : XO G n N sc X) : BlkOk X.N X.env.scope scope own := by
  rw [o.N, o.sc]
  exact blkOk_by (blkK_c l.blk)
theorem se_lc2 (l : Lc2Ok G n N sc scope own own1 tgt sk evs cv sk1 evs1 tgt1 cv1 ev elt tg iter ifs tg1 iter1 ifs1) : SEf G n N sc (lc2Ev (own.map (·.2)) own1 tgt sk evs cv sk1 evs1 tgt1 cv1 ev) (.ListComp elt [⟨tg, iter, ifs, 0⟩, ⟨tg1, iter1, ifs1, 0⟩] scope pos) := fun X o =>
  ⟨_, pe_lc2 o.calm (by rw [o.N]; exact o.nd) (l.src.pi o) (l.bo o) l.in1 (fun s H C cl fp => pg_t (o.blk (blkK_n l.blk) s H C cl fp) (fnk_blk o s H C cl fp) l.tg) (fun s H C cl fp => l.cond.pts (o.blk (blkK_n l.blk) s H C cl fp))
      (fun s H C cl fp => l.src1.pi (o.blk (blkK_n l.blk) s H C cl fp)) (fun s H C cl fp => pg_t (o.blk (blkK_n l.blk) s H C cl fp) (fnk_blk o s H C cl fp) l.tg1) (fun s H C cl fp => l.cond1.pts (o.blk (blkK_n l.blk) s H C cl fp)) (fun s H C cl fp => l.elt.pe (o.blk (blkK_n l.blk) s H C cl fp)) (plain_fold l.it) (fun env => plain_fold l.it1),
    fun env h ι σ H Q s hr g => l.read s hr g⟩
end
end EV

/-! EvP: statements. -/
namespace EV
open PySem PySem.Spec PyProof.Rows L2
def GS (G : Gc) (r : Rt) (ι : List Addr) (H : Hp) (D : Ends) : Prop := match r with
  | .nx e h => ∀ ι' H' σ', ι <+: ι' → Keep ι H ι' H' → HR G ι' h H' → SR G ι' e σ' → D.nx σ' H'
  | .rt v h => ∀ ι' H', ι <+: ι' → Keep ι H ι' H' → HR G ι' h H' → okA ι' v → D.rt (vT G ι' v) H'
  | .bk e h => ∀ ι' H' σ', ι <+: ι' → Keep ι H ι' H' → HR G ι' h H' → SR G ι' e σ' → D.bk σ' H'
  | .ct e h => ∀ ι' H' σ', ι <+: ι' → Keep ι H ι' H' → HR G ι' h H' → SR G ι' e σ' → D.ct σ' H'
  | .exc _ _ _ _ => False
  | .no => False
section
variable {G : Gc} {ι ι1 : List Addr} {H H1 : Hp} {D : Ends}
theorem GS.shift {r : Rt} (g : GS G r ι H D) (e : ι <+: ι1) (p : Keep ι H ι1 H1) : GS G r ι1 H1 D := by
  cases r with
  | nx en h => exact fun ι' H' σ' e' p' hr s => g ι' H' σ' (e.trans e') (p.trans p') hr s
  | rt v h => exact fun ι' H' e' p' hr s => g ι' H' (e.trans e') (p.trans p') hr s
  | bk en h => exact fun ι' H' σ' e' p' hr s => g ι' H' σ' (e.trans e') (p.trans p') hr s
  | ct en h => exact fun ι' H' σ' e' p' hr s => g ι' H' σ' (e.trans e') (p.trans p') hr s
  | exc _ _ _ _ => exact g
  | no => exact g
theorem GS.ofE {α : Type} [Vld α] {e : En} {r : Rs α} {f : α → AH → Rt} (g : GS G (EV.ofE e r f) ι H D) : GA G r ι H fun a h1 ι1 H1 => GS G (f a h1) ι1 H1 D := by
  cases r with
  | ok a h => exact fun ι' H' e' p' _ _ => GS.shift (r := f a h) g e' p'
  | exc _ _ _ => exact g
  | no => exact g
theorem GS.nx {e : En} {h : AH} {σ : L2.St} (g : GS G (.nx e h) ι H D) (hr : HR G ι h H) (s : SR G ι e σ) : D.nx σ H := g ι H σ (List.prefix_refl _) (Keep.refl _ _) hr s
theorem GS.rt {v : AV} {h : AH} (g : GS G (.rt v h) ι H D) (hr : HR G ι h H) (o : okA ι v) : D.rt (vT G ι v) H := g ι H (List.prefix_refl _) (Keep.refl _ _) hr o
/-- a turn of a loop -/
theorem GS.turn {r : Rt} {F : En → AH → Rt} {P : L2.St → Hp → Prop} (g : GS G (match r with
      | .nx e1 h1 => F e1 h1
      | .ct e1 h1 => F e1 h1
      | .bk e1 h1 => .nx e1 h1
      | r => r) ι H D) (f : ∀ e1 h1 ι' H' σ', ι <+: ι' → Keep ι H ι' H' → HR G ι' h1 H' → SR G ι' e1 σ' → GS G (F e1 h1) ι' H' D → P σ' H') : GS G r ι H { nx := P, rt := D.rt, bk := D.nx, ct := P } := by
  cases r with
  | nx e1 h1 => exact fun ι' H' σ' e' p' hr s => f e1 h1 ι' H' σ' e' p' hr s (GS.shift (r := F e1 h1) g e' p')
  | ct e1 h1 => exact fun ι' H' σ' e' p' hr s => f e1 h1 ι' H' σ' e' p' hr s (GS.shift (r := F e1 h1) g e' p')
  | bk e1 h1 => exact g
  | rt v h => exact g
  | exc _ _ _ _ => exact g
  | no => exact g
end
section
variable (G : Gc) (n : Nat) (N : List Str) (sc : Scope)
def SSf (ev : En → AH → Rt) (st : Stmt) : Prop := ∀ X, XO G n N sc X → FnK sc X → ∃ t, PS X st t ∧ ∀ env h ι σ H D, SR G ι env σ → HR G ι h H → GS G (ev env h) ι H D → t D σ H
def SBf (ev : En → AH → Rt) (sts : List Stmt) : Prop := ∀ X, XO G n N sc X → FnK sc X → ∃ t, PSs X sts t ∧ ∀ env h ι σ H D, SR G ι env σ → HR G ι h H → GS G (ev env h) ι H D → t D σ H
end
section
variable {G : Gc} {n : Nat} {N : List Str} {sc scope : Scope} {e a b c tg iter : Expr} {ev ev1 ev2 : En → AH → Rs AV} {pos : Pos} {i : Nat} {x : Str} {px : Pos}
theorem sb_nil : SBf G n N sc (fun e h => .nx e h) [] := fun X o fk => ⟨_, pss_nil, fun env h ι σ H D s hr g => GS.nx g hr s⟩
theorem sb_cons {st : Stmt} {sts : List Stmt} {s1 s2 : En → AH → Rt} (h1 : SSf G n N sc s1 st) (h2 : SBf G n N sc s2 sts) : SBf G n N sc (fun e h => match s1 e h with
    | .nx e1 h1 => s2 e1 h1
    | r => r) (st :: sts) := fun X o fk => by
  obtain ⟨t1, p1, q1⟩ := h1 X o fk
  obtain ⟨t2, p2, q2⟩ := h2 X o fk
  refine ⟨_, pss_cons p1 p2, fun env h ι σ H D s hr g => q1 env h ι σ H _ s hr ?_⟩
  dsimp only at g
  cases es : s1 env h with
  | nx e1 h1 =>
    rw [es] at g
    exact fun ι' H' σ' e' p' hr' s' => q2 e1 h1 ι' σ' H' D s' hr' (GS.shift (r := s2 e1 h1) g e' p')
  | rt v h' => rw [es] at g; exact g
  | bk e1 h1 => rw [es] at g; exact g
  | ct e1 h1 => rw [es] at g; exact g
  | exc _ _ _ _ => rw [es] at g; exact g
  | no => rw [es] at g; exact g
theorem ss_bad {st : Stmt} : SSf G n N sc (fun _ _ => .no) st := fun X o fk => ⟨_, ps_never, fun _ _ _ _ _ _ _ _ g => g⟩
theorem ss_pass : SSf G n N sc (fun e h => .nx e h) (.Pass pos) := fun X o fk => ⟨_, ps_pass, fun env h ι σ H D s hr g => GS.nx g hr s⟩
theorem ss_brk : SSf G n N sc (fun e h => .bk e h) (.Break pos) := fun X o fk => ⟨_, ps_break, fun env h ι σ H D s hr g => g ι H σ (List.prefix_refl _) (Keep.refl _ _) hr s⟩
theorem ss_cnt : SSf G n N sc (fun e h => .ct e h) (.Continue pos) := fun X o fk => ⟨_, ps_continue, fun env h ι σ H D s hr g => g ι H σ (List.prefix_refl _) (Keep.refl _ _) hr s⟩
theorem ss_ret (ha : SEf G n N sc ev a) : SSf G n N sc (fun e h => ofE e (ev e h) fun v h1 => .rt v h1) (.Return (some a) pos) := fun X o fk => by
  obtain ⟨ta, pa, qa⟩ := ha X o
  exact ⟨_, ps_ret pa, fun env h ι σ H D s hr g => qa env h ι σ H _ s hr (g.ofE.imp fun v h1 ι1 H1 e1 k1 r1 o1 g1 => GS.rt g1 r1 o1)⟩
theorem ss_retn : SSf G n N sc (fun _ h => .rt .non h) (.Return none pos) := fun X o fk => ⟨_, ps_retN, fun env h ι σ H D s hr g => GS.rt g hr trivial⟩
theorem ss_ex (hn : noComp a = true) (ha : SEf G n N sc ev a) : SSf G n N sc (fun e h => ofE e (ev e h) fun _ h1 => .nx e h1) (.Expr a pos) := fun X o fk => by
  obtain ⟨ta, pa, qa⟩ := ha X o
  exact ⟨_, ps_expr pa (noComp_sw hn), fun env h ι σ H D s hr g => qa env h ι σ H _ s hr (g.ofE.imp fun v h1 ι1 H1 e1 k1 r1 o1 g1 => GS.nx g1 r1 (s.ext e1))⟩
theorem ss_iff {tv : En → AH → Rs Bool} {s1 s2 : En → AH → Rt} {p q : List Stmt} (hc : STf G n N sc tv c) (h1 : SBf G n N sc s1 p) (h2 : SBf G n N sc s2 q) :
    SSf G n N sc (fun e h => ofE e (tv e h) fun t h1 => if t then s1 e h1 else s2 e h1) (.If c p q pos) := fun X o fk => by
  obtain ⟨tc, pc, qc⟩ := hc X o
  obtain ⟨t1, p1, q1⟩ := h1 X o fk
  obtain ⟨t2, p2, q2⟩ := h2 X o fk
  refine ⟨_, ps_if pc p1 p2, fun env h ι σ H D s hr g => qc env h ι σ H _ s hr (g.ofE.imp fun t h1 ι1 H1 e1 k1 r1 o1 g1 => ?_)⟩
  cases t with
  | true => exact q1 env h1 ι1 σ H1 D (s.ext e1) r1 g1
  | false => exact q2 env h1 ι1 σ H1 D (s.ext e1) r1 g1
theorem nm_parts (h : chkNm N sc sc i x = true) : N[i]? = some x ∧ locB sc x = true := by
  unfold chkNm at h
  simp only [Bool.and_eq_true, decide_eq_true_eq] at h
  exact ⟨h.1.1, h.2⟩
theorem ss_set {st : Expr → Expr} (hx : chkNm N sc sc i x = true) (hs : ∀ env : Env, env.scope = sc → swapsWith a (some (.Name x px)) pos.line env = pure false) (ha : SEf G n N sc ev a) :
    SSf G n N sc (fun e h => ofE e (ev e h) fun v h1 => .nx (e.set i (some v)) h1) (.Assign [.Name x px] a pos) := fun X o fk => by
  obtain ⟨ta, pa, qa⟩ := ha X o
  obtain ⟨h1, h2⟩ := nm_parts hx
  exact ⟨_, ps_set (by rw [o.N]; exact o.nd) (by rw [o.N]; exact h1) (by rw [o.sc]; exact loc_of h2) pa (hs _ o.sc) (fk x h2), fun env h ι σ H D s hr g => qa env h ι σ H _ s hr (g.ofE.imp fun v h1 ι1 H1 e1 k1 r1 o1 g1 => GS.nx g1 r1 ((s.ext e1).set o1))⟩
/-- name = [..], the store within the comprehension's frame -/
theorem ss_setLc {own : List (Str × Nat)} {tgt : Tg} {sk : Sk} {evs : En → AH → Rs (List AV)} {cv : En → AH → Rs Bool} {elt : Expr} {ifs : List Expr} {pc : Pos} (l : LcOk G n N sc scope own tgt sk evs cv ev elt tg iter ifs) (hx : N[i]? = some x) (hl : sc.names.lookup x = some .local)
    (hs : ∀ env : Env, env.scope = sc → swapsWith (.ListComp elt [⟨tg, iter, ifs, 0⟩] scope pc) (some (.Name x px)) pos.line env = pure true) :
    SSf G n N sc (fun e h => ofE e (lcEv (own.map (·.2)) tgt sk evs cv ev e h) fun v h1 => .nx (e.set i (some v)) h1) (.Assign [.Name x px] (.ListComp elt [⟨tg, iter, ifs, 0⟩] scope pc) pos) := fun X o fk =>
  ⟨_, ps_setLc o.calm (by rw [o.N]; exact o.nd) (by rw [o.N]; exact hx) (by rw [o.sc]; exact hl) (hs _ o.sc) (l.src.pi o) (l.bo o) (fun s H C cl fp => pg_t (o.blk (blkK_n l.blk) s H C cl fp) (fnk_blk o s H C cl fp) l.tg) (fun s H C cl fp => l.cond.pts (o.blk (blkK_n l.blk) s H C cl fp)) (fun s H C cl fp => l.elt.pe (o.blk (blkK_n l.blk) s H C cl fp)) (plain_fold l.it),
    fun env h ι σ H D s hr g => l.read s hr (g.ofE.imp fun v h1 ι1 H1 e1 k1 r1 o1 g1 => GS.nx g1 r1 ((s.ext e1).set o1))⟩
theorem ss_setLc2 {own : List (Str × Nat)} {own1 : List Nat} {tgt tgt1 : Tg} {sk sk1 : Sk} {evs evs1 : En → AH → Rs (List AV)} {cv cv1 : En → AH → Rs Bool} {elt tg1 iter1 : Expr} {ifs ifs1 : List Expr} {pc : Pos} (l : Lc2Ok G n N sc scope own own1 tgt sk evs cv sk1 evs1 tgt1 cv1 ev elt tg iter ifs tg1 iter1 ifs1) (hx : N[i]? = some x) (hl : sc.names.lookup x = some .local)
    (hs : ∀ env : Env, env.scope = sc → swapsWith (.ListComp elt [⟨tg, iter, ifs, 0⟩, ⟨tg1, iter1, ifs1, 0⟩] scope pc) (some (.Name x px)) pos.line env = pure true) :
    SSf G n N sc (fun e h => ofE e (lc2Ev (own.map (·.2)) own1 tgt sk evs cv sk1 evs1 tgt1 cv1 ev e h) fun v h1 => .nx (e.set i (some v)) h1) (.Assign [.Name x px] (.ListComp elt [⟨tg, iter, ifs, 0⟩, ⟨tg1, iter1, ifs1, 0⟩] scope pc) pos) := fun X o fk =>
  ⟨_, ps_setLc2 o.calm (by rw [o.N]; exact o.nd) (by rw [o.N]; exact hx) (by rw [o.sc]; exact hl) (hs _ o.sc) (l.src.pi o) (l.bo o) l.in1 (fun s H C cl fp => pg_t (o.blk (blkK_n l.blk) s H C cl fp) (fnk_blk o s H C cl fp) l.tg) (fun s H C cl fp => l.cond.pts (o.blk (blkK_n l.blk) s H C cl fp))
      (fun s H C cl fp => l.src1.pi (o.blk (blkK_n l.blk) s H C cl fp)) (fun s H C cl fp => pg_t (o.blk (blkK_n l.blk) s H C cl fp) (fnk_blk o s H C cl fp) l.tg1) (fun s H C cl fp => l.cond1.pts (o.blk (blkK_n l.blk) s H C cl fp)) (fun s H C cl fp => l.elt.pe (o.blk (blkK_n l.blk) s H C cl fp)) (plain_fold l.it) (fun env => plain_fold l.it1),
    fun env h ι σ H D s hr g => l.read s hr (g.ofE.imp fun v h1 ι1 H1 e1 k1 r1 o1 g1 => GS.nx g1 r1 ((s.ext e1).set o1))⟩
theorem sole_tup {es : List Expr} {k : Nat} {p : Pos} {l : Nat} {env : Env} : swapsWithSole [.Tuple es k p] a l env = pure false := by
  cases a <;> rfl
theorem sole_sub {o i : Expr} {p : Pos} {l : Nat} {env : Env} : swapsWithSole [.Subscript o i p] a l env = pure false := by
  cases a <;> rfl
/-- (a, b, ..) = e -/
theorem ss_asg {is : List Nat} {es : List Expr} {k : Nat} {p : Pos} (ht : chkT N sc sc (.tp is) (.Tuple es k p) = true) (hw : ∀ env : Env, env.scope = sc → swappedStores [.Tuple es k p] a env = pure none) (ha : SEf G n N sc ev a) :
    SSf G n N sc (fun e h => ofE e (ev e h) fun v h1 => match bindT (.tp is) h1 (.one v) e with
    | some e1 => .nx e1 h1
    | none => .no) (.Assign [.Tuple es k p] a pos) := fun X o fk => by
  obtain ⟨ta, pa, qa⟩ := ha X o
  refine ⟨_, ps_asg pa (pg_t o fk ht) sole_tup (hw _ o.sc) rfl, fun env h ι σ H D s hr g => qa env h ι σ H _ s hr (g.ofE.imp fun v h1 ι1 H1 e1 k1 r1 o1 g1 => ?_)⟩
  cases eb : bindT (.tp is) h1 (.one v) env with
  | none => rw [eb] at g1; exact False.elim g1
  | some e2 =>
    rw [eb] at g1
    exact ⟨env, h1, ι1, .one v, H1, e2, s.ext e1, r1, ⟨rfl, rfl⟩, o1, eb, fun σ' s' _ => GS.nx g1 r1 s'⟩
theorem ss_sub {oe ie : Expr} {p : Pos} (hp : plainE ie = true) (ha : SEf G n N sc ev a) (ho : SEf G n N sc ev1 oe) (hi : SEf G n N sc ev2 ie) :
    SSf G n N sc (fun e h => ofE e (ev e h) fun v h1 => ofE e (ev1 e h1) fun x h2 => ofE e (ev2 e h2) fun y h3 => match setA h3 x y v with
    | some h4 => .nx e h4
    | none => .no) (.Assign [.Subscript oe ie p] a pos) := fun X o fk => by
  obtain ⟨ta, pa, qa⟩ := ha X o
  obtain ⟨to, po, qo⟩ := ho X o
  obtain ⟨ti, pi, qi⟩ := hi X o
  refine ⟨_, ps_asg pa (pg_sub po pi (PSet.or set_list (set_dict (by have := o.hu; omega))) (by intro v; cases ie <;> first | rfl | cases hp)) sole_sub rfl rfl, fun env h ι σ H D s hr g => qa env h ι σ H _ s hr (g.ofE.imp fun v h1 ι1 H1 e1 k1 r1 o1 g1 => ?_)⟩
  refine qo env h1 ι1 σ H1 _ (s.ext e1) r1 (g1.ofE.imp fun x h2 ι2 H2 e2 k2 r2 o2 g2 => ?_)
  refine qi env h2 ι2 σ H2 _ ((s.ext e1).ext e2) r2 (g2.ofE.imp fun y h3 ι3 H3 e3 k3 r3 o3 g3 => ?_)
  cases es : setA h3 x y v with
  | none => rw [es] at g3; exact False.elim g3
  | some h4 =>
    rw [es] at g3
    rw [← vT_ext o1 (e2.trans e3), ← vT_ext o2 e3]
    exact set_at r3 (o2.ext e3) o3 (o1.ext (e2.trans e3)) es fun H' r' k' => g3 ι3 H' σ (List.prefix_refl _) k' r' (((s.ext e1).ext e2).ext e3)
theorem ss_aug {op : BOp} (hx : chkNm N sc sc i x = true) (ha : SEf G n N sc ev a) : SSf G n N sc (fun e h => match (e[i]?).getD none with
    | some x => ofE e (ev e h) fun y h1 => ofE e (augA op h1 x y) fun v h2 => .nx (e.set i (some v)) h2
    | none => .no) (.AugAssign (.Name x px) (opM op) a pos) := fun X o fk => by
  obtain ⟨ta, pa, qa⟩ := ha X o
  obtain ⟨h1, h2⟩ := nm_parts hx
  obtain ⟨r, po, qo⟩ := aug_ok (X := X) (G := G) op
  refine ⟨_, ps_aug (ti := r) (by rw [o.N]; exact o.nd) (by rw [o.N]; exact h1) (by rw [o.sc]; exact loc_of h2) pa (fun pins s σ H x y v u Q I rx ry q => po pins s σ H x y v u Q I rx ry q) (fk x h2), fun env h ι σ H D s hr g => ?_⟩
  dsimp only at g
  cases ee : env[i]? with
  | none => rw [ee] at g; exact False.elim g
  | some w =>
    cases w with
    | none => rw [ee] at g; exact False.elim g
    | some w =>
      rw [ee] at g
      obtain ⟨s1, s2⟩ := s.2 i w ee
      refine ⟨_, s2, qa env h ι σ H _ s hr ((GS.ofE g).imp fun y h1 ι1 H1 e1 k1 r1 o1 g1 => ?_)⟩
      rw [← vT_ext s1 e1]
      exact qo ι1 h1 H1 w y _ r1 (s1.ext e1) o1 (g1.ofE.imp fun v h2 ι2 H2 e2 k2 r2 o2 g2 => GS.nx g2 r2 (((s.ext e1).ext e2).set o2))
/-! ### loops -/
theorem passes_nox {X : Cx} (o : XO G n N sc X) : PassesOwn (model X.prog X.w) X.A X.env X.xe := by
  rw [o.xe]
  exact PassesOwn.never
theorem ss_for {t : Tg} {sk : Sk} {evs : En → AH → Rs (List AV)} {sb : En → AH → Rt} {body : List Stmt} (hsrc : SIf G n N sc sk evs tg iter) (ht : chkT N sc sc t tg = true) (hb : SBf G n N sc sb body) (hp : plainE iter = true) :
    SSf G n N sc (fun e h => ofE e (evs e h) fun xs h1 => match srcA sk h1 xs with
    | some it => forL it.ck (fun v e1 h2 => match bindT t h2 v e1 with
        | some e2 => sb e2 h2
        | none => .no) it.turns e h1
    | none => .no) (.For tg iter body [] pos) := fun X o fk => by
  obtain ⟨wi, pw, qw⟩ := hsrc X o
  obtain ⟨tb, pb, qb⟩ := hb X o fk
  refine ⟨_, ps_for (passes_nox o) o.calm pw (pg_t o fk ht) pb (plain_fold hp), fun env h ι σ H D s hr g => qw env h ι σ H _ s hr (g.ofE.imp fun xs h1 ι1 H1 e1 k1 r1 o1 g1 => ?_)⟩
  cases es : srcA sk h1 xs with
  | none => rw [es] at g1; exact False.elim g1
  | some it =>
    rw [es] at g1
    refine ⟨it, rfl, fun J io => ?_⟩
    obtain ⟨Gp, Y, w, g3, y3⟩ := io.ex
    have ckOf : ∀ {f : Tv → En → AH → Rt} {ts : List Tv} {e : En} {hh : AH} {ι : List Addr} {H : Hp}, GS G (forL it.ck f ts e hh) ι H D → it.ck hh = true := fun {f ts e hh ι H} g => by
      cases ts with
      | nil =>
        unfold forL at g
        split at g
        · assumption
        · exact False.elim g
      | cons a b =>
        unfold forL at g
        split at g
        · assumption
        · exact False.elim g
    refine for_it w (fun i σ H => ∃ ιi hi envi, ι1 <+: ιi ∧ HR G ιi hi H ∧ SR G ιi envi σ ∧ GS G (forL it.ck (fun v e1 h2 => match bindT t h2 v e1 with
        | some e2 => sb e2 h2
        | none => .no) (it.turns.drop i) envi hi) ιi H D) ?_ ?_ ?_ ?_
    · exact ⟨ι1, h1, env, List.prefix_refl _, r1, s.ext e1, g1⟩
    · rintro i σ H hi ⟨ιi, hh, envi, ee, rr, ss, gg⟩
      exact g3 ιi hh H ee rr (ckOf gg)
    · rintro i x σi Hi H' hi ⟨ιi, hh, envi, ee, rr, ss, gg⟩ y
      obtain ⟨tv, et, ed⟩ := drop_get hi
      have ot := io.ok tv (List.mem_of_getElem? et)
      have tr := (y3 i Hi x H' tv y et).ext ot ee
      obtain ⟨rr1, kk1, _⟩ := tr.stay rr
      rw [ed] at gg
      have ck := ckOf gg
      unfold forL at gg
      rw [if_pos ck] at gg
      cases eb : bindT t hh tv envi with
      | none => rw [eb] at gg; exact False.elim gg
      | some e2 =>
        rw [eb] at gg
        refine ⟨envi, hh, ιi, tv, Hi, e2, ss, rr1, tr, ot.ext ee, eb, fun σ' s' _ => ?_⟩
        refine qb e2 hh ιi σ' H' _ s' rr1 (GS.turn (GS.shift gg (List.prefix_refl _) kk1) fun e3 h3 ι3 H3 σ3 x3 k3 r3 s3 g5 => ⟨ι3, h3, e3, ee.trans x3, r3, s3, g5⟩)
    · rintro σi Hi ⟨ιi, hh, envi, ee, rr, ss, gg⟩
      rw [List.drop_length] at gg
      have ck := ckOf gg
      unfold forL at gg
      rw [if_pos ck] at gg
      exact GS.nx gg rr ss
theorem ss_whl {tv : En → AH → Rs Bool} {sb : En → AH → Rt} {body : List Stmt} {W : Nat} (hc : STf G n N sc tv c) (hb : SBf G n N sc sb body) : SSf G n N sc (fun e h => whlL tv sb W e h) (.While c body [] pos) := fun X o fk => by
  obtain ⟨tc, pc, qc⟩ := hc X o
  obtain ⟨tb, pb, qb⟩ := hb X o fk
  refine ⟨_, ps_while (passes_nox o) pc pb, fun env h ι σ H D s hr g => ⟨fun m σ H => ∃ env h ι, SR G ι env σ ∧ HR G ι h H ∧ GS G (whlL tv sb m env h) ι H D, ⟨W, env, h, ι, s, hr, g⟩, ?_⟩⟩
  rintro m σ H ⟨env, h, ι, s, hr, g⟩
  cases m with
  | zero => exact False.elim g
  | succ m =>
    unfold whlL at g
    refine qc env h ι σ H _ s hr ?_
    cases et : tv env h with
    | exc _ _ _ => rw [et] at g; exact False.elim g
    | no => rw [et] at g; exact False.elim g
    | ok b h1 =>
      rw [et] at g
      intro ι1 H1 e1 k1 r1 _
      cases b with
      | false => exact GS.nx (GS.shift (r := .nx env h1) g e1 k1) r1 (s.ext e1)
      | true =>
        refine ⟨fun σ' H' => ∃ env h ι, SR G ι env σ' ∧ HR G ι h H' ∧ GS G (whlL tv sb m env h) ι H' D, fun σ' H' q => ⟨m, Nat.lt_succ_self _, q⟩, ?_⟩
        exact qb env h1 ι1 σ H1 _ (s.ext e1) r1 (GS.turn (GS.shift g e1 k1) fun e3 h3 ι3 H3 σ3 x3 k3 r3 s3 g5 => ⟨e3, h3, ι3, s3, r3, g5⟩)
end
end EV

/-! EvQ: stores exchanged, stores within a comprehension's frame. -/
namespace EV
open PySem PySem.Spec PyProof.Rows L2
/-! ### when the stores are exchanged -/
def nameOn (sc : Scope) (line : Nat) : Expr → Bool
  | .Name x p => decide (sc.names.lookup x = some .local) && (p.line == line)
  | _ => false
def noStar : Expr → Bool
  | .Starred _ _ => false
  | _ => true
def isFn (sc : Scope) : Bool := match sc.kind with
  | .function => true
  | _ => false
theorem isFn_of {sc : Scope} (h : isFn sc = true) : sc.kind = .function := by
  unfold isFn at h
  split at h
  · assumption
  · cases h
def par2 (sc : Scope) (x y : Str) (px py : Pos) (a b : Expr) : Bool :=
  isFn sc && decide (sc.names.lookup x = some .local) && decide (sc.names.lookup y = some .local) && (py.line == px.line) && decide (x ≠ y) && plainE a && plainE b && !([a, b].all (foldedForSure 8)) && !([a, b].all (constantsAlone 8))
theorem plain_noStar {a : Expr} (h : plainE a = true) : (match a with | .Starred .. => true | _ => false) = false := by
  cases a <;> first | rfl | cases h
theorem sw_gen {ts vs : List Expr} {names : List Str} {kt k2 : Nat} {pt p2 : Pos} {env : Env} (h1 : (!(ts.length == 2 || ts.length == 3) || vs.length != ts.length || env.blockKind != .function) = false) (h2 : ∀ e ∈ vs, plainE e = true)
    (h3 : (ts.filterMap fun
    | .Name id pos => if env.kindOf id == some .local && pos.line == (ts.head?.map (·.pos.line)).getD 0 then some id else none
    | _ => none) = names) (h4 : (names.length != ts.length || names.eraseDups.length != names.length) = false) (h5 : vs.all (foldedForSure 8) = false) (h6 : vs.all (constantsAlone 8) = false) :
    swappedStores [.Tuple ts kt pt] (.Tuple vs k2 p2) env = pure (some names) := by
  unfold swappedStores
  have e1 : (vs.any fun | .Starred .. => true | _ => false) = false := by
    rw [List.any_eq_false]
    intro e m
    have h := h2 e m
    cases e <;> first | exact Bool.false_ne_true | cases h
  subst h3
  refine (if_neg fun z => Bool.false_ne_true (h1.symm.trans z)).trans ?_
  refine (if_neg fun z => Bool.false_ne_true (e1.symm.trans z)).trans ?_
  refine (if_neg fun z => Bool.false_ne_true (h4.symm.trans z)).trans ?_
  refine (if_neg fun z => Bool.false_ne_true (h5.symm.trans z)).trans ?_
  exact (if_neg fun z => Bool.false_ne_true (h6.symm.trans z)).trans rfl
def parOk (sc : Scope) (xs : List (Str × Pos)) (es : List Expr) : Bool :=
  isFn sc && (xs.length == 2 || xs.length == 3) && (es.length == xs.length) && plains es && (xs.all fun x => decide (sc.names.lookup x.1 = some .local) && (x.2.line == (xs.head?.map (·.2.line)).getD 0)) && ((xs.map (·.1)).eraseDups.length == xs.length) &&
  !(es.all (foldedForSure 8)) && !(es.all (constantsAlone 8))
theorem plains_mem : ∀ {es : List Expr}, plains es = true → ∀ e ∈ es, plainE e = true
  | [], _, _, m => by cases m
  | e :: es, h, x, m => by
    have h' : plainE e = true ∧ plains es = true := by simpa [plains] using h
    rcases List.mem_cons.mp m with z | m
    · rw [z]
      exact h'.1
    · exact plains_mem h'.2 x m
theorem fm_names {env : Env} {l : Nat} : ∀ (xs : List (Str × Pos)), (∀ x ∈ xs, env.kindOf x.1 = some .local ∧ (x.2.line == l) = true) → ((xs.map fun x => Expr.Name x.1 x.2).filterMap fun
    | .Name id pos => if env.kindOf id == some .local && pos.line == l then some id else none
    | _ => none) = xs.map (·.1)
  | [], _ => rfl
  | x :: xs, h => by
    obtain ⟨a, b⟩ := h x List.mem_cons_self
    rw [List.map_cons, List.filterMap_cons]
    have e : (if (env.kindOf x.1 == some .local && x.2.line == l) = true then some x.1 else none) = some x.1 := by
      rw [a, b]
      rfl
    have ih := fm_names xs fun y m => h y (List.mem_cons_of_mem _ m)
    simp only [e, ih]
    rfl
theorem sw_par {sc : Scope} {xs : List (Str × Pos)} {es : List Expr} {kt k2 : Nat} {pt p2 : Pos} {env : Env} (he : env.scope = sc) (h : parOk sc xs es = true) :
    swappedStores [.Tuple (xs.map fun x => .Name x.1 x.2) kt pt] (.Tuple es k2 p2) env = pure (some (xs.map (·.1))) := by
  subst he
  unfold parOk at h
  simp only [Bool.and_eq_true, Bool.not_eq_true', List.all_eq_true, decide_eq_true_eq] at h
  obtain ⟨⟨⟨⟨⟨⟨⟨h0, h1⟩, h2⟩, h3⟩, h4⟩, h5⟩, h6⟩, h7⟩ := h
  have hb : env.blockKind = .function := by unfold Env.blockKind; rw [isFn_of h0]; rfl
  have hd : ((xs.map fun x => Expr.Name x.1 x.2).head?.map (·.pos.line)).getD 0 = (xs.head?.map (·.2.line)).getD 0 := by
    cases xs <;> rfl
  refine sw_gen ?_ (plains_mem h3) ?_ ?_ (by rw [← Bool.not_eq_true, List.all_eq_true]; simpa using h6) (by rw [← Bool.not_eq_true, List.all_eq_true]; simpa using h7)
  · rw [hb, List.length_map, h1]
    simp only [beq_iff_eq] at h2
    rw [h2]
    simp
  · rw [hd]
    exact fm_names xs h4
  · simp only [beq_iff_eq] at h5
    rw [h5]
    simp
def swB (sc scope : Scope) (y : Str) (py pc : Pos) : Bool := decide (sc.names.lookup y = some .local) && (py.line == pc.line) && !(scope.names.any fun (n, k) => n == y && (k == .local || k == .cell))
theorem sw_lc {sc scope : Scope} {elt : Expr} {gs : List Comprehension} {pc py : Pos} {y : Str} {l : Nat} {env : Env} (he : env.scope = sc) (hf : isFn sc = true) : swapsWith (.ListComp elt gs scope pc) (some (.Name y py)) l env = pure (swB sc scope y py pc) := by
  subst he
  have hb : env.blockKind = .function := by unfold Env.blockKind; rw [isFn_of hf]; rfl
  unfold swapsWith swB
  simp only [hb, Expr.pos]
  have e : (env.kindOf y == some NameKind.local) = decide (env.scope.names.lookup y = some .local) := by
    show (env.scope.names.lookup y == some NameKind.local) = _
    by_cases h : env.scope.names.lookup y = some .local
    · rw [h]; rfl
    · rw [decide_eq_false h]
      exact beq_eq_false_iff_ne.mpr h
  rw [e]
  rfl
section
variable {G : Gc} {n : Nat} {N : List Str} {sc scope : Scope} {e a b c tg iter : Expr} {ev ev1 ev2 : En → AH → Rs AV} {pos : Pos} {i : Nat} {x : Str} {px : Pos}
def parEv (is : List Nat) (evs : En → AH → Rs (List AV)) : En → AH → Rt := fun e h => ofE e (evs e h) fun vs h1 => match setMany e is vs with
  | some e1 => .nx e1 h1
  | none => .no
theorem ss_par2 {evs : En → AH → Rs (List AV)} {i j : Nat} {x y : Str} {px py pt p2 : Pos} {kt k2 : Nat} (hi : N[i]? = some x) (hj : N[j]? = some y) (hij : i ≠ j) (hp : parOk sc [(x, px), (y, py)] [a, b] = true) (hs : SAf G n N sc evs [a, b]) :
    SSf G n N sc (parEv [i, j] evs) (.Assign [.Tuple [.Name x px, .Name y py] kt pt] (.Tuple [a, b] k2 p2) pos) := fun X o fk => by
  obtain ⟨ts, ps, qs⟩ := hs X o
  have hl : sc.names.lookup x = some .local ∧ sc.names.lookup y = some .local := by
    have h := hp
    unfold parOk at h
    simp only [Bool.and_eq_true, List.all_cons, List.all_nil, decide_eq_true_eq] at h
    exact ⟨h.1.1.1.2.1.1, h.1.1.1.2.2.1.1⟩
  refine ⟨_, ps_par o.calm (by rw [o.N]; exact o.nd) (by rw [o.N]; exact hi) (by rw [o.N]; exact hj) hij (by rw [o.sc]; exact hl.1) (by rw [o.sc]; exact hl.2) ps (sw_par (xs := [(x, px), (y, py)]) o.sc hp), fun env h ι σ H D s hr g => ?_⟩
  refine qs env h ι σ H _ s hr ((GS.ofE g).imp fun vs h1 ι1 H1 e1 k1 r1 o1 g1 => ?_)
  cases vs with
  | nil => exact False.elim g1
  | cons v vs =>
    cases vs with
    | nil => exact False.elim g1
    | cons w vs =>
      cases vs with
      | cons _ _ => exact False.elim g1
      | nil => exact ⟨_, _, rfl, GS.nx g1 r1 (((s.ext e1).set (o1 v List.mem_cons_self)).set (o1 w (List.mem_cons_of_mem _ List.mem_cons_self)))⟩
theorem ss_par3 {evs : En → AH → Rs (List AV)} {i j l : Nat} {x y z : Str} {px py pz pt p2 : Pos} {kt k2 : Nat} (hi : N[i]? = some x) (hj : N[j]? = some y) (hk : N[l]? = some z) (hij : i ≠ j) (hil : i ≠ l) (hjl : j ≠ l) (hp : parOk sc [(x, px), (y, py), (z, pz)] [a, b, c] = true) (hs : SAf G n N sc evs [a, b, c]) :
    SSf G n N sc (parEv [i, j, l] evs) (.Assign [.Tuple [.Name x px, .Name y py, .Name z pz] kt pt] (.Tuple [a, b, c] k2 p2) pos) := fun X o fk => by
  obtain ⟨ts, ps, qs⟩ := hs X o
  have hl : sc.names.lookup x = some .local ∧ sc.names.lookup y = some .local ∧ sc.names.lookup z = some .local := by
    have h := hp
    unfold parOk at h
    simp only [Bool.and_eq_true, List.all_cons, List.all_nil, decide_eq_true_eq] at h
    exact ⟨h.1.1.1.2.1.1, h.1.1.1.2.2.1.1, h.1.1.1.2.2.2.1.1⟩
  refine ⟨_, ps_par3 o.calm (by rw [o.N]; exact o.nd) (by rw [o.N]; exact hi) (by rw [o.N]; exact hj) (by rw [o.N]; exact hk) hij hil hjl (by rw [o.sc]; exact hl.1) (by rw [o.sc]; exact hl.2.1) (by rw [o.sc]; exact hl.2.2) ps (sw_par (xs := [(x, px), (y, py), (z, pz)]) o.sc hp), fun env h ι σ H D s hr g => ?_⟩
  refine qs env h ι σ H _ s hr ((GS.ofE g).imp fun vs h1 ι1 H1 e1 k1 r1 o1 g1 => ?_)
  cases vs with
  | nil => exact False.elim g1
  | cons v vs =>
    cases vs with
    | nil => exact False.elim g1
    | cons w vs =>
      cases vs with
      | nil => exact False.elim g1
      | cons u vs =>
        cases vs with
        | cons _ _ => exact False.elim g1
        | nil => exact ⟨_, _, _, rfl, GS.nx g1 r1 ((((s.ext e1).set (o1 v List.mem_cons_self)).set (o1 w (List.mem_cons_of_mem _ List.mem_cons_self))).set (o1 u (List.mem_cons_of_mem _ (List.mem_cons_of_mem _ List.mem_cons_self))))⟩
end
end EV

/-! EvUa: lambdas without parameters, handed to a def: made, and called. -/
namespace EV
open PySem PySem.Spec PyProof.Rows L2
/-- how a def's lambdas are named -/
def lamQ (X : Cx) : Str := X.env.qual ++ "<lambda>"
/-- the lambda's function lies at f, its code object at c' -/
def FunO (X : Cx) (pr : Arguments) (b : Expr) (ls : Scope) (f c' : Addr) : Heap → Prop := fun hp => ∃ pm ctv, hp.get? f = some (PySem.W.kla_obj "<lambda>" (lamQ X) pr b ls (cloFrom X.env.cells ls.names []) pm c' ctv)
/-- tables stay but for what is put behind -/
def LamTo (X : Cx) (T : List (Addr × Str)) (pr : Arguments) (b : Expr) (ls : Scope) (H : Hp) (Q : VK) : Prop :=
  ∀ (f c' : Addr) (H1 : Hp), LamX.ExtN H H1 → LamX.Tabs T H1 → H1 c' = some (LamX.CodeO c' (lamQ X)) → H1 f = none → Q (.ref f) (upd H1 f (.ext (FunO X pr b ls f c')))
section
variable {X : Cx} {pins : List (Addr × Obj)} {σ : L2.St} {H : Hp} {s : Shared}
theorem funO_stays {pr : Arguments} {b : Expr} {ls : Scope} {f c' : Addr} {h1 h2 : Heap} (a : FunO X pr b ls f c' h1) (k : ∀ o, h1.get? f = some o → h2.get? f = some o) : FunO X pr b ls f c' h2 := by
  obtain ⟨pm, ctv, e⟩ := a
  exact ⟨pm, ctv, k _ e⟩
/-- the function laid, behind whatever was laid ahead of it -/
theorem lam_laid {pr : Arguments} {b : Expr} {ls : Scope} {c' : Addr} {pm ctv : Value} {hp : Heap} {tk tk' : Nat} {H1 : Hp} (I : Inv X pins σ H1 { s with heap := hp, toks := tk }) :
    Inv X pins σ (upd H1 hp.objs.size (.ext (FunO X pr b ls hp.objs.size c'))) { s with heap := hp.push (PySem.W.kla_obj "<lambda>" (lamQ X) pr b ls (cloFrom X.env.cells ls.names []) pm c' ctv), toks := tk' } := by
  have at0 : (hp.push (PySem.W.kla_obj "<lambda>" (lamQ X) pr b ls (cloFrom X.env.cells ls.names []) pm c' ctv)).get? hp.objs.size = some (PySem.W.kla_obj "<lambda>" (lamQ X) pr b ls (cloFrom X.env.cells ls.names []) pm c' ctv) := Heap.get?_push_size _ rfl
  exact Inv.laid (s := { s with heap := hp, toks := tk }) (t' := tk') I (fun d u e => Heap.get?_push_of_some _ e) (Nat.le_refl _) ⟨⟨pm, ctv, at0⟩, ⟨_, at0⟩, fun h1 h2 a k => funO_stays a k⟩
/-- a lambda as an expression -/
theorem pe_lam {T : List (Addr × Str)} {c P : Addr} {pr : Arguments} {b : Expr} {ls : Scope} {pos : Pos} (TB : LamX.TabB X.base X.mg c P) (hc : X.env.code = .ref c) (hm : (P, lamQ X) ∈ T) (hu : ∀ t ∈ T, t.1 = P → t.2 = lamQ X)
    (hd : defaultsOf pr X.env = ([], [])) (L : LamX.LamS X.env.scope ls) :
    PE X (.Lambda pr b ls pos) (fun _ H Q => LamX.Tabs T H ∧ LamTo X T pr b ls H Q) := by
  refine ⟨fun pins s σ H Q I ⟨hT, q⟩ => PySem.W.kla_eval hd ?_⟩
  obtain ⟨ps, gP, tri, all⟩ := hT _ hm
  have oP : s.heap.get? P = some { cls := .none, data := .fields ps } := I.hok P _ gP
  have bP : s.heap.BuiltinsAt X.mg P := TB.bm.keeps I.bk
  have head : s.heap.Ns mainGlobals X.mg := I.mod.glob.keeps I.bk
  cases found : codeAmong pos ps.toList with
  | some cv =>
    obtain ⟨c', ec, co⟩ := all pos cv found
    subst ec
    refine PySem.W.kla_makeFunctionHit (c := c) (P := P) (mg := X.mg) (ps := ps) (closure_ok (LamX.LamS.has L I.ok)) I.ok.glob head hc (TB.code.keeps I.bk) oP tri found bP fun ctv hp tk kp sz => ?_
    have J : Inv X pins σ H { s with heap := hp, toks := tk } := I.kept (t' := tk) fun d u e => kp d u e
    exact ⟨.ref hp.objs.size, _, lam_laid (tk' := tk) J, rfl, q _ c' H (LamX.ExtN.refl H) hT co (J.hok.fresh (Nat.le_refl _))⟩
  | none =>
    refine PySem.W.kla_makeFunction (c := c) (P := P) (mg := X.mg) (ps := ps) (closure_ok (LamX.LamS.has L I.ok)) I.ok.glob head hc (TB.code.keeps I.bk) oP tri found TB.gP bP fun c' ctv hp tk but new lt rec tab => ?_
    obtain ⟨c2, oc, vs, t, z, g1, g2, g3⟩ := rec
    cases z
    have nC : H c' = none := I.hok.fresh new
    have J := LamX.inv_table (t' := tk) (more := #[rawInt pos.line, rawInt pos.col, .ref c']) (h' := hp) (q := lamQ X) I gP (fun d u ne e => but d u ne e) tab new ⟨oc, vs, t, g1, g2, g3⟩
    have grow : LamX.ExtN H (upd (upd H P (.tbl (ps ++ #[rawInt pos.line, rawInt pos.col, .ref c']))) c' (LamX.CodeO c' (lamQ X))) := fun d u e ne => by
      have d1 : d ≠ c' := ne_of_none e nC
      have d2 : d ≠ P := fun z => by
        subst z
        exact ne ps (Option.some.inj (e.symm.trans gP))
      rw [upd_ne d1, upd_ne d2]
      exact e
    refine ⟨.ref hp.objs.size, _, lam_laid (tk' := tk) J, rfl, q _ c' _ grow (fun t ht => ?_) upd_same (J.hok.fresh (Nat.le_refl _))⟩
    by_cases tp : t.1 = P
    · rw [tp, hu t ht tp]
      have el : (ps ++ #[rawInt pos.line, rawInt pos.col, .ref c']).toList = ps.toList ++ [rawInt pos.line, rawInt pos.col, .ref c'] := by simp
      refine ⟨ps ++ #[rawInt pos.line, rawInt pos.col, .ref c'], by rw [upd_ne (ne_of_none gP nC), upd_same], by rw [el]; exact PySem.TriplesOk_snoc _ _ _ _ tri, fun p' cv e => ?_⟩
      rw [el] at e
      rcases LamX.among_app _ tri e with e | e
      · obtain ⟨c0, e1, e2⟩ := all p' cv e
        exact ⟨c0, e1, grow _ _ e2 LamX.codeO_ne⟩
      · exact ⟨c', e, upd_same⟩
    · obtain ⟨ps', a1, a2, a3⟩ := hT t ht
      refine ⟨ps', by rw [upd_ne (ne_of_none a1 nC), upd_ne tp]; exact a1, a2, fun p' cv e => ?_⟩
      obtain ⟨c0, e1, e2⟩ := a3 p' cv e
      exact ⟨c0, e1, grow _ _ e2 LamX.codeO_ne⟩
/-- a call of a def, what happens told of the very state -/
theorem pe_callI {x : Str} {g : Addr} {e : Expr} {es : List Expr} {p pos : Pos} {t : TA} (hg : Gl X x) (hm : X.mg x = some (.ref g)) (hk : PySem.W.keepIn X.K (.ref g) = true) (ha : PA X (e :: es) t) (hd : (x == ("__debug__" : Str)) = false)
    (h1 : starEach (e :: es) X.env = (false, eval e X.env) :: starEach es X.env) (h2 : (backTo pos (starEach es X.env)).any (·.1) = false) :
    PE X (.Call (.Name x p) (e :: es) [] pos) (fun σ H Q => t σ H fun vs H1 => ∀ pins s1 us, Inv X pins σ H1 s1 → Vals vs us → codeAny (model X.prog X.w) X.A (.call (.ref g) ⟨us, []⟩) (CR CX0 X.stack X.prog X.w H1 s1 Q (fun _ _ _ => False)) s1) := by
  refine ⟨fun pins s σ H Q I q => wpAny_Call_Name_kw (ld_glob I hg hm ?_ hd)⟩
  refine PySem.W.callWith_K (h₀ := X.base) I.ok.mod.kin hk (thn (ha.run pos pins s σ H _ I q) fun us s1 ⟨vs, H1, I1, r, q1⟩ => ⟨I1.kIn, ?_⟩) h1 h2
  refine wpAny_call (codeAny_mono (q1 pins s1 us I1 r) fun r s2 hq => ?_)
  cases r with
  | error e => exact (show False from hq).elim
  | ok fl =>
    cases fl with
    | ret u => exact I1.after hq
    | next => exact False.elim hq
    | brk => exact False.elim hq
    | cont => exact False.elim hq
/-- a lambda called, in the def that was handed it -/
theorem pe_act2 {pr : Arguments} {b : Expr} {ls : Scope} {f c' g : Addr} {Ng : List Str} {qg : Str} {sg : Scope} {cdg : Value} {k i : Nat} {a : Str} {tb : TE} {p1 p2 : Pos} (I : Inv X pins σ H s) (L : LamX.LamS X.env.scope ls)
    (hb : ∀ pm ctv, bindArgs (PySem.W.kla_fn "<lambda>" (lamQ X) pr b ls (cloFrom X.env.cells ls.names []) pm (.ref c') ctv) ⟨[], []⟩ = pure []) (hr : Room (k + 1) (X.A.deeper (envOfC qg sg s.heap.objs.size g cdg)))
    (hbody : ∀ (A : Around) (outer : List Env) (s : Shared) (H : Hp), Room k (A.deeper (LamX.lamEnv X ls s.heap.objs.size f c')) → PE (LamX.lamCx X A outer s H (fun _ _ _ => False) ls f c').nox b tb)
    (hN : Ng[i]? = some a) (hv : Vis sg a) (hd : (a == ("__debug__" : Str)) = false) (hcd : (a == ("__classdict__" : Str)) = false) :
    PE (cxOf CX0 X.prog X.w X.K X.mg X.base Ng qg sg g cdg X.A X.stack s H (fun _ _ _ => False)).nox (.Call (.Name a p1) [] [] p2)
      (fun σZ HZ Q => σZ[i]? = some (some (.ref f)) ∧ HZ f = some (.ext (FunO X pr b ls f c')) ∧ HZ c' = some (LamX.CodeO c' (lamQ X)) ∧ tb σ HZ Q) := by
  refine ⟨fun pinsZ sZ σZ HZ Q IZ ⟨h1, h2, h3, h4⟩ => wpAny_Call_Name_kw (thn ((pe_var (pos := p1) (i := i) hN hv hd hcd).run pinsZ sZ σZ HZ (fun v H1 => v = .ref f ∧ H1 = HZ) IZ ⟨.ref f, h1, rfl, rfl⟩) fun u s1 ⟨v, H1, I1, r1, q1⟩ => ?_)⟩
  obtain ⟨rfl, rfl⟩ := q1
  obtain rfl : u = Value.ref f := r1
  obtain ⟨pm, ctv, of1⟩ := (I1.hok f _ h2).1
  refine PySem.W.callWith_F0 ⟨_, _, _, _, of1⟩ ?_
  have un : Un (frs X.stack) [] H H1 s.heap s1.heap := I1.base
  obtain ⟨⟨oc, vs, t, k1, k2, k3⟩, _, _⟩ := I1.hok c' _ h3
  have run : codeAny (model X.prog X.w) (X.A.deeper (envOfC qg sg s.heap.objs.size g cdg)) (.call (.ref f) ⟨[], []⟩) (CR CX0 (envOfC qg sg s.heap.objs.size g cdg :: X.stack) X.prog X.w H1 s1 Q (fun _ _ _ => False)) s1 := by
    refine PySem.W.kla_callFunE hr.depth of1 rfl L.co L.gen rfl ⟨c', oc, vs, t, rfl, k1, k2, k3⟩ ?_
    rw [hb]
    refine wpAny_pure (wpAny_newFunctionEnv (fun y hy => (L.own y hy).2) (fun y hy => absurd hy (by simp)) (fun hz hns hsb => ⟨I1.nolimit.fresh _ hsb, ?_⟩) L.kind)
    show codeAny _ _ (.expr b (LamX.lamEnv X ls s1.heap.objs.size f c')) _ _
    have kp : ∀ d o, s1.heap.get? d = some o → hz.get? d = some o := fun d o e => hsb.extBut d o (Nat.ne_of_lt (Heap.lt_size e)) (Heap.get?_push_of_some _ e)
    have J : Inv (LamX.lamCx X (X.A.deeper (envOfC qg sg s.heap.objs.size g cdg)) (envOfC qg sg s.heap.objs.size g cdg :: X.stack) s1 H1 (fun _ _ _ => False) ls f c') [] σ H1 { s1 with heap := hz, toks := s1.toks + ([] : List (Str × Value)).length } :=
      LamX.lam_start2 I L I1.env0 hr.hd un hns kp
    refine PySem.W.kla_codeExpr (wpAny_mono ((hbody _ _ s1 H1 (hr.deeper _)).run [] _ _ H1 Q (J.wish _) h4) (fun v s' hq => ?_) fun e s' hq => False.elim hq)
    · obtain ⟨w', H', J', rv, q⟩ := hq
      exact ⟨w', H', J'.os, J'.bare, J'.base, J'.hok, rv, q⟩
  refine wpAny_call (codeAny_mono run fun r s' hq => ?_)
  cases r with
  | error e => exact (show False from hq).elim
  | ok fl =>
    cases fl with
    | ret u => exact I1.after hq
    | next => exact False.elim hq
    | brk => exact False.elim hq
    | cont => exact False.elim hq
end
end EV

/-! EvR: the checker of expressions. -/
namespace EV
open PySem PySem.Spec PyProof.Rows L2
/-- a def's name, its parameters, its calls with keywords -/
structure Dn where
  nm : Str
  ps : List Str
  kws : List (Nat × List Str × List Nat)
  mode : Nat
def ownOf (N : List Str) (own : List Nat) : List (Str × Nat) := own.map fun i => ((N[i]?).getD "", i)
theorem ownOf_snd (N : List Str) (own : List Nat) : (ownOf N own).map (·.2) = own := by
  unfold ownOf
  rw [List.map_map]
  exact List.map_id own
def isTup : Expr → Bool
  | .Tuple _ _ _ => true
  | _ => false
def srcArgs (sc : Scope) (tg : Expr) : Sk → Expr → Option (List Expr)
  | .seq, e => some [e]
  | .range, .Call (.Name x _) [a] [] _ => if (decide (x = "range") && glB sc "range") = true then some [a] else none
  | .range, .Call (.Name x _) [a, b] [] _ => if (decide (x = "range") && glB sc "range") = true then some [a, b] else none
  | .range, .Call (.Name x _) [a, b, c] [] _ => if (decide (x = "range") && glB sc "range") = true then some [a, b, c] else none
  | .enum, .Call (.Name x _) [a] [] _ => if (decide (x = "enumerate") && glB sc "enumerate" && isTup tg) = true then some [a] else none
  | .zip, .Call (.Name x _) [a, b] [] _ => if (decide (x = "zip") && glB sc "zip" && isTup tg) = true then some [a, b] else none
  | _, _ => none
/-- no parameters -/
def prNil : Arguments → Bool
  | ⟨[], [], none, [], [], none, []⟩ => true
  | _ => false
def kwVals (ks : List Keyword) : List Expr := ks.map fun k => k.value
section
variable (D : List Dn) (N : List Str)
mutual
def chkE : Nat → E → Scope → Expr → Bool
  | cl, .bad, _, _ => true
  | cl, .k (.int i), _, .Constant (.int j) _ _ => decide (i = j)
  | cl, .k (.str i), _, .Constant (.str j) _ _ => decide (i = j)
  | cl, .k (.bl i), _, .Constant (.bool j) _ _ => decide (i = j)
  | cl, .k .non, _, .Constant .none _ _ => true
  | cl, .var i _, sc, .Name x _ => decide (N[i]? = some x) && visB sc x && !(x == ("__debug__" : Str)) && !(x == ("__classdict__" : Str))
  | cl, .bin op a b, sc, .BinOp l o r _ => decide (o = opM op) && chkE cl a sc l && chkE cl b sc r
  | cl, .neg a, sc, .UnaryOp .USub x _ => chkE cl a sc x
  | cl, .no a, sc, .UnaryOp .Not x _ => chkE cl a sc x
  | cl, .an a b, sc, .BoolOp .And (x :: y :: []) _ => chkE cl a sc x && chkE cl b sc y
  | cl, .an a b, sc, .BoolOp .And (x :: y :: z :: r) p => chkE cl a sc x && chkE cl b sc (.BoolOp .And (y :: z :: r) p)
  | cl, .orr a b, sc, .BoolOp .Or (x :: y :: []) _ => chkE cl a sc x && chkE cl b sc y
  | cl, .orr a b, sc, .BoolOp .Or (x :: y :: z :: r) p => chkE cl a sc x && chkE cl b sc (.BoolOp .Or (y :: z :: r) p)
  | cl, .ite c a b, sc, .IfExp t x y _ => chkE cl c sc t && chkE cl a sc x && chkE cl b sc y
  | cl, .cmp op a b, sc, .Compare x [o] [y] _ => decide (o = copM op) && plainE y && chkE cl a sc x && chkE cl b sc y
  | cl, .cmp2 op op' a b c, sc, .Compare x [o, o'] [y, z] _ => decide (o = copM op) && decide (o' = copM op') && plainE y && plainE z && chkE cl a sc x && chkE cl b sc y && chkE cl c sc z
  | cl, .ix a b, sc, .Subscript x y _ => plainE y && chkE cl a sc x && chkE cl b sc y
  | cl, .sl a lo hi, sc, .Subscript x (.Slice l h none _) _ => chkE cl a sc x && chkO cl lo sc l && chkO cl hi sc h
  | cl, .rev a, sc, .Subscript x (.Slice none none (some (.UnaryOp .USub (.Constant (.int i) _ _) _)) _) _ => decide (i = 1) && chkE cl a sc x
  | cl, .lst es, sc, .List xs _ => chkEs cl es sc xs
  | cl, .tup es, sc, .Tuple xs _ _ => chkEs cl es sc xs
  | cl, .lstS fs es, sc, .List xs _ => chkFs cl fs es sc xs
  | cl, .lrg1 a, sc, .Call (.Name x _) [.Call (.Name z _) [y] [] _] [] _ => decide (x = "list") && decide (z = "range") && glB sc "list" && glB sc "range" && plainE y && chkE cl a sc y
  | cl, .lrg2 a b, sc, .Call (.Name x _) [.Call (.Name z _) [y, y2] [] _] [] _ => decide (x = "list") && decide (z = "range") && glB sc "list" && glB sc "range" && plainE y && plainE y2 && chkE cl a sc y && chkE cl b sc y2
  | cl, .dnew _, _, .Dict [] [] _ => true
  | cl, .call k es, sc, .Call (.Name x _) xs [] _ => (match D[k]? with
      | some d => decide (x = d.nm)
      | none => false) && glB sc x && !(x == ("__debug__" : Str)) && chkEs cl es sc xs
  | cl, .callk k es ks pm, sc, .Call (.Name x _) xs kws _ => (match D[k]? with
      | some d => decide (x = d.nm) && decide ((xs.length, kwNames kws, pm) ∈ d.kws)
      | none => false) && glB sc x && !(x == ("__debug__" : Str)) && kwAll kws && chkEs cl es sc xs && chkEs cl ks sc (kwVals kws)
  | cl, .app i, sc, .Call (.Name x _) [] [] _ => decide (cl = 1) && decide (N[i]? = some x) && visB sc x && !(x == ("__debug__" : Str)) && !(x == ("__classdict__" : Str))
  | cl, .calll k es ls, sc, .Call (.Name x _) xs [] _ => decide (cl = 2) && (match D[k]? with
      | some d => decide (x = d.nm) && decide (d.mode = 1)
      | none => false) && glB sc x && !(x == ("__debug__" : Str)) && plains xs && decide (0 < ls.length) && chkEs cl es sc (xs.take es.length) && chkLs ls sc (xs.drop es.length)
  | cl, .bi b es, sc, .Call (.Name x _) (y :: xs) [] _ => decide (x = Str.ofString (bNm b)) && glB sc x && chkEs cl es sc (y :: xs)
  | cl, .isi a [u], sc, .Call (.Name x _) [y, .Name z _] [] _ => decide (x = "isinstance") && decide (z = Str.ofString u) && decide (u ∈ tysK) && glB sc "isinstance" && glB sc (Str.ofString u) && plainE y && chkE cl a sc y
  | cl, .isi a ts, sc, .Call (.Name x _) [y, .Tuple es _ _] [] _ => decide (x = "isinstance") && glB sc "isinstance" && tyNames sc ts es && decide (ts.length ≤ 10) && plainE y && chkE cl a sc y
  | cl, .mt m o [], sc, .Call (.Attribute y f apos) [] [] cpos => decide (f = Str.ofString (mNm m)) && mServed m true && baseE y && (apos.endLine == cpos.line) && chkE cl o sc y
  | cl, .mt m o (e :: es), sc, .Call (.Attribute y f apos) (x :: xs) [] cpos => decide (f = Str.ofString (mNm m)) && mServed m false && baseE y && (apos.endLine == cpos.line) && decide ((x :: xs).length < 20) && chkE cl o sc y && chkEs cl (e :: es) sc (x :: xs)
  | cl, .lc own elt tgt sk src cond, sc, .ListComp x [⟨tg, iter, ifs, 0⟩] scope _ => blkK cl N sc scope (ownOf N own) && chkT N (relS scope sc) scope tgt tg && ((slotsT tgt).all fun i => decide (i ∈ own)) && (match srcArgs sc tg sk iter with
      | some xs => chkEs cl src sc xs
      | none => false) && chkC cl cond (relS scope sc) ifs && chkE cl elt (relS scope sc) x
  | cl, .lc2 own own1 elt tgt sk src cond tgt1 sk1 src1 cond1, sc, .ListComp x [⟨tg, iter, ifs, 0⟩, ⟨tg1, iter1, ifs1, 0⟩] scope _ => blkK cl N sc scope (ownOf N own) && chkT N (relS scope sc) scope tgt tg && ((slotsT tgt).all fun i => decide (i ∈ own)) && (match srcArgs sc tg sk iter with
      | some xs => chkEs cl src sc xs
      | none => false) && chkC cl cond (relS scope sc) ifs && chkT N (relS scope sc) scope tgt1 tg1 && ((slotsT tgt1).all fun i => decide (i ∈ own1)) && (own1.all fun i => decide (i ∈ own)) && (match srcArgs (relS scope sc) tg1 sk1 iter1 with
      | some xs => chkEs cl src1 (relS scope sc) xs
      | none => false) && chkC cl cond1 (relS scope sc) ifs1 && chkE cl elt (relS scope sc) x
  | cl, _, _, _ => false
def chkLs : List E → Scope → List Expr → Bool
  | [], _, [] => true
  | p :: ps, sc, .Lambda pr b rs _ :: xs => prNil pr && LamX.lamSB sc rs && chkE 0 p rs b && chkLs ps sc xs
  | _, _, _ => false
def chkO : Nat → Option E → Scope → Option Expr → Bool
  | cl, none, _, none => true
  | cl, some e, sc, some x => chkE cl e sc x
  | cl, _, _, _ => false
def chkC : Nat → Option E → Scope → List Expr → Bool
  | cl, none, _, [] => true
  | cl, some e, sc, [x] => chkE cl e sc x
  | cl, _, _, _ => false
def chkFs : Nat → List Bool → List E → Scope → List Expr → Bool
  | cl, _, [], _, [] => true
  | cl, fs, e :: es, sc, x :: xs => (if fs.headD false = true then (match x with
    | .Starred y _ => chkE cl e sc y
    | _ => false) else plainE x && chkE cl e sc x) && chkFs cl fs.tail es sc xs
  | cl, _, _, _, _ => false
def chkEs : Nat → List E → Scope → List Expr → Bool
  | cl, [], _, [] => true
  | cl, e :: es, sc, x :: xs => plainE x && chkE cl e sc x && chkEs cl es sc xs
  | cl, _, _, _ => false
end
end
end EV

/-! EvS: the checker of expressions is right. -/
namespace EV
open PySem PySem.Spec PyProof.Rows L2
section
variable {G : Gc} {n : Nat} {N : List Str} {sc : Scope} {C : Cs} {x : Expr}
theorem st_bad {e : Expr} : STf G n N sc (fun _ _ => .no) e := fun X o => ⟨_, PT.never, fun _ _ _ _ _ _ _ _ g => g⟩
theorem both {p : E} (he : SEf G n N sc (evE C p) x) (ht : tstE x = true) (hp : evT C p = fun e h => (evE C p e h).bind fun x h1 => tru h1 x) : SEf G n N sc (evE C p) x ∧ STf G n N sc (evT C p) x := by
  refine ⟨he, ?_⟩
  rw [hp]
  exact st_val ht he
theorem evEs_len : ∀ (es : List E), HasLen (evEs C es) es.length
  | [], env, h, xs, h', e => by cases e; rfl
  | p :: ps, env, h, xs, h', e => by
    have e : ((evE C p env h).bind fun x h1 => (evEs C ps env h1).bind fun xs h2 => Rs.ok (x :: xs) h2) = .ok xs h' := e
    cases e1 : evE C p env h with
    | exc _ _ _ => rw [e1] at e; cases e
    | no => rw [e1] at e; cases e
    | ok v h1 =>
      rw [e1] at e
      have e : ((evEs C ps env h1).bind fun xs h2 => Rs.ok (v :: xs) h2) = .ok xs h' := e
      cases e2 : evEs C ps env h1 with
      | exc _ _ _ => rw [e2] at e; cases e
      | no => rw [e2] at e; cases e
      | ok ys h2 =>
        rw [e2] at e
        cases e
        show ys.length + 1 = ps.length + 1
        rw [evEs_len ps env h1 ys h' e2]
/-- what the checker tells of a list -/
structure EsOk (G : Gc) (n : Nat) (N : List Str) (sc : Scope) (C : Cs) (es : List E) (xs : List Expr) : Prop where
  sa : SAf G n N sc (evEs C es) xs
  pl : plains xs = true
  len : es.length = xs.length
  each : ∀ (e : E) (x : Expr), es = [e] → xs = [x] → SEf G n N sc (evE C e) x
  sk : ∀ ks : List Keyword, kwVals ks = xs → SKf G n N sc (evEs C es) ks
  more : ∀ X, XO G n N sc X → ∀ (rest : List Expr) (tr : TA), PA X rest tr → ∃ t, PA X (xs ++ rest) t ∧ ∀ env h ι σ H (Q : List V → Hp → Prop), SR G ι env σ → HR G ι h H → GA G (evEs C es env h) ι H (fun vs _ ι1 H1 => tr σ H1 fun ws H2 => Q (vs.map (vT G ι1) ++ ws) H2) → t σ H Q
theorem src_ok {tg iter : Expr} {sk : Sk} {src : List E} {xs : List Expr} (hB : BltOk G) (ha : srcArgs sc tg sk iter = some xs) (h : EsOk G n N sc C src xs) : SIf G n N sc sk (evEs C src) tg iter ∧ plainE iter = true := by
  have hl : HasLen (evEs C src) xs.length := by rw [← h.len]; exact evEs_len src
  have hp := h.pl
  unfold srcArgs at ha
  split at ha
  · cases ha
    have hlen := h.len
    cases src with
    | nil => cases hlen
    | cons e es =>
      cases es with
      | cons _ _ => cases hlen
      | nil =>
        refine ⟨si_seq (h.each e _ rfl rfl), ?_⟩
        simpa [plains] using hp
  · split at ha
    · rename_i hc
      cases ha
      simp only [Bool.and_eq_true, decide_eq_true_eq] at hc
      obtain ⟨rfl, hg⟩ := hc
      simp only [plains, Bool.and_eq_true] at hp
      exact ⟨si_range1 hB hg hp.1 hl h.sa, rfl⟩
    · cases ha
  · split at ha
    · rename_i hc
      cases ha
      simp only [Bool.and_eq_true, decide_eq_true_eq] at hc
      obtain ⟨rfl, hg⟩ := hc
      simp only [plains, Bool.and_eq_true] at hp
      exact ⟨si_range2 hB hg hp.1 hp.2.1 hl h.sa, rfl⟩
    · cases ha
  · split at ha
    · rename_i hc
      cases ha
      simp only [Bool.and_eq_true, decide_eq_true_eq] at hc
      obtain ⟨rfl, hg⟩ := hc
      simp only [plains, Bool.and_eq_true] at hp
      exact ⟨si_range3 hB hg hp.1 hp.2.1 hp.2.2.1 hl h.sa, rfl⟩
    · cases ha
  · split at ha
    · rename_i hc
      cases ha
      simp only [Bool.and_eq_true, decide_eq_true_eq] at hc
      obtain ⟨⟨rfl, hg⟩, ht⟩ := hc
      simp only [plains, Bool.and_eq_true] at hp
      cases tg <;> first | cases ht; done | skip
      exact ⟨si_enum hB hg hp.1 h.sa, rfl⟩
    · cases ha
  · split at ha
    · rename_i hc
      cases ha
      simp only [Bool.and_eq_true, decide_eq_true_eq] at hc
      obtain ⟨⟨rfl, hg⟩, ht⟩ := hc
      simp only [plains, Bool.and_eq_true] at hp
      cases tg <;> first | cases ht; done | skip
      exact ⟨si_zip hB hg hp.1 hp.2.1 h.sa, rfl⟩
    · cases ha
  · cases ha
theorem kwVals_nil {ks : List Keyword} (h : kwVals ks = []) : ks = [] := by
  unfold kwVals at h
  simpa using h
/-- a def that is handed lambdas -/
def LamOk (G : Gc) (n : Nat) (D : List Dn) (C : Cs) (k : Nat) (x : Str) : Prop :=
  (∀ ls e u vs h, C.cl ls e u k vs h = .no) ∨ ∃ m, n = m + 2 ∧ ∃ (st : Stmt) (g : Addr) (fd : FuncData) (N' ps : List Str) (t : Fd) (W : Nat) (Cl : Cs) (Cr : (Nat → AH → Rs AV) → Cs),
    G.mg x = some (.ref g) ∧ Fun G.K x x st g fd ∧ FnScope N' ps (defScope st) ∧ (∀ (s : Shared) (us : List Value), us.length = ps.length → BindsTo s fd ⟨us, []⟩ (ps.zip us)) ∧ t.np = ps.length ∧ t.ns = N'.length ∧
    (∀ N p sc b, N.Nodup → chkE D N 0 p sc b = true → SEf G.core m N sc (evE Cl p) b) ∧
    (∀ G' : Gc, G'.core = G.core → G'.mode = 1 → SBf G' (m + 1) N' (defScope st) (evSs (Cr G'.app) W t.body) (defBody st)) ∧
    ∀ ls e u vs h, C.cl ls e u k vs h = if vs.length = t.np then retOf (evSs (Cr (appL u (evLs Cl ls e))) W t.body (enOf t.ns vs) h) else .no
/-- the promises of the defs that may be called -/
structure DsOk (G : Gc) (n : Nat) (D : List Dn) (C : Cs) : Prop where
  call : ∀ k d, D[k]? = some d → CallOk G.core n (C.call k) d.nm
  kw : ∀ k d np ks pm, D[k]? = some d → (np, ks, pm) ∈ d.kws → KwOk G.core n (C.call k) d.nm np ks pm
  lam : ∀ k d, D[k]? = some d → d.mode = 1 → LamOk G.core n D C k d.nm
  app : C.app = G.app
variable {D : List Dn}
theorem CallOk.ofCore {Ck : List AV → AH → Rs AV} {x : Str} (h : CallOk G.core n Ck x) : CallOk G n Ck x := ⟨h.ex⟩
theorem KwOk.ofCore {Ck : List AV → AH → Rs AV} {x : Str} {np : Nat} {ks : List Str} {pm : List Nat} (h : KwOk G.core n Ck x np ks pm) : KwOk G n Ck x np ks pm := ⟨h.ex⟩
theorem CallOk.core {Ck : List AV → AH → Rs AV} {x : Str} (h : CallOk G n Ck x) : CallOk G.core n Ck x := ⟨h.ex⟩
theorem KwOk.core {Ck : List AV → AH → Rs AV} {x : Str} {np : Nat} {ks : List Str} {pm : List Nat} (h : KwOk G n Ck x np ks pm) : KwOk G.core n Ck x np ks pm := ⟨h.ex⟩
theorem DsOk.to {G' : Gc} {C' : Cs} (h : DsOk G n D C) (e : G'.core = G.core) (h1 : C'.call = C.call) (h2 : C'.cl = C.cl) (h3 : C'.app = G'.app) : DsOk G' n D C' :=
  ⟨fun k d q => by rw [e, h1]; exact h.call k d q, fun k d np ks pm q m => by rw [e, h1]; exact h.kw k d np ks pm q m, fun k d q m => by
    have z := h.lam k d q m
    rw [e]
    rcases z with z | ⟨m', en, st, g, fd, N', ps, t, W, Cl, Cr, q1, q2, q3, q4, q5, q6, q7, q8, q9⟩
    · exact .inl (by rw [h2]; exact z)
    · exact .inr ⟨m', en, st, g, fd, N', ps, t, W, Cl, Cr, q1, q2, q3, q4, q5, q6, q7, q8, by rw [h2]; exact q9⟩, h3⟩
theorem dbg {x : Str} (h : (!(x == ("__debug__" : Str))) = true) : (x == ("__debug__" : Str)) = false := by
  simpa using h
theorem CondOk.of {cond : Option E} {ifs : List Expr} {rs : Scope} (h : CondOk G n N rs (evC C cond) ifs) : CondOk G n N rs (evC C cond) ifs := h
end
end EV

/-! EvTa: arguments ahead of lambdas; calls of what was handed. -/
namespace EV
open PySem PySem.Spec PyProof.Rows L2
section
variable {G : Gc} {n : Nat} {N : List Str} {sc : Scope} {D : List Dn} {C : Cs}
theorem more_cons {p : E} {ps : List E} {x : Expr} {xs rest : List Expr} {tr : TA} {X : Cx} (hp : plainE x = true) (h1 : SEf G n N sc (evE C p) x) (h2 : ∃ t, PA X (xs ++ rest) t ∧ ∀ env h ι σ H (Q : List V → Hp → Prop), SR G ι env σ → HR G ι h H → GA G (evEs C ps env h) ι H (fun vs _ ι1 H1 => tr σ H1 fun ws H2 => Q (vs.map (vT G ι1) ++ ws) H2) → t σ H Q) (o : XO G n N sc X) :
    ∃ t, PA X (x :: xs ++ rest) t ∧ ∀ env h ι σ H (Q : List V → Hp → Prop), SR G ι env σ → HR G ι h H → GA G (evEs C (p :: ps) env h) ι H (fun vs _ ι1 H1 => tr σ H1 fun ws H2 => Q (vs.map (vT G ι1) ++ ws) H2) → t σ H Q := by
  obtain ⟨ta, pa, qa⟩ := h1 X o
  obtain ⟨ts, ps', qs⟩ := h2
  refine ⟨_, pa_cons pa ps' (plain_star hp), fun env h ι σ H Q s hr g => ?_⟩
  have g : GA G ((evE C p env h).bind fun x h1 => (evEs C ps env h1).bind fun xs h2 => Rs.ok (x :: xs) h2) ι H (fun vs _ ι1 H1 => tr σ H1 fun ws H2 => Q (vs.map (vT G ι1) ++ ws) H2) := g
  refine qa env h ι σ H _ s hr (g.bind.imp fun x h1 ι1 H1 e1 k1 r1 o1 g1 => ?_)
  refine qs env h1 ι1 σ H1 _ (s.ext e1) r1 (g1.bind.imp fun xs h2 ι2 H2 e2 k2 r2 o2 g2 => ?_)
  have := GA.now g2 r2 (fun y m => by
    rcases List.mem_cons.mp m with e | m
    · rw [e]
      exact o1.ext e2
    · exact o2 y m)
  rw [List.map_cons, vT_ext o1 e2] at this
  exact this
theorem se_app {i : Nat} {x : Str} {p pos : Pos} (hm : G.mode = 1) (hA : C.app = G.app) (hN : N[i]? = some x) (hv : visB sc x = true) (hd : (x == ("__debug__" : Str)) = false) (hc : (x == ("__classdict__" : Str)) = false) :
    SEf G n N sc (evE C (.app i)) (.Call (.Name x p) [] [] pos) := fun X o => ⟨_, o.clo hm i x p pos hN (vis_of hv) hd hc, fun env h ι σ H Q s hr g => by
  have g : GA G (match (env[i]?).getD none with
    | some (.ref n) => match h.get n with
      | some (.clo _) => C.app n h
      | _ => .no
    | _ => .no) ι H (fun v _ ι' H' => Q (vT G ι' v) H') := g
  cases ev : env[i]? with
  | none => rw [ev] at g; exact False.elim g
  | some v =>
    rw [ev] at g
    cases v with
    | none => exact False.elim g
    | some v =>
      cases v with
      | ref n =>
        dsimp only [Option.getD_some] at g
        cases eo : h.get n with
        | none => rw [eo] at g; exact False.elim g
        | some ob =>
          rw [eo] at g
          cases ob with
          | clo =>
            dsimp only at g
            rw [hA] at g
            exact ⟨env, h, ι, n, s, ev, hr, g⟩
          | _ => exact False.elim g
      | _ => exact False.elim g⟩
end
end EV

/-! EvTb: lambdas handed to a def. -/
namespace EV
open PySem PySem.Spec PyProof.Rows L2
def CodeP (c : Addr) (q : Str) : Heap → Prop := fun h => ∃ (oc : Obj) (vs : Array Value) (t : Tok), h.get? c = some oc ∧ oc.data = .fields vs ∧ vs[1]? = some (.str q t)
theorem codeP_eq (c : Addr) (q : Str) : LamX.CodeO c q = .ext (CodeP c q) := rfl
theorem prNil_of {pr : Arguments} (h : prNil pr = true) : pr = ⟨[], [], none, [], [], none, []⟩ := by
  unfold prNil at h
  split at h
  · rfl
  · cases h
/-- a written lambda: its body's form, its parameters, its body, its scope -/
structure Lm where
  p : E
  pr : Arguments
  b : Expr
  rs : Scope
  pos : Pos
def Lm.ex (l : Lm) : Expr := .Lambda l.pr l.b l.rs l.pos
def LmOk (D : List Dn) (N : List Str) (sc : Scope) (l : Lm) : Prop := prNil l.pr = true ∧ LamX.LamS sc l.rs ∧ chkE D N 0 l.p l.rs l.b = true
theorem chkLs_of {D : List Dn} {N : List Str} {sc : Scope} : ∀ {ls : List E} {xs : List Expr}, chkLs D N ls sc xs = true → ∃ ms : List Lm, ls = ms.map (·.p) ∧ xs = ms.map Lm.ex ∧ ∀ l ∈ ms, LmOk D N sc l
  | [], [], _ => ⟨[], rfl, rfl, fun _ m => by cases m⟩
  | [], _ :: _, h => by simp [chkLs] at h
  | _ :: _, [], h => by simp [chkLs] at h
  | p :: ps, x :: xs, h => by
    cases x <;> first | (exfalso; simp [chkLs] at h; done) | skip
    rename_i pr b rs pos
    simp only [chkLs, Bool.and_eq_true] at h
    obtain ⟨⟨⟨h1, h2⟩, h3⟩, h4⟩ := h
    obtain ⟨ms, e1, e2, e3⟩ := chkLs_of h4
    refine ⟨⟨p, pr, b, rs, pos⟩ :: ms, by rw [e1]; rfl, by rw [e2]; rfl, fun l m => ?_⟩
    rcases List.mem_cons.mp m with rfl | m
    · exact ⟨h1, LamX.lamS_by h2, h3⟩
    · exact e3 l m
/-- the lambdas made so far, where each one's function and code object lie -/
def Made (X : Cx) (ms : List Lm) (fs : List (Addr × Addr)) (H : Hp) : Prop := ∀ (j : Nat) (l : Lm) (q : Addr × Addr), ms[j]? = some l → fs[j]? = some q → H q.1 = some (.ext (FunO X l.pr l.b l.rs q.1 q.2)) ∧ H q.2 = some (.ext (CodeP q.2 (lamQ X)))
section
variable {G : Gc} {n : Nat} {N : List Str} {sc : Scope} {D : List Dn} {C : Cs} {X : Cx}
theorem hr_grow {ι : List Addr} {h : AH} {H H1 : Hp} (r : HR G ι h H) (e : LamX.ExtN H H1) (t : LamX.Tabs G.tb H1) : HR G ι h H1 ∧ Keep ι H ι H1 := by
  refine ⟨⟨r.len, fun i m a e1 e2 ne => ?_, fun i a ei => ?_, ?_, ⟨fun q m => e _ _ (r.fix.pers q m) fun ps z => (by cases z), t⟩, r.pre⟩, ⟨fun a o h nt na => ⟨e a o h nt, na⟩, fun a P h => e a _ h fun ps z => (by cases z)⟩⟩
  · obtain ⟨xs, hx⟩ := r.inj i m a e1 e2 ne
    exact ⟨xs, e _ _ hx fun ps z => (by cases z)⟩
  · obtain ⟨o, u, h1, h2, h3⟩ := r.at_ i a ei
    refine ⟨o, u, h1, e _ _ h2 fun ps z => ?_, h3⟩
    subst z
    cases o with
    | lst xs => cases h3.1
    | tup xs => cases h3.1
    | dk xs => cases h3.1
    | dt xs => cases h3.1
    | clo e => obtain ⟨P, z⟩ := h3; cases z
  · rcases r.scr with ⟨o, z⟩ | z
    · exact .inl ⟨o, e _ _ z fun ps z => (by cases z)⟩
    · exact .inr z
/-- the lambdas, one behind another -/
theorem pa_lams (o : XO G n N sc X) (hm : G.mode = 2) : ∀ ms : List Lm, (∀ l ∈ ms, LmOk D N sc l) → ∃ t, PA X (ms.map Lm.ex) t ∧ ∀ (en : En) σ H ι h (Q : List V → Hp → Prop), HR G ι h H →
    (∀ (fs : List (Addr × Addr)) H', fs.length = ms.length → HR G (ι ++ fs.map (·.1)) (h.pushL en ms.length) H' → Keep ι H (ι ++ fs.map (·.1)) H' → Made X ms fs H' → Q (fs.map fun q => V.ref q.1) H') → t σ H Q
  | [], _ => ⟨_, pa_nil, fun en σ H ι h Q r q => by
    have := q [] H rfl (by simpa [AH.pushL] using r) (by simpa using Keep.refl ι H) (fun j l q e => by simp at e)
    exact this⟩
  | l :: ms, hl => by
    obtain ⟨t, pt, qt⟩ := pa_lams o hm ms fun m hm => hl m (List.mem_cons_of_mem _ hm)
    obtain ⟨h1, h2, h3⟩ := hl l List.mem_cons_self
    obtain ⟨c, P, k1, k2, k3, k4⟩ := o.cur hm
    have e0 := prNil_of h1
    have L : LamX.LamS X.env.scope l.rs := by rw [o.sc]; exact h2
    refine ⟨_, pa_cons (pe_lam (T := G.tb) (pos := l.pos) k4 k1 k2 k3 (by rw [e0]; rfl) L) pt rfl, fun en σ H ι h Q r q => ⟨r.fix.tabs, fun f c' H1 ex tb hc hf => ?_⟩⟩
    obtain ⟨r1, p1⟩ := hr_grow r ex tb
    obtain ⟨r2, p2⟩ := r1.push (o := .clo en) (u := .ext (FunO X l.pr l.b l.rs f c')) hf ⟨_, rfl⟩
    refine qt en σ _ _ _ _ r2 fun fs H' len r3 p3 md => ?_
    have eA : ι ++ [f] ++ fs.map (·.1) = ι ++ ((f, c') :: fs).map (·.1) := by simp
    rw [eA] at r3 p3
    refine q ((f, c') :: fs) H' (by simp [len]) r3 ((p1.trans p2).trans p3) fun j m w e1 e2 => ?_
    cases j with
    | zero =>
      cases e1
      cases e2
      refine ⟨p3.2 _ _ upd_same, p3.2 _ _ ?_⟩
      rw [upd_ne]
      · exact hc
      · intro z
        have z : c' = f := z
        rw [z, hf] at hc
        cases hc
    | succ j => exact md j m w e1 e2
theorem sr_start {ι : List Addr} {N : List Str} {args : List AV} {ns : Nat} (e : ns = N.length) (o : ∀ x ∈ args, okA ι x) : SR G ι (enOf ns args) (L2.start N (args.map (vT G ι))) := by
  subst e
  unfold enOf L2.start
  refine ⟨by simp, fun i v h => ?_⟩
  by_cases hi : i < args.length
  · rw [List.getElem?_append_left (by rw [List.length_map]; exact hi), List.getElem?_map, List.getElem?_eq_getElem hi] at h
    cases h
    refine ⟨o _ (List.getElem_mem hi), ?_⟩
    rw [List.getElem?_append_left (by rw [List.length_map, List.length_map]; exact hi), List.getElem?_map, List.getElem?_map, List.getElem?_eq_getElem hi]
    rfl
  · rw [List.getElem?_append_right (by rw [List.length_map]; omega), List.getElem?_replicate] at h
    split at h <;> cases h
theorem ret_gs {r : Rt} {ι : List Addr} {H : Hp} {Q : VK} (g : GA G (retOf r) ι H fun v _ ι' H' => Q (vT G ι' v) H') : GS G r ι H { nx := fun _ H' => Q .non H', rt := Q } := by
  cases r with
  | nx e h => exact fun ι' H' σ' e' p' hr s => g ι' H' e' p' hr trivial
  | rt v h => exact fun ι' H' e' p' hr o => g ι' H' e' p' hr o
  | bk _ _ => exact False.elim g
  | ct _ _ => exact False.elim g
  | exc _ _ _ _ => exact g
  | no => exact g
def persL (X : Cx) : List Lm → List (Addr × Addr) → List (Addr × (Heap → Prop))
  | l :: ms, q :: fs => (q.1, FunO X l.pr l.b l.rs q.1 q.2) :: (q.2, CodeP q.2 (lamQ X)) :: persL X ms fs
  | _, _ => []
theorem persL_ok {H : Hp} : ∀ {ms : List Lm} {fs : List (Addr × Addr)}, Made X ms fs H → ∀ q ∈ persL X ms fs, H q.1 = some (.ext q.2)
  | [], _, _, q, m => by cases m
  | _ :: _, [], _, q, m => by cases m
  | l :: ms, w :: fs, md, q, m => by
    obtain ⟨h1, h2⟩ := md 0 l w rfl rfl
    rcases List.mem_cons.mp m with rfl | m
    · exact h1
    · rcases List.mem_cons.mp m with rfl | m
      · exact h2
      · exact persL_ok (fun j l w e1 e2 => md (j + 1) l w e1 e2) q m
theorem persL_mem : ∀ {ms : List Lm} {fs : List (Addr × Addr)} {j : Nat} {l : Lm} {w : Addr × Addr}, ms[j]? = some l → fs[j]? = some w → (w.1, FunO X l.pr l.b l.rs w.1 w.2) ∈ persL X ms fs ∧ (w.2, CodeP w.2 (lamQ X)) ∈ persL X ms fs
  | [], _, j, l, w, e1, _ => by simp at e1
  | _ :: _, [], j, l, w, _, e2 => by simp at e2
  | m :: ms, v :: fs, 0, l, w, e1, e2 => by
    cases e1
    cases e2
    exact ⟨List.mem_cons_self, List.mem_cons_of_mem _ List.mem_cons_self⟩
  | m :: ms, v :: fs, j + 1, l, w, e1, e2 => by
    obtain ⟨h1, h2⟩ := persL_mem (ms := ms) (fs := fs) (j := j) e1 e2
    exact ⟨List.mem_cons_of_mem _ (List.mem_cons_of_mem _ h1), List.mem_cons_of_mem _ (List.mem_cons_of_mem _ h2)⟩
theorem pushL_sz (h : AH) (en : En) : ∀ k, (h.pushL en k).sz = h.sz + k
  | 0 => rfl
  | k + 1 => by
    show ((h.push (.clo en)).pushL en k).sz = h.sz + (k + 1)
    rw [pushL_sz (h.push (.clo en)) en k]
    show h.sz + 1 + k = _
    omega
theorem argL_map {ι : List Addr} (fs : List (Addr × Addr)) {u k : Nat} (hu : u = ι.length) (hk : k = fs.length) : (argL u k).map (vT G (ι ++ fs.map (·.1))) = fs.map fun q => V.ref q.1 := by
  subst hu hk
  unfold argL
  rw [List.map_map]
  refine List.ext_getElem? fun j => ?_
  rw [List.getElem?_map, List.getElem?_map]
  by_cases hj : j < fs.length
  · rw [List.getElem?_range hj, List.getElem?_eq_getElem hj]
    show some (V.ref ((ι ++ fs.map (·.1)).getD (ι.length + j) 0)) = _
    rw [List.getD_eq_getElem?_getD, List.getElem?_append_right (by omega), Nat.add_sub_cancel_left, List.getElem?_map, List.getElem?_eq_getElem hj]
    rfl
  · rw [List.getElem?_eq_none (by simpa using hj), List.getElem?_eq_none (by omega)]
    rfl
theorem lamOk_ofCore {k : Nat} {x : Str} (h : LamOk G.core n D C k x) : LamOk G n D C k x := h
theorem se_calll {k : Nat} {x : Str} {p pos : Pos} {es : List E} {as : List Expr} {ms : List Lm} (hL : LamOk G n D C k x) (hm : G.mode = 2) (hg : glB sc x = true) (hd : (x == ("__debug__" : Str)) = false) (hpl : plains (as ++ ms.map Lm.ex) = true) (hne : 0 < ms.length)
    (ha : EsOk G n N sc C es as) (hl : ∀ l ∈ ms, LmOk D N sc l) : SEf G n N sc (evE C (.calll k es (ms.map (·.p)))) (.Call (.Name x p) (as ++ ms.map Lm.ex) [] pos) := fun X o => by
  have shape : ∀ env h, evE C (.calll k es (ms.map (·.p))) env h = (evEs C es env h).bind fun xs h1 => C.cl (ms.map (·.p)) env h1.sz k (xs ++ argL h1.sz ms.length) (h1.pushL env ms.length) := fun env h => by
    show ((evEs C es env h).bind fun xs h1 => C.cl (ms.map (·.p)) env h1.sz k (xs ++ argL h1.sz (ms.map (·.p)).length) (h1.pushL env (ms.map (·.p)).length)) = _
    rw [List.length_map]
  rcases hL with no | ⟨m, rfl, st, g, fd, N', ps, t, W, Cl, Cr, q1, q2, q3, q4, q5, q6, q7, q8, q9⟩
  · refine ⟨_, PE.never, fun env h ι σ H Q s hr gg => ?_⟩
    rw [shape] at gg
    cases ee : evEs C es env h with
    | ok xs h1 => rw [ee] at gg; rw [show (Rs.ok xs h1).bind (fun xs h1 => C.cl (ms.map (·.p)) env h1.sz k (xs ++ argL h1.sz ms.length) (h1.pushL env ms.length)) = C.cl (ms.map (·.p)) env h1.sz k (xs ++ argL h1.sz ms.length) (h1.pushL env ms.length) from rfl, no] at gg; exact gg
    | exc _ _ _ => rw [ee] at gg; exact gg
    | no => rw [ee] at gg; exact gg
  · obtain ⟨tl, pl, ql⟩ := pa_lams o hm ms hl
    obtain ⟨ta, pa, qa⟩ := ha.more X o _ _ pl
    obtain ⟨oc, od, kV, doc, pm, an, cdv, ct, osl, rfl, lk, hcd⟩ := q2.ex
    obtain ⟨e1, es1, ee1⟩ : ∃ e1 es1, as ++ ms.map Lm.ex = e1 :: es1 := by
      cases hh : as ++ ms.map Lm.ex with
      | nil =>
        have := congrArg List.length hh
        simp only [List.length_append, List.length_map, List.length_nil] at this
        omega
      | cons a b => exact ⟨a, b, rfl⟩
    rw [ee1] at pa hpl ⊢
    have hpl' : plainE e1 = true ∧ plains es1 = true := by simpa [plains] using hpl
    refine ⟨_, pe_callI (show X.env.scope.names.lookup x = _ by rw [o.sc]; exact of_decide_eq_true hg) (by rw [o.mg]; exact q1) (by rw [o.K]; exact q2.kp) pa hd (plain_star hpl'.1) (plains_any hpl'.2), fun env h ι σ H Q s hr gg => ?_⟩
    rw [shape] at gg
    refine qa env h ι σ H _ s hr (gg.bind.imp fun xs h1 ι1 H1 x1 k1 r1 o1 g1 => ?_)
    refine ql env σ H1 ι1 h1 _ r1 fun fs H2 len r2 k2 md pins s2 us I2 rv => ?_
    have elen : h1.sz = ι1.length := r1.len.symm
    have evs : xs.map (vT G ι1) ++ fs.map (fun q => V.ref q.1) = (xs ++ argL h1.sz ms.length).map (vT G (ι1 ++ fs.map (·.1))) := by
      rw [List.map_append, argL_map fs elen len.symm, map_ext o1 (List.prefix_append _ _)]
    rw [evs] at rv
    have g2 := GA.shift (r := C.cl (ms.map (·.p)) env h1.sz k (xs ++ argL h1.sz ms.length) (h1.pushL env ms.length)) g1 (List.prefix_append ι1 (fs.map (·.1))) k2
    rw [q9] at g2
    split at g2
    · rename_i hnp
      have hvl : ((xs ++ argL h1.sz ms.length).map (vT G (ι1 ++ fs.map (·.1)))).length = ps.length := by rw [List.length_map, hnp, q5]
      have hul : us.length = ps.length := by rw [← rv.length]; exact hvl
      let G' : Gc := ⟨G.P, G.w, G.K, G.mg, G.base, G.F, G.sa, appL h1.sz (evLs Cl (ms.map (·.p)) env), ι1 ++ fs.map (·.1), persL X ms fs, G.tb, 1⟩
      have r3 : HR G' (ι1 ++ fs.map (·.1)) (h1.pushL env ms.length) H2 := ⟨r2.len, r2.inj, fun i a e => by
        obtain ⟨ob, u, h1, h2, h3⟩ := r2.at_ i a e
        exact ⟨ob, u, h1, h2, by cases ob <;> exact h3⟩, r2.scr, ⟨persL_ok md, r2.fix.tabs⟩, List.prefix_refl _⟩
      have oks : ∀ x ∈ xs ++ argL h1.sz ms.length, okA (ι1 ++ fs.map (·.1)) x := fun x hx => by
        rcases List.mem_append.mp hx with hx | hx
        · exact (o1 x hx).ext (List.prefix_append _ _)
        · obtain ⟨j, hj, rfl⟩ := List.mem_map.mp hx
          have hj' : j < ms.length := by simpa using hj
          show h1.sz + j < (ι1 ++ fs.map (·.1)).length
          rw [List.length_append, List.length_map, len, elen]
          omega
      have xo : XO G' (m + 1) N' (defScope st) (cxOf CX0 X.prog X.w X.K X.mg X.base N' x (defScope st) g cdv X.A X.stack s2 H2 (fun _ _ _ => False)).nox := {
        cur := fun z => (by cases z)
        clo := fun _ i a p1 p2 hN hv hdb hcb => ⟨fun pinsZ sZ σZ HZ QZ IZ hh => by
          obtain ⟨env', h', ι2, nn, s', ei, hr', ga⟩ := hh
          have ga : GA G' (if h1.sz ≤ nn then match (evLs Cl (ms.map (·.p)) env)[nn - h1.sz]? with
            | some f => f h'
            | none => .no
            else .no) ι2 HZ (fun v _ ι' H' => QZ (vT G' ι' v) H') := ga
          split at ga
          · rename_i hle
            have eget : (evLs Cl (ms.map (·.p)) env)[nn - h1.sz]? = (ms[nn - h1.sz]?).map fun l => evE Cl l.p env := by
              unfold evLs
              rw [List.map_map, List.getElem?_map]
              rfl
            rw [eget] at ga
            cases el : ms[nn - h1.sz]? with
            | none => rw [el] at ga; exact False.elim ga
            | some l =>
              rw [el] at ga
              have ga : GA G' (evE Cl l.p env h') ι2 HZ (fun v _ ι' H' => QZ (vT G' ι' v) H') := ga
              have hj : nn - h1.sz < fs.length := by
                rw [len]
                exact (List.getElem?_eq_some_iff.mp el).1
              have ew := List.getElem?_eq_getElem hj
              obtain ⟨m1, m2⟩ := persL_mem (X := X) el ew
              obtain ⟨w1, w2, w3⟩ := hl l (List.mem_iff_getElem?.mpr ⟨_, el⟩)
              have slot : σZ[i]? = some (some (.ref fs[nn - h1.sz].1)) := by
                obtain ⟨_, z⟩ := s'.2 i _ ei
                have z : σZ[i]? = some (some (.ref (ι2.getD nn 0))) := z
                rw [z]
                have pre : ι1 ++ fs.map (·.1) <+: ι2 := hr'.pre
                obtain ⟨tl, rfl⟩ := pre
                rw [List.getD_eq_getElem?_getD, List.getElem?_append_left (by rw [List.length_append, List.length_map]; omega), List.getElem?_append_right (by omega), List.getElem?_map, ← elen, ew]
                rfl
              have L : LamX.LamS X.env.scope l.rs := by rw [o.sc]; exact w2
              have e0 := prNil_of w1
              refine (pe_act2 (k := m) (f := fs[nn - h1.sz].1) (c' := fs[nn - h1.sz].2) (pr := l.pr) (b := l.b) (ls := l.rs) (tb := TEv G.core (evE Cl l.p)) I2 L (fun pm ctv => by rw [e0]; rfl) (o.hr.deeper _) (fun A outer sL HL rr => (q7 N l.p l.rs l.b o.nd w3).pe ?_) hN hv hdb hcb).run pinsZ sZ σZ HZ QZ IZ ⟨slot, hr'.fix.pers _ m1, hr'.fix.pers _ m2, env, h', ι2, ?_, hr'.core, ?_⟩
              · exact {
                  cur := fun z => (by cases z)
                  clo := fun z => (by cases z)
                  prog := o.prog, w := o.w, K := o.K, mg := o.mg, base := o.base, calm := rfl, nd := o.nd, N := o.N, sc := rfl, hr := rr, xe := rfl }
              · have pre : ι1 ++ fs.map (·.1) <+: ι2 := hr'.pre
                have s4 := s.ext (x1.trans ((List.prefix_append ι1 (fs.map (·.1))).trans pre))
                refine ⟨s4.1, fun i v e => ?_⟩
                obtain ⟨a, b⟩ := s4.2 i v e
                exact ⟨a, by rw [vT_core]; exact b⟩
              · have := GA.core hr' ga
                refine this.imp fun v h ι H _ _ _ _ q => ?_
                rw [vT_core]
                exact q
          · exact False.elim ga⟩
        prog := o.prog, w := o.w, K := o.K, mg := o.mg, base := o.base, calm := rfl, nd := q3.nd, N := rfl, sc := rfl, hr := o.hr.deeper _, xe := rfl }
      obtain ⟨tb, pb, qb⟩ := q8 G' rfl rfl _ xo (fun x _ => .inl rfl)
      refine LamX.run_ofS (CX := CX0) (N := N') (ps := ps) (k := m + 1) (by rw [o.K]; exact lk) (by rw [o.K]; exact hcd) q3 o.hr I2.env0 (q4 s2 us hul) rv hvl fun hr' => ⟨tb, pb.nox, ?_⟩
      refine qb (enOf t.ns (xs ++ argL h1.sz ms.length)) (h1.pushL env ms.length) (ι1 ++ fs.map (·.1)) _ H2 _ (sr_start (G := G') q6 oks) r3 (ret_gs ?_)
      have gc := GA.core (G := G) r2 g2
      exact GA.ofCore (G := G') gc
    · exact False.elim g2
end
end EV

/-! EvT: the checker of expressions is right: the recursion. -/
namespace EV
open PySem PySem.Spec PyProof.Rows L2
section
variable {G : Gc} {n : Nat} {N : List Str} {D : List Dn} {C : Cs}
abbrev EOk (G : Gc) (n : Nat) (N : List Str) (C : Cs) (p : E) (sc : Scope) (x : Expr) : Prop := SEf G n N sc (evE C p) x ∧ STf G n N sc (evT C p) x
theorem ok_k {c : AV} {sc : Scope} {x : Expr} (h : chkE D N G.mode (.k c) sc x = true) : EOk G n N C (.k c) sc x := by
  cases x <;> first | (exfalso; revert h; cases c <;> exact Bool.false_ne_true) | skip
  rename_i v j p
  cases c with
  | int i =>
    cases v <;> first | (exfalso; exact Bool.false_ne_true h) | skip
    have e : i = _ := of_decide_eq_true h
    subst e
    exact both se_int rfl rfl
  | str i =>
    cases v <;> first | (exfalso; exact Bool.false_ne_true h) | skip
    have e : i = _ := of_decide_eq_true h
    subst e
    exact both se_str rfl rfl
  | bl i =>
    cases v <;> first | (exfalso; exact Bool.false_ne_true h) | skip
    have e : i = _ := of_decide_eq_true h
    subst e
    exact both se_bl rfl rfl
  | non =>
    cases v <;> first | (exfalso; exact Bool.false_ne_true h) | skip
    exact both se_non rfl rfl
  | _ => exfalso; cases v <;> exact Bool.false_ne_true h
variable (hB : BltOk G) (hD : DsOk G n D C)
include hB hD
mutual
theorem chkE_ok : ∀ (p : E) (sc : Scope) (x : Expr), chkE D N G.mode p sc x = true → EOk G n N C p sc x
  | .bad, sc, x, h => ⟨se_bad, st_bad⟩
  | .k c, sc, x, h => ok_k h
  | .glo k, sc, x, h => by exfalso; cases x <;> exact Bool.false_ne_true h
  | .disp ks vs, sc, x, h => by exfalso; cases x <;> exact Bool.false_ne_true h
  | .app i, sc, x, h => by
    cases x <;> first | (exfalso; exact Bool.false_ne_true h) | skip
    rename_i f as ks pos
    cases f <;> first | (exfalso; exact Bool.false_ne_true h) | skip
    cases as <;> first | (exfalso; exact Bool.false_ne_true h) | skip
    cases ks <;> first | (exfalso; exact Bool.false_ne_true h) | skip
    rename_i y p
    have h : (decide (G.mode = 1) && decide (N[i]? = some y) && visB sc y && !(y == ("__debug__" : Str)) && !(y == ("__classdict__" : Str))) = true := h
    simp only [Bool.and_eq_true, decide_eq_true_eq, Bool.not_eq_true'] at h
    obtain ⟨⟨⟨⟨h1, h2⟩, h3⟩, h4⟩, h5⟩ := h
    exact both (se_app h1 hD.app h2 h3 h4 h5) rfl rfl
  | .calll k es ls, sc, x, h => by
    cases x <;> first | (exfalso; exact Bool.false_ne_true h) | skip
    rename_i f as ks pos
    cases f <;> first | (exfalso; exact Bool.false_ne_true h) | skip
    cases ks <;> first | (exfalso; exact Bool.false_ne_true h) | skip
    rename_i y p
    have h : (decide (G.mode = 2) && (match D[k]? with
      | some d => decide (y = d.nm) && decide (d.mode = 1)
      | none => false) && glB sc y && !(y == ("__debug__" : Str)) && plains as && decide (0 < ls.length) && chkEs D N G.mode es sc (as.take es.length) && chkLs D N ls sc (as.drop es.length)) = true := h
    simp only [Bool.and_eq_true, decide_eq_true_eq, Bool.not_eq_true'] at h
    obtain ⟨⟨⟨⟨⟨⟨⟨h1, h2⟩, h3⟩, h4⟩, h5⟩, h6⟩, h7⟩, h8⟩ := h
    cases ed : D[k]? with
    | none => rw [ed] at h2; cases h2
    | some d =>
      rw [ed] at h2
      simp only [Bool.and_eq_true, decide_eq_true_eq] at h2
      obtain ⟨rfl, hd1⟩ := h2
      obtain ⟨ms, e1, e2, e3⟩ := chkLs_of h8
      have ha := chkEs_ok es sc _ h7
      have ea : as = as.take es.length ++ ms.map Lm.ex := by rw [← e2]; exact (List.take_append_drop _ _).symm
      have hl : 0 < ms.length := by rw [e1, List.length_map] at h6; exact h6
      rw [e1]
      rw [ea] at h5 ⊢
      exact both (se_calll (lamOk_ofCore (hD.lam k d ed hd1)) h1 h3 h4 h5 hl ha e3) rfl rfl
  | .var i m, sc, x, h => by
    cases x <;> first | (exfalso; exact Bool.false_ne_true h) | skip
    have h : (decide (N[i]? = some _) && visB sc _ && !(_ == ("__debug__" : Str)) && !(_ == ("__classdict__" : Str))) = true := h
    simp only [Bool.and_eq_true, decide_eq_true_eq, Bool.not_eq_true'] at h
    obtain ⟨⟨⟨h1, h2⟩, h3⟩, h4⟩ := h
    exact both (se_var h1 h2 h3 h4) rfl rfl
  | .bin op a b, sc, x, h => by
    cases x <;> first | (exfalso; exact Bool.false_ne_true h) | skip
    rename_i l o r p
    have h : (decide (o = opM op) && chkE D N G.mode a sc l && chkE D N G.mode b sc r) = true := h
    simp only [Bool.and_eq_true, decide_eq_true_eq] at h
    obtain ⟨⟨rfl, h1⟩, h2⟩ := h
    exact both (se_bin (chkE_ok a sc l h1).1 (chkE_ok b sc r h2).1) rfl rfl
  | .neg a, sc, x, h => by
    cases x <;> first | (exfalso; exact Bool.false_ne_true h) | skip
    rename_i o y p
    cases o <;> first | (exfalso; exact Bool.false_ne_true h) | skip
    exact both (se_neg (chkE_ok a sc y h).1) rfl rfl
  | .no a, sc, x, h => by
    cases x <;> first | (exfalso; exact Bool.false_ne_true h) | skip
    rename_i o y p
    cases o <;> first | (exfalso; exact Bool.false_ne_true h) | skip
    exact ⟨se_no (chkE_ok a sc y h).1, st_no (chkE_ok a sc y h).2⟩
  | .an a b, sc, x, h => by
    cases x <;> first | (exfalso; exact Bool.false_ne_true h) | skip
    rename_i o vs p
    cases o <;> first | (exfalso; exact Bool.false_ne_true h) | skip
    cases vs with
    | nil => exfalso; exact Bool.false_ne_true h
    | cons v vs =>
      cases vs with
      | nil => exfalso; exact Bool.false_ne_true h
      | cons w vs =>
        cases vs with
        | nil =>
          have h : (chkE D N G.mode a sc v && chkE D N G.mode b sc w) = true := h
          rw [Bool.and_eq_true] at h
          have h1 := chkE_ok a sc v h.1
          have h2 := chkE_ok b sc w h.2
          exact ⟨se_an h1.1 (se_one h2.1), st_an h1.2 (st_an1 h2.2)⟩
        | cons u vs =>
          have h : (chkE D N G.mode a sc v && chkE D N G.mode b sc (.BoolOp .And (w :: u :: vs) p)) = true := h
          rw [Bool.and_eq_true] at h
          have h1 := chkE_ok a sc v h.1
          have h2 := chkE_ok b sc _ h.2
          exact ⟨se_an h1.1 h2.1, st_an h1.2 h2.2⟩
  | .orr a b, sc, x, h => by
    cases x <;> first | (exfalso; exact Bool.false_ne_true h) | skip
    rename_i o vs p
    cases o <;> first | (exfalso; exact Bool.false_ne_true h) | skip
    cases vs with
    | nil => exfalso; exact Bool.false_ne_true h
    | cons v vs =>
      cases vs with
      | nil => exfalso; exact Bool.false_ne_true h
      | cons w vs =>
        cases vs with
        | nil =>
          have h : (chkE D N G.mode a sc v && chkE D N G.mode b sc w) = true := h
          rw [Bool.and_eq_true] at h
          have h1 := chkE_ok a sc v h.1
          have h2 := chkE_ok b sc w h.2
          exact ⟨se_orr h1.1 (se_one h2.1), st_or h1.2 (st_or1 h2.2)⟩
        | cons u vs =>
          have h : (chkE D N G.mode a sc v && chkE D N G.mode b sc (.BoolOp .Or (w :: u :: vs) p)) = true := h
          rw [Bool.and_eq_true] at h
          have h1 := chkE_ok a sc v h.1
          have h2 := chkE_ok b sc _ h.2
          exact ⟨se_orr h1.1 h2.1, st_or h1.2 h2.2⟩
  | .ite c a b, sc, x, h => by
    cases x <;> first | (exfalso; exact Bool.false_ne_true h) | skip
    rename_i t y z p
    have h : (chkE D N G.mode c sc t && chkE D N G.mode a sc y && chkE D N G.mode b sc z) = true := h
    simp only [Bool.and_eq_true] at h
    exact ⟨se_ite (chkE_ok c sc t h.1.1).2 (chkE_ok a sc y h.1.2).1 (chkE_ok b sc z h.2).1, st_bad⟩
  | .cmp op a b, sc, x, h => by
    cases x <;> first | (exfalso; exact Bool.false_ne_true h) | skip
    rename_i y os zs p
    cases os with
    | nil => exfalso; exact Bool.false_ne_true h
    | cons o os =>
      cases os with
      | cons _ _ => exfalso; exact Bool.false_ne_true h
      | nil =>
        cases zs with
        | nil => exfalso; exact Bool.false_ne_true h
        | cons z zs =>
          cases zs with
          | cons _ _ => exfalso; exact Bool.false_ne_true h
          | nil =>
            have h : (decide (o = copM op) && plainE z && chkE D N G.mode a sc y && chkE D N G.mode b sc z) = true := h
            simp only [Bool.and_eq_true, decide_eq_true_eq] at h
            obtain ⟨⟨⟨rfl, h1⟩, h2⟩, h3⟩ := h
            exact ⟨se_cmp (chkE_ok a sc y h2).1 (chkE_ok b sc z h3).1 h1, st_cmp (chkE_ok a sc y h2).1 (chkE_ok b sc z h3).1 h1⟩
  | .cmp2 op op' a b c, sc, x, h => by
    cases x <;> first | (exfalso; exact Bool.false_ne_true h) | skip
    rename_i y os zs p
    rcases os with _ | ⟨o, _ | ⟨o', _ | ⟨_, _⟩⟩⟩ <;> rcases zs with _ | ⟨z, _ | ⟨w, _ | ⟨_, _⟩⟩⟩ <;> first | (exfalso; exact Bool.false_ne_true h) | skip
    have h : (decide (o = copM op) && decide (o' = copM op') && plainE z && plainE w && chkE D N G.mode a sc y && chkE D N G.mode b sc z && chkE D N G.mode c sc w) = true := h
    simp only [Bool.and_eq_true, decide_eq_true_eq] at h
    obtain ⟨⟨⟨⟨⟨⟨rfl, rfl⟩, h1⟩, h2⟩, h3⟩, h4⟩, h5⟩ := h
    exact ⟨se_cmp2 (chkE_ok a sc y h3).1 (chkE_ok b sc z h4).1 (chkE_ok c sc w h5).1 h1 h2, st_cmp2 (chkE_ok a sc y h3).1 (chkE_ok b sc z h4).1 (chkE_ok c sc w h5).1 h1 h2⟩
  | .ix a b, sc, x, h => by
    cases x <;> first | (exfalso; exact Bool.false_ne_true h) | skip
    rename_i y z p
    have h : (plainE z && chkE D N G.mode a sc y && chkE D N G.mode b sc z) = true := h
    simp only [Bool.and_eq_true] at h
    exact both (se_ix (chkE_ok a sc y h.1.2).1 (chkE_ok b sc z h.2).1 h.1.1) rfl rfl
  | .sl a lo hi, sc, x, h => by
    cases x <;> first | (exfalso; exact Bool.false_ne_true h) | skip
    rename_i y z p
    cases z <;> first | (exfalso; exact Bool.false_ne_true h) | skip
    rename_i l u st p2
    cases st with
    | some _ => exfalso; exact Bool.false_ne_true h
    | none =>
      have h : (chkE D N G.mode a sc y && chkO D N G.mode lo sc l && chkO D N G.mode hi sc u) = true := h
      simp only [Bool.and_eq_true] at h
      exact both (se_sl (chkE_ok a sc y h.1.1).1 (chkO_ok lo sc l h.1.2) (chkO_ok hi sc u h.2)) rfl rfl
  | .rev a, sc, x, h => by
    cases x <;> first | (exfalso; exact Bool.false_ne_true h) | skip
    rename_i y z p
    cases z <;> first | (exfalso; exact Bool.false_ne_true h) | skip
    rename_i l u st p2
    cases l with
    | some _ => exfalso; exact Bool.false_ne_true h
    | none =>
    cases u with
    | some _ => exfalso; exact Bool.false_ne_true h
    | none =>
    cases st with
    | none => exfalso; exact Bool.false_ne_true h
    | some e =>
    cases e <;> first | (exfalso; exact Bool.false_ne_true h) | skip
    rename_i o v p3
    cases o <;> first | (exfalso; exact Bool.false_ne_true h) | skip
    cases v <;> first | (exfalso; exact Bool.false_ne_true h) | skip
    rename_i c k p4
    cases c <;> first | (exfalso; exact Bool.false_ne_true h) | skip
    rename_i i
    have h : (decide (i = 1) && chkE D N G.mode a sc y) = true := h
    simp only [Bool.and_eq_true, decide_eq_true_eq] at h
    obtain ⟨rfl, h⟩ := h
    exact both (se_rev (chkE_ok a sc y h).1) rfl rfl
  | .lst es, sc, x, h => by
    cases x <;> first | (exfalso; exact Bool.false_ne_true h) | skip
    exact both (se_lst (chkEs_ok es sc _ h).sa) rfl rfl
  | .tup es, sc, x, h => by
    cases x <;> first | (exfalso; exact Bool.false_ne_true h) | skip
    exact both (se_tup (chkEs_ok es sc _ h).sa) rfl rfl
  | .lstS fs es, sc, x, h => by
    cases x <;> first | (exfalso; exact Bool.false_ne_true h) | skip
    exact both (se_lst (chkFs_ok fs es sc _ h)) rfl rfl
  | .lrg1 a, sc, x, h => by
    cases x <;> first | (exfalso; exact Bool.false_ne_true h) | skip
    rename_i f as ks pos
    cases f <;> first | (exfalso; exact Bool.false_ne_true h) | skip
    rename_i x px
    cases as <;> first | (exfalso; exact Bool.false_ne_true h) | skip
    rename_i y0 as0
    cases y0 <;> first | (exfalso; exact Bool.false_ne_true h) | skip
    rename_i f2 as2 ks2 pos2
    cases f2 <;> first | (exfalso; exact Bool.false_ne_true h) | skip
    rename_i z pz
    cases as2 <;> first | (exfalso; exact Bool.false_ne_true h) | skip
    rename_i y as3
    cases as3 <;> first | (exfalso; exact Bool.false_ne_true h) | skip
    cases ks2 <;> first | (exfalso; exact Bool.false_ne_true h) | skip
    cases as0 <;> first | (exfalso; exact Bool.false_ne_true h) | skip
    cases ks <;> first | (exfalso; exact Bool.false_ne_true h) | skip
    have h : (decide (x = "list") && decide (z = "range") && glB sc "list" && glB sc "range" && plainE y && chkE D N G.mode a sc y) = true := h
    simp only [Bool.and_eq_true, decide_eq_true_eq] at h
    obtain ⟨⟨⟨⟨⟨rfl, rfl⟩, h3⟩, h4⟩, h5⟩, h6⟩ := h
    exact both (se_lrg1 hB h3 h4 h5 (chkE_ok a sc y h6).1) rfl rfl
  | .lrg2 a b, sc, x, h => by
    cases x <;> first | (exfalso; exact Bool.false_ne_true h) | skip
    rename_i f as ks pos
    cases f <;> first | (exfalso; exact Bool.false_ne_true h) | skip
    rename_i x px
    cases as <;> first | (exfalso; exact Bool.false_ne_true h) | skip
    rename_i y0 as0
    cases y0 <;> first | (exfalso; exact Bool.false_ne_true h) | skip
    rename_i f2 as2 ks2 pos2
    cases f2 <;> first | (exfalso; exact Bool.false_ne_true h) | skip
    rename_i z pz
    cases as2 <;> first | (exfalso; exact Bool.false_ne_true h) | skip
    rename_i y as3
    cases as3 <;> first | (exfalso; exact Bool.false_ne_true h) | skip
    rename_i y2 as3
    cases as3 <;> first | (exfalso; exact Bool.false_ne_true h) | skip
    cases ks2 <;> first | (exfalso; exact Bool.false_ne_true h) | skip
    cases as0 <;> first | (exfalso; exact Bool.false_ne_true h) | skip
    cases ks <;> first | (exfalso; exact Bool.false_ne_true h) | skip
    have h : (decide (x = "list") && decide (z = "range") && glB sc "list" && glB sc "range" && plainE y && plainE y2 && chkE D N G.mode a sc y && chkE D N G.mode b sc y2) = true := h
    simp only [Bool.and_eq_true, decide_eq_true_eq] at h
    obtain ⟨⟨⟨⟨⟨⟨⟨rfl, rfl⟩, h3⟩, h4⟩, h5⟩, h5'⟩, h6⟩, h7⟩ := h
    exact both (se_lrg2 hB h3 h4 h5 h5' (chkE_ok a sc y h6).1 (chkE_ok b sc y2 h7).1) rfl rfl
  | .dnew t, sc, x, h => by
    cases x <;> first | (exfalso; exact Bool.false_ne_true h) | skip
    rename_i ks vs p
    cases ks with
    | cons _ _ => exfalso; exact Bool.false_ne_true h
    | nil =>
      cases vs with
      | cons _ _ => exfalso; exact Bool.false_ne_true h
      | nil => exact both se_dnew rfl rfl
  | .call k es, sc, x, h => by
    cases x <;> first | (exfalso; exact Bool.false_ne_true h) | skip
    rename_i f xs kws p
    cases f <;> first | (exfalso; exact Bool.false_ne_true h) | skip
    rename_i f pf
    cases kws with
    | cons _ _ => exfalso; exact Bool.false_ne_true h
    | nil =>
    have h : ((match D[k]? with
      | some d => decide (f = d.nm)
      | none => false) && glB sc f && !(f == ("__debug__" : Str)) && chkEs D N G.mode es sc xs) = true := h
    simp only [Bool.and_eq_true, Bool.not_eq_true'] at h
    obtain ⟨⟨⟨h1, h2⟩, h3⟩, h4⟩ := h
    have hs := chkEs_ok es sc xs h4
    cases ed : D[k]? with
    | none => rw [ed] at h1; cases h1
    | some d =>
      rw [ed] at h1
      have ef : f = d.nm := of_decide_eq_true h1
      subst ef
      have hC := (hD.call k d ed).ofCore
      cases xs with
      | nil =>
        cases es with
        | cons _ _ => exact absurd hs.len (by simp)
        | nil => exact both (se_call0 hC h2 h3) rfl rfl
      | cons y ys => exact both (se_call hC h2 h3 hs.pl hs.sa) rfl rfl
  | .callk k es ks pm, sc, x, h => by
    cases x <;> first | (exfalso; exact Bool.false_ne_true h) | skip
    rename_i f xs kws p
    cases f <;> first | (exfalso; exact Bool.false_ne_true h) | skip
    rename_i f pf
    have h : ((match D[k]? with
      | some d => decide (f = d.nm) && decide ((xs.length, kwNames kws, pm) ∈ d.kws)
      | none => false) && glB sc f && !(f == ("__debug__" : Str)) && kwAll kws && chkEs D N G.mode es sc xs && chkEs D N G.mode ks sc (kwVals kws)) = true := h
    simp only [Bool.and_eq_true, Bool.not_eq_true'] at h
    obtain ⟨⟨⟨⟨⟨h1, h2⟩, h3⟩, h4⟩, h5⟩, h6⟩ := h
    have hs := chkEs_ok es sc xs h5
    have hk := chkEs_ok ks sc _ h6
    cases ed : D[k]? with
    | none => rw [ed] at h1; cases h1
    | some d =>
      rw [ed] at h1
      simp only [Bool.and_eq_true, decide_eq_true_eq] at h1
      obtain ⟨rfl, hm⟩ := h1
      have hC := (hD.kw k d _ _ _ ed hm).ofCore
      have hl : ks.length = kws.length := by rw [hk.len]; unfold kwVals; rw [List.length_map]
      cases xs with
      | nil =>
        cases es with
        | cons _ _ => exact absurd hs.len (by simp)
        | nil => exact both (se_callk0 hC h2 h3 h4 hl (hk.sk kws rfl)) rfl rfl
      | cons y ys => exact both (se_callk hC h2 h3 hs.pl h4 hs.len hl hs.sa (hk.sk kws rfl)) rfl rfl
  | .bi b es, sc, x, h => by
    cases x <;> first | (exfalso; exact Bool.false_ne_true h) | skip
    rename_i f xs kws p
    cases f <;> first | (exfalso; exact Bool.false_ne_true h) | skip
    rename_i f pf
    cases xs with
    | nil => exfalso; exact Bool.false_ne_true h
    | cons y ys =>
    cases kws with
    | cons _ _ => exfalso; exact Bool.false_ne_true h
    | nil =>
    have h : (decide (f = Str.ofString (bNm b)) && glB sc f && chkEs D N G.mode es sc (y :: ys)) = true := h
    simp only [Bool.and_eq_true, decide_eq_true_eq] at h
    obtain ⟨⟨h1, h2⟩, h3⟩ := h
    have hs := chkEs_ok es sc _ h3
    exact both (se_bi hB h1 h2 hs.pl hs.sa) rfl rfl
  | .isi a ts, sc, x, h => by
    cases x <;> first | (exfalso; revert h; rcases ts with _ | ⟨u, _ | ⟨_, _⟩⟩ <;> exact Bool.false_ne_true) | skip
    rename_i f xs kws p
    cases f <;> first | (exfalso; revert h; rcases ts with _ | ⟨u, _ | ⟨_, _⟩⟩ <;> exact Bool.false_ne_true) | skip
    rename_i f pf
    rcases xs with _ | ⟨y, _ | ⟨z, _ | ⟨y3, y4⟩⟩⟩ <;> first | (exfalso; revert h; rcases ts with _ | ⟨u, _ | ⟨_, _⟩⟩ <;> exact Bool.false_ne_true) | skip
    rotate_left
    · exfalso
      revert h
      rcases ts with _ | ⟨u, _ | ⟨_, _⟩⟩ <;> cases z <;> exact Bool.false_ne_true
    cases z <;> first | (exfalso; revert h; rcases ts with _ | ⟨u, _ | ⟨_, _⟩⟩ <;> exact Bool.false_ne_true) | skip
    · rename_i z pz
      rcases ts with _ | ⟨u, _ | ⟨_, _⟩⟩ <;> first | (exfalso; exact Bool.false_ne_true h) | skip
      cases kws with
      | cons _ _ => exfalso; exact Bool.false_ne_true h
      | nil =>
      have h : (decide (f = "isinstance") && decide (z = Str.ofString u) && decide (u ∈ tysK) && glB sc "isinstance" && glB sc (Str.ofString u) && plainE y && chkE D N G.mode a sc y) = true := h
      simp only [Bool.and_eq_true, decide_eq_true_eq] at h
      obtain ⟨⟨⟨⟨⟨⟨rfl, rfl⟩, h1⟩, h2⟩, h3⟩, h4⟩, h5⟩ := h
      exact both (se_isi1 hB h1 h2 h3 h4 (chkE_ok a sc y h5).1) rfl rfl
    · rename_i es kk pz
      cases kws with
      | cons _ _ => exfalso; revert h; rcases ts with _ | ⟨u, _ | ⟨_, _⟩⟩ <;> exact Bool.false_ne_true
      | nil =>
      have h : (decide (f = "isinstance") && glB sc "isinstance" && tyNames sc ts es && decide (ts.length ≤ 10) && plainE y && chkE D N G.mode a sc y) = true := by
        rcases ts with _ | ⟨u, _ | ⟨_, _⟩⟩ <;> exact h
      simp only [Bool.and_eq_true, decide_eq_true_eq] at h
      obtain ⟨⟨⟨⟨⟨rfl, h1⟩, h2⟩, h3⟩, h4⟩, h5⟩ := h
      exact both (se_isi hB h1 h2 h3 h4 (chkE_ok a sc y h5).1) rfl rfl
  | .mt m o es, sc, x, h => by
    cases x <;> first | (exfalso; revert h; cases es <;> exact Bool.false_ne_true) | skip
    rename_i f xs kws p
    cases f <;> first | (exfalso; revert h; cases es <;> exact Bool.false_ne_true) | skip
    rename_i y f apos
    cases kws with
    | cons _ _ => exfalso; revert h; cases es <;> cases xs <;> exact Bool.false_ne_true
    | nil =>
    cases es with
    | nil =>
      cases xs with
      | cons _ _ => exfalso; exact Bool.false_ne_true h
      | nil =>
        have h : (decide (f = Str.ofString (mNm m)) && mServed m true && baseE y && (apos.endLine == p.line) && chkE D N G.mode o sc y) = true := h
        simp only [Bool.and_eq_true, decide_eq_true_eq] at h
        obtain ⟨⟨⟨⟨rfl, h1⟩, h2⟩, h3⟩, h4⟩ := h
        exact both (se_mt0 h1 h2 h3 (chkE_ok o sc y h4).1) rfl rfl
    | cons e es =>
      cases xs with
      | nil => exfalso; exact Bool.false_ne_true h
      | cons z zs =>
        have h : (decide (f = Str.ofString (mNm m)) && mServed m false && baseE y && (apos.endLine == p.line) && decide ((z :: zs).length < 20) && chkE D N G.mode o sc y && chkEs D N G.mode (e :: es) sc (z :: zs)) = true := h
        simp only [Bool.and_eq_true, decide_eq_true_eq] at h
        obtain ⟨⟨⟨⟨⟨⟨rfl, h1⟩, h2⟩, h3⟩, h4⟩, h5⟩, h6⟩ := h
        have hs := chkEs_ok (e :: es) sc (z :: zs) h6
        refine both (se_mt h1 hs.pl h4 h2 h3 (chkE_ok o sc y h5).1 hs.sa fun env h xs h' q => ?_) rfl rfl
        have l := evEs_len (e :: es) env h xs h' q
        cases xs with
        | nil => exact absurd l (by simp)
        | cons _ _ => rfl
  | .lc own elt tgt sk src cond, sc, x, h => by
    cases x <;> first | (exfalso; exact Bool.false_ne_true h) | skip
    rename_i x gs scope p
    rcases gs with _ | ⟨⟨tg, iter, ifs, as_⟩, _ | ⟨g2, gs⟩⟩
    · exfalso; exact Bool.false_ne_true h
    · rcases as_ with (_ | m) | m
      · have h : (blkK G.mode N sc scope (ownOf N own) && chkT N (relS scope sc) scope tgt tg && ((slotsT tgt).all fun i => decide (i ∈ own)) && (match srcArgs sc tg sk iter with
          | some xs => chkEs D N G.mode src sc xs
          | none => false) && chkC D N G.mode cond (relS scope sc) ifs && chkE D N G.mode elt (relS scope sc) x) = true := h
        simp only [Bool.and_eq_true, List.all_eq_true, decide_eq_true_eq] at h
        obtain ⟨⟨⟨⟨⟨h1, h2⟩, h3⟩, h4⟩, h5⟩, h6⟩ := h
        cases es : srcArgs sc tg sk iter with
        | none => rw [es] at h4; cases h4
        | some xs =>
          rw [es] at h4
          obtain ⟨s1, s2⟩ := src_ok hB es (chkEs_ok src sc xs h4)
          refine both ?_ rfl rfl
          have e : evE C (.lc own elt tgt sk src cond) = lcEv ((ownOf N own).map (·.2)) tgt sk (evEs C src) (evC C cond) (evE C elt) := by
            rw [ownOf_snd]
            rfl
          rw [e]
          exact se_lc ⟨h1, s1, h2, by rw [ownOf_snd]; exact h3, chkC_ok cond _ _ h5, (chkE_ok elt _ _ h6).1, s2⟩
      · exfalso; exact Bool.false_ne_true h
      · exfalso; exact Bool.false_ne_true h
    · exfalso
      rcases as_ with (_ | m) | m <;> exact Bool.false_ne_true h
  | .lc2 own own1 elt tgt sk src cond tgt1 sk1 src1 cond1, sc, x, h => by
    cases x <;> first | (exfalso; exact Bool.false_ne_true h) | skip
    rename_i x gs scope p
    rcases gs with _ | ⟨⟨tg, iter, ifs, as_⟩, _ | ⟨⟨tg1, iter1, ifs1, as1⟩, _ | ⟨g2, gs⟩⟩⟩
    · exfalso; exact Bool.false_ne_true h
    · exfalso
      rcases as_ with (_ | m) | m <;> exact Bool.false_ne_true h
    · rcases as_ with (_ | m) | m <;> rcases as1 with (_ | m1) | m1 <;> first | (exfalso; exact Bool.false_ne_true h) | skip
      have h : (blkK G.mode N sc scope (ownOf N own) && chkT N (relS scope sc) scope tgt tg && ((slotsT tgt).all fun i => decide (i ∈ own)) && (match srcArgs sc tg sk iter with
      | some xs => chkEs D N G.mode src sc xs
      | none => false) && chkC D N G.mode cond (relS scope sc) ifs && chkT N (relS scope sc) scope tgt1 tg1 && ((slotsT tgt1).all fun i => decide (i ∈ own1)) && (own1.all fun i => decide (i ∈ own)) && (match srcArgs (relS scope sc) tg1 sk1 iter1 with
      | some xs => chkEs D N G.mode src1 (relS scope sc) xs
      | none => false) && chkC D N G.mode cond1 (relS scope sc) ifs1 && chkE D N G.mode elt (relS scope sc) x) = true := h
      simp only [Bool.and_eq_true, List.all_eq_true, decide_eq_true_eq] at h
      obtain ⟨⟨⟨⟨⟨⟨⟨⟨⟨⟨h1, h2⟩, h3⟩, h4⟩, h5⟩, h6⟩, h7⟩, h8⟩, h9⟩, h10⟩, h11⟩ := h
      cases es : srcArgs sc tg sk iter with
      | none => rw [es] at h4; cases h4
      | some xs =>
      cases es1 : srcArgs (relS scope sc) tg1 sk1 iter1 with
      | none => rw [es1] at h9; cases h9
      | some xs1 =>
        rw [es] at h4
        rw [es1] at h9
        obtain ⟨s1, s2⟩ := src_ok hB es (chkEs_ok src sc xs h4)
        obtain ⟨s3, s4⟩ := src_ok hB es1 (chkEs_ok src1 _ xs1 h9)
        refine both ?_ rfl rfl
        have e : evE C (.lc2 own own1 elt tgt sk src cond tgt1 sk1 src1 cond1) = lc2Ev ((ownOf N own).map (·.2)) own1 tgt sk (evEs C src) (evC C cond) sk1 (evEs C src1) tgt1 (evC C cond1) (evE C elt) := by
          rw [ownOf_snd]
          rfl
        rw [e]
        exact se_lc2 ⟨h1, s1, h2, by rw [ownOf_snd]; exact h3, chkC_ok cond _ _ h5, s3, h6, h7, by rw [ownOf_snd]; exact h8, chkC_ok cond1 _ _ h10, (chkE_ok elt _ _ h11).1, s2, s4⟩
    · exfalso
      rcases as_ with (_ | m) | m <;> rcases as1 with (_ | m1) | m1 <;> exact Bool.false_ne_true h
theorem chkO_ok : ∀ (p : Option E) (sc : Scope) (x : Option Expr), chkO D N G.mode p sc x = true → SOf G n N sc (evO C p) x
  | none, sc, none, h => so_none
  | some p, sc, some x, h => so_some (chkE_ok p sc x h).1
  | none, sc, some _, h => absurd h Bool.false_ne_true
  | some p, sc, none, h => absurd h Bool.false_ne_true
theorem chkC_ok : ∀ (p : Option E) (sc : Scope) (xs : List Expr), chkC D N G.mode p sc xs = true → CondOk G n N sc (evC C p) xs
  | none, sc, [], h => .no
  | some p, sc, [x], h => .one (chkE_ok p sc x h).2
  | none, sc, _ :: _, h => absurd h Bool.false_ne_true
  | some p, sc, [], h => absurd h Bool.false_ne_true
  | some p, sc, _ :: _ :: _, h => absurd h Bool.false_ne_true
theorem chkFs_ok : ∀ (fs : List Bool) (ps : List E) (sc : Scope) (xs : List Expr), chkFs D N G.mode fs ps sc xs = true → SAf G n N sc (evFs C fs ps) xs
  | fs, [], sc, [], h => sa_nil
  | fs, p :: ps, sc, x :: xs, h => by
    have h : ((if fs.headD false = true then (match (generalizing := false) x with
      | .Starred y _ => chkE D N G.mode p sc y
      | _ => false) else plainE x && chkE D N G.mode p sc x) && chkFs D N G.mode fs.tail ps sc xs) = true := h
    rw [Bool.and_eq_true] at h
    obtain ⟨h1, h2⟩ := h
    have r := chkFs_ok fs.tail ps sc xs h2
    cases hf : fs.headD false with
    | true =>
      rw [if_pos hf] at h1
      rw [evFs_t C hf]
      cases x <;> first | (exfalso; exact Bool.false_ne_true h1) | skip
      exact sa_star (chkE_ok p sc _ h1).1 r
    | false =>
      rw [if_neg (by rw [hf]; simp)] at h1
      rw [Bool.and_eq_true] at h1
      rw [evFs_f C hf]
      exact sa_cons h1.1 (chkE_ok p sc x h1.2).1 r
  | _, [], _, _ :: _, h => absurd h Bool.false_ne_true
  | _, _ :: _, _, [], h => absurd h Bool.false_ne_true
theorem chkEs_ok : ∀ (ps : List E) (sc : Scope) (xs : List Expr), chkEs D N G.mode ps sc xs = true → EsOk G n N sc C ps xs
  | [], sc, [], h => ⟨sa_nil, rfl, rfl, fun e x h => (by cases h), fun ks e => (by rw [kwVals_nil e]; exact sk_nil), fun X o rest tr pr => ⟨tr, pr, fun env h ι σ H Q s hr g => GA.now g hr (fun _ m => nomatch m)⟩⟩
  | p :: ps, sc, x :: xs, h => by
    have h : (plainE x && chkE D N G.mode p sc x && chkEs D N G.mode ps sc xs) = true := h
    simp only [Bool.and_eq_true] at h
    have h1 := chkE_ok p sc x h.1.2
    have h2 := chkEs_ok ps sc xs h.2
    refine ⟨sa_cons h.1.1 h1.1 h2.sa, by simp [plains, h.1.1, h2.pl], by simp [h2.len], fun e y e1 e2 => ?_, fun ks e => ?_, fun X o rest tr pr => more_cons h.1.1 h1.1 (h2.more X o rest tr pr) o⟩
    · cases e1
      cases e2
      exact h1.1
    · cases ks with
      | nil => cases e
      | cons k ks =>
        obtain ⟨nm, v, kp⟩ := k
        have e' : v :: kwVals ks = x :: xs := e
        obtain ⟨rfl, e2⟩ := List.cons.inj e'
        exact sk_cons h1.1 (h2.sk ks e2)
  | [], sc, _ :: _, h => absurd h Bool.false_ne_true
  | _ :: _, sc, [], h => absurd h Bool.false_ne_true
end
end
end EV

/-! EvU: the checker of statements, and that it is right. -/
namespace EV
open PySem PySem.Spec PyProof.Rows L2
def notLoc (sc : Scope) : Expr → Bool
  | .Name x _ => decide (sc.names.lookup x ≠ some .local)
  | _ => false
def notTup (sc : Scope) (ts : List Expr) : Expr → Bool
  | .Tuple vs _ _ => vs.all (foldedForSure 8) || (decide (ts.length ≠ 2) && decide (ts.length ≠ 3)) || ts.any (notLoc sc)
  | _ => true
theorem fm_lt {α β : Type} {f : α → Option β} : ∀ {l : List α} {a : α}, a ∈ l → f a = none → (l.filterMap f).length < l.length
  | x :: l, a, m, h => by
    rw [List.filterMap_cons]
    rcases List.mem_cons.mp m with e | m
    · rw [← e, h]
      exact Nat.lt_succ_of_le (List.length_filterMap_le _ _)
    · have ih := fm_lt m h
      cases f x with
      | none => exact Nat.lt_succ_of_lt ih
      | some y => exact Nat.succ_lt_succ ih
theorem notTup_sw {sc : Scope} {ts : List Expr} {k : Nat} {p : Pos} {a : Expr} {env : Env} (he : env.scope = sc) (h : notTup sc ts a = true) : swappedStores [.Tuple ts k p] a env = pure none := by
  subst he
  cases a <;> first | rfl | skip
  rename_i vs k2 p2
  have h : (vs.all (foldedForSure 8) || (decide (ts.length ≠ 2) && decide (ts.length ≠ 3)) || ts.any (notLoc env.scope)) = true := h
  unfold swappedStores
  cases h1 : (!(ts.length == 2 || ts.length == 3) || vs.length != ts.length || env.blockKind != .function) with
  | true => exact (if_pos h1).trans rfl
  | false =>
    refine (if_neg fun z => Bool.false_ne_true (h1.symm.trans z)).trans ?_
    have hf : vs.all (foldedForSure 8) = true ∨ ts.any (notLoc env.scope) = true := by
      rw [Bool.or_eq_true, Bool.or_eq_true] at h
      rcases h with (h | h) | h
      · exact .inl h
      · exfalso
        simp only [Bool.and_eq_true, decide_eq_true_eq] at h
        simp [h.1, h.2] at h1
      · exact .inr h
    dsimp only
    split
    · rfl
    · split
      · rfl
      · rename_i hne
        rcases hf with hf | hf
        · exact (if_pos hf).trans rfl
        · exfalso
          obtain ⟨t, tm, ht⟩ := List.any_eq_true.mp hf
          apply hne
          rw [Bool.or_eq_true]
          refine .inl (bne_iff_ne.mpr (Nat.ne_of_lt (fm_lt tm ?_)))
          cases t <;> first | (exfalso; exact Bool.false_ne_true ht) | skip
          rename_i x px
          have ht : env.scope.names.lookup x ≠ some .local := of_decide_eq_true ht
          have e : (env.kindOf x == some NameKind.local) = false := beq_eq_false_iff_ne.mpr ht
          dsimp only
          rw [e]
          rfl
def isLC : Expr → Bool
  | .ListComp _ _ _ _ => true
  | _ => false
def nmOf : Expr → Option (Str × Pos)
  | .Name x p => some (x, p)
  | _ => none
def chkPar (N : List Str) (sc : Scope) : List Nat → Expr → List Expr → Bool
  | [i, j], .Tuple [a, b] _ _, vs => match nmOf a, nmOf b with
    | some (x, px), some (y, py) => decide (N[i]? = some x) && decide (N[j]? = some y) && decide (i ≠ j) && parOk sc [(x, px), (y, py)] vs
    | _, _ => false
  | [i, j, l], .Tuple [a, b, c] _ _, vs => match nmOf a, nmOf b, nmOf c with
    | some (x, px), some (y, py), some (z, pz) => decide (N[i]? = some x) && decide (N[j]? = some y) && decide (N[l]? = some z) && decide (i ≠ j) && decide (i ≠ l) && decide (j ≠ l) && parOk sc [(x, px), (y, py), (z, pz)] vs
    | _, _, _ => false
  | _, _, _ => false
theorem nmOf_of {a : Expr} {x : Str} {p : Pos} (h : nmOf a = some (x, p)) : a = .Name x p := by
  cases a <;> first | cases h; done | skip
  cases h
  rfl
section
variable (D : List Dn) (N : List Str) (cl : Nat) (sc : Scope)
mutual
def chkS : S → Stmt → Bool
  | .bad, _ => true
  | .set i e, .Assign [.Name x _] a _ => chkNm N sc sc i x && (noComp a || (isFn sc && isLC a)) && chkE D N cl e sc a
  | .par is es, .Assign [t] (.Tuple vs _ _) _ => chkPar N sc is t vs && chkEs D N cl es sc vs
  | .asg (.tp is) e, .Assign [.Tuple ts k p] a _ => chkT N sc sc (.tp is) (.Tuple ts k p) && notTup sc ts a && chkE D N cl e sc a
  | .sub o i e, .Assign [.Subscript oe ie _] a _ => plainE ie && chkE D N cl e sc a && chkE D N cl o sc oe && chkE D N cl i sc ie
  | .aug i op e, .AugAssign (.Name x _) o a _ => decide (o = opM op) && chkNm N sc sc i x && chkE D N cl e sc a
  | .ex e, .Expr a _ => noComp a && chkE D N cl e sc a
  | .spo k i, .Expr a _ => noComp a && chkE D N cl (.call k [.var i .rd]) sc a
  | .ret e, .Return (some a) _ => chkE D N cl e sc a
  | .retn, .Return none _ => true
  | .iff c a b, .If t p q _ => chkE D N cl c sc t && chkSs a p && chkSs b q
  | .whl c b, .While t p [] _ => chkE D N cl c sc t && chkSs b p
  | .for_ t sk src b, .For tg iter p [] _ => chkT N sc sc t tg && (match srcArgs sc tg sk iter with
      | some xs => chkEs D N cl src sc xs
      | none => false) && chkSs b p
  | .brk, .Break _ => true
  | .cnt, .Continue _ => true
  | .pass, .Pass _ => true
  | _, _ => false
def chkSs : List S → List Stmt → Bool
  | [], [] => true
  | s :: ss, x :: xs => chkS s x && chkSs ss xs
  | _, _ => false
end
end
section
variable {G : Gc} {n : Nat} {N : List Str} {D : List Dn} {C : Cs} {W : Nat} {sc scope : Scope}
variable (hB : BltOk G) (hD : DsOk G n D C)
include hB hD
theorem lc_ok {own : List Nat} {elt : E} {tgt : Tg} {sk : Sk} {src : List E} {cond : Option E} {x : Expr} {gs : List Comprehension} {p : Pos} (h : chkE D N G.mode (.lc own elt tgt sk src cond) sc (.ListComp x gs scope p) = true) :
    ∃ tg iter ifs, gs = [⟨tg, iter, ifs, 0⟩] ∧ LcOk G n N sc scope (ownOf N own) tgt sk (evEs C src) (evC C cond) (evE C elt) x tg iter ifs := by
  rcases gs with _ | ⟨⟨tg, iter, ifs, as_⟩, _ | ⟨g2, gs⟩⟩
  · exfalso; exact Bool.false_ne_true h
  · rcases as_ with (_ | m) | m
    · have h : (blkK G.mode N sc scope (ownOf N own) && chkT N (relS scope sc) scope tgt tg && ((slotsT tgt).all fun i => decide (i ∈ own)) && (match srcArgs sc tg sk iter with
        | some xs => chkEs D N G.mode src sc xs
        | none => false) && chkC D N G.mode cond (relS scope sc) ifs && chkE D N G.mode elt (relS scope sc) x) = true := h
      simp only [Bool.and_eq_true, List.all_eq_true, decide_eq_true_eq] at h
      obtain ⟨⟨⟨⟨⟨h1, h2⟩, h3⟩, h4⟩, h5⟩, h6⟩ := h
      cases es : srcArgs sc tg sk iter with
      | none => rw [es] at h4; cases h4
      | some xs =>
        rw [es] at h4
        obtain ⟨s1, s2⟩ := src_ok hB es (chkEs_ok hB hD src sc xs h4)
        exact ⟨tg, iter, ifs, rfl, h1, s1, h2, by rw [ownOf_snd]; exact h3, chkC_ok hB hD cond _ _ h5, (chkE_ok hB hD elt _ _ h6).1, s2⟩
    · exfalso; exact Bool.false_ne_true h
    · exfalso; exact Bool.false_ne_true h
  · exfalso
    rcases as_ with (_ | m) | m <;> exact Bool.false_ne_true h
theorem lc2_ok {own own1 : List Nat} {elt : E} {tgt tgt1 : Tg} {sk sk1 : Sk} {src src1 : List E} {cond cond1 : Option E} {x : Expr} {gs : List Comprehension} {p : Pos} (h : chkE D N G.mode (.lc2 own own1 elt tgt sk src cond tgt1 sk1 src1 cond1) sc (.ListComp x gs scope p) = true) :
    ∃ tg iter ifs tg1 iter1 ifs1, gs = [⟨tg, iter, ifs, 0⟩, ⟨tg1, iter1, ifs1, 0⟩] ∧ Lc2Ok G n N sc scope (ownOf N own) own1 tgt sk (evEs C src) (evC C cond) sk1 (evEs C src1) tgt1 (evC C cond1) (evE C elt) x tg iter ifs tg1 iter1 ifs1 := by
  rcases gs with _ | ⟨⟨tg, iter, ifs, as_⟩, _ | ⟨⟨tg1, iter1, ifs1, as1⟩, _ | ⟨g2, gs⟩⟩⟩
  · exfalso; exact Bool.false_ne_true h
  · exfalso
    rcases as_ with (_ | m) | m <;> exact Bool.false_ne_true h
  · rcases as_ with (_ | m) | m <;> rcases as1 with (_ | m1) | m1 <;> first | (exfalso; exact Bool.false_ne_true h) | skip
    have h : (blkK G.mode N sc scope (ownOf N own) && chkT N (relS scope sc) scope tgt tg && ((slotsT tgt).all fun i => decide (i ∈ own)) && (match srcArgs sc tg sk iter with
    | some xs => chkEs D N G.mode src sc xs
    | none => false) && chkC D N G.mode cond (relS scope sc) ifs && chkT N (relS scope sc) scope tgt1 tg1 && ((slotsT tgt1).all fun i => decide (i ∈ own1)) && (own1.all fun i => decide (i ∈ own)) && (match srcArgs (relS scope sc) tg1 sk1 iter1 with
    | some xs => chkEs D N G.mode src1 (relS scope sc) xs
    | none => false) && chkC D N G.mode cond1 (relS scope sc) ifs1 && chkE D N G.mode elt (relS scope sc) x) = true := h
    simp only [Bool.and_eq_true, List.all_eq_true, decide_eq_true_eq] at h
    obtain ⟨⟨⟨⟨⟨⟨⟨⟨⟨⟨h1, h2⟩, h3⟩, h4⟩, h5⟩, h6⟩, h7⟩, h8⟩, h9⟩, h10⟩, h11⟩ := h
    cases es : srcArgs sc tg sk iter with
    | none => rw [es] at h4; cases h4
    | some xs =>
    cases es1 : srcArgs (relS scope sc) tg1 sk1 iter1 with
    | none => rw [es1] at h9; cases h9
    | some xs1 =>
      rw [es] at h4
      rw [es1] at h9
      obtain ⟨s1, s2⟩ := src_ok hB es (chkEs_ok hB hD src sc xs h4)
      obtain ⟨s3, s4⟩ := src_ok hB es1 (chkEs_ok hB hD src1 _ xs1 h9)
      exact ⟨tg, iter, ifs, tg1, iter1, ifs1, rfl, h1, s1, h2, by rw [ownOf_snd]; exact h3, chkC_ok hB hD cond _ _ h5, s3, h6, h7, by rw [ownOf_snd]; exact h8, chkC_ok hB hD cond1 _ _ h10, (chkE_ok hB hD elt _ _ h11).1, s2, s4⟩
  · exfalso
    rcases as_ with (_ | m) | m <;> rcases as1 with (_ | m1) | m1 <;> exact Bool.false_ne_true h
theorem set_ok {i : Nat} {e : E} {x : Str} {px pos : Pos} {a : Expr} (h1 : chkNm N sc sc i x = true) (h2 : (noComp a || (isFn sc && isLC a)) = true) (h3 : chkE D N G.mode e sc a = true) : SSf G n N sc (evS C W (.set i e)) (.Assign [.Name x px] a pos) := by
  by_cases hn : noComp a = true
  · exact ss_set (st := id) h1 (fun env _ => noComp_sw hn) (chkE_ok hB hD e sc a h3).1
  · have h2' : (isFn sc && isLC a) = true := by
      cases hq : noComp a with
      | true => exact absurd hq hn
      | false => rw [hq] at h2; exact h2
    rw [Bool.and_eq_true] at h2'
    obtain ⟨hf, hl⟩ := h2'
    cases a <;> first | (exfalso; exact Bool.false_ne_true hl) | skip
    rename_i elt gs scope pc
    cases hsw : swB sc scope x px pc with
    | false => exact ss_set (st := id) h1 (fun env he => by rw [sw_lc he hf, hsw]) (chkE_ok hB hD e sc _ h3).1
    | true =>
      have hloc : sc.names.lookup x = some .local := by
        have q := hsw
        unfold swB at q
        simp only [Bool.and_eq_true, decide_eq_true_eq] at q
        exact q.1.1
      cases e with
      | bad => exact ss_bad
      | k c =>
        exfalso
        revert h3
        cases c <;> exact Bool.false_ne_true
      | isi a ts =>
        exfalso
        revert h3
        rcases ts with _ | ⟨u, _ | ⟨_, _⟩⟩ <;> exact Bool.false_ne_true
      | mt m o es =>
        exfalso
        revert h3
        cases es <;> exact Bool.false_ne_true
      | lc own elt tgt sk src cond =>
        obtain ⟨tg, iter, ifs, rfl, l⟩ := lc_ok hB hD h3
        have e : evS C W (.set i (.lc own elt tgt sk src cond)) = fun e h => ofE e (lcEv ((ownOf N own).map (·.2)) tgt sk (evEs C src) (evC C cond) (evE C elt) e h) fun v h1 => .nx (e.set i (some v)) h1 := by
          rw [ownOf_snd]
          rfl
        rw [e]
        exact ss_setLc l (nm_parts h1).1 hloc fun env he => by rw [sw_lc he hf, hsw]
      | lc2 own own1 elt tgt sk src cond tgt1 sk1 src1 cond1 =>
        obtain ⟨tg, iter, ifs, tg1, iter1, ifs1, rfl, l⟩ := lc2_ok hB hD h3
        have e : evS C W (.set i (.lc2 own own1 elt tgt sk src cond tgt1 sk1 src1 cond1)) = fun e h => ofE e (lc2Ev ((ownOf N own).map (·.2)) own1 tgt sk (evEs C src) (evC C cond) sk1 (evEs C src1) tgt1 (evC C cond1) (evE C elt) e h) fun v h1 => .nx (e.set i (some v)) h1 := by
          rw [ownOf_snd]
          rfl
        rw [e]
        exact ss_setLc2 l (nm_parts h1).1 hloc fun env he => by rw [sw_lc he hf, hsw]
      | _ => exfalso; exact Bool.false_ne_true h3
omit hB hD in
theorem par_ok {is : List Nat} {t : Expr} {vs : List Expr} {evs : En → AH → Rs (List AV)} {k2 : Nat} {p2 pos : Pos} (h : chkPar N sc is t vs = true) (hs : SAf G n N sc evs vs) : SSf G n N sc (parEv is evs) (.Assign [t] (.Tuple vs k2 p2) pos) := by
  unfold chkPar at h
  split at h
  · split at h
    · rename_i i j _ a b kt pt _ _ x px y py e1 e2
      rw [nmOf_of e1, nmOf_of e2]
      simp only [Bool.and_eq_true, decide_eq_true_eq] at h
      obtain ⟨⟨⟨h1, h2⟩, h3⟩, h4⟩ := h
      have hl : vs.length = 2 := by
        have q := h4
        unfold parOk at q
        simp only [Bool.and_eq_true, beq_iff_eq] at q
        exact q.1.1.1.1.1.2
      rcases vs with _ | ⟨a, _ | ⟨b, _ | ⟨c, d⟩⟩⟩ <;> first | cases hl; done | skip
      exact ss_par2 h1 h2 h3 h4 hs
    · cases h
  · split at h
    · rename_i i j l _ a b c kt pt _ _ _ x px y py z pz e1 e2 e3
      rw [nmOf_of e1, nmOf_of e2, nmOf_of e3]
      simp only [Bool.and_eq_true, decide_eq_true_eq] at h
      obtain ⟨⟨⟨⟨⟨⟨h1, h2⟩, h3⟩, h4⟩, h5⟩, h6⟩, h7⟩ := h
      have hl : vs.length = 3 := by
        have q := h7
        unfold parOk at q
        simp only [Bool.and_eq_true, beq_iff_eq] at q
        exact q.1.1.1.1.1.2
      rcases vs with _ | ⟨a, _ | ⟨b, _ | ⟨c, _ | ⟨d, e⟩⟩⟩⟩ <;> first | cases hl; done | skip
      exact ss_par3 h1 h2 h3 h4 h5 h6 h7 hs
    · cases h
  · cases h
mutual
theorem chkS_ok : ∀ (s : S) (x : Stmt), chkS D N G.mode sc s x = true → SSf G n N sc (evS C W s) x
  | .bad, x, h => ss_bad
  | .augs o i op e, x, h => by exfalso; cases x <;> exact Bool.false_ne_true h
  | .raise c ps, x, h => by exfalso; cases x <;> exact Bool.false_ne_true h
  | .set i e, x, h => by
    cases x <;> first | (exfalso; exact Bool.false_ne_true h) | skip
    rename_i ts a p
    rcases ts with _ | ⟨t, _ | ⟨_, _⟩⟩
    · exfalso; exact Bool.false_ne_true h
    · cases t <;> first | (exfalso; exact Bool.false_ne_true h) | skip
      rename_i x px
      have h : (chkNm N sc sc i x && (noComp a || (isFn sc && isLC a)) && chkE D N G.mode e sc a) = true := h
      rw [Bool.and_eq_true, Bool.and_eq_true] at h
      exact set_ok hB hD h.1.1 h.1.2 h.2
    · rename_i t2 t3
      exfalso
      cases t <;> exact Bool.false_ne_true h
  | .par is es, x, h => by
    cases x <;> first | (exfalso; exact Bool.false_ne_true h) | skip
    rename_i ts a p
    rcases ts with _ | ⟨t, _ | ⟨t2, t3⟩⟩
    · exfalso; exact Bool.false_ne_true h
    · cases a <;> first | (exfalso; exact Bool.false_ne_true h) | skip
      rename_i vs k2 p2
      have h : (chkPar N sc is t vs && chkEs D N G.mode es sc vs) = true := h
      rw [Bool.and_eq_true] at h
      exact par_ok h.1 (chkEs_ok hB hD es sc _ h.2).sa
    · exfalso; exact Bool.false_ne_true h
  | .asg t e, x, h => by
    cases x <;> first | (exfalso; revert h; cases t <;> exact Bool.false_ne_true) | skip
    rename_i ts a p
    cases t with
    | nm _ => exfalso; exact Bool.false_ne_true h
    | tp is =>
    rcases ts with _ | ⟨t, _ | ⟨_, _⟩⟩
    · exfalso; exact Bool.false_ne_true h
    · cases t <;> first | (exfalso; exact Bool.false_ne_true h) | skip
      rename_i ts k pt
      have h : (chkT N sc sc (.tp is) (.Tuple ts k pt) && notTup sc ts a && chkE D N G.mode e sc a) = true := h
      rw [Bool.and_eq_true, Bool.and_eq_true] at h
      obtain ⟨⟨h1, h2⟩, h3⟩ := h
      exact ss_asg h1 (fun env he => notTup_sw he h2) (chkE_ok hB hD e sc a h3).1
    · rename_i t2 t3
      exfalso
      cases t <;> exact Bool.false_ne_true h
  | .sub o i e, x, h => by
    cases x <;> first | (exfalso; exact Bool.false_ne_true h) | skip
    rename_i ts a p
    rcases ts with _ | ⟨t, _ | ⟨_, _⟩⟩
    · exfalso; exact Bool.false_ne_true h
    · cases t <;> first | (exfalso; exact Bool.false_ne_true h) | skip
      rename_i oe ie pt
      have h : (plainE ie && chkE D N G.mode e sc a && chkE D N G.mode o sc oe && chkE D N G.mode i sc ie) = true := h
      simp only [Bool.and_eq_true] at h
      exact ss_sub h.1.1.1 (chkE_ok hB hD e sc a h.1.1.2).1 (chkE_ok hB hD o sc oe h.1.2).1 (chkE_ok hB hD i sc ie h.2).1
    · rename_i t2 t3
      exfalso
      cases t <;> exact Bool.false_ne_true h
  | .aug i op e, x, h => by
    cases x <;> first | (exfalso; exact Bool.false_ne_true h) | skip
    rename_i t o a p
    cases t <;> first | (exfalso; exact Bool.false_ne_true h) | skip
    rename_i x px
    have h : (decide (o = opM op) && chkNm N sc sc i x && chkE D N G.mode e sc a) = true := h
    simp only [Bool.and_eq_true, decide_eq_true_eq] at h
    obtain ⟨⟨rfl, h1⟩, h2⟩ := h
    exact ss_aug h1 (chkE_ok hB hD e sc a h2).1
  | .ex e, x, h => by
    cases x <;> first | (exfalso; exact Bool.false_ne_true h) | skip
    rename_i a p
    have h : (noComp a && chkE D N G.mode e sc a) = true := h
    rw [Bool.and_eq_true] at h
    exact ss_ex h.1 (chkE_ok hB hD e sc a h.2).1
  | .spo k i, x, h => by
    cases x <;> first | (exfalso; exact Bool.false_ne_true h) | skip
    rename_i a p
    have h : (noComp a && chkE D N G.mode (.call k [.var i .rd]) sc a) = true := h
    rw [Bool.and_eq_true] at h
    exact ss_ex h.1 (chkE_ok hB hD (.call k [.var i .rd]) sc a h.2).1
  | .ret e, x, h => by
    cases x <;> first | (exfalso; exact Bool.false_ne_true h) | skip
    rename_i a p
    cases a with
    | none => exfalso; exact Bool.false_ne_true h
    | some a => exact ss_ret (chkE_ok hB hD e sc a h).1
  | .retn, x, h => by
    cases x <;> first | (exfalso; exact Bool.false_ne_true h) | skip
    rename_i a p
    cases a with
    | some _ => exfalso; exact Bool.false_ne_true h
    | none => exact ss_retn
  | .iff c a b, x, h => by
    cases x <;> first | (exfalso; exact Bool.false_ne_true h) | skip
    rename_i t p q pos
    have h : (chkE D N G.mode c sc t && chkSs D N G.mode sc a p && chkSs D N G.mode sc b q) = true := h
    simp only [Bool.and_eq_true] at h
    exact ss_iff (chkE_ok hB hD c sc t h.1.1).2 (chkSs_ok a p h.1.2) (chkSs_ok b q h.2)
  | .whl c b, x, h => by
    cases x <;> first | (exfalso; exact Bool.false_ne_true h) | skip
    rename_i t p q pos
    cases q with
    | cons _ _ => exfalso; exact Bool.false_ne_true h
    | nil =>
      have h : (chkE D N G.mode c sc t && chkSs D N G.mode sc b p) = true := h
      simp only [Bool.and_eq_true] at h
      exact ss_whl (chkE_ok hB hD c sc t h.1).2 (chkSs_ok b p h.2)
  | .for_ t sk src b, x, h => by
    cases x <;> first | (exfalso; exact Bool.false_ne_true h) | skip
    rename_i tg iter p q pos
    cases q with
    | cons _ _ => exfalso; exact Bool.false_ne_true h
    | nil =>
      have h : (chkT N sc sc t tg && (match srcArgs sc tg sk iter with
      | some xs => chkEs D N G.mode src sc xs
      | none => false) && chkSs D N G.mode sc b p) = true := h
      simp only [Bool.and_eq_true] at h
      obtain ⟨⟨h1, h2⟩, h3⟩ := h
      cases es : srcArgs sc tg sk iter with
      | none => rw [es] at h2; cases h2
      | some xs =>
        rw [es] at h2
        obtain ⟨s1, s2⟩ := src_ok hB es (chkEs_ok hB hD src sc xs h2)
        exact ss_for s1 h1 (chkSs_ok b p h3) s2
  | .brk, x, h => by
    cases x <;> first | (exfalso; exact Bool.false_ne_true h) | skip
    exact ss_brk
  | .cnt, x, h => by
    cases x <;> first | (exfalso; exact Bool.false_ne_true h) | skip
    exact ss_cnt
  | .pass, x, h => by
    cases x <;> first | (exfalso; exact Bool.false_ne_true h) | skip
    exact ss_pass
theorem chkSs_ok : ∀ (ss : List S) (xs : List Stmt), chkSs D N G.mode sc ss xs = true → SBf G n N sc (evSs C W ss) xs
  | [], [], h => sb_nil
  | s :: ss, x :: xs, h => by
    have h : (chkS D N G.mode sc s x && chkSs D N G.mode sc ss xs) = true := h
    rw [Bool.and_eq_true] at h
    exact sb_cons (chkS_ok s x h.1) (chkSs_ok ss xs h.2)
  | [], _ :: _, h => absurd h Bool.false_ne_true
  | _ :: _, [], h => absurd h Bool.false_ne_true
end
end
end EV

/-! EvV: defs. -/
namespace EV
open PySem PySem.Spec PyProof.Rows L2
section
variable {G : Gc}
/-- the code objects and tables of the defs that make lambdas -/
def CodeM (tb : List (Addr × Str)) (cs : List (Addr × Addr)) (d : Dn) (fd : FuncData) : Prop := d.mode = 2 → ∃ c P, fd.code = .ref c ∧ (c, P) ∈ cs ∧ (P, d.nm ++ ".<locals>." ++ "<lambda>") ∈ tb ∧ ∀ t ∈ tb, t.1 = P → t.2 = d.nm ++ ".<locals>." ++ "<lambda>"
structure DefOk (K : PySem.W.Frag) (mg : Str → Option Value) (tb : List (Addr × Str)) (cs : List (Addr × Addr)) (D : List Dn) (d : Dn) (t : Fd) : Prop where
  ex : ∃ (st : Stmt) (f : Addr) (fd : FuncData) (N : List Str), mg d.nm = some (.ref f) ∧ Fun K d.nm d.nm st f fd ∧ FnScope N d.ps (defScope st) ∧ (∀ (s : Shared) (us : List Value), us.length = d.ps.length → BindsTo s fd ⟨us, []⟩ (d.ps.zip us)) ∧
    chkSs D N d.mode (defScope st) t.body (defBody st) = true ∧ t.np = d.ps.length ∧ t.ns = N.length ∧
    (∀ np ks pm, (np, ks, pm) ∈ d.kws → ∀ (s : Shared) (us ws : List Value), us.length = np → ws.length = ks.length → BindsTo s fd ⟨us, ks.zip ws⟩ (d.ps.zip (us ++ pm.filterMap fun j => ws[j]?))) ∧ CodeM tb cs d fd
theorem binds_of {K : PySem.W.Frag} {fd : FuncData} {ps : List Str} (h : ∀ (s : Shared) (us : List Value), us.length = ps.length → BindsTo s fd ⟨us, []⟩ (ps.zip us)) : Binds K fd ps [] := fun s us _ hl => by
  rw [List.append_nil] at hl ⊢
  exact h s us hl
variable {T : List Fd} {D : List Dn} {W : Nat}
def Gc.of (G : Gc) (m : Nat) : Gc := ⟨G.P, G.w, G.K, G.mg, G.base, G.F, G.sa, fun _ _ => .no, [], [], G.tb, m⟩
variable {cs : List (Addr × Addr)}
theorem cur_mk {X : Cx} {tb : List (Addr × Str)} {d : Dn} {fd : FuncData} (hM : CodeM tb cs d fd) (hz : d.mode = 2) (e : X.env.code = fd.code) (hq : X.env.qual = d.nm ++ ".<locals>.") (hcs : ∀ p ∈ cs, LamX.TabB X.base X.mg p.1 p.2) :
    ∃ c P, X.env.code = .ref c ∧ (P, X.env.qual ++ "<lambda>") ∈ tb ∧ (∀ t ∈ tb, t.1 = P → t.2 = X.env.qual ++ "<lambda>") ∧ LamX.TabB X.base X.mg c P := by
  obtain ⟨c, P, e1, e2, e3, e4⟩ := hM hz
  rw [hq, e]
  exact ⟨c, P, e1, e3, e4, hcs _ e2⟩
theorem fn_ok (hB : BltOk G) (hcs : ∀ p ∈ cs, LamX.TabB G.base G.mg p.1 p.2) {n k : Nat} {d : Dn} {t : Fd} {st : Stmt} {f : Addr} {fd : FuncData} {N : List Str} (hT : T[k]? = some t) (F : Fun G.K d.nm d.nm st f fd) (S : FnScope N d.ps (defScope st)) (hc : chkSs D N d.mode (defScope st) t.body (defBody st) = true) (hp : t.np = d.ps.length) (hn : t.ns = N.length)
    (hM : CodeM G.tb cs d fd) {C : Cs} (hA : C.app = fun _ _ => .no) (hD : DsOk G.core n D C) : FnOk G.P G.w G.K G.mg G.base CX0 (n + 1) f fd d.ps (spC G (runF T C W k) d.ps.length) := by
  obtain ⟨oc, od, kV, doc, pm, an, cdv, ct, osl, rfl, lk, hcd⟩ := F.ex
  refine fn_of lk hcd S (fun vs H Q E h => h.1) fun A outer s H vs Q E hr h => ?_
  obtain ⟨hl, ι, h, args, hr', o, rfl, g⟩ := h
  have xo : XO (G.of d.mode) n N (defScope st) (cxOf CX0 G.P G.w G.K G.mg G.base N d.nm (defScope st) f cdv A outer s H E).nox := {
    cur := fun z => cur_mk hM z rfl rfl hcs
    clo := fun _ i a p1 p2 _ _ _ _ => ⟨fun pinsZ sZ σZ HZ QZ IZ hh => by
      obtain ⟨_, _, _, _, _, _, _, ga⟩ := hh
      exact False.elim ga⟩
    prog := rfl, w := rfl, K := rfl, mg := rfl, base := rfl, calm := rfl, nd := S.nd, N := rfl, sc := rfl, hr := hr, xe := rfl }
  have hD' : DsOk (G.of d.mode) n D C := hD.to rfl rfl rfl hA
  obtain ⟨tt, pt, qt⟩ := chkSs_ok (G := G.of d.mode) (W := W) hB hD' t.body (defBody st) hc _ xo (fun x _ => .inl rfl)
  refine ⟨tt, pt.nox, ?_⟩
  have r2 : HR (G.of d.mode) ι h H := ⟨hr'.len, hr'.inj, fun i a e => by
    obtain ⟨ob, u, h1, h2, h3⟩ := hr'.at_ i a e
    exact ⟨ob, u, h1, h2, by cases ob <;> exact h3⟩, hr'.scr, ⟨fun _ m => (by cases m), hr'.fix.tabs⟩, List.nil_prefix⟩
  have ev : args.map (vT G ι) = args.map (vT (G.of d.mode) ι) := List.map_congr_left fun v _ => by cases v <;> rfl
  rw [ev]
  refine qt (enOf t.ns args) h ι _ H _ (sr_start (G := G.of d.mode) hn o) r2 (ret_gs ?_)
  unfold runF at g
  rw [hT] at g
  have ha : args.length = t.np := by rw [hp, ← hl, List.length_map]
  dsimp only at g
  rw [if_pos ha] at g
  have g2 : GA G.core (retOf (evSs C W t.body (enOf t.ns args) h)) ι H fun v _ ι' H' => Q (vT (G.of d.mode) ι' v) H' := g.imp fun v h ι' H' _ _ _ _ q => by
    have e : vT G.core ι' v = vT (G.of d.mode) ι' v := by cases v <;> rfl
    rw [← e]
    exact q
  exact GA.ofCore (G := G.of d.mode) g2
theorem evF_len {n k : Nat} {t : Fd} {m : Nat} (hT : T[k]? = some t) (hp : t.np = m) : ∀ args h, args.length ≠ m → evF T W n k args h = .no := by
  intro args h ne
  cases n with
  | zero => rfl
  | succ n =>
    rw [evF_succ]
    unfold runF
    rw [hT]
    dsimp only
    rw [if_neg (by rw [hp]; exact ne)]
/-- what is known of every def -/
def AllOk (G : Gc) (cs : List (Addr × Addr)) (T : List Fd) (D : List Dn) : Prop := ∀ (k : Nat) (d : Dn), D[k]? = some d → ∃ t, T[k]? = some t ∧ DefOk G.K G.mg G.tb cs D d t
theorem fn_call (hB : BltOk G) (hcs : ∀ p ∈ cs, LamX.TabB G.base G.mg p.1 p.2) {n k : Nat} {d : Dn} {t : Fd} {st : Stmt} {f : Addr} {fd : FuncData} {N : List Str} (hT : T[k]? = some t) (F : Fun G.K d.nm d.nm st f fd) (S : FnScope N d.ps (defScope st)) (hc : chkSs D N d.mode (defScope st) t.body (defBody st) = true) (hp : t.np = d.ps.length) (hn : t.ns = N.length)
    (hM : CodeM G.tb cs d fd) (hD : ∀ n', n = n' + 1 → DsOk G.core n' D (csF T W n' noL)) : FnOk G.P G.w G.K G.mg G.base CX0 n f fd d.ps (spC G (evF T W n k) d.ps.length) := by
  cases n with
  | zero =>
    refine ⟨fun vs H Q E h => h.1, fun A outer s H args us vs Q E hr he hb hv hs => ?_⟩
    obtain ⟨_, ι, h, args, _, _, _, g⟩ := hs
    exact False.elim g
  | succ n =>
    rw [evF_succ]
    exact fn_ok hB hcs hT F S hc hp hn hM (csF_app T W n noL) (hD n rfl)
theorem ds_all (hB : BltOk G) (hcs : ∀ p ∈ cs, LamX.TabB G.base G.mg p.1 p.2) (h : AllOk G cs T D) : ∀ n, DsOk G.core n D (csF T W n noL) := by
  intro n
  induction n using Nat.strongRecOn with
  | ind n ih =>
    refine ⟨fun k d e => ?_, fun k d np ks pm e m => ?_, fun k d e m => ?_, csF_app T W n noL⟩
    · obtain ⟨t, hT, ⟨st, f, fd, N, h1, h2, h3, h4, h5, h6, h7, h8, h9⟩⟩ := h k d e
      rw [csF_call]
      exact ⟨f, fd, d.ps, h1, h2.kp, binds_of h4, fn_call hB hcs hT h2 h3 h5 h6 h7 h9 fun n' en => ih n' (by omega), evF_len hT h6⟩
    · obtain ⟨t, hT, ⟨st, f, fd, N, h1, h2, h3, h4, h5, h6, h7, h8, h9⟩⟩ := h k d e
      rw [csF_call]
      exact ⟨f, fd, d.ps, h1, h2.kp, fn_call hB hcs hT h2 h3 h5 h6 h7 h9 fun n' en => ih n' (by omega), evF_len hT h6, h8 np ks pm m⟩
    · obtain ⟨t, hT, ⟨st, f, fd, N, h1, h2, h3, h4, h5, h6, h7, h8, h9⟩⟩ := h k d e
      rw [m] at h5
      rcases n with _ | _ | n
      · exact .inl fun _ _ _ _ _ => rfl
      · exact .inl fun _ _ _ _ _ => rfl
      · refine .inr ⟨n, rfl, st, f, fd, N, d.ps, t, W, csF T W n noL, csF T W (n + 1), h1, h2, h3, h4, h6, h7, fun N p sc b nd ck => ?_, fun G' eG mG => ?_, fun ls e u vs hh => ?_⟩
        · exact (chkE_ok (G := G.core) hB (ih n (by omega)) p sc b ck).1
        · have hB' : BltOk G' := fun x hx => by
            have e : G'.core.mg = G.core.mg := by rw [eG]; rfl
            have e : G'.mg = G.mg := e
            rw [e]
            exact hB x hx
          exact chkSs_ok (G := G') hB' ((ih (n + 1) (by omega)).to eG (by rw [csF_call, csF_call]) (by cases n <;> rfl) (csF_app T W _ _)) t.body (defBody st) (by rw [mG]; exact h5)
        · show runF T (csF T W (n + 1) (appL u (evLs (csF T W n noL) ls e))) W k vs hh = _
          unfold runF
          rw [hT]
/-- one def, from the facts of the top's names -/
theorem def_mk {K : PySem.W.Frag} {h : Heap} {mg : Str → Option Value} (X : K.In h) (Gn : h.Ns mainGlobals mg) {d : Dn} {t : Fd} {st : Stmt} {f : Addr} {N : List Str} {oc : Value} {od an : Option Addr} {osl : Array (Option Value)} {kV doc pm cdv ct : Value}
    (a : PySem.W.nsIn K mainGlobals d.nm = some (some (.ref f))) (l : K.lookup f = some ⟨oc, od, .func (PySem.W.fnOf d.nm d.nm (defArgs st) (defBody st) (defScope st) .none kV doc pm an cdv ct), osl⟩) (c : PySem.W.codeIn K cdv d.nm = true) (k : PySem.W.keepIn K (.ref f) = true)
    (S : FnScope N d.ps (defScope st)) (hc : chkSs D N d.mode (defScope st) t.body (defBody st) = true) (hp : t.np = d.ps.length) (hn : t.ns = N.length)
    (hb : ∀ (us : List Value), us.length = d.ps.length → bindArgs (PySem.W.fnOf d.nm d.nm (defArgs st) (defBody st) (defScope st) .none kV doc pm an cdv ct) ⟨us, []⟩ = pure (d.ps.zip us))
    (hk : ∀ np ks pm', (np, ks, pm') ∈ d.kws → ∀ (us ws : List Value), us.length = np → ws.length = ks.length → bindArgs (PySem.W.fnOf d.nm d.nm (defArgs st) (defBody st) (defScope st) .none kV doc pm an cdv ct) ⟨us, ks.zip ws⟩ = pure (d.ps.zip (us ++ pm'.filterMap fun j => ws[j]?)))
    {tb : List (Addr × Str)} {cs : List (Addr × Addr)} (hM : d.mode = 2 → ∃ cc P, cdv = .ref cc ∧ (cc, P) ∈ cs ∧ (P, d.nm ++ ".<locals>." ++ "<lambda>") ∈ tb ∧ ∀ t ∈ tb, t.1 = P → t.2 = d.nm ++ ".<locals>." ++ "<lambda>") : DefOk K mg tb cs D d t :=
  ⟨st, f, _, N, PySem.W.mg_of X Gn a, fun_mk l c k, S, fun s us hl => .of_eq (hb us hl), hc, hp, hn, fun np ks pm' m s us ws l1 l2 => .of_eq (hk np ks pm' m us ws l1 l2), hM⟩
/-! ### a list that is only read, frozen -/
theorem objOk_frz {P : Program} {w : World} {H : Hp} {h : Heap} {a : Addr} {u : HO} {xs : List V} (e : H a = some (.lst xs)) : ∀ {x : HO} {b : Addr}, ObjOk P w H h b x → ObjOk P w (L2.upd H a u) h b x
  | .lst _, _, r => r
  | .tup _, _, r => r
  | .dK _, _, r => r
  | .dT _, _, ⟨r1, r2, ys, r3, r4⟩ => ⟨r1, r2, ys, Paired.mapP r3 fun p q z => ⟨z.1, by
      rw [upd_ne (fun z' => by
        have z2 := z.2.1
        rw [z', e] at z2
        cases z2)]
      exact z.2.1, z.2.2⟩, r4⟩
  | .set _ _, _, r => r
  | .ins _ _ _, _, ⟨r1, r2⟩ => ⟨by
      rw [upd_ne (fun z => by
        rw [z, e] at r1
        cases r1)]
      exact r1, r2⟩
  | .own _, _, r => r
  | .xd _, _, r => r
  | .rng _ _, _, r => r
  | .frz _ x, b, ⟨r1, r2⟩ => ⟨r1, objOk_frz (x := x) e r2⟩
  | .tbl _, _, r => r
  | .met _ _, _, r => r
  | .ext _, _, r => r
theorem un_frz {fs ex : List Addr} {H H2 : Hp} {h h' : Heap} {a : Addr} {u : HO} {xs : List V} (e : H a = some (.lst xs)) (U : Un fs ex (L2.upd H a u) H2 h h') : Un fs ex H H2 h h' := by
  have nn : ∀ {b : Addr}, H b = none → L2.upd H a u b = none := fun {b} n => by
    rw [upd_ne (fun z => by
      rw [z, e] at n
      cases n)]
    exact n
  have ne : ∀ {b : Addr} {o : HO}, (∀ xs, o ≠ .lst xs) → H b = some o → L2.upd H a u b = some o := fun {b o} no n => by
    rw [upd_ne (fun z => by
      rw [z, e] at n
      cases n
      exact no _ rfl)]
    exact n
  exact ⟨fun b o q n => U.keep b o q (nn n), fun b o q n => U.slot b o q (nn n), fun b o q n => U.free b o q (nn n), U.there, fun b ys n => U.tups b ys (ne (fun _ z => by cases z) n), fun b o v n => U.frzs b o v (ne (fun _ z => by cases z) n), fun b ps n => U.tbls b ps (ne (fun _ z => by cases z) n)⟩
/-- what the law's def is asked -/
def spL (m : Nat) (cs : List (Addr × Addr)) : PySem.W.Frag → Sp := fun K vs H Q _ => ∃ (a : Addr) (ns : List Int), vs = [.ref a] ∧ ns.length ≤ m ∧ (∀ p ∈ cs, H p.2 = some (.tbl #[])) ∧ (SqL K H a (ns.map V.int)) ∧ ∀ H', Q (.bl true) H'
theorem law_ok {P : Program} {w : World} {K : PySem.W.Frag} {mg : Str → Option Value} {m n k : Nat} {d : Dn} {fa : Addr} {tb : List (Addr × Str)} (htb : ∀ t ∈ tb, ∃ p ∈ cs, p.2 = t.1) (hB : ∀ x ∈ bltN, mg (Str.ofString x) = none) (h : ∀ (k : Nat) (d : Dn), D[k]? = some d → ∃ t, T[k]? = some t ∧ DefOk K mg tb cs D d t) (hk : D[k]? = some d) (hps : d.ps = [("script" : Str)])
    (hfa : mg d.nm = some (.ref fa)) (pure : ∀ ns : List Int, ns.length ≤ m → ∃ h', evF T W n k [.scr] (AH.nil ns) = .ok (.bl true) h') :
    ∃ fd : FuncData, (∀ (s : Shared) (u : Value), BindsTo s fd ⟨[u], []⟩ [("script", u)]) ∧ ∀ base : Heap, (∀ p ∈ cs, LamX.TabB base mg p.1 p.2) → FnOk P w K mg base CX0 n fa fd ["script"] (spL m cs K) := by
  obtain ⟨t, hT, ⟨st, f, fd, N, h1, h2, h3, h4, h5, h6, h7, h8, h9⟩⟩ := h k d hk
  have e := hfa.symm.trans h1
  cases e
  have h4' := h4
  rw [hps] at h4
  refine ⟨fd, fun s u => h4 s [u] rfl, fun base hcs => ?_⟩
  have core : ∀ (A : Around) (outer : List Env) (s : Shared) (H : Hp) (args : Args) (us : List Value) (a : Addr) (ns : List Int) (Q : VK) (E : XK), Room n A → Env0 P w K mg base A outer s H → BindsTo s fd args ([("script" : Str)].zip us) → Vals [.ref a] us → ns.length ≤ m → (∀ p ∈ cs, H p.2 = some (.tbl #[])) →
      ((∃ o, H a = some (.frz o (.lst (ns.map V.int)))) ∨ ∃ (o : Obj) (its : Array Value) (n : Nat), K.lookup a = some o ∧ o.cls = .type "list" ∧ o.dict = none ∧ o.data = .seq its n ∧ its.size ≤ sizeLine ∧ Vals (ns.map V.int) its.toList) → (∀ H', Q (.bl true) H') →
      codeAny (model P w) A (.call (.ref fa) args) (CR CX0 outer P w H s Q E) s := by
    intro A outer s H args us a ns Q E hr he hb hv hl hT' hS q
    have F := fn_call (G := ⟨P, w, K, mg, base, [], a, fun _ _ => .no, [], [], tb, 0⟩) (W := W) (n := n) hB hcs hT h2 h3 h5 h6 h7 h9 fun n' _ => ds_all (G := ⟨P, w, K, mg, base, [], a, fun _ _ => .no, [], [], tb, 0⟩) hB hcs h n'
    rw [hps] at F
    refine F.run A outer s H args us _ Q E hr he hb hv ⟨rfl, [], AH.nil ns, [.scr], ?_, fun x m => ?_, rfl, ?_⟩
    · refine ⟨rfl, fun i j b e1 e2 d => (by cases e1), fun i b e => (by cases e), ?_, ⟨fun _ m => (by cases m), fun tt mt => ?_⟩, List.nil_prefix⟩
      · exact hS
      · obtain ⟨p, hp, e⟩ := htb tt mt
        rw [← e]
        exact LamX.TabS.nil (hT' p hp)
    · rw [List.mem_singleton.mp m]
      trivial
    · obtain ⟨h', e⟩ := pure ns hl
      rw [e]
      exact fun ι' H' _ _ _ _ => q H'
  refine ⟨fun vs H Q E hs => ?_, fun A outer s H args us vs Q E hr he hb hv hs => ?_⟩
  · obtain ⟨a, ns, rfl, _⟩ := hs
    rfl
  · obtain ⟨a, ns, rfl, hl, hT', hS, q⟩ := hs
    rcases hS with (hS | hS) | hS
    · obtain ⟨_, its, nn, rv, ga⟩ := he.hok a _ hS
      have hok : HOk P w (L2.upd H a (.frz { cls := .type "list", data := .seq its.toArray nn } (.lst (ns.map V.int)))) s.heap := fun b x z => by
        by_cases hb : b = a
        · subst hb
          rw [upd_same] at z
          cases z
          exact ⟨ga, he.hok b _ hS⟩
        · rw [upd_ne hb] at z
          exact objOk_frz hS (he.hok b x z)
      have he' : Env0 P w K mg base A outer s (L2.upd H a (.frz { cls := .type "list", data := .seq its.toArray nn } (.lst (ns.map V.int)))) := ⟨he.frames, he.mod, fun b o g => ⟨(he.bs b o g).1, by
        rw [upd_ne (fun z => by
          have z2 := (he.bs b o g).2
          rw [z, hS] at z2
          cases z2)]
        exact (he.bs b o g).2⟩, he.bsz, he.funs, fun b m => by
        rw [upd_ne (fun z => by
          have z2 := he.frf b m
          rw [z, hS] at z2
          cases z2)]
        exact he.frf b m, hok, he.bare⟩
      refine codeAny_mono (core A outer s _ args us a ns Q E hr he' hb hv hl (fun p hp => ?_) (.inl ⟨_, upd_same⟩) q) fun r s' z => ?_
      · rw [upd_ne (fun z => by
          have z2 := hT' p hp
          rw [z, hS] at z2
          cases z2)]
        exact hT' p hp
      · cases r with
        | error e => exact z
        | ok fl =>
          cases fl with
          | next => exact z
          | brk => exact z
          | cont => exact z
          | ret u =>
            obtain ⟨v, H2, z1, z2, z3, z4⟩ := z
            exact ⟨v, H2, z1, z2, un_frz hS z3, z4⟩
    · exact core A outer s H args us a ns Q E hr he hb hv hl hT' (.inl hS) q
    · exact core A outer s H args us a ns Q E hr he hb hv hl hT' (.inr hS) q
end
end EV

/-! EvX: what is asked of a text over trees (no heap): a slot holds a tree and how deep it is nobody else's. -/
namespace EV
open PySem
inductive TV where
  | non | bl (b : Bool) | int (i : Int) | str (x : Str) | ty (s : String) | stm | scr
  | lst (xs : List TV) | tup (xs : List TV)
  /-- a slot without a value; a lambda made at n, with the slots around it -/
  | unset | som (t : TV) | fn (n : Nat) (e : En) (xs : List TV)
def TV.atm : TV → Bool
  | .lst _ => false
  | .tup _ => false
  | .fn _ _ _ => false
  | _ => true
/-- a tree, and how deep it is nobody else's -/
abbrev TD := TV × Nat
abbrev TEn := List (Option TD)
/-- c: how many draws may come yet; none: no stream is made so far -/
structure TX where
  e : TEn
  c : Option Nat
def slot (e : TEn) (i : Nat) : Option TD := (e[i]?).getD none
def TX.put (x : TX) (i : Nat) (u : Option TD) : TX := ⟨x.e.set i u, x.c⟩
def TX.low (x : TX) (i k : Nat) : TX := match slot x.e i with
  | some (t, d) => if d ≤ k then x else x.put i (some (t, k))
  | none => x
/-- a branch -/
def br (b : Bool) (A B : Prop) : Prop := match b with
  | true => A
  | false => B
theorem br_t {b : Bool} {A B : Prop} (h : b = true) (a : A) : br b A B := by
  subst h
  exact a
theorem br_f {b : Bool} {A B : Prop} (h : b = false) (a : B) : br b A B := by
  subst h
  exact a
theorem br_i {b : Bool} {A B : Prop} (f : b = true → A) (g : b = false → B) : br b A B := by
  cases b
  · exact g rfl
  · exact f rfl
theorem br_d {p : Prop} [Decidable p] {A B : Prop} (f : p → A) (g : ¬p → B) : br (decide p) A B :=
  br_i (fun h => f (of_decide_eq_true h)) (fun h => g (of_decide_eq_false h))
abbrev K1 := TV → Prop
abbrev KE := TD → TX → Prop
abbrev KT := Bool → TX → Prop

/-! ### trees -/
def kT : AV → Option TV
  | .non => some .non
  | .bl b => some (.bl b)
  | .int i => some (.int i)
  | .str x => some (.str x)
  | _ => none
def typT : TV → Option String
  | .non => some "NoneType"
  | .bl _ => some "bool"
  | .int _ => some "int"
  | .str _ => some "str"
  | .lst _ => some "list"
  | .tup _ => some "tuple"
  | _ => none
def wTru (v : TV) (Q : Bool → Prop) : Prop := match v with
  | .non => Q false
  | .bl b => Q b
  | .int i => Q (i != 0)
  | .str x => x.length ≤ sizeLine ∧ Q ((x.length : Int) != 0)
  | .lst xs => Q (!xs.isEmpty)
  | .tup xs => Q (!xs.isEmpty)
  | _ => False
def toPyT : Nat → TV → Option PyData
  | 0, _ => none
  | f + 1, v => match v with
    | .non => some .none
    | .bl b => some (.bool b)
    | .int i => some (.int i)
    | .str x => some (.str x)
    | .lst xs => (mapO (toPyT f) xs).map .list
    | .tup xs => (mapO (toPyT f) xs).map .tuple
    | _ => none
def datT (v : TV) (d : PyData) : Prop := toPyT 200 v = some d ∧ SeqAt.shaped d = true
def intsT : List TV → Option (List Int)
  | [] => some []
  | .int i :: xs => match intsT xs with
    | some is => some (i :: is)
    | none => none
  | _ => none
/-- an item's truth -/
def tlT : TV → Option Bool
  | .non => some false
  | .bl b => some b
  | .int i => some (i != 0)
  | .str x => if x.length ≤ sizeLine then some ((x.length : Int) != 0) else none
  | .lst xs => some (!xs.isEmpty)
  | .tup xs => some (!xs.isEmpty)
  | _ => none
def blsT : List TV → Option (List Bool)
  | [] => some []
  | x :: xs => match tlT x with
    | some i => (match blsT xs with
      | some is => some (i :: is)
      | none => none)
    | none => none
/-- lo, lo + 1, .. -/
def rgT (lo : Int) (n : Nat) : List TV := (List.range n).map fun k => .int (lo + (k : Nat))
def wIx (o i : TV) (Q : K1) : Prop := match o, i with
  | .lst xs, .int j => ∃ t, L2.atI xs j = some t ∧ Q t
  | .tup xs, .int j => ∃ t, L2.atI xs j = some t ∧ Q t
  | .str z, .int j => z.length ≤ sizeLine ∧ ∃ c, L2.atI z.cps.toList j = some c ∧ Q (.str ⟨#[c]⟩)
  | _, _ => False
def wBin (op : BOp) (x y : TV) (Q : TD → Prop) : Prop := match op, x, y with
  | .add, .int i, .int j => Q (.int (i + j), 9)
  | .add, .str a, .str b => a.length + b.length ≤ sizeLine ∧ Q (.str (a ++ b), 9)
  | .add, .lst xs, .lst ys => xs.length + ys.length ≤ sizeLine ∧ Q (.lst (xs ++ ys), 1)
  | .add, .tup xs, .tup ys => xs.length + ys.length ≤ sizeLine ∧ Q (.tup (xs ++ ys), 0)
  | .sub, .int i, .int j => Q (.int (i - j), 9)
  | .mul, .int i, .int j => i.natAbs.log2 + j.natAbs.log2 < 1000000 ∧ Q (.int (i * j), 9)
  | .mul, .lst xs, .int j => (-(2 ^ 63) ≤ j ∧ j < 2 ^ 63 ∧ xs.length * j.toNat ≤ sizeLine) ∧ Q (.lst (List.replicate j.toNat xs).flatten, 1)
  | .fdiv, .int i, .int j => (j ≠ 0 ∧ (j.natAbs < 1073741824 ∨ (0 < j ∧ j.natAbs.log2 < 9000))) ∧ Q (.int (i.fdiv j), 9)
  | .mod, .int i, .int j => j ≠ 0 ∧ Q (.int (i.fmod j), 9)
  | .pow, .int i, .int j => (0 ≤ j ∧ j ≤ 1000000 ∧ i.natAbs < 2 ^ 64) ∧ Q (.int (i ^ j.toNat), 9)
  | .shl, .int i, .int j => (0 ≤ j ∧ j ≤ 1000000 ∧ i.natAbs < 2 ^ 64) ∧ Q (.int (i * 2 ^ j.toNat), 9)
  | .shr, .int i, .int j => 0 ≤ j ∧ Q (.int (i / 2 ^ j.toNat), 9)
  | _, _, _ => False
def wAug (op : BOp) (x y : TV) (Q : K1) : Prop := match op, x, y with
  | .add, .int i, .int j => Q (.int (i + j))
  | .sub, .int i, .int j => Q (.int (i - j))
  | _, _, _ => False
def flatT : TV → Bool
  | .non => true
  | .bl _ => true
  | .int _ => true
  | .str _ => true
  | _ => false
def eqFT : TV → TV → Bool
  | .non, .non => true
  | .bl a, .bl b => a == b
  | .bl a, .int b => (if a then 1 else 0) == b
  | .int a, .bl b => a == (if b then 1 else 0)
  | .int a, .int b => a == b
  | .str a, .str b => a == b
  | _, _ => false
def wIn (x y : TV) (Q : Bool → Prop) : Prop := match y with
  | .tup xs => (flatT x && xs.all flatT) = true ∧ Q (xs.any fun y => eqFT y x)
  | .lst xs => ∃ ds d, datT (.lst xs) (.list ds) ∧ datT x d ∧ Q (ds.any fun z => PyData.eqv z d)
  | _ => False
/-- equality: of ints, texts, truths at once; else by what they tell -/
def wEq (x y : TV) (Q : Bool → Prop) : Prop := match x, y with
  | .int i, .int j => Q (decide (i = j))
  | x, y => ∃ d e, datT x d ∧ datT y e ∧ Q (PyData.eqv d e)
def wCmp (op : COp) (x y : TV) (Q : Bool → Prop) : Prop := match op with
  | .eq => wEq x y Q
  | .ne => wEq x y fun b => Q (!b)
  | .lt => match x, y with
    | .int i, .int j => Q (decide (i < j))
    | .tup xs, .tup ys => ∃ is js, intsT xs = some is ∧ intsT ys = some js ∧ Q (lexA is js)
    | _, _ => False
  | .le => match x, y with
    | .int i, .int j => Q (decide (i ≤ j))
    | _, _ => False
  | .gt => match x, y with
    | .int i, .int j => Q (decide (j < i))
    | _, _ => False
  | .ge => match x, y with
    | .int i, .int j => Q (decide (j ≤ i))
    | _, _ => False
  | .is => match y with
    | .non => Q (match x with
      | .non => true
      | _ => false)
    | _ => False
  | .isnot => match y with
    | .non => Q (match x with
      | .non => false
      | _ => true)
    | _ => False
  | .isin => wIn x y Q
  | .notin => wIn x y fun b => Q (!b)
def cutT (xs : List TV) (lo hi : Option Int) : List TV := (xs.drop (HT.sIx xs.length 0 lo)).take (HT.sIx xs.length xs.length hi - HT.sIx xs.length 0 lo)
def wSlice (o : TV) (lo hi : Option Int) (Q : TD → Prop) : Prop := match o with
  | .lst xs => Q (.lst (cutT xs lo hi), 1)
  | .tup xs => Q (.tup (cutT xs lo hi), 0)
  | _ => False
/-- built-ins that only look -/
def wLook (b : Bi) (x : TV) (Q : K1) : Prop := match b, x with
  | .len, .str x => x.length ≤ sizeLine ∧ Q (.int x.length)
  | .len, .lst xs => Q (.int xs.length)
  | .len, .tup xs => Q (.int xs.length)
  | .abs, .int i => Q (.int (if i < 0 then -i else i))
  | .int, .int i => Q (.int i)
  | .int, .bl b => Q (.int (if b then 1 else 0))
  | .sum, .lst xs => ∃ is, intsT xs = some is ∧ Q (.int is.sum)
  | .max, .lst xs => ∃ i is, intsT xs = some (i :: is) ∧ Q (.int (is.foldl (fun a b => if a < b then b else a) i))
  | .min, .lst xs => ∃ i is, intsT xs = some (i :: is) ∧ Q (.int (is.foldl (fun a b => if b < a then b else a) i))
  | .all, .lst xs => ∃ bs, blsT xs = some bs ∧ Q (.bl (bs.all id))
  | .any, .lst xs => ∃ bs, blsT xs = some bs ∧ Q (.bl (bs.any id))
  | _, _ => False
/-- built-ins that take the items over -/
def wTake (b : Bi) (x : TV) (Q : TD → Prop) : Prop := match b, x with
  | .list, .lst xs => Q (.lst xs, 1)
  | .list, .tup xs => Q (.lst xs, 1)
  | .tuple, .lst xs => Q (.tup xs, 0)
  | .tuple, .tup xs => Q (.tup xs, 0)
  | .sorted, .lst xs => ∃ is, intsT xs = some is ∧ Q (.lst ((sortI is).map .int), 1)
  | _, _ => False
/-- of a value that is nobody else's: its items stay its own -/
def wTakeD (b : Bi) (u : TD) (Q : TD → Prop) : Prop := match b, u with
  | .list, (.lst xs, d) => Q (.lst xs, d - 1 + 1)
  | .list, (.tup xs, d) => Q (.lst xs, d - 1 + 1)
  | .tuple, (.lst xs, d) => Q (.tup xs, d - 1 + 1)
  | .tuple, (.tup xs, d) => Q (.tup xs, d)
  | .sorted, (.lst xs, _) => ∃ is, intsT xs = some is ∧ Q (.lst ((sortI is).map .int), 1)
  | _, _ => False
/-- methods that only look -/
def wMlook (m : Mt) (x : TV) (us : List TV) (Q : K1) : Prop := match m, x, us with
  | .index, .lst xs, [u] => ∃ ds d j, datT (.lst xs) (.list ds) ∧ datT u d ∧ (ds.findIdx? fun z => PyData.eqv z d) = some j ∧ Q (.int j)
  | .count, .lst xs, [.int u] => ∃ is, intsT xs = some is ∧ Q (.int (is.count u))
  | _, _, _ => False
/-- methods that change the receiver (of own depth d + 1): its new items, its depth, the answer -/
def wMchg (m : Mt) (xs : List TV) (d : Nat) (us : List TD) (Q : List TV → Nat → TD → Prop) : Prop := match m, us with
  | .append, [u] => xs.length < sizeLine ∧ Q (xs ++ [u.1]) (min d u.2) (.non, 9)
  | .extend, [(.lst ys, e)] => xs.length + ys.length ≤ sizeLine ∧ Q (xs ++ ys) (min d (e - 1)) (.non, 9)
  | .pop, [] => ∃ y, xs[xs.length - 1]? = some y ∧ Q xs.dropLast d (y, d)
  | .pop, [(.int i, _)] => (-(2 ^ 63) ≤ i ∧ i < 2 ^ 63) ∧ ∃ k y, L2.ixN xs.length i = some k ∧ xs[k]? = some y ∧ Q (xs.eraseIdx k) d (y, d)
  | _, _ => False

/-! ### looking -/
def isTk : Bi → Bool
  | .list => true
  | .tuple => true
  | .sorted => true
  | _ => false
/-- nothing is called or changed in it -/
def calm : E → Bool
  | .k _ => true
  | .var _ m => match m with
    | .mv => false
    | _ => true
  | .bin _ a b => calm a && calm b
  | .neg a => calm a
  | .no a => calm a
  | .an a b => calm a && calm b
  | .orr a b => calm a && calm b
  | .ite c a b => calm c && calm a && calm b
  | .cmp _ a b => calm a && calm b
  | .ix a b => calm a && calm b
  | .bi b [a] => !isTk b && calm a
  | .isi a _ => calm a
  | .lst [] => true
  | _ => false
/-- the slot that a look goes into, and how deep -/
def root : E → Option (Nat × Nat)
  | .var i m => match m with
    | .mv => none
    | _ => some (i, 0)
  | .ix a _ => match root a with
    | some (i, l) => some (i, l + 1)
    | none => none
  | _ => none
def rootV : E → Option Nat
  | .var i m => match m with
    | .mv => none
    | _ => some i
  | _ => none
/-- a name whose value is handed on -/
def mvV : E → Option Nat
  | .var i m => match m with
    | .mv => some i
    | _ => none
  | _ => none
inductive TTv where
  | one (v : TV) | two (a b : TV)
def enumT : Nat → List TV → List TTv
  | _, [] => []
  | i, x :: xs => .two (.int i) x :: enumT (i + 1) xs
def zipTT : List TV → List TV → List TTv
  | x :: xs, y :: ys => .two x y :: zipTT xs ys
  | _, _ => []
def rangeTT (lo : Int) : Nat → List TTv
  | 0 => []
  | n + 1 => .one (.int lo) :: rangeTT (lo + 1) n
def stepTT (lo c : Int) : Nat → List TTv
  | 0 => []
  | n + 1 => .one (.int lo) :: stepTT (lo + c) c n
def wSrc (sk : Sk) (xs : List TV) (Q : List TTv → Prop) : Prop := match sk, xs with
  | .seq, [.lst ys] => Q (ys.map .one)
  | .seq, [.tup ys] => Q (ys.map .one)
  | .range, [.int j] => (-(2 ^ 62) ≤ j ∧ j < 2 ^ 62) ∧ Q (rangeTT 0 j.toNat)
  | .range, [.int i, .int j] => ((-(2 ^ 62) ≤ i ∧ i < 2 ^ 62) ∧ -(2 ^ 62) ≤ j ∧ j < 2 ^ 62) ∧ Q (rangeTT i (j - i).toNat)
  | .range, [.int i, .int j, .int c] => (((-(2 ^ 62) ≤ i ∧ i < 2 ^ 62) ∧ -(2 ^ 62) ≤ j ∧ j < 2 ^ 62) ∧ 0 < c ∧ c < 1073741824) ∧ Q (stepTT i c (rangeSz i j c))
  | .enum, [.lst ys] => Q (enumT 0 ys)
  | .zip, [.lst ys, .lst zs] => Q (zipTT ys zs)
  | .zip, [.tup ys, .tup zs] => Q (zipTT ys zs)
  | _, _ => False
def setManyT : TEn → List Nat → List TV → Option TEn
  | e, [], [] => some e
  | e, i :: is, v :: vs => setManyT (e.set i (some (v, 0))) is vs
  | _, _, _ => none
def bindTT (t : Tg) (v : TTv) (e : TEn) : Option TEn := match t, v with
  | .nm i, .one v => some (e.set i (some (v, 0)))
  | .tp is, .one (.tup xs) => setManyT e is xs
  | .tp is, .two a b => setManyT e is [a, b]
  | _, _ => none
def wBind (t : Tg) (v : TTv) (e : TEn) (Q : TEn → Prop) : Prop := match bindTT t v e with
  | some e => Q e
  | none => False
def wipeT (e : TEn) : List Nat → TEn
  | [] => e
  | v :: vs => (wipeT e vs).set v none
/-- the slots vs as they were in e0 -/
def backT (e0 e : TEn) : List Nat → TEn
  | [] => e
  | v :: vs => (backT e0 e vs).set v (slot e0 v)
def nodupB : List Nat → Bool
  | [] => true
  | v :: vs => !vs.contains v && nodupB vs
def tgS : Tg → List Nat
  | .nm i => [i]
  | .tp is => is
def insB (xs ys : List Nat) : Bool := xs.all ys.contains
def gd (b : Bool) (P : Prop) : Prop := match b with
  | true => P
  | false => False
/-- a comprehension's loop -/
def wComp (f : TTv → TX → (Option TD → TX → Prop) → Prop) (Q : List TV → Nat → TX → Prop) : List TTv → TX → List TV → Nat → Prop
  | [], x, acc, d => Q acc d x
  | t :: ts, x, acc, d => f t x fun o x1 => match o with
    | some v => acc.length < sizeLine ∧ wComp f Q ts x1 (acc ++ [v.1]) (min d v.2)
    | none => wComp f Q ts x1 acc d
def wComp2 (f : TTv → TX → List TV → Nat → (List TV → Nat → TX → Prop) → Prop) (Q : List TV → Nat → TX → Prop) : List TTv → TX → List TV → Nat → Prop
  | [], x, acc, d => Q acc d x
  | t :: ts, x, acc, d => f t x acc d fun acc1 d1 x1 => wComp2 f Q ts x1 acc1 d1
def turnTA (tgt : Tg) (own : List Nat) (cv : TX → KT → Prop) (ev : TX → KE → Prop) : TTv → TX → (Option TD → TX → Prop) → Prop := fun t x Q => wBind tgt t (wipeT x.e own) fun e2 => cv ⟨e2, x.c⟩ fun b x3 => br b (ev x3 fun v x4 => Q (some v) x4) (Q none x3)
def turnTB (tgt : Tg) (own own1 : List Nat) (cv : TX → KT → Prop) (sk1 : Sk) (evs1 : TX → (List TD → TX → Prop) → Prop) (tgt1 : Tg) (cv1 : TX → KT → Prop) (ev : TX → KE → Prop) : TTv → TX → List TV → Nat → (List TV → Nat → TX → Prop) → Prop := fun t x acc d Q => wBind tgt t (wipeT x.e own) fun e2 => cv ⟨e2, x.c⟩ fun b x3 => br b (evs1 x3 fun ys x4 => wSrc sk1 (ys.map (·.1)) fun ts => wComp (turnTA tgt1 own1 cv1 ev) Q ts x4 acc d) (Q acc d x3)
def dmin : List TD → Nat
  | [] => 9
  | u :: us => min u.2 (dmin us)
def isLk : Mt → Bool
  | .index => true
  | .count => true
  | _ => false
/-- what a look ends in: an atom as it is; else what stands behind the place is nobody's own -/
def done (p : E) (Q : KE) (t : TV) (x : TX) : Prop := match t.atm with
  | true => Q (t, 9) x
  | false => match root p with
    | some (i, l) => Q (t, 0) (x.low i l)
    | none => Q (t, 0) x
structure W3 where
  e : TX → KE → Prop
  t : TX → KT → Prop
  l : TX → (TV → TX → Prop) → Prop
def W3.no : W3 := ⟨fun _ _ => False, fun _ _ => False, fun _ _ => False⟩
/-- by its value -/
def W3.by (f : TX → KE → Prop) : W3 := ⟨f, fun x Q => f x fun u x1 => wTru u.1 fun b => Q b x1, fun x Q => f x fun u x1 => Q u.1 x1⟩
/-- by a look -/
def W3.lk (p : E) (f : TX → (TV → TX → Prop) → Prop) : W3 := ⟨fun x Q => f x fun t x1 => done p Q t x1, fun x Q => f x fun t x1 => wTru t fun b => Q b x1, f⟩
/-- by a test too -/
def W3.tt (f : TX → KE → Prop) (g : TX → KT → Prop) : W3 := ⟨f, g, fun x Q => f x fun u x1 => Q u.1 x1⟩
/-- two looks, one behind the other -/
def two (b : E) (A B : W3) (x : TX) (Q : TV → TV → TX → Prop) : Prop := match calm b with
  | true => A.l x fun u x1 => B.l x1 fun v x2 => Q u v x2
  | false => A.e x fun u x1 => B.l x1 fun v x2 => Q u.1 v x2
/-- the items are taken over -/
def takes (p : E) (A : W3) (x : TX) (Q : TV → TX → Prop) : Prop := match root p with
  | some (i, l) => A.l x fun t x1 => Q t (x1.low i (l + 1))
  | none => A.e x fun u x1 => Q u.1 x1
/-- the slots around a lambda -/
def teOf (xs : List TV) : TEn := xs.map fun t => match t with
  | .som t => some (t, 0)
  | _ => none
def teTo (e : TEn) : List TV := e.map fun u => match u with
  | some (t, _) => .som t
  | none => .unset
/-- all slots shared -/
def lowE (e : TEn) : TEn := e.map fun u => match u with
  | some (t, _) => some (t, 0)
  | none => none
/-- built-in calls -/
inductive Pr where
  | stream | draw | spoil
mutual
/-- how deep lists and tuples stand within one another -/
def hgt : TV → Nat
  | .lst xs => hgtL xs + 1
  | .tup xs => hgtL xs + 1
  | _ => 0
def hgtL : List TV → Nat
  | [] => 0
  | x :: xs => max (hgt x) (hgtL xs)
end
mutual
/-- each list may grow by one -/
def room : TV → Prop
  | .lst xs => xs.length < sizeLine ∧ roomL xs
  | .tup xs => roomL xs
  | .stm => False
  | .scr => False
  | .ty _ => False
  | .unset => False
  | .som _ => False
  | .fn _ _ _ => False
  | _ => True
def roomL : List TV → Prop
  | [] => True
  | x :: xs => room x ∧ roomL xs
end
mutual
/-- all lists made longer -/
def spoilT : TV → TV
  | .lst xs => .lst (spoilL xs ++ [.str "late"])
  | .tup xs => .tup (spoilL xs)
  | t => t
def spoilL : List TV → List TV
  | [] => []
  | x :: xs => spoilT x :: spoilL xs
end
abbrev CQ := TD → Option Nat → Prop
/-- what a lambda is asked: where it was made, its slots -/
abbrev LTt := Nat → En → List TV → Option Nat → CQ → Prop
structure CTs where
  call : Nat → List TV → Option Nat → CQ → Prop
  app : LTt
  cl : List E → Nat → En → List TV → Nat → List TV → Option Nat → CQ → Prop
  /-- that call spoils such a tree -/
  spo : Nat → TV → Prop
section
-- CT: what is asked of a call
variable (CT : CTs)
mutual
def wP : E → W3
  | .bad => .no
  | .k c => .by fun x Q => match kT c with
    | some t => Q (t, 9) x
    | none => False
  | .var i m => match m with
    | .mv => .by fun x Q => match slot x.e i with
      | some u => Q u (x.put i none)
      | none => False
    | _ => .lk (.var i m) fun x Q => match slot x.e i with
      | some (t, _) => Q t x
      | none => False
  | .glo _ => .no
  | .bin op a b => .by fun x Q => (wP a).e x fun u x1 => (wP b).e x1 fun v x2 => wBin op u.1 v.1 fun r => Q r x2
  | .neg a => .by fun x Q => (wP a).e x fun u x1 => match u.1 with
    | .int i => Q (.int (-i), 9) x1
    | _ => False
  | .no a => .tt (fun x Q => (wP a).l x fun u x1 => wTru u fun b => Q (.bl (!b), 9) x1) fun x Q => (wP a).t x fun b x1 => Q (!b) x1
  | .an a b => .tt (fun x Q => (wP a).e x fun u x1 => wTru u.1 fun t => br t ((wP b).e x1 Q) (Q u x1)) fun x Q => (wP a).t x fun t x1 => br t ((wP b).t x1 Q) (Q false x1)
  | .orr a b => .tt (fun x Q => (wP a).e x fun u x1 => wTru u.1 fun t => br t (Q u x1) ((wP b).e x1 Q)) fun x Q => (wP a).t x fun t x1 => br t (Q true x1) ((wP b).t x1 Q)
  | .ite c a b => .tt (fun x Q => (wP c).t x fun t x1 => br t ((wP a).e x1 Q) ((wP b).e x1 Q)) fun _ _ => False
  | .cmp op a b => .by fun x Q => two b (wP a) (wP b) x fun u v x1 => wCmp op u v fun t => Q (.bl t, 9) x1
  | .cmp2 op op' a b c => .by fun x Q => (wP a).e x fun u x1 => (wP b).e x1 fun v x2 => wCmp op u.1 v.1 fun t => br t ((wP c).e x2 fun w x3 => wCmp op' v.1 w.1 fun t => Q (.bl t, 9) x3) (Q (.bl false, 9) x2)
  | .ix a b => match mvV a with
    | some _ => .by fun x Q => (wP a).e x fun u x1 => (wP b).l x1 fun v x2 => wIx u.1 v fun t => Q (t, u.2 - 1) x2
    | none => .lk (.ix a b) fun x Q => match rootV a, calm b with
      | some i, false => (wP b).l x fun v x1 => match slot x1.e i with
        | some (u, _) => wIx u v fun t => Q t x1
        | none => False
      | _, _ => two b (wP a) (wP b) x fun u v x1 => wIx u v fun t => Q t x1
  | .sl a lo hi => .by fun x Q => (wP a).e x fun u x1 => wO lo x1 fun l x2 => wO hi x2 fun h x3 => wSlice u.1 l h fun r => Q r x3
  | .rev a => .by fun x Q => takes a (wP a) x fun u x1 => match u with
    | .lst xs => Q (.lst xs.reverse, 1) x1
    | _ => False
  | .lst es => .by fun x Q => wEs es x fun us x1 => us.length ≤ sizeLine ∧ Q (.lst (us.map (·.1)), dmin us + 1) x1
  | .tup es => .by fun x Q => wEs es x fun us x1 => us.length ≤ sizeLine ∧ Q (.tup (us.map (·.1)), dmin us + 1) x1
  | .lstS fs es => .by fun x Q => wFs fs es x fun us x1 => us.length ≤ sizeLine ∧ Q (.lst (us.map (·.1)), dmin us + 1) x1
  | .lrg1 a => .by fun x Q => (wP a).e x fun u x1 => match u.1 with
    | .int j => ((-(2 ^ 62) ≤ j ∧ j < 2 ^ 62) ∧ j.toNat ≤ 16777216) ∧ Q (.lst (rgT 0 j.toNat), 1) x1
    | _ => False
  | .lrg2 a b => .by fun x Q => (wP a).e x fun u x1 => (wP b).e x1 fun v x2 => match u.1, v.1 with
    | .int i, .int j => (((-(2 ^ 62) ≤ i ∧ i < 2 ^ 62) ∧ -(2 ^ 62) ≤ j ∧ j < 2 ^ 62) ∧ (j - i).toNat ≤ 16777216) ∧ Q (.lst (rgT i (j - i).toNat), 1) x2
    | _, _ => False
  | .dnew _ => .no
  | .disp _ _ => .no
  | .call k es => .by fun x Q => wEs es x fun us x1 => CT.call k (us.map (·.1)) x1.c fun r c => Q r ⟨x1.e, c⟩
  | .app i => .by fun x Q => match slot x.e i with
    | some (.fn n e ts, _) => CT.app n e ts x.c fun r c => Q r ⟨x.e, c⟩
    | _ => False
  | .calll k es ls => .by fun x Q => wEs es x fun us x1 => ∀ n e, CT.cl ls n e (teTo x1.e) k (us.map (·.1) ++ (List.range ls.length).map fun j => .fn (n + j) e (teTo x1.e)) x1.c fun r c => Q r ⟨lowE x1.e, c⟩
  | .callk k es ks pm => .by fun x Q => wEs es x fun us x1 => wEs ks x1 fun ws x2 => CT.call k (us.map (·.1) ++ pm.filterMap fun j => (ws.map (·.1))[j]?) x2.c fun r c => Q r ⟨x2.e, c⟩
  | .bi b es => match es with
    | [a] => match isTk b with
      | true => match root a with
        | some _ => .by fun x Q => takes a (wP a) x fun u x1 => wTake b u fun r => Q r x1
        | none => .by fun x Q => (wP a).e x fun u x1 => wTakeD b u fun r => Q r x1
      | false => .by fun x Q => (wP a).l x fun u x1 => wLook b u fun t => Q (t, 9) x1
    | _ => .no
  | .isi a ts => .by fun x Q => (wP a).l x fun u x1 => match typT u with
    | some t => Q (.bl (ts.any (isiB t)), 9) x1
    | none => False
  | .mt m o es => match isLk m with
    | true => .by fun x Q => (wP o).e x fun u x1 => wEs es x1 fun us x2 => wMlook m u.1 (us.map (·.1)) fun t => Q (t, 9) x2
    | false => match rootV o with
      | some i => .by fun x Q => match slot x.e i with
        | some (.lst _, _) => wEs es x fun us x1 => match slot x1.e i with
          | some (.lst xs, d + 1) => wMchg m xs d us fun ys d' r => Q r (x1.put i (some (.lst ys, d' + 1)))
          | _ => False
        | _ => False
      | none => .no
  | .lc own elt tg sk src cond => .by fun x Q => gd (nodupB own && insB (tgS tg) own) (wEs src x fun us x1 => wSrc sk (us.map (·.1)) fun ts => wComp (turnTA tg own (wC cond) (wP elt).e) (fun acc d x2 => Q (.lst acc, d + 1) ⟨backT x1.e (wipeT x2.e own) own, x2.c⟩) ts x1 [] 9)
  | .lc2 own own1 elt tg sk src cond tg1 sk1 src1 cond1 => .by fun x Q => gd (nodupB own && insB (tgS tg) own && insB own1 own && insB (tgS tg1) own1) (wEs src x fun us x1 => wSrc sk (us.map (·.1)) fun ts => wComp2 (turnTB tg own own1 (wC cond) sk1 (wEs src1) tg1 (wC cond1) (wP elt).e) (fun acc d x2 => Q (.lst acc, d + 1) ⟨backT x1.e (wipeT x2.e own) own, x2.c⟩) ts x1 [] 9)
def wC : Option E → TX → KT → Prop
  | none => fun x Q => Q true x
  | some p => (wP p).t
def wO : Option E → TX → (Option Int → TX → Prop) → Prop
  | none => fun x Q => Q none x
  | some p => fun x Q => (wP p).e x fun u x1 => match u.1 with
    | .int i => Q (some i) x1
    | _ => False
def wEs : List E → TX → (List TD → TX → Prop) → Prop
  | [] => fun x Q => Q [] x
  | p :: ps => fun x Q => (wP p).e x fun u x1 => wEs ps x1 fun us x2 => Q (u :: us) x2
/-- items, some of them starred: their items are shared -/
def wFs : List Bool → List E → TX → (List TD → TX → Prop) → Prop
  | _, [] => fun x Q => Q [] x
  | fs, p :: ps => match fs.headD false with
    | true => fun x Q => takes p (wP p) x fun u x1 => match u with
      | .lst ys => wFs fs.tail ps x1 fun us x2 => Q (ys.map (fun y => (y, 0)) ++ us) x2
      | .tup ys => wFs fs.tail ps x1 fun us x2 => Q (ys.map (fun y => (y, 0)) ++ us) x2
      | _ => False
    | false => fun x Q => (wP p).e x fun u x1 => wFs fs.tail ps x1 fun us x2 => Q (u :: us) x2
end
end
theorem wFs_t {CT : CTs} {fs : List Bool} {p : E} {ps : List E} (hf : fs.headD false = true) : wFs CT fs (p :: ps) = fun x Q => takes p (wP CT p) x fun u x1 => match u with
      | .lst ys => wFs CT fs.tail ps x1 fun us x2 => Q (ys.map (fun y => (y, 0)) ++ us) x2
      | .tup ys => wFs CT fs.tail ps x1 fun us x2 => Q (ys.map (fun y => (y, 0)) ++ us) x2
      | _ => False := by
  rw [wFs, hf]
theorem wFs_f {CT : CTs} {fs : List Bool} {p : E} {ps : List E} (hf : fs.headD false = false) : wFs CT fs (p :: ps) = fun x Q => (wP CT p).e x fun u x1 => wFs CT fs.tail ps x1 fun us x2 => Q (u :: us) x2 := by
  rw [wFs, hf]
/-! ### statements -/
structure KS where
  nx : TX → Prop
  rt : TD → Option Nat → Prop
  bk : TX → Prop
  ct : TX → Prop
def wFor (f : TTv → TX → KS → Prop) (D : KS) : List TTv → TX → Prop
  | [], x => D.nx x
  | t :: ts, x => f t x ⟨wFor f D ts, D.rt, D.nx, wFor f D ts⟩
def wWhl (c : TX → KT → Prop) (f : TX → KS → Prop) (D : KS) : Nat → TX → Prop
  | 0, _ => False
  | g + 1, x => c x fun b x1 => br b (f x1 ⟨wWhl c f D g, D.rt, D.nx, wWhl c f D g⟩) (D.nx x1)
/-- a test of calls alone: what is lent to it comes back -/
def lends : E → Bool
  | .call _ _ => true
  | .calll _ _ _ => true
  | .callk _ _ _ _ => true
  | .no a => lends a
  | .orr a b => lends a && lends b
  | .an a b => lends a && lends b
  | _ => false
/-- an atom put behind a list within a tuple: the slot, the index, the atom -/
def inner : E → Option (Nat × Int × AV)
  | .mt .append (.ix (.var i _) (.k (.int j))) [.k c] => some (i, j, c)
  | _ => none
def Grown (j : Int) (c : AV) (t : TV) (d : Nat) (t' : TV) : Prop := ∃ ts k xs u, t = .tup ts ∧ kT c = some u ∧ L2.ixN ts.length j = some k ∧ ts[k]? = some (.lst xs) ∧ 1 < d ∧ xs.length < sizeLine ∧ t' = .tup (ts.set k (.lst (xs ++ [u])))
section
variable (CT : CTs) (W : Nat) (mu : List Nat)
def keep (i : Nat) (u : TD) : TD := match mu.contains i with
  | true => u
  | false => (u.1, 0)
def setManyD : TEn → List Nat → List TD → Option TEn
  | e, [], [] => some e
  | e, i :: is, v :: vs => setManyD (e.set i (some (keep mu i v))) is vs
  | _, _, _ => none
mutual
def wS : S → TX → KS → Prop
  | .bad => fun _ _ => False
  | .set i p => fun x D => (wP CT p).e x fun u x1 => D.nx (x1.put i (some (keep mu i u)))
  | .par is ps => fun x D => wEs CT ps x fun us x1 => match setManyD mu x1.e is us with
    | some e => D.nx ⟨e, x1.c⟩
    | none => False
  | .asg t p => fun x D => (wP CT p).e x fun u x1 => wBind t (.one u.1) x1.e fun e => D.nx ⟨e, x1.c⟩
  | .sub o i p => fun x D => (wP CT p).e x fun u x1 => match rootV o with
    | some k => match slot x1.e k with
      | some _ => (wP CT i).e x1 fun v x2 => match slot x2.e k, v.1 with
        | some (.lst xs, d + 1), .int j => ∃ n, L2.ixN xs.length j = some n ∧ D.nx (x2.put k (some (.lst (xs.set n u.1), min d u.2 + 1)))
        | _, _ => False
      | none => False
    | none => False
  | .aug i op p => fun x D => match slot x.e i with
    | some (t, _) => (wP CT p).e x fun u x1 => wAug op t u.1 fun r => D.nx (x1.put i (some (r, 0)))
    | none => False
  | .augs _ _ _ _ => fun _ _ => False
  | .ex p => match inner p with
    | some (i, j, c) => fun x D => match slot x.e i with
      | some (t, d) => ∃ t', Grown j c t d t' ∧ D.nx (x.put i (some (t', d)))
      | none => False
    | none => fun x D => (wP CT p).e x fun _ x1 => D.nx x1
  | .ret p => fun x D => (wP CT p).e x fun u x1 => D.rt u x1.c
  | .retn => fun x D => D.rt (.non, 9) x.c
  | .iff c a b => match lends c with
    | true => fun x D => (wP CT c).t ⟨lowE x.e, x.c⟩ fun t x1 => br t (wSs a ⟨x.e, x1.c⟩ D) (wSs b ⟨x.e, x1.c⟩ D)
    | false => fun x D => (wP CT c).t x fun t x1 => br t (wSs a x1 D) (wSs b x1 D)
  | .whl c b => fun x D => wWhl (wP CT c).t (wSs b) D W x
  | .for_ t sk src b => fun x D => wEs CT src x fun us x1 => wSrc sk (us.map (·.1)) fun ts => wFor (fun v x2 D' => wBind t v x2.e fun e => wSs b ⟨e, x2.c⟩ D') D ts x1
  | .brk => fun x D => D.bk x
  | .cnt => fun x D => D.ct x
  | .pass => fun x D => D.nx x
  | .raise _ _ => fun _ _ => False
  | .spo k i => fun x D => match slot x.e i with
    | some (t, d) => (CT.spo k t ∧ hgt t ≤ d ∧ room t) ∧ D.nx (x.put i (some (spoilT t, d)))
    | none => False
def wSs : List S → TX → KS → Prop
  | [] => fun x D => D.nx x
  | s :: ss => fun x D => wS s x ⟨fun x1 => wSs ss x1 D, D.rt, D.bk, D.ct⟩
end
end
/-! ### calls -/
def enT (ns : Nat) (vs : List TV) : TEn := vs.map (fun v => some (v, 0)) ++ List.replicate (ns - vs.length) none
def wDraw (vs : List TV) (c : Option Nat) (Q : TD → Option Nat → Prop) : Prop := match vs, c with
  | [.stm, .int many], some (c + 1) => (0 < many ∧ many < 1073741824) ∧ ∀ d, 0 ≤ d → d < many → Q (.int d, 9) (some c)
  | _, _ => False
def wStream (vs : List TV) (c : Option Nat) (Q : TD → Option Nat → Prop) : Prop := match vs, c with
  | [.scr], none => Q (.stm, 9) (some 1000000000)
  | _, _ => False
def kst (ro : Bool) (Q : TD → Option Nat → Prop) : KS := ⟨fun x => Q (.non, 9) x.c, fun u c => match ro with
  | true => Q u c
  | false => Q (u.1, 0) c, fun _ => False, fun _ => False⟩
/-- no lambda -/
def noT : LTt := fun _ _ _ _ _ => False
/-- the lambdas made at n, over the slots e -/
def appT (n : Nat) (e : En) (fs : List (TEn → Option Nat → CQ → Prop)) : LTt := fun m e' ts c Q => ∃ j f, m = n + j ∧ e' = e ∧ fs[j]? = some f ∧ f (teOf ts) c Q
def wLs (CT : CTs) (ls : List E) : List (TEn → Option Nat → CQ → Prop) := ls.map fun p e c Q => (wP CT p).e ⟨e, c⟩ fun u x1 => Q u x1.c
def runT (T : List Fd) (mus : List (List Nat × Bool)) (pr : Nat → Option Pr) (CT : CTs) (W : Nat) (k : Nat) (vs : List TV) (c : Option Nat) (Q : CQ) : Prop := match pr k with
  | some .stream => wStream vs c Q
  | some .draw => wDraw vs c Q
  | some .spoil => False
  | none => match T[k]? with
    | some d => vs.length = d.np ∧ wSs CT W ((mus[k]?).getD ([], false)).1 d.body ⟨enT d.ns vs, c⟩ (kst ((mus[k]?).getD ([], false)).2 Q)
    | none => False
/-- no call -/
def ctN (L : LTt) : CTs := ⟨fun _ _ _ _ => False, L, fun _ _ _ _ _ _ _ _ => False, fun _ _ => False⟩
/-- one level more: A, the level below; B, the one below that -/
def ctS (T : List Fd) (mus : List (List Nat × Bool)) (pr : Nat → Option Pr) (W n : Nat) (A : LTt → CTs) (B : Option CTs) (L : LTt) : CTs := ⟨runT T mus pr (A noT) W, L, match B with
  | none => fun _ _ _ _ _ _ _ _ => False
  | some Cl => fun ls n e _ k vs c Q => pr k = none ∧ runT T mus pr (A (appT n e (wLs Cl ls))) W k vs c Q, fun k t => pr k = some .spoil ∧ hgt t ≤ n⟩
def ctR (T : List Fd) (mus : List (List Nat × Bool)) (pr : Nat → Option Pr) (W : Nat) : Nat → (LTt → CTs) × Option CTs
  | 0 => (ctN, none)
  | n + 1 => (ctS T mus pr W n (ctR T mus pr W n).1 (ctR T mus pr W n).2, some ((ctR T mus pr W n).1 noT))
/-- what is asked of calls, at most n within one another; mus: of each def, the slots that are changed in place, and whether its answer stays its own -/
def ctF (T : List Fd) (mus : List (List Nat × Bool)) (pr : Nat → Option Pr) (W n : Nat) (L : LTt) : CTs := (ctR T mus pr W n).1 L
abbrev wF (T : List Fd) (mus : List (List Nat × Bool)) (pr : Nat → Option Pr) (W n : Nat) : Nat → List TV → Option Nat → (TD → Option Nat → Prop) → Prop := (ctF T mus pr W n noT).call
end EV

/-! EvY: how a tree stands in the heap: L, the places that are its own; A, the places that no shared part may touch; κ, where the stream stands. -/
namespace EV
open PySem
abbrev KA := Option (Nat × Nat)
def kl : KA → List Nat
  | none => []
  | some (r, l) => [r, l]
def OkH (h : AH) : Prop := ∀ n o, h.get n = some o → n < h.sz
def KLe (κ κ' : KA) : Prop := ∀ p, κ = some p → κ' = some p
mutual
def Rep (h : AH) (A : List Nat) (κ : KA) : TV → Nat → AV → List Nat → Prop
  | .non, _, v, L => v = .non ∧ L = []
  | .bl b, _, v, L => v = .bl b ∧ L = []
  | .int i, _, v, L => v = .int i ∧ L = []
  | .str x, _, v, L => v = .str x ∧ L = []
  | .ty s, _, v, L => v = .ty s ∧ L = []
  | .stm, _, v, L => (∃ r l, κ = some (r, l) ∧ v = .ref r) ∧ L = []
  | .scr, _, v, L => v = .scr ∧ L = []
  | .lst ts, 0, v, L => ∃ n vs, v = .ref n ∧ h.get n = some (.lst vs) ∧ n ∉ A ∧ RepL h A κ ts 0 vs L
  | .lst ts, d + 1, v, L => ∃ n vs L1, v = .ref n ∧ h.get n = some (.lst vs) ∧ L = n :: L1 ∧ RepL h A κ ts d vs L1
  | .tup ts, d, v, L => ∃ n vs, v = .ref n ∧ h.get n = some (.tup vs) ∧ n ∉ A ∧ RepL h A κ ts (d - 1) vs L
  | .unset, _, _, _ => False
  | .som _, _, _, _ => False
  | .fn n e ts, _, v, L => (v = .ref n ∧ h.get n = some (.clo e) ∧ n ∉ A) ∧ L = [] ∧ RepE h A κ ts e
/-- slots, shared -/
def RepE (h : AH) (A : List Nat) (κ : KA) : List TV → List (Option AV) → Prop
  | [], os => os = []
  | .unset :: ts, os => ∃ o os', os = o :: os' ∧ RepE h A κ ts os'
  | .som t :: ts, os => ∃ v os', os = some v :: os' ∧ Rep h A κ t 0 v [] ∧ RepE h A κ ts os'
  | _, _ => False
def RepL (h : AH) (A : List Nat) (κ : KA) : List TV → Nat → List AV → List Nat → Prop
  | [], _, vs, L => vs = [] ∧ L = []
  | t :: ts, d, vs, L => ∃ v vs' L1 L2, vs = v :: vs' ∧ L = L1 ++ L2 ∧ Rep h A κ t d v L1 ∧ RepL h A κ ts d vs' L2
end
section
variable {h h' : AH} {A A' : List Nat} {κ κ' : KA}
mutual
theorem rep0 : ∀ {t : TV} {v : AV} {L : List Nat}, Rep h A κ t 0 v L → L = []
  | .non, _, _, r => r.2
  | .bl _, _, _, r => r.2
  | .int _, _, _, r => r.2
  | .str _, _, _, r => r.2
  | .ty _, _, _, r => r.2
  | .stm, _, _, r => r.2
  | .scr, _, _, r => r.2
  | .lst ts, v, L, ⟨n, vs, _, _, _, r⟩ => repL0 (ts := ts) r
  | .tup ts, v, L, ⟨n, vs, _, _, _, r⟩ => repL0 (ts := ts) r
  | .unset, _, _, r => r.elim
  | .som _, _, _, r => r.elim
  | .fn _ _ _, _, _, r => r.2.1
theorem repL0 : ∀ {ts : List TV} {vs : List AV} {L : List Nat}, RepL h A κ ts 0 vs L → L = []
  | [], _, _, r => r.2
  | t :: ts, _, _, ⟨v, vs', L1, L2, _, e, r1, r2⟩ => by
    rw [e, rep0 (t := t) r1, repL0 (ts := ts) r2]
    rfl
end
/-- an atom at any depth -/
theorem rep_atm : ∀ {t : TV} {d d' : Nat} {v : AV} {L : List Nat}, t.atm = true → Rep h A κ t d v L → L = [] ∧ ∀ A', Rep h A' κ t d' v L
  | .non, _, _, _, _, _, r => ⟨r.2, fun _ => r⟩
  | .bl _, _, _, _, _, _, r => ⟨r.2, fun _ => r⟩
  | .int _, _, _, _, _, _, r => ⟨r.2, fun _ => r⟩
  | .str _, _, _, _, _, _, r => ⟨r.2, fun _ => r⟩
  | .ty _, _, _, _, _, _, r => ⟨r.2, fun _ => r⟩
  | .stm, _, _, _, _, _, r => ⟨r.2, fun _ => r⟩
  | .scr, _, _, _, _, _, r => ⟨r.2, fun _ => r⟩
  | .lst _, _, _, _, _, e, _ => absurd e Bool.false_ne_true
  | .tup _, _, _, _, _, e, _ => absurd e Bool.false_ne_true
  | .unset, _, _, _, _, _, r => r.elim
  | .som _, _, _, _, _, _, r => r.elim
  | .fn _ _ _, _, _, _, _, e, _ => absurd e Bool.false_ne_true
mutual
theorem rep_in (ok : OkH h) : ∀ {t : TV} {d : Nat} {v : AV} {L : List Nat}, Rep h A κ t d v L → ∀ n ∈ L, n < h.sz
  | .non, _, _, _, r, n, m => by rw [r.2] at m; cases m
  | .bl _, _, _, _, r, n, m => by rw [r.2] at m; cases m
  | .int _, _, _, _, r, n, m => by rw [r.2] at m; cases m
  | .str _, _, _, _, r, n, m => by rw [r.2] at m; cases m
  | .ty _, _, _, _, r, n, m => by rw [r.2] at m; cases m
  | .stm, _, _, _, r, n, m => by rw [r.2] at m; cases m
  | .scr, _, _, _, r, n, m => by rw [r.2] at m; cases m
  | .lst ts, 0, v, L, r, n, m => by
    rw [rep0 (t := .lst ts) r] at m
    cases m
  | .lst ts, d + 1, v, L, ⟨k, vs, L1, _, g, e, r⟩, n, m => by
    rw [e] at m
    rcases List.mem_cons.mp m with z | m
    · rw [z]
      exact ok _ _ g
    · exact repL_in ok (ts := ts) r n m
  | .tup ts, d, v, L, ⟨k, vs, _, _, _, r⟩, n, m => repL_in ok (ts := ts) r n m
  | .unset, _, _, _, r, _, _ => r.elim
  | .som _, _, _, _, r, _, _ => r.elim
  | .fn _ _ _, _, _, _, r, n, m => by rw [r.2.1] at m; cases m
theorem repL_in (ok : OkH h) : ∀ {ts : List TV} {d : Nat} {vs : List AV} {L : List Nat}, RepL h A κ ts d vs L → ∀ n ∈ L, n < h.sz
  | [], _, _, _, r, n, m => by rw [r.2] at m; cases m
  | t :: ts, _, _, _, ⟨v, vs', L1, L2, _, e, r1, r2⟩, n, m => by
    rw [e] at m
    rcases List.mem_append.mp m with m | m
    · exact rep_in ok (t := t) r1 n m
    · exact repL_in ok (ts := ts) r2 n m
end
mutual
/-- what is not touched stands -/
theorem rep_fr (ok : OkH h) (hA : ∀ n, n < h.sz → n ∉ A → n ∉ A') (hk : KLe κ κ') (hs : ∀ n, n < h.sz → n ∉ A → h'.get n = h.get n) : ∀ {t : TV} {d : Nat} {v : AV} {L : List Nat}, (∀ n ∈ L, h'.get n = h.get n) → Rep h A κ t d v L → Rep h' A' κ' t d v L
  | .non, _, _, _, _, r => r
  | .bl _, _, _, _, _, r => r
  | .int _, _, _, _, _, r => r
  | .str _, _, _, _, _, r => r
  | .ty _, _, _, _, _, r => r
  | .stm, _, _, _, _, ⟨⟨r, l, e, f⟩, g⟩ => ⟨⟨r, l, hk _ e, f⟩, g⟩
  | .scr, _, _, _, _, r => r
  | .lst ts, 0, v, L, q, ⟨n, vs, e, g, a, r⟩ => ⟨n, vs, e, by rw [hs n (ok _ _ g) a]; exact g, hA n (ok _ _ g) a, repL_fr ok hA hk hs (ts := ts) q r⟩
  | .lst ts, d + 1, v, L, q, ⟨n, vs, L1, e, g, f, r⟩ => ⟨n, vs, L1, e, by rw [q n (by rw [f]; exact List.mem_cons_self)]; exact g, f, repL_fr ok hA hk hs (ts := ts) (fun m i => q m (by rw [f]; exact List.mem_cons_of_mem _ i)) r⟩
  | .tup ts, d, v, L, q, ⟨n, vs, e, g, a, r⟩ => ⟨n, vs, e, by rw [hs n (ok _ _ g) a]; exact g, hA n (ok _ _ g) a, repL_fr ok hA hk hs (ts := ts) q r⟩
  | .unset, _, _, _, _, r => r
  | .som _, _, _, _, _, r => r
  | .fn n e ts, _, _, _, _, ⟨⟨f, g, a⟩, b, r⟩ => ⟨⟨f, by rw [hs n (ok _ _ g) a]; exact g, hA n (ok _ _ g) a⟩, b, repE_fr ok hA hk hs (ts := ts) r⟩
theorem repE_fr (ok : OkH h) (hA : ∀ n, n < h.sz → n ∉ A → n ∉ A') (hk : KLe κ κ') (hs : ∀ n, n < h.sz → n ∉ A → h'.get n = h.get n) : ∀ {ts : List TV} {os : List (Option AV)}, RepE h A κ ts os → RepE h' A' κ' ts os
  | [], _, r => r
  | .unset :: ts, _, ⟨o, os', f, r⟩ => ⟨o, os', f, repE_fr ok hA hk hs (ts := ts) r⟩
  | .som t :: ts, _, ⟨v, os', f, d, r⟩ => ⟨v, os', f, rep_fr ok hA hk hs (t := t) (fun _ m => by cases m) d, repE_fr ok hA hk hs (ts := ts) r⟩
  | .non :: _, _, r => r.elim
  | .bl _ :: _, _, r => r.elim
  | .int _ :: _, _, r => r.elim
  | .str _ :: _, _, r => r.elim
  | .ty _ :: _, _, r => r.elim
  | .stm :: _, _, r => r.elim
  | .scr :: _, _, r => r.elim
  | .lst _ :: _, _, r => r.elim
  | .tup _ :: _, _, r => r.elim
  | .fn _ _ _ :: _, _, r => r.elim
theorem repL_fr (ok : OkH h) (hA : ∀ n, n < h.sz → n ∉ A → n ∉ A') (hk : KLe κ κ') (hs : ∀ n, n < h.sz → n ∉ A → h'.get n = h.get n) : ∀ {ts : List TV} {d : Nat} {vs : List AV} {L : List Nat}, (∀ n ∈ L, h'.get n = h.get n) → RepL h A κ ts d vs L → RepL h' A' κ' ts d vs L
  | [], _, _, _, _, r => r
  | t :: ts, _, _, _, q, ⟨v, vs', L1, L2, f, e, r1, r2⟩ => ⟨v, vs', L1, L2, f, e, rep_fr ok hA hk hs (t := t) (fun n m => q n (by rw [e]; exact List.mem_append_left _ m)) r1, repL_fr ok hA hk hs (ts := ts) (fun n m => q n (by rw [e]; exact List.mem_append_right _ m)) r2⟩
end
mutual
/-- less of it its own -/
theorem rep_low : ∀ {t : TV} {d d' : Nat} {v : AV} {L : List Nat}, Rep h A κ t d v L → L.Nodup → d' ≤ d → ∃ L', L'.Sublist L ∧ ∀ A', (∀ n ∈ A', n ∈ A) → (∀ n ∈ L, n ∉ L' → n ∉ A') → Rep h A' κ t d' v L'
  | .non, _, _, _, _, r, _, _ => ⟨_, List.Sublist.refl _, fun _ _ _ => r⟩
  | .bl _, _, _, _, _, r, _, _ => ⟨_, List.Sublist.refl _, fun _ _ _ => r⟩
  | .int _, _, _, _, _, r, _, _ => ⟨_, List.Sublist.refl _, fun _ _ _ => r⟩
  | .str _, _, _, _, _, r, _, _ => ⟨_, List.Sublist.refl _, fun _ _ _ => r⟩
  | .ty _, _, _, _, _, r, _, _ => ⟨_, List.Sublist.refl _, fun _ _ _ => r⟩
  | .stm, _, _, _, _, r, _, _ => ⟨_, List.Sublist.refl _, fun _ _ _ => r⟩
  | .scr, _, _, _, _, r, _, _ => ⟨_, List.Sublist.refl _, fun _ _ _ => r⟩
  | .lst ts, 0, 0, v, L, ⟨n, vs, e, g, a, r⟩, nd, _ => by
    obtain ⟨L', s, q⟩ := repL_low (d' := 0) r nd (Nat.le_refl _)
    exact ⟨L', s, fun A' h1 h2 => ⟨n, vs, e, g, fun m => a (h1 n m), q A' h1 h2⟩⟩
  | .lst ts, 0, d' + 1, v, L, r, nd, hd => absurd hd (by omega)
  | .lst ts, d + 1, 0, v, L, ⟨n, vs, L1, e, g, f, r⟩, nd, _ => by
    subst f
    rw [List.nodup_cons] at nd
    obtain ⟨L', s, q⟩ := repL_low (d' := 0) r nd.2 (Nat.zero_le _)
    refine ⟨L', s.trans (List.sublist_cons_self _ _), fun A' h1 h2 => ⟨n, vs, e, g, h2 n List.mem_cons_self fun m => nd.1 (s.subset m), q A' h1 fun m i j => h2 m (List.mem_cons_of_mem _ i) j⟩⟩
  | .lst ts, d + 1, d' + 1, v, L, ⟨n, vs, L1, e, g, f, r⟩, nd, hd => by
    subst f
    rw [List.nodup_cons] at nd
    obtain ⟨L', s, q⟩ := repL_low (d' := d') r nd.2 (by omega)
    refine ⟨n :: L', s.cons₂ _, fun A' h1 h2 => ⟨n, vs, L', e, g, rfl, q A' h1 fun m i j => h2 m (List.mem_cons_of_mem _ i) fun k => ?_⟩⟩
    rcases List.mem_cons.mp k with z | k
    · rw [z] at i
      exact nd.1 i
    · exact j k
  | .tup ts, d, d', v, L, ⟨n, vs, e, g, a, r⟩, nd, hd => by
    obtain ⟨L', s, q⟩ := repL_low (d' := d' - 1) r nd (by omega)
    exact ⟨L', s, fun A' h1 h2 => ⟨n, vs, e, g, fun m => a (h1 n m), q A' h1 h2⟩⟩
  | .unset, _, _, _, _, r, _, _ => r.elim
  | .som _, _, _, _, _, r, _, _ => r.elim
  | .fn n e ts, _, _, v, L, ⟨⟨f, g, a⟩, b, r⟩, _, _ => ⟨L, List.Sublist.refl _, fun A' h1 _ => ⟨⟨f, g, fun m => a (h1 n m)⟩, b, repE_low (ts := ts) r A' h1⟩⟩
theorem repE_low : ∀ {ts : List TV} {os : List (Option AV)}, RepE h A κ ts os → ∀ A'' : List Nat, (∀ n ∈ A'', n ∈ A) → RepE h A'' κ ts os
  | [], _, r, _, _ => r
  | .unset :: ts, _, ⟨o, os', f, r⟩, A'', h1 => ⟨o, os', f, repE_low (ts := ts) r A'' h1⟩
  | .som t :: ts, _, ⟨v, os', f, d, r⟩, A'', h1 => ⟨v, os', f, by
    obtain ⟨L', s, q⟩ := rep_low (t := t) (d' := 0) d List.nodup_nil (Nat.le_refl _)
    have z := List.eq_nil_of_sublist_nil s
    subst z
    exact q A'' h1 fun n m => (by cases m), repE_low (ts := ts) r A'' h1⟩
  | .non :: _, _, r, _, _ => r.elim
  | .bl _ :: _, _, r, _, _ => r.elim
  | .int _ :: _, _, r, _, _ => r.elim
  | .str _ :: _, _, r, _, _ => r.elim
  | .ty _ :: _, _, r, _, _ => r.elim
  | .stm :: _, _, r, _, _ => r.elim
  | .scr :: _, _, r, _, _ => r.elim
  | .lst _ :: _, _, r, _, _ => r.elim
  | .tup _ :: _, _, r, _, _ => r.elim
  | .fn _ _ _ :: _, _, r, _, _ => r.elim
theorem repL_low : ∀ {ts : List TV} {d d' : Nat} {vs : List AV} {L : List Nat}, RepL h A κ ts d vs L → L.Nodup → d' ≤ d → ∃ L', L'.Sublist L ∧ ∀ A', (∀ n ∈ A', n ∈ A) → (∀ n ∈ L, n ∉ L' → n ∉ A') → RepL h A' κ ts d' vs L'
  | [], _, _, _, _, r, _, _ => ⟨_, List.Sublist.refl _, fun _ _ _ => r⟩
  | t :: ts, d, d', vs, L, ⟨v, vs', L1, L2, f, e, r1, r2⟩, nd, hd => by
    subst e
    rw [List.nodup_append] at nd
    obtain ⟨n1, n2, n3⟩ := nd
    obtain ⟨M1, s1, q1⟩ := rep_low (t := t) r1 n1 hd
    obtain ⟨M2, s2, q2⟩ := repL_low (ts := ts) r2 n2 hd
    refine ⟨M1 ++ M2, s1.append s2, fun A' h1 h2 => ⟨v, vs', M1, M2, f, rfl, q1 A' h1 fun n i j => ?_, q2 A' h1 fun n i j => ?_⟩⟩
    · refine h2 n (List.mem_append_left _ i) fun k => ?_
      rcases List.mem_append.mp k with k | k
      · exact j k
      · exact n3 n i n (s2.subset k) rfl
    · refine h2 n (List.mem_append_right _ i) fun k => ?_
      rcases List.mem_append.mp k with k | k
      · exact n3 n (s1.subset k) n i rfl
      · exact j k
end
/-- nothing of it its own: its places are shared from now on -/
theorem rep_share {t : TV} {d : Nat} {v : AV} {L : List Nat} (r : Rep h A κ t d v L) (nd : L.Nodup) (h1 : ∀ n ∈ A', n ∈ A) (h2 : ∀ n ∈ L, n ∉ A') : Rep h A' κ t 0 v [] := by
  obtain ⟨L', s, q⟩ := rep_low r nd (Nat.zero_le _)
  have e := rep0 (q [] (fun _ m => by cases m) (fun _ _ _ m => by cases m))
  subst e
  exact q A' h1 fun n m _ => h2 n m
theorem repL_share {ts : List TV} {d : Nat} {vs : List AV} {L : List Nat} (r : RepL h A κ ts d vs L) (nd : L.Nodup) (h1 : ∀ n ∈ A', n ∈ A) (h2 : ∀ n ∈ L, n ∉ A') : RepL h A' κ ts 0 vs [] := by
  obtain ⟨L', s, q⟩ := repL_low r nd (Nat.zero_le _)
  have e := repL0 (q [] (fun _ m => by cases m) (fun _ _ _ m => by cases m))
  subst e
  exact q A' h1 fun n m _ => h2 n m
theorem repL_len : ∀ {ts : List TV} {d : Nat} {vs : List AV} {L : List Nat}, RepL h A κ ts d vs L → vs.length = ts.length
  | [], _, _, _, r => by rw [r.1]; rfl
  | t :: ts, _, _, _, ⟨v, vs', L1, L2, f, e, r1, r2⟩ => by
    rw [f, List.length_cons, List.length_cons, repL_len r2]
theorem repL_get : ∀ {ts : List TV} {d : Nat} {vs : List AV} {L : List Nat} {i : Nat} {t : TV}, RepL h A κ ts d vs L → ts[i]? = some t → ∃ v L1, vs[i]? = some v ∧ Rep h A κ t d v L1 ∧ L1.Sublist L
  | [], _, _, _, _, _, r, e => by simp at e
  | t :: ts, d, vs, L, 0, u, ⟨v, vs', L1, L2, f, e, r1, r2⟩, g => by
    simp at g
    subst g f e
    exact ⟨v, L1, by simp, r1, List.sublist_append_left _ _⟩
  | t :: ts, d, vs, L, i + 1, u, ⟨v, vs', L1, L2, f, e, r1, r2⟩, g => by
    simp at g
    obtain ⟨v1, L3, a, b, c⟩ := repL_get r2 g
    subst f e
    exact ⟨v1, L3, by simpa using a, b, c.trans (List.sublist_append_right _ _)⟩
theorem repL_app : ∀ {ts us : List TV} {d : Nat} {vs ws : List AV} {L M : List Nat}, RepL h A κ ts d vs L → RepL h A κ us d ws M → RepL h A κ (ts ++ us) d (vs ++ ws) (L ++ M)
  | [], _, _, _, _, _, _, r, s => by
    obtain ⟨rfl, rfl⟩ := r
    exact s
  | t :: ts, _, _, _, _, _, _, ⟨v, vs', L1, L2, f, e, r1, r2⟩, s => by
    subst f e
    exact ⟨v, vs' ++ _, L1, L2 ++ _, rfl, by rw [List.append_assoc], r1, repL_app r2 s⟩
theorem repL_one {t : TV} {d : Nat} {v : AV} {L : List Nat} (r : Rep h A κ t d v L) : RepL h A κ [t] d [v] L := ⟨v, [], L, [], rfl, by simp, r, rfl, rfl⟩
end
end EV

/-! EvZ: the slots, the stream, what a step leaves. -/
namespace EV
open PySem
def Un (l : List Nat) : Prop := ∀ a, l.count a ≤ 1
theorem un_nd {l : List Nat} (h : Un l) : l.Nodup := List.nodup_iff_count.mpr h
theorem un_not {l m : List Nat} (h : Un (l ++ m)) {n : Nat} (i : n ∈ l) : n ∉ m := fun j => by
  have := h n
  have a := List.count_pos_iff.mpr i
  have b := List.count_pos_iff.mpr j
  simp only [List.count_append] at this
  omega
def SlR (h : AH) (A : List Nat) (κ : KA) (o : Option AV) (u : Option TD) (L : List Nat) : Prop := match u with
  | none => L = []
  | some (t, d) => ∃ v, o = some v ∧ Rep h A κ t d v L
def EnR (h : AH) (A : List Nat) (κ : KA) : En → TEn → List Nat → Prop
  | [], [], L => L = []
  | o :: e, u :: te, L => ∃ L1 L2, L = L1 ++ L2 ∧ SlR h A κ o u L1 ∧ EnR h A κ e te L2
  | _, _, _ => False
def StR (h : AH) (c : Option Nat) (κ : KA) : Prop := match c, κ with
  | none, none => h.z.length ≤ 63
  | some k, some (r, l) => ∃ (cells : List Int) (p q m : Int), cells.length ≤ 63 ∧ h.get r = some (.lst [.ref l, .int p, .int q, .int m]) ∧ h.get l = some (.lst (cells.map .int)) ∧ 0 ≤ p ∧ 0 ≤ q ∧ q + (k : Int) = 1000000000 ∧ 0 ≤ m ∧ m < 2147483647
  | _, _ => False
section
variable {h h' : AH} {A A' : List Nat} {κ κ' : KA}
theorem enR_fr (ok : OkH h) (hA : ∀ n, n < h.sz → n ∉ A → n ∉ A') (hk : KLe κ κ') (hs : ∀ n, n < h.sz → n ∉ A → h'.get n = h.get n) : ∀ {e : En} {te : TEn} {L : List Nat}, (∀ n ∈ L, h'.get n = h.get n) → EnR h A κ e te L → EnR h' A' κ' e te L
  | [], [], _, _, r => r
  | o :: e, u :: te, L, q, ⟨L1, L2, f, s, r⟩ => by
    refine ⟨L1, L2, f, ?_, enR_fr ok hA hk hs (fun n m => q n (by rw [f]; exact List.mem_append_right _ m)) r⟩
    cases u with
    | none => exact s
    | some u =>
      obtain ⟨v, e1, e2⟩ := s
      exact ⟨v, e1, rep_fr ok hA hk hs (fun n m => q n (by rw [f]; exact List.mem_append_left _ m)) e2⟩
  | [], _ :: _, _, _, r => r
  | _ :: _, [], _, _, r => r
theorem enR_len : ∀ {e : En} {te : TEn} {L : List Nat}, EnR h A κ e te L → e.length = te.length
  | [], [], _, _ => rfl
  | o :: e, u :: te, L, ⟨L1, L2, f, s, r⟩ => by rw [List.length_cons, List.length_cons, enR_len r]
  | [], _ :: _, _, r => r.elim
  | _ :: _, [], _, r => r.elim
theorem slot_cons {u : Option TD} {te : TEn} {i : Nat} : slot (u :: te) (i + 1) = slot te i := by
  unfold slot
  rw [List.getElem?_cons_succ]
/-- a slot's content taken out -/
theorem enR_take : ∀ {e : En} {te : TEn} {L : List Nat} {i : Nat} {t : TV} {d : Nat}, EnR h A κ e te L → slot te i = some (t, d) → ∃ v L1 L2, e[i]? = some (some v) ∧ (∀ a, L.count a = L1.count a + L2.count a) ∧ Rep h A κ t d v L1 ∧ EnR h A κ e (te.set i none) L2
  | [], [], _, _, _, _, _, s => by simp [slot] at s
  | o :: e, u :: te, L, 0, t, d, ⟨L1, L2, f, s, r⟩, g => by
    have g : u = some (t, d) := by simpa [slot] using g
    subst g f
    obtain ⟨v, e1, e2⟩ := s
    exact ⟨v, L1, L2, by simp [e1], fun a => List.count_append, e2, [], L2, rfl, rfl, r⟩
  | o :: e, u :: te, L, i + 1, t, d, ⟨L1, L2, f, s, r⟩, g => by
    rw [slot_cons] at g
    obtain ⟨v, M1, M2, a, b, c, w⟩ := enR_take r g
    subst f
    refine ⟨v, M1, L1 ++ M2, by simpa using a, fun n => ?_, c, L1, M2, rfl, s, w⟩
    have := b n
    simp only [List.count_append]
    omega
  | [], _ :: _, _, _, _, _, r, _ => r.elim
  | _ :: _, [], _, _, _, _, r, _ => r.elim
/-- a slot given up -/
theorem enR_drop : ∀ {e : En} {te : TEn} {L : List Nat} (i : Nat) (o' : Option AV), EnR h A κ e te L → ∃ L1 L2, (∀ a, L.count a = L1.count a + L2.count a) ∧ EnR h A κ (e.set i o') (te.set i none) L2 ∧ EnR h A κ e (te.set i none) L2 ∧ SlR h A κ ((e[i]?).getD none) (slot te i) L1
  | [], [], L, i, o', r => ⟨[], L, fun a => by simp, r, r, rfl⟩
  | o :: e, u :: te, L, 0, o', ⟨L1, L2, f, s, r⟩ => by
    subst f
    exact ⟨L1, L2, fun a => List.count_append, ⟨[], L2, rfl, rfl, r⟩, ⟨[], L2, rfl, rfl, r⟩, by simpa [slot] using s⟩
  | o :: e, u :: te, L, i + 1, o', ⟨L1, L2, f, s, r⟩ => by
    obtain ⟨M1, M2, a, b, c, g⟩ := enR_drop i o' r
    subst f
    refine ⟨M1, L1 ++ M2, fun n => ?_, ⟨L1, M2, rfl, s, b⟩, ⟨L1, M2, rfl, s, c⟩, by rw [slot_cons]; simpa using g⟩
    have := a n
    simp only [List.count_append]
    omega
  | [], _ :: _, _, _, _, r => r.elim
  | _ :: _, [], _, _, _, r => r.elim
/-- an empty slot filled -/
theorem enR_put : ∀ {e : En} {te : TEn} {L L1 : List Nat} {i : Nat} {u : Option TD}, EnR h A κ e te L → slot te i = none → SlR h A κ ((e[i]?).getD none) u L1 → (te.length ≤ i → L1 = []) → ∃ L', (∀ a, L'.count a = L1.count a + L.count a) ∧ EnR h A κ e (te.set i u) L'
  | [], [], L, L1, i, u, r, g, s, z => ⟨L, fun a => by rw [z (Nat.zero_le _)]; simp, r⟩
  | o :: e, w :: te, L, L1, 0, u, ⟨M1, M2, f, s, r⟩, g, s', z => by
    have g : w = none := by simpa [slot] using g
    subst g f
    have e1 : M1 = [] := s
    subst e1
    exact ⟨L1 ++ M2, fun a => by simp [List.count_append], L1, M2, rfl, by simpa using s', r⟩
  | o :: e, w :: te, L, L1, i + 1, u, ⟨M1, M2, f, s, r⟩, g, s', z => by
    rw [slot_cons] at g
    obtain ⟨L', a, b⟩ := enR_put (u := u) r g (by simpa using s') (fun l => z (by simpa using l))
    subst f
    refine ⟨M1 ++ L', fun n => ?_, M1, L', rfl, s, b⟩
    have := a n
    simp only [List.count_append]
    omega
  | [], _ :: _, _, _, _, _, r, _, _, _ => r.elim
  | _ :: _, [], _, _, _, _, r, _, _, _ => r.elim
theorem slot_set_same {te : TEn} {i : Nat} : slot (te.set i none) i = none := by
  unfold slot
  by_cases h : i < te.length
  · rw [List.getElem?_set_self h]
    rfl
  · rw [List.getElem?_eq_none (by rw [List.length_set]; omega)]
    rfl
theorem set_back {te : TEn} {i : Nat} {u : Option TD} : (te.set i none).set i u = te.set i u := List.set_set ..
end
/-- all stands -/
structure Hs (h : AH) (e : En) (x : TX) (κ : KA) (L M : List Nat) : Prop where
  ok : OkH h
  st : StR h x.c κ
  un : Un (kl κ ++ (L ++ M))
  en : EnR h (kl κ ++ (L ++ M)) κ e x.e L
  lt : ∀ n ∈ M, n < h.sz
/-- what a step leaves -/
structure Go (h : AH) (κ : KA) (L : List Nat) (h' : AH) (κ' : KA) (L' : List Nat) : Prop where
  sz : h.sz ≤ h'.sz
  z : h'.z = h.z
  fr : ∀ n, n < h.sz → n ∉ kl κ ++ L → h'.get n = h.get n
  sub : ∀ n ∈ kl κ' ++ L', n ∈ kl κ ++ L ∨ h.sz ≤ n
  kk : KLe κ κ'
def Ex (h h' : AH) : Prop := ∀ n, n < h.sz → h'.get n = h.get n
section
variable {h h' h'' : AH} {κ κ' κ'' : KA} {L L' L'' M N : List Nat} {e : En} {x x' : TX}
theorem KLe.refl (κ : KA) : KLe κ κ := fun _ h => h
theorem KLe.trans {a b c : KA} (f : KLe a b) (g : KLe b c) : KLe a c := fun p h => g p (f p h)
theorem Go.refl (h : AH) (κ : KA) (L : List Nat) : Go h κ L h κ L := ⟨Nat.le_refl _, rfl, fun _ _ _ => rfl, fun _ m => .inl m, KLe.refl _⟩
theorem Go.trans (a : Go h κ L h' κ' L') (b : Go h' κ' L' h'' κ'' L'') : Go h κ L h'' κ'' L'' := by
  refine ⟨Nat.le_trans a.sz b.sz, b.z.trans a.z, fun n l m => ?_, fun n m => ?_, a.kk.trans b.kk⟩
  · rw [b.fr n (Nat.lt_of_lt_of_le l a.sz) ?_, a.fr n l m]
    intro q
    rcases a.sub n q with q | q
    · exact m q
    · omega
  · rcases b.sub n m with q | q
    · exact a.sub n q
    · exact .inr (Nat.le_trans a.sz q)
/-- more is held besides on both sides -/
theorem Go.more (a : Go h κ L h' κ' L') (X : List Nat) : Go h κ (L ++ X) h' κ' (L' ++ X) := by
  refine ⟨a.sz, a.z, fun n l m => a.fr n l fun q => m ?_, fun n m => ?_, a.kk⟩
  · simp only [List.mem_append] at q ⊢
    rcases q with q | q
    · exact .inl q
    · exact .inr (.inl q)
  · simp only [List.mem_append] at m
    rcases m with m | m | m
    · rcases a.sub n (List.mem_append_left _ m) with q | q
      · left; simp only [List.mem_append] at q ⊢; rcases q with q | q; exact .inl q; exact .inr (.inl q)
      · exact .inr q
    · rcases a.sub n (List.mem_append_right _ m) with q | q
      · left; simp only [List.mem_append] at q ⊢; rcases q with q | q; exact .inl q; exact .inr (.inl q)
      · exact .inr q
    · left; simp only [List.mem_append]; exact .inr (.inr m)
theorem Go.weak (a : Go h κ L h' κ' L') {X Y : List Nat} (h1 : ∀ n ∈ L, n ∈ X) (h2 : ∀ n ∈ Y, n ∈ L' ∨ n ∈ X) : Go h κ X h' κ' Y := by
  refine ⟨a.sz, a.z, fun n l m => a.fr n l fun q => m ?_, fun n m => ?_, a.kk⟩
  · simp only [List.mem_append] at q ⊢
    rcases q with q | q
    · exact .inl q
    · exact .inr (h1 n q)
  · simp only [List.mem_append] at m
    have up : n ∈ kl κ ++ L → n ∈ kl κ ++ X := fun q => by
      simp only [List.mem_append] at q ⊢
      rcases q with q | q
      · exact .inl q
      · exact .inr (h1 n q)
    rcases m with m | m
    · exact (a.sub n (List.mem_append_left _ m)).imp up id
    · rcases h2 n m with m | m
      · exact (a.sub n (List.mem_append_right _ m)).imp up id
      · exact .inl (List.mem_append_right _ m)
/-- what is held stands behind a step -/
theorem hold {t : TV} {d : Nat} {v : AV} {Lt : List Nat} (ok : OkH h) (un : Un (kl κ ++ (L ++ M))) (g : Go h κ L h' κ' L') (hL : ∀ n ∈ Lt, n ∈ M) (r : Rep h (kl κ ++ (L ++ M)) κ t d v Lt) : Rep h' (kl κ' ++ (L' ++ M)) κ' t d v Lt := by
  refine rep_fr ok (fun n l m q => ?_) g.kk (fun n l m => g.fr n l fun q => m ?_) (fun n m => g.fr n (rep_in ok r n m) fun q => ?_) r
  · simp only [List.mem_append] at q m
    rcases q with q | q | q
    · rcases g.sub n (List.mem_append_left _ q) with z | z
      · simp only [List.mem_append] at z
        rcases z with z | z
        · exact m (.inl z)
        · exact m (.inr (.inl z))
      · omega
    · rcases g.sub n (List.mem_append_right _ q) with z | z
      · simp only [List.mem_append] at z
        rcases z with z | z
        · exact m (.inl z)
        · exact m (.inr (.inl z))
      · omega
    · exact m (.inr (.inr q))
  · simp only [List.mem_append] at q ⊢
    rcases q with q | q
    · exact .inl q
    · exact .inr (.inl q)
  · have i := hL n m
    have := un n
    have a := List.count_pos_iff.mpr i
    have b := List.count_pos_iff.mpr q
    simp only [List.count_append] at this b
    omega
/-- the same places in another order, or fewer -/
theorem rep_A {A A' : List Nat} {t : TV} {d : Nat} {v : AV} {Lt : List Nat} (ok : OkH h) (hA : ∀ n ∈ A', n ∈ A) (r : Rep h A κ t d v Lt) : Rep h A' κ t d v Lt :=
  rep_fr ok (fun n _ m q => m (hA n q)) (KLe.refl _) (fun _ _ _ => rfl) (fun _ _ => rfl) r
theorem enR_A {A A' : List Nat} {te : TEn} {Lt : List Nat} (ok : OkH h) (hA : ∀ n ∈ A', n ∈ A) (r : EnR h A κ e te Lt) : EnR h A' κ e te Lt :=
  enR_fr ok (fun n _ m q => m (hA n q)) (KLe.refl _) (fun _ _ _ => rfl) (fun _ _ => rfl) r
theorem mem_of_count {l m : List Nat} (h : ∀ a, l.count a ≤ m.count a) : ∀ n ∈ l, n ∈ m := fun n i => List.count_pos_iff.mp (Nat.lt_of_lt_of_le (List.count_pos_iff.mpr i) (h n))
/-- less is held -/
theorem Hs.less (a : Hs h e x κ L M) (hN : ∀ n, N.count n ≤ M.count n) : Hs h e x κ L N := by
  refine ⟨a.ok, a.st, fun n => ?_, enR_A a.ok (mem_of_count fun n => ?_) a.en, fun n m => a.lt n (mem_of_count hN n m)⟩
  · have := a.un n
    have := hN n
    simp only [List.count_append] at *
    omega
  · have := hN n
    simp only [List.count_append]
    omega
end
end EV

/-! EvZa: values looked at. -/
namespace EV
open PySem
section
variable {h h' : AH} {A A' : List Nat} {κ κ' : KA} {d d' : Nat} {v w : AV} {L L' : List Nat} {t u : TV}
def Sh (h : AH) (κ : KA) (t : TV) (v : AV) : Prop := ∃ A d L, Rep h A κ t d v L
theorem Rep.sh (r : Rep h A κ t d v L) : Sh h κ t v := ⟨A, d, L, r⟩
theorem Sh.ex (ok : OkH h) (s : Sh h κ t v) (x : ∀ n, n < h.sz → h'.get n = h.get n) (k : KLe κ κ') : Sh h' κ' t v := by
  obtain ⟨A, d, L, r⟩ := s
  exact ⟨A, d, L, rep_fr ok (fun _ _ m => m) k (fun n l _ => x n l) (fun n m => x n (rep_in ok r n m)) r⟩
theorem lst_of {ts : List TV} (r : Rep h A κ (.lst ts) d v L) : ∃ n vs L1, v = .ref n ∧ h.get n = some (.lst vs) ∧ RepL h A κ ts (d - 1) vs L1 ∧ L1.Sublist L := by
  cases d with
  | zero =>
    obtain ⟨n, vs, e, g, _, r⟩ := r
    exact ⟨n, vs, L, e, g, r, List.Sublist.refl _⟩
  | succ d =>
    obtain ⟨n, vs, L1, e, g, f, r⟩ := r
    subst f
    exact ⟨n, vs, L1, e, g, r, List.sublist_cons_self _ _⟩
theorem tup_of {ts : List TV} (r : Rep h A κ (.tup ts) d v L) : ∃ n vs, v = .ref n ∧ h.get n = some (.tup vs) ∧ RepL h A κ ts (d - 1) vs L := by
  obtain ⟨n, vs, e, g, _, r⟩ := r
  exact ⟨n, vs, e, g, r⟩
theorem typ_ok {s : String} (r : Rep h A κ t d v L) (e : typT t = some s) : typN h v = some s := by
  cases t with
  | lst ts => obtain ⟨n, vs, L1, rfl, g, _⟩ := lst_of r; cases e; simp [typN, g]
  | tup ts => obtain ⟨n, vs, rfl, g, _⟩ := tup_of r; cases e; simp [typN, g]
  | non => obtain ⟨rfl, _⟩ := r; exact e
  | bl _ => obtain ⟨rfl, _⟩ := r; exact e
  | int _ => obtain ⟨rfl, _⟩ := r; exact e
  | str _ => obtain ⟨rfl, _⟩ := r; exact e
  | ty _ => cases e
  | stm => cases e
  | scr => cases e
  | unset => cases e
  | som _ => cases e
  | fn _ _ _ => cases e
theorem isE_len {ts : List TV} {vs : List AV} (e : vs.length = ts.length) : vs.isEmpty = ts.isEmpty := by
  cases ts <;> cases vs <;> first | rfl | cases e
theorem tru_ok {Q : Bool → Prop} (r : Rep h A κ t d v L) (q : wTru t Q) : ∃ b, truA h v = some b ∧ Q b := by
  cases t with
  | lst ts => obtain ⟨n, vs, L1, rfl, g, r, _⟩ := lst_of r; exact ⟨!ts.isEmpty, by simp [truA, g, isE_len (repL_len r)], q⟩
  | tup ts => obtain ⟨n, vs, rfl, g, r⟩ := tup_of r; exact ⟨!ts.isEmpty, by simp [truA, g, isE_len (repL_len r)], q⟩
  | non => obtain ⟨rfl, _⟩ := r; exact ⟨_, rfl, q⟩
  | bl _ => obtain ⟨rfl, _⟩ := r; exact ⟨_, rfl, q⟩
  | int _ => obtain ⟨rfl, _⟩ := r; exact ⟨_, rfl, q⟩
  | str x => obtain ⟨rfl, _⟩ := r; exact ⟨_, if_pos q.1, q.2⟩
  | ty _ => exact q.elim
  | stm => exact q.elim
  | scr => exact q.elim
  | unset => exact q.elim
  | som _ => exact q.elim
  | fn _ _ _ => exact q.elim
theorem mapO_ok {β : Type} {f : TV → Option β} {g : AV → Option β} (H : ∀ (t : TV) (d : Nat) (v : AV) (L : List Nat) (b : β), Rep h A κ t d v L → f t = some b → g v = some b) : ∀ {ts : List TV} {d : Nat} {vs : List AV} {L : List Nat} {bs : List β}, RepL h A κ ts d vs L → mapO f ts = some bs → mapO g vs = some bs
  | [], _, _, _, _, r, e => by obtain ⟨rfl, _⟩ := r; exact e
  | t :: ts, d, _, _, bs, ⟨v, vs', L1, L2, f1, _, r1, r2⟩, e => by
    subst f1
    unfold mapO at e
    cases e1 : f t with
    | none => rw [e1] at e; cases e
    | some b =>
      cases e2 : mapO f ts with
      | none => rw [e1, e2] at e; cases e
      | some bs' =>
        rw [e1, e2] at e
        cases e
        unfold mapO
        rw [H t d v L1 b r1 e1, mapO_ok H r2 e2]
theorem toPy_ok : ∀ (f : Nat) (t : TV) (d : Nat) (v : AV) (L : List Nat) (b : PyData), Rep h A κ t d v L → toPyT f t = some b → toPy f h v = some b
  | 0, _, _, _, _, _, _, e => by cases e
  | f + 1, t, d, v, L, b, r, e => by
    cases t with
    | lst ts =>
      obtain ⟨n, vs, L1, rfl, g, r, _⟩ := lst_of r
      unfold toPyT at e
      unfold toPy
      simp only [g]
      cases e1 : mapO (toPyT f) ts with
      | none => simp only [e1] at e; cases e
      | some bs =>
        simp only [e1] at e
        rw [mapO_ok (toPy_ok f) r e1]
        exact e
    | tup ts =>
      obtain ⟨n, vs, rfl, g, r⟩ := tup_of r
      unfold toPyT at e
      unfold toPy
      simp only [g]
      cases e1 : mapO (toPyT f) ts with
      | none => simp only [e1] at e; cases e
      | some bs =>
        simp only [e1] at e
        rw [mapO_ok (toPy_ok f) r e1]
        exact e
    | non => obtain ⟨rfl, _⟩ := r; exact e
    | bl _ => obtain ⟨rfl, _⟩ := r; exact e
    | int _ => obtain ⟨rfl, _⟩ := r; exact e
    | str _ => obtain ⟨rfl, _⟩ := r; exact e
    | ty _ => cases e
    | stm => cases e
    | scr => cases e
    | unset => cases e
    | som _ => cases e
    | fn _ _ _ => cases e
theorem dat_ok {b : PyData} (r : Rep h A κ t d v L) (e : datT t b) : datA h v = some b := by
  unfold datA
  rw [toPy_ok 200 t d v L b r e.1]
  simp only [e.2, if_true]
theorem ints_ok : ∀ {ts : List TV} {d : Nat} {vs : List AV} {L : List Nat} {is : List Int}, RepL h A κ ts d vs L → intsT ts = some is → intsA vs = some is
  | [], _, _, _, _, r, e => by obtain ⟨rfl, _⟩ := r; exact e
  | t :: ts, _, _, _, is, ⟨v, vs', L1, L2, f1, _, r1, r2⟩, e => by
    subst f1
    cases t <;> first | cases e; done | skip
    rename_i i
    obtain ⟨rfl, _⟩ := r1
    unfold intsT at e
    cases e1 : intsT ts with
    | none => rw [e1] at e; cases e
    | some js =>
      rw [e1] at e
      cases e
      unfold intsA
      rw [ints_ok r2 e1]
theorem tl_ok {b : Bool} (r : Rep h A κ t d v L) (e : tlT t = some b) : tlA h v = some b := by
  unfold tlT at e
  cases t with
  | lst ts =>
    obtain ⟨n, vs, L1, rfl, g, r, _⟩ := lst_of r
    simp only [tlA, g]
    have := repL_len r
    rw [← e]
    congr 1
    cases ts <;> cases vs <;> first | rfl | simp at this
  | tup ts =>
    obtain ⟨n, vs, rfl, g, r⟩ := tup_of r
    simp only [tlA, g]
    have := repL_len r
    rw [← e]
    congr 1
    cases ts <;> cases vs <;> first | rfl | simp at this
  | unset => cases e
  | som _ => cases e
  | fn _ _ _ => cases e
  | ty _ => cases e
  | stm => cases e
  | scr => cases e
  | _ => obtain ⟨rfl, _⟩ := r; exact e
theorem bls_ok : ∀ {ts : List TV} {d : Nat} {vs : List AV} {L : List Nat} {is : List Bool}, RepL h A κ ts d vs L → blsT ts = some is → mapO (tlA h) vs = some is
  | [], _, _, _, _, r, e => by obtain ⟨rfl, _⟩ := r; exact e
  | t :: ts, _, _, _, is, ⟨v, vs', L1, L2, f1, _, r1, r2⟩, e => by
    subst f1
    unfold blsT at e
    cases e0 : tlT t with
    | none => rw [e0] at e; cases e
    | some b =>
    rw [e0] at e
    dsimp only at e
    cases e1 : blsT ts with
    | none => rw [e1] at e; cases e
    | some js =>
      rw [e1] at e
      cases e
      unfold mapO
      rw [tl_ok r1 e0, bls_ok r2 e1]
theorem atI_ok {ts : List TV} {vs : List AV} {j : Int} {t : TV} (r : RepL h A κ ts d vs L) (e : L2.atI ts j = some t) : ∃ (v : AV) (k : Nat) (L1 : List Nat), L2.atI vs j = some v ∧ ts[k]? = some t ∧ vs[k]? = some v ∧ Rep h A κ t d v L1 ∧ L1.Sublist L := by
  unfold L2.atI at e ⊢
  rw [repL_len r]
  cases ek : L2.ixN ts.length j with
  | none => rw [ek] at e; cases e
  | some k =>
    rw [ek] at e
    obtain ⟨v, L1, a, b, c⟩ := repL_get r e
    exact ⟨v, k, L1, a, e, a, b, c⟩
/-- an item of a list or tuple -/
def Kid (h : AH) (t : TV) (v : AV) (t' : TV) (v' : AV) : Prop := ∃ (n : Nat) (ts : List TV) (vs : List AV) (k : Nat), v = .ref n ∧ ((t = .lst ts ∧ h.get n = some (.lst vs)) ∨ (t = .tup ts ∧ h.get n = some (.tup vs))) ∧ ts[k]? = some t' ∧ vs[k]? = some v'
theorem ix_ok {Q : K1} {d2 : Nat} {L2 A2 : List Nat} (r : Rep h A κ t d v L) (s : Rep h A2 κ u d2 w L2) (q : wIx t u Q) : ∃ a b L1, ixA h v w = some a ∧ Q b ∧ Rep h A κ b (d - 1) a L1 ∧ L1.Sublist L ∧ (b.atm = true ∨ Kid h t v b a) := by
  cases t with
  | lst ts =>
    cases u <;> first | exact q.elim | skip
    obtain ⟨rfl, _⟩ := s
    obtain ⟨n, vs, L1, rfl, g, r, sl⟩ := lst_of r
    obtain ⟨b, e, q⟩ := q
    obtain ⟨a, k, L3, e1, e2, e3, r3, s3⟩ := atI_ok r e
    exact ⟨a, b, L3, by simp [ixA, g, e1], q, r3, s3.trans sl, .inr ⟨n, ts, vs, k, rfl, .inl ⟨rfl, g⟩, e2, e3⟩⟩
  | tup ts =>
    cases u <;> first | exact q.elim | skip
    obtain ⟨rfl, _⟩ := s
    obtain ⟨n, vs, rfl, g, r⟩ := tup_of r
    obtain ⟨b, e, q⟩ := q
    obtain ⟨a, k, L3, e1, e2, e3, r3, s3⟩ := atI_ok r e
    exact ⟨a, b, L3, by simp [ixA, g, e1], q, r3, s3, .inr ⟨n, ts, vs, k, rfl, .inr ⟨rfl, g⟩, e2, e3⟩⟩
  | str z =>
    cases u <;> first | exact q.elim | skip
    obtain ⟨rfl, _⟩ := s
    obtain ⟨rfl, _⟩ := r
    obtain ⟨hz, c, e, q⟩ := q
    exact ⟨_, _, [], by simp only [ixA, hz, if_true, e]; rfl, q, ⟨rfl, rfl⟩, List.nil_sublist _, .inl rfl⟩
  | non => exact q.elim
  | bl _ => exact q.elim
  | int _ => exact q.elim
  | ty _ => exact q.elim
  | stm => exact q.elim
  | scr => exact q.elim
  | unset => exact q.elim
  | som _ => exact q.elim
  | fn _ _ _ => exact q.elim
theorem flat_ok (r : Rep h A κ t d v L) (e : flatT t = true) : cmpA.flatA v = true := by
  cases t <;> first | (exfalso; exact Bool.false_ne_true e) | skip
  all_goals (obtain ⟨rfl, _⟩ := r; rfl)
theorem eqF_ok {d2 : Nat} {L2 : List Nat} {A2 : List Nat} (r : Rep h A κ t d v L) (s : Rep h A2 κ u d2 w L2) (e : flatT t = true) (f : flatT u = true) : cmpA.eqF v w = eqFT t u := by
  cases t <;> first | (exfalso; exact Bool.false_ne_true e) | skip
  all_goals (obtain ⟨rfl, _⟩ := r)
  all_goals (cases u <;> first | (exfalso; exact Bool.false_ne_true f) | skip)
  all_goals (obtain ⟨rfl, _⟩ := s; rfl)
theorem flatL_ok : ∀ {ts : List TV} {d : Nat} {vs : List AV} {L : List Nat}, RepL h A κ ts d vs L → ts.all flatT = true → vs.all cmpA.flatA = true
  | [], _, _, _, r, e => by obtain ⟨rfl, _⟩ := r; exact e
  | t :: ts, _, _, _, ⟨v, vs', L1, L2, f1, _, r1, r2⟩, e => by
    subst f1
    rw [List.all_cons, Bool.and_eq_true] at e ⊢
    exact ⟨flat_ok r1 e.1, flatL_ok r2 e.2⟩
theorem anyF_ok {A2 : List Nat} {d2 : Nat} {L2 : List Nat} (s : Rep h A2 κ u d2 w L2) (f : flatT u = true) : ∀ {ts : List TV} {d : Nat} {vs : List AV} {L : List Nat}, RepL h A κ ts d vs L → ts.all flatT = true → (vs.any fun y => cmpA.eqF y w) = ts.any fun y => eqFT y u
  | [], _, _, _, r, e => by obtain ⟨rfl, _⟩ := r; rfl
  | t :: ts, _, _, _, ⟨v, vs', L1, L2, f1, _, r1, r2⟩, e => by
    subst f1
    rw [List.all_cons, Bool.and_eq_true] at e
    rw [List.any_cons, List.any_cons, eqF_ok r1 s e.1 f, anyF_ok s f r2 e.2]
theorem in_ok {Q : Bool → Prop} {d2 : Nat} {L2 A2 : List Nat} (r : Rep h A κ t d v L) (s : Rep h A2 κ u d2 w L2) (q : wIn t u Q) : ∃ b, cmpA.inA h v w = some b ∧ Q b := by
  cases u <;> first | exact q.elim | skip
  · rename_i ts
    obtain ⟨ds, b, e1, e2, q⟩ := q
    obtain ⟨n, vs, L1, e, g, _⟩ := lst_of s
    have z1 := dat_ok s e1
    have z2 := dat_ok r e2
    subst e
    exact ⟨_, by simp only [cmpA.inA, g, z1, z2], q⟩
  · rename_i ts
    obtain ⟨hf, q⟩ := q
    rw [Bool.and_eq_true] at hf
    obtain ⟨n, vs, rfl, g, s⟩ := tup_of s
    refine ⟨_, ?_, q⟩
    simp only [cmpA.inA, g, flat_ok r hf.1, flatL_ok s hf.2, Bool.and_self, if_true, anyF_ok r hf.1 s hf.2]
theorem eq_ok {Q : Bool → Prop} {d2 : Nat} {L2 A2 : List Nat} (r : Rep h A κ t d v L) (s : Rep h A2 κ u d2 w L2) (q : wEq t u Q) : ∃ a b, datA h v = some a ∧ datA h w = some b ∧ Q (PyData.eqv a b) := by
  have gen : (∃ d e, datT t d ∧ datT u e ∧ Q (PyData.eqv d e)) → ∃ a b, datA h v = some a ∧ datA h w = some b ∧ Q (PyData.eqv a b) := fun ⟨a, b, e1, e2, q⟩ => ⟨a, b, dat_ok r e1, dat_ok s e2, q⟩
  cases t <;> first | exact gen q | skip
  cases u <;> first | exact gen q | skip
  obtain ⟨rfl, _⟩ := r
  obtain ⟨rfl, _⟩ := s
  exact ⟨_, _, rfl, rfl, q⟩
theorem cmp_okT {op : COp} {Q : Bool → Prop} {d2 : Nat} {L2 A2 : List Nat} (r : Rep h A κ t d v L) (s : Rep h A2 κ u d2 w L2) (q : wCmp op t u Q) : ∃ b, cmpA op h v w = some b ∧ Q b := by
  cases op with
  | eq => obtain ⟨a, b, e1, e2, q⟩ := eq_ok r s q; exact ⟨_, by simp only [cmpA, e1, e2], q⟩
  | ne => obtain ⟨a, b, e1, e2, q⟩ := eq_ok (Q := fun b => Q (!b)) r s q; exact ⟨_, by simp only [cmpA, e1, e2], q⟩
  | lt =>
    cases t <;> first | exact q.elim | skip
    · cases u <;> first | exact q.elim | skip
      obtain ⟨rfl, _⟩ := r
      obtain ⟨rfl, _⟩ := s
      exact ⟨_, rfl, q⟩
    · cases u <;> first | exact q.elim | skip
      obtain ⟨is, js, e1, e2, q⟩ := q
      obtain ⟨n, vs, rfl, g, r⟩ := tup_of r
      obtain ⟨m, ws, rfl, g2, s⟩ := tup_of s
      exact ⟨_, by simp only [cmpA, tupA, g, g2, ints_ok r e1, ints_ok s e2], q⟩
  | le =>
    cases t <;> first | exact q.elim | skip
    cases u <;> first | exact q.elim | skip
    obtain ⟨rfl, _⟩ := r
    obtain ⟨rfl, _⟩ := s
    exact ⟨_, rfl, q⟩
  | gt =>
    cases t <;> first | exact q.elim | skip
    cases u <;> first | exact q.elim | skip
    obtain ⟨rfl, _⟩ := r
    obtain ⟨rfl, _⟩ := s
    exact ⟨_, rfl, q⟩
  | ge =>
    cases t <;> first | exact q.elim | skip
    cases u <;> first | exact q.elim | skip
    obtain ⟨rfl, _⟩ := r
    obtain ⟨rfl, _⟩ := s
    exact ⟨_, rfl, q⟩
  | is =>
    cases u <;> first | exact q.elim | skip
    obtain ⟨rfl, _⟩ := s
    refine ⟨_, rfl, ?_⟩
    cases t with
    | lst ts => obtain ⟨n, vs, L1, rfl, g, r, _⟩ := lst_of r; exact q
    | tup ts => obtain ⟨n, vs, rfl, g, r⟩ := tup_of r; exact q
    | stm => obtain ⟨⟨_, _, _, rfl⟩, _⟩ := r; exact q
    | unset => exact r.elim
    | som _ => exact r.elim
    | fn _ _ _ => obtain ⟨⟨rfl, _⟩, _⟩ := r; exact q
    | _ => obtain ⟨rfl, _⟩ := r; exact q
  | isnot =>
    cases u <;> first | exact q.elim | skip
    obtain ⟨rfl, _⟩ := s
    refine ⟨_, rfl, ?_⟩
    cases t with
    | lst ts => obtain ⟨n, vs, L1, rfl, g, r, _⟩ := lst_of r; exact q
    | tup ts => obtain ⟨n, vs, rfl, g, r⟩ := tup_of r; exact q
    | stm => obtain ⟨⟨_, _, _, rfl⟩, _⟩ := r; exact q
    | unset => exact r.elim
    | som _ => exact r.elim
    | fn _ _ _ => obtain ⟨⟨rfl, _⟩, _⟩ := r; exact q
    | _ => obtain ⟨rfl, _⟩ := r; exact q
  | isin => obtain ⟨b, e, q⟩ := in_ok r s q; exact ⟨b, by simp only [cmpA, e], q⟩
  | notin => obtain ⟨b, e, q⟩ := in_ok (Q := fun b => Q (!b)) r s q; exact ⟨!b, by simp only [cmpA, e], q⟩
/-- built-ins that only look -/
theorem look_ok {b : Bi} {Q : K1} (r : Rep h A κ t d v L) (q : wLook b t Q) : ∃ a c, biA b h [v] = .ok a h ∧ Q c ∧ c.atm = true ∧ ∀ A' d', Rep h A' κ c d' a [] := by
  have int : ∀ i : Int, ∀ A' d', Rep h A' κ (.int i) d' (.int i) [] := fun _ _ _ => ⟨rfl, rfl⟩
  have bl : ∀ i : Bool, ∀ A' d', Rep h A' κ (.bl i) d' (.bl i) [] := fun _ _ _ => ⟨rfl, rfl⟩
  cases b <;> first | exact q.elim | skip
  · cases t <;> first | exact q.elim | skip
    · obtain ⟨rfl, _⟩ := r
      exact ⟨_, _, if_pos q.1, q.2, rfl, int _⟩
    · obtain ⟨n, vs, L1, rfl, g, r, _⟩ := lst_of r
      refine ⟨_, _, ?_, q, rfl, int _⟩
      simp only [biA, g, repL_len r]
    · obtain ⟨n, vs, rfl, g, r⟩ := tup_of r
      refine ⟨_, _, ?_, q, rfl, int _⟩
      simp only [biA, g, repL_len r]
  · cases t <;> first | exact q.elim | skip
    obtain ⟨rfl, _⟩ := r
    exact ⟨_, _, rfl, q, rfl, int _⟩
  · cases t <;> first | exact q.elim | skip
    · obtain ⟨rfl, _⟩ := r
      exact ⟨_, _, rfl, q, rfl, int _⟩
    · obtain ⟨rfl, _⟩ := r
      exact ⟨_, _, rfl, q, rfl, int _⟩
  · cases t <;> first | exact q.elim | skip
    obtain ⟨n, vs, L1, rfl, g, r, _⟩ := lst_of r
    obtain ⟨is, e, q⟩ := q
    exact ⟨_, _, by simp only [biA, lstA, g, ints_ok r e], q, rfl, int _⟩
  · cases t <;> first | exact q.elim | skip
    obtain ⟨n, vs, L1, rfl, g, r, _⟩ := lst_of r
    obtain ⟨i, is, e, q⟩ := q
    exact ⟨_, _, by simp only [biA, lstA, g, ints_ok r e], q, rfl, int _⟩
  · cases t <;> first | exact q.elim | skip
    obtain ⟨n, vs, L1, rfl, g, r, _⟩ := lst_of r
    obtain ⟨i, is, e, q⟩ := q
    exact ⟨_, _, by simp only [biA, lstA, g, ints_ok r e], q, rfl, int _⟩
  · cases t <;> first | exact q.elim | skip
    obtain ⟨n, vs, L1, rfl, g, r, _⟩ := lst_of r
    obtain ⟨is, e, q⟩ := q
    exact ⟨_, _, by simp only [biA, lstA, g, bls_ok r e], q, rfl, bl _⟩
  · cases t <;> first | exact q.elim | skip
    obtain ⟨n, vs, L1, rfl, g, r, _⟩ := lst_of r
    obtain ⟨is, e, q⟩ := q
    exact ⟨_, _, by simp only [biA, lstA, g, bls_ok r e], q, rfl, bl _⟩
end
end EV

/-! EvZb: new places, changes. -/
namespace EV
open PySem
section
variable {h h' : AH} {A A' : List Nat} {κ κ' : KA} {d d' : Nat} {v w : AV} {L L' M Lr : List Nat} {t u : TV} {e : En} {x : TX}
theorem enR_in (ok : OkH h) : ∀ {e : En} {te : TEn} {L : List Nat}, EnR h A κ e te L → ∀ n ∈ L, n < h.sz
  | [], [], _, r, n, m => by have r : _ = [] := r; rw [r] at m; cases m
  | o :: e, u :: te, L, ⟨L1, L2, f, s, r⟩, n, m => by
    rw [f] at m
    rcases List.mem_append.mp m with m | m
    · cases u with
      | none => have s : L1 = [] := s; rw [s] at m; cases m
      | some u => obtain ⟨v, _, s⟩ := s; exact rep_in ok s n m
    · exact enR_in ok r n m
  | [], _ :: _, _, r, _, _ => r.elim
  | _ :: _, [], _, r, _, _ => r.elim
theorem kl_in (ok : OkH h) {c : Option Nat} (s : StR h c κ) : ∀ n ∈ kl κ, n < h.sz := by
  intro n m
  cases κ with
  | none => cases m
  | some p =>
    obtain ⟨r, l⟩ := p
    cases c with
    | none => exact s.elim
    | some k =>
      obtain ⟨cells, p, q, mm, _, g1, g2, _⟩ := s
      simp only [kl, List.mem_cons, List.not_mem_nil, or_false] at m
      rcases m with rfl | rfl
      · exact ok _ _ g1
      · exact ok _ _ g2
theorem Hs.hot (a : Hs h e x κ L M) : ∀ n ∈ kl κ ++ (L ++ M), n < h.sz := fun n m => by
  simp only [List.mem_append] at m
  rcases m with m | m | m
  · exact kl_in a.ok a.st n m
  · exact enR_in a.ok a.en n m
  · exact a.lt n m
theorem Hs.fresh (a : Hs h e x κ L M) : (kl κ ++ (L ++ M)).count h.sz = 0 := by
  rw [List.count_eq_zero]
  intro m
  have := a.hot _ m
  omega
theorem ok_push (ok : OkH h) {o : AO} : OkH (h.push o) := fun n o' g => by
  rw [AH.get_push] at g
  split at g
  · rename_i e
    rw [e]
    exact Nat.lt_succ_self _
  · exact Nat.lt_succ_of_lt (ok n o' g)
theorem ex_push {o : AO} : Ex h (h.push o) := fun n l => by
  rw [AH.get_push, if_neg (by omega)]
theorem get_new {o : AO} : (h.push o).get h.sz = some o := by
  rw [AH.get_push, if_pos rfl]
theorem st_ex (ok : OkH h) (x : Ex h h') (hz : h'.z = h.z) {c : Option Nat} (s : StR h c κ) : StR h' c κ := by
  cases κ with
  | none =>
    cases c with
    | none =>
      show h'.z.length ≤ 63
      rw [hz]
      exact s
    | some _ => exact s
  | some p =>
    obtain ⟨r, l⟩ := p
    cases c with
    | none => exact s
    | some k =>
      obtain ⟨cells, p, q, m, lc, g1, g2, z⟩ := s
      exact ⟨cells, p, q, m, lc, by rw [x _ (ok _ _ g1)]; exact g1, by rw [x _ (ok _ _ g2)]; exact g2, z⟩
theorem rep_ex (ok : OkH h) (x : Ex h h') (hA : ∀ n, n < h.sz → n ∉ A → n ∉ A') (r : Rep h A κ t d v Lr) : Rep h' A' κ t d v Lr :=
  rep_fr ok hA (KLe.refl _) (fun n l _ => x n l) (fun n m => x n (rep_in ok r n m)) r
theorem repL_ex (ok : OkH h) (x : Ex h h') (hA : ∀ n, n < h.sz → n ∉ A → n ∉ A') {ts : List TV} {vs : List AV} (r : RepL h A κ ts d vs Lr) : RepL h' A' κ ts d vs Lr :=
  repL_fr ok hA (KLe.refl _) (fun n l _ => x n l) (fun n m => x n (repL_in ok r n m)) r
theorem notin_more {n k : Nat} {A X B : List Nat} (l : n < k) (m : n ∉ A) (e : ∀ a, B.count a ≤ A.count a + X.count a) (hx : ∀ a ∈ X, k ≤ a) : n ∉ B := fun q => by
  have q := List.count_pos_iff.mpr q
  have := e n
  have a0 : A.count n = 0 := List.count_eq_zero.mpr m
  have b0 : X.count n = 0 := List.count_eq_zero.mpr fun i => by
    have := hx n i
    omega
  omega
/-- what an operation gives: the slots are as they were -/
def Out (h : AH) (e : En) (x : TX) (κ : KA) (L M : List Nat) (Q : TD → Prop) (r : Rs AV) : Prop :=
  ∃ v h' u Lr, r = .ok v h' ∧ Q u ∧ Hs h' e x κ L (Lr ++ M) ∧ Rep h' (kl κ ++ (L ++ (Lr ++ M))) κ u.1 u.2 v Lr ∧ Go h κ L h' κ (L ++ Lr) ∧ Ex h h'
theorem Go.same (x : Ex h h') (s : h.sz ≤ h'.sz) (z : h'.z = h.z) (hN : ∀ n ∈ L', n ∈ L ∨ h.sz ≤ n) : Go h κ L h' κ L' := ⟨s, z, fun n l _ => x n l, fun n m => by
  simp only [List.mem_append] at m ⊢
  rcases m with m | m
  · exact .inl (.inl m)
  · exact (hN n m).imp .inr id, KLe.refl _⟩
/-- the answer stands already, and is nobody's own -/
theorem Out.here {Q : TD → Prop} {u : TD} (a : Hs h e x κ L M) (r : Rep h (kl κ ++ (L ++ M)) κ u.1 u.2 v []) (q : Q u) : Out h e x κ L M Q (.ok v h) :=
  ⟨v, h, u, [], rfl, q, by simpa using a, by simpa using r, Go.same (fun _ _ => rfl) (Nat.le_refl _) rfl (fun n m => .inl (by simpa using m)), fun _ _ => rfl⟩
/-- a new place beside, its parts among what is held -/
theorem Hs.push (a : Hs h e x κ L M) (o : AO) (N : List Nat) (hN : ∀ n, N.count n ≤ M.count n + [h.sz].count n) : Hs (h.push o) e x κ L N := by
  have fr := a.fresh
  refine ⟨ok_push a.ok, st_ex a.ok ex_push rfl a.st, fun n => ?_, ?_, fun n m => ?_⟩
  · have h1 := a.un n
    have h2 := hN n
    simp only [List.count_append] at h1 fr ⊢
    by_cases e : h.sz = n
    · subst e
      have : [h.sz].count h.sz = 1 := by simp
      omega
    · have : [h.sz].count n = 0 := by rw [List.count_eq_zero]; simp; omega
      omega
  · refine enR_fr a.ok (fun n l m => notin_more (X := [h.sz]) l m (fun b => ?_) (by simp)) (KLe.refl _) (fun n l _ => ex_push n l) (fun n m => ex_push n (enR_in a.ok a.en n m)) a.en
    have h2 := hN b
    simp only [List.count_append]
    omega
  · have := hN n
    have m := List.count_pos_iff.mpr m
    show n < h.sz + 1
    by_cases e : 0 < M.count n
    · have := a.lt n (List.count_pos_iff.mp e)
      omega
    · have : 0 < [h.sz].count n := by omega
      have := List.count_pos_iff.mp this
      simp at this
      omega
theorem Out.list {Q : TD → Prop} {ts : List TV} {vs : List AV} (a : Hs h e x κ L M) (r : RepL h (kl κ ++ (L ++ M)) κ ts 0 vs []) (q : Q (.lst ts, 1)) : Out h e x κ L M Q (newA h (.lst vs)) := by
  refine ⟨_, _, (.lst ts, 1), [h.sz], rfl, q, a.push _ _ fun n => by simp only [List.count_append]; omega, ⟨h.sz, vs, [], rfl, get_new, rfl, repL_ex a.ok ex_push (fun n l m => notin_more (X := [h.sz]) l m (fun b => by simp only [List.count_append]; omega) (by simp)) r⟩, Go.same ex_push (Nat.le_succ _) rfl fun n m => ?_, ex_push⟩
  rcases List.mem_append.mp m with m | m
  · exact .inl m
  · simp at m
    exact .inr (by omega)
theorem Out.tup {Q : TD → Prop} {ts : List TV} {vs : List AV} (a : Hs h e x κ L M) (r : RepL h (kl κ ++ (L ++ M)) κ ts 0 vs []) (q : Q (.tup ts, 0)) : Out h e x κ L M Q (newA h (.tup vs)) := by
  have fr := a.fresh
  refine ⟨_, _, (.tup ts, 0), [], rfl, q, a.push _ _ fun n => by simp, ⟨h.sz, vs, rfl, get_new, fun m => ?_, ?_⟩, Go.same ex_push (Nat.le_succ _) rfl fun n m => .inl (by simpa using m), ex_push⟩
  · have m : h.sz ∈ kl κ ++ (L ++ M) := by simpa using m
    have := List.count_pos_iff.mpr m
    omega
  · exact repL_ex a.ok ex_push (fun n l m => by simpa using m) r

/-! ### shared items -/
theorem rl_rev : ∀ {ts : List TV} {vs : List AV}, RepL h A κ ts 0 vs [] → RepL h A κ ts.reverse 0 vs.reverse []
  | [], _, r => by obtain ⟨rfl, _⟩ := r; exact ⟨rfl, rfl⟩
  | t :: ts, _, ⟨v, vs', L1, L2, f1, e, r1, r2⟩ => by
    subst f1
    obtain ⟨rfl, rfl⟩ := List.append_eq_nil_iff.mp e.symm
    rw [List.reverse_cons, List.reverse_cons]
    exact repL_app (rl_rev r2) (repL_one r1)
theorem rl_drop : ∀ {ts : List TV} {vs : List AV} (k : Nat), RepL h A κ ts 0 vs [] → RepL h A κ (ts.drop k) 0 (vs.drop k) []
  | _, _, 0, r => r
  | [], _, k + 1, r => by obtain ⟨rfl, _⟩ := r; exact ⟨rfl, rfl⟩
  | t :: ts, _, k + 1, ⟨v, vs', L1, L2, f1, e, r1, r2⟩ => by
    subst f1
    obtain ⟨rfl, rfl⟩ := List.append_eq_nil_iff.mp e.symm
    exact rl_drop k r2
theorem rl_take : ∀ {ts : List TV} {vs : List AV} (k : Nat), RepL h A κ ts 0 vs [] → RepL h A κ (ts.take k) 0 (vs.take k) []
  | _, _, 0, r => by simpa using ⟨rfl, rfl⟩
  | [], _, k + 1, r => by obtain ⟨rfl, _⟩ := r; exact ⟨rfl, rfl⟩
  | t :: ts, _, k + 1, ⟨v, vs', L1, L2, f1, e, r1, r2⟩ => by
    subst f1
    obtain ⟨rfl, rfl⟩ := List.append_eq_nil_iff.mp e.symm
    exact ⟨v, _, [], [], rfl, rfl, r1, rl_take k r2⟩
theorem rl_rep {ts : List TV} {vs : List AV} (r : RepL h A κ ts 0 vs []) : ∀ k : Nat, RepL h A κ (List.replicate k ts).flatten 0 (List.replicate k vs).flatten []
  | 0 => ⟨rfl, rfl⟩
  | k + 1 => by
    rw [List.replicate_succ, List.replicate_succ, List.flatten_cons, List.flatten_cons]
    exact repL_app r (rl_rep r k)
theorem cut_ok {ts : List TV} {vs : List AV} {lo hi : Option Int} (r : RepL h A κ ts 0 vs []) : RepL h A κ (cutT ts lo hi) 0 (sliceA.cut vs lo hi) [] := by
  unfold cutT sliceA.cut
  rw [repL_len r]
  exact rl_take _ (rl_drop _ r)
theorem lst0 {ts : List TV} (r : Rep h A κ (.lst ts) 0 v []) : ∃ n vs, v = .ref n ∧ h.get n = some (.lst vs) ∧ n ∉ A ∧ RepL h A κ ts 0 vs [] := r
theorem tup0 {ts : List TV} (r : Rep h A κ (.tup ts) 0 v []) : ∃ n vs, v = .ref n ∧ h.get n = some (.tup vs) ∧ n ∉ A ∧ RepL h A κ ts 0 vs [] := r
theorem bin_okT {op : BOp} {Q : TD → Prop} (a : Hs h e x κ L M) (r : Rep h (kl κ ++ (L ++ M)) κ t 0 v []) (s : Rep h (kl κ ++ (L ++ M)) κ u 0 w []) (q : wBin op t u Q) : Out h e x κ L M Q (binA op h v w) := by
  have int : ∀ i : Int, Q (.int i, 9) → Out h e x κ L M Q (.ok (.int i) h) := fun i q => Out.here (u := (.int i, 9)) a ⟨rfl, rfl⟩ q
  cases op with
  | add =>
    cases t <;> first | exact q.elim | skip
    · cases u <;> first | exact q.elim | skip
      obtain ⟨rfl, _⟩ := r
      obtain ⟨rfl, _⟩ := s
      exact int _ q
    · cases u <;> first | exact q.elim | skip
      rename_i y z
      obtain ⟨rfl, _⟩ := r
      obtain ⟨rfl, _⟩ := s
      have : binA .add h (.str y) (.str z) = .ok (.str (y ++ z)) h := if_pos q.1
      rw [this]
      exact Out.here (u := (.str (y ++ z), 9)) a ⟨rfl, rfl⟩ q.2
    · cases u <;> first | exact q.elim | skip
      obtain ⟨n, vs, rfl, g, _, r⟩ := lst0 r
      obtain ⟨m, ws, rfl, g2, _, s⟩ := lst0 s
      have : binA .add h (.ref n) (.ref m) = newA h (.lst (vs ++ ws)) := by
        simp only [binA, g, g2]
        rw [if_pos (by rw [repL_len r, repL_len s]; exact q.1)]
      rw [this]
      exact Out.list a (repL_app r s) q.2
    · cases u <;> first | exact q.elim | skip
      have r0 := r
      have s0 := s
      rename_i ts us
      obtain ⟨n, vs, rfl, g, _, r⟩ := tup0 r
      obtain ⟨m, ws, rfl, g2, _, s⟩ := tup0 s
      have : binA .add h (.ref n) (.ref m) = if vs.isEmpty then .ok (.ref m) h else if ws.isEmpty then .ok (.ref n) h else newA h (.tup (vs ++ ws)) := by
        simp only [binA, g, g2]
        rw [if_pos (by rw [repL_len r, repL_len s]; exact q.1)]
      rw [this]
      split
      · rename_i hv
        have e1 : ts = [] := by
          rw [isE_len (repL_len r)] at hv
          exact List.isEmpty_iff.mp hv
        subst e1
        exact Out.here (u := (.tup us, 0)) a s0 q.2
      · split
        · rename_i hw
          have e1 : us = [] := by
            rw [isE_len (repL_len s)] at hw
            exact List.isEmpty_iff.mp hw
          subst e1
          have q2 := q.2
          rw [List.append_nil] at q2
          exact Out.here (u := (.tup ts, 0)) a r0 q2
        · exact Out.tup a (repL_app r s) q.2
  | sub =>
    cases t <;> first | exact q.elim | skip
    cases u <;> first | exact q.elim | skip
    obtain ⟨rfl, _⟩ := r
    obtain ⟨rfl, _⟩ := s
    exact int _ q
  | mul =>
    cases t <;> first | exact q.elim | skip
    · cases u <;> first | exact q.elim | skip
      rename_i i j
      obtain ⟨rfl, _⟩ := r
      obtain ⟨rfl, _⟩ := s
      have : binA .mul h (.int i) (.int j) = .ok (.int (i * j)) h := if_pos q.1
      rw [this]
      exact int _ q.2
    · cases u <;> first | exact q.elim | skip
      rename_i j
      obtain ⟨n, vs, rfl, g, _, r⟩ := lst0 r
      obtain ⟨rfl, _⟩ := s
      have : binA .mul h (.ref n) (.int j) = newA h (.lst (List.replicate j.toNat vs).flatten) := by
        simp only [binA, g]
        rw [if_pos (by rw [repL_len r]; exact q.1)]
      rw [this]
      exact Out.list a (rl_rep r _) q.2
  | fdiv =>
    cases t <;> first | exact q.elim | skip
    cases u <;> first | exact q.elim | skip
    rename_i i j
    obtain ⟨rfl, _⟩ := r
    obtain ⟨rfl, _⟩ := s
    have : binA .fdiv h (.int i) (.int j) = .ok (.int (i.fdiv j)) h := if_pos q.1
    rw [this]
    exact int _ q.2
  | mod =>
    cases t <;> first | exact q.elim | skip
    cases u <;> first | exact q.elim | skip
    rename_i i j
    obtain ⟨rfl, _⟩ := r
    obtain ⟨rfl, _⟩ := s
    have : binA .mod h (.int i) (.int j) = .ok (.int (i.fmod j)) h := if_pos q.1
    rw [this]
    exact int _ q.2
  | pow =>
    cases t <;> first | exact q.elim | skip
    cases u <;> first | exact q.elim | skip
    rename_i i j
    obtain ⟨rfl, _⟩ := r
    obtain ⟨rfl, _⟩ := s
    have : binA .pow h (.int i) (.int j) = .ok (.int (i ^ j.toNat)) h := if_pos q.1
    rw [this]
    exact int _ q.2
  | shl =>
    cases t <;> first | exact q.elim | skip
    cases u <;> first | exact q.elim | skip
    rename_i i j
    obtain ⟨rfl, _⟩ := r
    obtain ⟨rfl, _⟩ := s
    have : binA .shl h (.int i) (.int j) = .ok (.int (i * 2 ^ j.toNat)) h := if_pos q.1
    rw [this]
    exact int _ q.2
  | shr =>
    cases t <;> first | exact q.elim | skip
    cases u <;> first | exact q.elim | skip
    rename_i i j
    obtain ⟨rfl, _⟩ := r
    obtain ⟨rfl, _⟩ := s
    have : binA .shr h (.int i) (.int j) = .ok (.int (i / 2 ^ j.toNat)) h := if_pos q.1
    rw [this]
    exact int _ q.2
theorem slice_okT {lo hi : Option Int} {Q : TD → Prop} (a : Hs h e x κ L M) (r : Rep h (kl κ ++ (L ++ M)) κ t 0 v []) (q : wSlice t lo hi Q) : Out h e x κ L M Q (sliceA h v lo hi) := by
  cases t <;> first | exact q.elim | skip
  · obtain ⟨n, vs, rfl, g, _, r⟩ := lst0 r
    have : sliceA h (.ref n) lo hi = newA h (.lst (sliceA.cut vs lo hi)) := by simp only [sliceA, g]
    rw [this]
    exact Out.list a (cut_ok r) q
  · have r0 := r
    rename_i ts
    obtain ⟨n, vs, rfl, g, _, r⟩ := tup0 r
    have : sliceA h (.ref n) lo hi = if HT.sIx vs.length 0 lo = 0 ∧ HT.sIx vs.length vs.length hi = vs.length then .ok (.ref n) h else newA h (.tup (sliceA.cut vs lo hi)) := by simp only [sliceA, g]
    rw [this]
    split
    · rename_i hc
      have e1 : cutT ts lo hi = ts := by
        unfold cutT
        rw [← repL_len r, hc.1, hc.2, List.drop_zero, Nat.sub_zero, repL_len r, List.take_length]
      have q : Q (.tup (cutT ts lo hi), 0) := q
      rw [e1] at q
      exact Out.here (u := (.tup ts, 0)) a r0 q
    · exact Out.tup a (cut_ok r) q
end
end EV

/-! EvZc: what an evaluation keeps. -/
namespace EV
open PySem
section
variable {h h' h1 : AH} {A A' : List Nat} {κ κ' κ1 : KA} {d d' : Nat} {v w : AV} {L L' L1 M Lr Lt : List Nat} {t u t0 : TV} {e : En} {x x1 : TX}
theorem share (ok : OkH h) (un : Un A) (r : Rep h A κ t d v Lt) (hc : ∀ n, A'.count n + Lt.count n ≤ A.count n) : Rep h A' κ t 0 v [] := by
  have nd : Lt.Nodup := un_nd fun n => by
    have := un n
    have := hc n
    omega
  refine rep_share r nd (mem_of_count fun n => by have := hc n; omega) fun n m k => ?_
  have a := List.count_pos_iff.mpr m
  have b := List.count_pos_iff.mpr k
  have := un n
  have := hc n
  omega
/-! ### places by a path -/
inductive Pth (h : AH) : Nat → TV → AV → TV → AV → Prop
  | zero {t : TV} {v : AV} : Pth h 0 t v t v
  | succ {l : Nat} {t0 t t' : TV} {v0 v v' : AV} : Pth h l t0 v0 t v → Kid h t v t' v' → Pth h (l + 1) t0 v0 t' v'
theorem kid_rep {t' : TV} {v' : AV} (r : Rep h A κ t d v L) (k : Kid h t v t' v') : ∃ L1, Rep h A κ t' (d - 1) v' L1 := by
  obtain ⟨n, ts, vs, k, rfl, hk, e1, e2⟩ := k
  rcases hk with ⟨rfl, g⟩ | ⟨rfl, g⟩
  · obtain ⟨m, ws, L1, e, g2, r, _⟩ := lst_of r
    cases e
    rw [g] at g2
    cases g2
    obtain ⟨a, L2, e3, r, _⟩ := repL_get r e1
    rw [e2] at e3
    cases e3
    exact ⟨L2, r⟩
  · obtain ⟨m, ws, e, g2, r⟩ := tup_of r
    cases e
    rw [g] at g2
    cases g2
    obtain ⟨a, L2, e3, r, _⟩ := repL_get r e1
    rw [e2] at e3
    cases e3
    exact ⟨L2, r⟩
theorem pth_rep {l : Nat} {v0 : AV} (p : Pth h l t0 v0 t v) : ∀ {d : Nat} {L : List Nat}, Rep h A κ t0 d v0 L → ∃ L1, Rep h A κ t (d - l) v L1 := by
  induction p with
  | zero => exact fun {d L} r => ⟨L, r⟩
  | succ p k ih =>
    intro d L r
    obtain ⟨L1, r1⟩ := ih r
    obtain ⟨L2, r2⟩ := kid_rep r1 k
    exact ⟨L2, by rw [← Nat.sub_sub]; exact r2⟩
theorem kid_ex (ok : OkH h) (x : Ex h h') {t' : TV} {v' : AV} (k : Kid h t v t' v') : Kid h' t v t' v' := by
  obtain ⟨n, ts, vs, k, e, hk, e1, e2⟩ := k
  refine ⟨n, ts, vs, k, e, ?_, e1, e2⟩
  rcases hk with ⟨z, g⟩ | ⟨z, g⟩
  · exact .inl ⟨z, by rw [x _ (ok _ _ g)]; exact g⟩
  · exact .inr ⟨z, by rw [x _ (ok _ _ g)]; exact g⟩
theorem pth_ex (ok : OkH h) (x : Ex h h') {l : Nat} {v0 : AV} (p : Pth h l t0 v0 t v) : Pth h' l t0 v0 t v := by
  induction p with
  | zero => exact .zero
  | succ p k ih => exact .succ ih (kid_ex ok x k)
/-- a slot is less its own -/
theorem Hs.low (a : Hs h e x κ L M) {i d0 : Nat} (k : Nat) (s : slot x.e i = some (t0, d0)) : ∃ L' v0 L1, Hs h e (x.low i k) κ L' M ∧ (∀ n, L'.count n ≤ L.count n) ∧ e[i]? = some (some v0) ∧ Rep h (kl κ ++ (L' ++ M)) κ t0 (min d0 k) v0 L1 ∧ slot (x.low i k).e i = some (t0, min d0 k) := by
  obtain ⟨v0, L1, L2, e1, c1, r, en⟩ := enR_take a.en s
  by_cases hk : d0 ≤ k
  · have ex : x.low i k = x := by
      unfold TX.low
      rw [s]
      simp only [hk, if_true]
    rw [ex, Nat.min_eq_left hk]
    exact ⟨L, v0, L1, a, fun n => Nat.le_refl _, e1, r, s⟩
  · have ex : x.low i k = x.put i (some (t0, k)) := by
      unfold TX.low
      rw [s]
      simp only [hk, if_false]
    rw [ex, Nat.min_eq_right (by omega)]
    have un1 : L1.Nodup := un_nd fun n => by
      have := a.un n
      have := c1 n
      simp only [List.count_append] at *
      omega
    obtain ⟨L1', sl, q⟩ := rep_low r un1 (show k ≤ d0 by omega)
    have hi : i < x.e.length := by
      by_cases hi : i < x.e.length
      · exact hi
      · unfold slot at s
        rw [List.getElem?_eq_none (by omega)] at s
        cases s
    have cl : ∀ n, L1'.count n ≤ L1.count n := fun n => sl.count_le n
    have r' : Rep h (kl κ ++ ((L1' ++ L2) ++ M)) κ t0 k v0 L1' := q _ (mem_of_count fun n => by
      have := c1 n
      have := cl n
      simp only [List.count_append]
      omega) fun n m m' z => by
        have a1 := List.count_pos_iff.mpr m
        have a2 := List.count_eq_zero.mpr m'
        have a3 := List.count_pos_iff.mpr z
        have := a.un n
        have := c1 n
        simp only [List.count_append] at *
        omega
    obtain ⟨L', c2, en'⟩ := enR_put (u := some (t0, k)) (L1 := L1') (enR_A a.ok (A' := kl κ ++ ((L1' ++ L2) ++ M)) (mem_of_count fun n => by
      have := c1 n
      have := cl n
      simp only [List.count_append]
      omega) en) slot_set_same ⟨v0, by rw [e1]; rfl, r'⟩ (fun z => by rw [List.length_set] at z; omega)
    rw [set_back] at en'
    have hA : ∀ n, n ∈ kl κ ++ (L' ++ M) → n ∈ kl κ ++ ((L1' ++ L2) ++ M) := mem_of_count fun n => by
      have := c2 n
      simp only [List.count_append]
      omega
    refine ⟨L', v0, L1', ⟨a.ok, a.st, fun n => ?_, enR_A a.ok hA en', a.lt⟩, fun n => ?_, e1, rep_A a.ok hA r', ?_⟩
    · have := a.un n
      have := c1 n
      have := c2 n
      have := cl n
      simp only [List.count_append] at *
      omega
    · have := c1 n
      have := c2 n
      have := cl n
      omega
    · show slot (x.e.set i (some (t0, k))) i = _
      unfold slot
      rw [List.getElem?_set_self hi]
      rfl
theorem go_less (hc : ∀ n, L'.count n ≤ L.count n) : Go h κ L h κ L' := Go.same (fun _ _ => rfl) (Nat.le_refl _) rfl fun n m => .inl (mem_of_count hc n m)

def Lw (x x' : TX) : Prop := ∀ i t d, slot x.e i = some (t, d) → ∃ d', slot x'.e i = some (t, d')
structure Cm (h : AH) (x : TX) (h' : AH) (x' : TX) : Prop where
  ex : Ex h h'
  sz : h.sz ≤ h'.sz
  lw : Lw x x'
theorem Cm.refl (h : AH) (x : TX) : Cm h x h x := ⟨fun _ _ => rfl, Nat.le_refl _, fun _ _ d s => ⟨d, s⟩⟩
theorem Cm.trans {h2 : AH} {x2 : TX} (a : Cm h x h1 x1) (b : Cm h1 x1 h2 x2) : Cm h x h2 x2 := ⟨fun n l => by rw [b.ex n (Nat.lt_of_lt_of_le l a.sz), a.ex n l], Nat.le_trans a.sz b.sz, fun i t d s => by
  obtain ⟨d1, s1⟩ := a.lw i t d s
  exact b.lw i t d1 s1⟩
theorem Cm.low (h : AH) (x : TX) (i k : Nat) : Cm h x h (x.low i k) := ⟨fun _ _ => rfl, Nat.le_refl _, fun j t d s => by
  unfold TX.low
  cases e : slot x.e i with
  | none => exact ⟨d, s⟩
  | some u =>
    obtain ⟨t0, d0⟩ := u
    dsimp only
    split
    · exact ⟨d, s⟩
    · show ∃ d', slot (x.e.set i (some (t0, k))) j = _
      by_cases hj : i = j
      · subst hj
        rw [s] at e
        cases e
        refine ⟨k, ?_⟩
        have hi : i < x.e.length := by
          by_cases hi : i < x.e.length
          · exact hi
          · unfold slot at s
            rw [List.getElem?_eq_none (by omega)] at s
            cases s
        unfold slot
        rw [List.getElem?_set_self hi]
        rfl
      · refine ⟨d, ?_⟩
        unfold slot at s ⊢
        rw [List.getElem?_set_ne hj]
        exact s⟩
/-! ### results -/
class Mon {α β : Type} (R : AH → List Nat → KA → β → α → List Nat → Prop) : Prop where
  mon : ∀ {h A A' κ b v L}, OkH h → (∀ n ∈ A', n ∈ A) → R h A κ b v L → R h A' κ b v L
def RV (h : AH) (A : List Nat) (κ : KA) (u : TD) (v : AV) (L : List Nat) : Prop := Rep h A κ u.1 u.2 v L
def RC {α : Type} (_ : AH) (_ : List Nat) (_ : KA) (b : α) (v : α) (L : List Nat) : Prop := v = b ∧ L = []
def RP (h : AH) (A : List Nat) (κ : KA) : List TD → List AV → List Nat → Prop
  | [], vs, L => vs = [] ∧ L = []
  | u :: us, vs, L => ∃ v vs' L1 L2, vs = v :: vs' ∧ L = L1 ++ L2 ∧ Rep h A κ u.1 u.2 v L1 ∧ RP h A κ us vs' L2
instance : Mon RV := ⟨fun ok hA r => rep_A ok hA r⟩
instance {α : Type} : Mon (RC (α := α)) := ⟨fun _ _ r => r⟩
theorem rp_fr (ok : OkH h) (hA : ∀ n, n < h.sz → n ∉ A → n ∉ A') (hk : KLe κ κ') (hs : ∀ n, n < h.sz → n ∉ A → h'.get n = h.get n) : ∀ {us : List TD} {vs : List AV} {L : List Nat}, (∀ n ∈ L, h'.get n = h.get n) → RP h A κ us vs L → RP h' A' κ' us vs L
  | [], _, _, _, r => r
  | u :: us, _, _, q, ⟨v, vs', L1, L2, f, e, r1, r2⟩ => ⟨v, vs', L1, L2, f, e, rep_fr ok hA hk hs (fun n m => q n (by rw [e]; exact List.mem_append_left _ m)) r1, rp_fr ok hA hk hs (fun n m => q n (by rw [e]; exact List.mem_append_right _ m)) r2⟩
theorem rp_in (ok : OkH h) : ∀ {us : List TD} {vs : List AV} {L : List Nat}, RP h A κ us vs L → ∀ n ∈ L, n < h.sz
  | [], _, _, r, n, m => by rw [r.2] at m; cases m
  | u :: us, _, _, ⟨v, vs', L1, L2, _, e, r1, r2⟩, n, m => by
    rw [e] at m
    rcases List.mem_append.mp m with m | m
    · exact rep_in ok r1 n m
    · exact rp_in ok r2 n m
instance : Mon RP := ⟨fun ok hA r => rp_fr ok (fun n _ m q => m (hA n q)) (KLe.refl _) (fun _ _ _ => rfl) (fun _ _ => rfl) r⟩
def Res {α β : Type} (R : AH → List Nat → KA → β → α → List Nat → Prop) (cl : Bool) (h : AH) (x : TX) (κ : KA) (L M : List Nat) (e : En) (Q : β → TX → Prop) (r : Rs α) : Prop :=
  ∃ v h' b x' κ' L' Lr, r = .ok v h' ∧ Q b x' ∧ Hs h' e x' κ' L' (Lr ++ M) ∧ R h' (kl κ' ++ (L' ++ (Lr ++ M))) κ' b v Lr ∧ Go h κ L h' κ' (L' ++ Lr) ∧ (cl = true → Cm h x h' x')
/-- from further on; what was held there is let go -/
theorem Res.up {α β : Type} {R : AH → List Nat → KA → β → α → List Nat → Prop} [Mon R] {cl : Bool} {Q : β → TX → Prop} {r : Rs α} (g : Go h κ L h1 κ1 (L1 ++ Lr)) (ex : cl = true → Cm h x h1 x1) (a : Res R cl h1 x1 κ1 L1 (Lr ++ M) e Q r) : Res R cl h x κ L M e Q r := by
  obtain ⟨v, h2, b, x2, κ2, L2, Lr2, e1, q, hs, rr, g2, ex2⟩ := a
  refine ⟨v, h2, b, x2, κ2, L2, Lr2, e1, q, hs.less fun n => by simp only [List.count_append]; omega, Mon.mon hs.ok (mem_of_count fun n => by simp only [List.count_append]; omega) rr, ?_, fun c => (ex c).trans (ex2 c)⟩
  refine (g.trans (g2.more Lr)).weak (fun n m => m) fun n m => .inl (List.mem_append_left _ m)
theorem Res.bnd {α β γ δ : Type} {R : AH → List Nat → KA → β → α → List Nat → Prop} {S : AH → List Nat → KA → δ → γ → List Nat → Prop} {cl1 cl : Bool} {Q1 : β → TX → Prop} {Q : δ → TX → Prop} {r : Rs α} {f : α → AH → Rs γ} (a : Res R cl1 h x κ L M e Q1 r)
    (k : ∀ v h1 b x1 κ1 L1 Lr, Q1 b x1 → Hs h1 e x1 κ1 L1 (Lr ++ M) → R h1 (kl κ1 ++ (L1 ++ (Lr ++ M))) κ1 b v Lr → Go h κ L h1 κ1 (L1 ++ Lr) → (cl1 = true → Cm h x h1 x1) → Res S cl h x κ L M e Q (f v h1)) : Res S cl h x κ L M e Q (r.bind f) := by
  obtain ⟨v, h1, b, x1, κ1, L1, Lr, e1, q, hs, rr, g, ex⟩ := a
  rw [e1]
  exact k v h1 b x1 κ1 L1 Lr q hs rr g ex
/-- an operation's answer -/
theorem Out.res {cl : Bool} {Q : KE} {r : Rs AV} (g : Go h κ L h1 κ1 L1) (ex : cl = true → Cm h x h1 x1) (a : Out h1 e x1 κ1 L1 M (fun u => Q u x1) r) : Res RV cl h x κ L M e Q r := by
  obtain ⟨v, h2, u, Lr, e1, q, hs, rr, g2, ex2⟩ := a
  exact ⟨v, h2, u, x1, κ1, L1, Lr, e1, q, hs, rr, g.trans g2, fun c => (ex c).trans ⟨ex2, g2.sz, fun _ _ d s => ⟨d, s⟩⟩⟩
/-- an answer that owns nothing -/
theorem Res.mk0 {α β : Type} {R : AH → List Nat → KA → β → α → List Nat → Prop} {cl : Bool} {Q : β → TX → Prop} {v : α} {b : β} (a : Hs h1 e x1 κ1 L1 M) (g : Go h κ L h1 κ1 L1) (ex : cl = true → Cm h x h1 x1) (q : Q b x1) (r : R h1 (kl κ1 ++ (L1 ++ M)) κ1 b v []) : Res R cl h x κ L M e Q (.ok v h1) :=
  ⟨v, h1, b, x1, κ1, L1, [], rfl, q, by simpa using a, by simpa using r, by simpa using g, ex⟩
theorem Go.drop (g : Go h κ L h1 κ1 (L1 ++ Lr)) : Go h κ L h1 κ1 L1 := g.weak (fun n m => m) fun n m => .inl (List.mem_append_left _ m)
theorem Hs.let (a : Hs h e x κ L (Lr ++ M)) : Hs h e x κ L M := a.less fun n => by simp only [List.count_append]; omega
theorem shareT (a : Hs h e x κ L (Lr ++ M)) (r : Rep h (kl κ ++ (L ++ (Lr ++ M))) κ t d v Lr) : Rep h (kl κ ++ (L ++ M)) κ t 0 v [] :=
  share a.ok a.un r fun n => by simp only [List.count_append]; omega
def JE (ev : En → AH → Rs AV) (wv : TX → KE → Prop) (cl : Bool) : Prop := ∀ e x h κ L M Q, Hs h e x κ L M → wv x Q → Res RV cl h x κ L M e Q (ev e h)
def JT (ev : En → AH → Rs Bool) (wv : TX → KT → Prop) (cl : Bool) : Prop := ∀ e x h κ L M Q, Hs h e x κ L M → wv x Q → Res RC cl h x κ L M e Q (ev e h)
def JO (ev : En → AH → Rs (Option Int)) (wv : TX → (Option Int → TX → Prop) → Prop) : Prop := ∀ e x h κ L M Q, Hs h e x κ L M → wv x Q → Res RC false h x κ L M e Q (ev e h)
def JP (ev : En → AH → Rs (List AV)) (wv : TX → (List TD → TX → Prop) → Prop) : Prop := ∀ e x h κ L M Q, Hs h e x κ L M → wv x Q → Res RP false h x κ L M e Q (ev e h)
/-- where a look ends -/
def At0 (p : E) (h : AH) (A : List Nat) (κ : KA) (e : En) (x : TX) (t : TV) (v : AV) : Prop := Rep h A κ t 0 v [] ∨ t.atm = true ∨ ∃ i l t0 d0 v0, root p = some (i, l) ∧ slot x.e i = some (t0, d0) ∧ e[i]? = some (some v0) ∧ Pth h l t0 v0 t v
def JL (p : E) (ev : En → AH → Rs AV) (wv : TX → (TV → TX → Prop) → Prop) (cl : Bool) : Prop := ∀ e x h κ L M Q, Hs h e x κ L M → wv x Q →
  ∃ v h' t x' κ' L', ev e h = .ok v h' ∧ Q t x' ∧ Hs h' e x' κ' L' M ∧ Sh h' κ' t v ∧ Go h κ L h' κ' L' ∧ (cl = true → Cm h x h' x') ∧ At0 p h' (kl κ' ++ (L' ++ M)) κ' e x' t v
/-- by its value -/
theorem jl_of {p : E} {ev : En → AH → Rs AV} {wv : TX → KE → Prop} {cl : Bool} (j : JE ev wv cl) : JL p ev (fun x Q => wv x fun u x1 => Q u.1 x1) cl := by
  intro e x h κ L M Q hs q
  obtain ⟨v, h1, u, x1, κ1, L1, Lr, e1, q, hs1, rr, g, ex⟩ := j e x h κ L M _ hs q
  refine ⟨v, h1, u.1, x1, κ1, L1, e1, q, hs1.let, Rep.sh rr, g.drop, ex, .inl (shareT hs1 rr)⟩
theorem jt_of {ev : En → AH → Rs AV} {wv : TX → KE → Prop} {cl : Bool} (j : JE ev wv cl) : JT (fun e h => (ev e h).bind fun x h1 => tru h1 x) (fun x Q => wv x fun u x1 => wTru u.1 fun b => Q b x1) cl := by
  intro e x h κ L M Q hs q
  refine (j e x h κ L M _ hs q).bnd fun v h1 u x1 κ1 L1 Lr q1 hs1 rr g ex => ?_
  obtain ⟨b, e1, q2⟩ := tru_ok rr q1
  unfold tru
  rw [e1]
  exact Res.mk0 (b := b) hs1.let g.drop ex q2 ⟨rfl, rfl⟩
theorem jt_lk {p : E} {ev : En → AH → Rs AV} {wv : TX → (TV → TX → Prop) → Prop} {cl : Bool} (j : JL p ev wv cl) : JT (fun e h => (ev e h).bind fun x h1 => tru h1 x) (fun x Q => wv x fun t x1 => wTru t fun b => Q b x1) cl := by
  intro e x h κ L M Q hs q
  obtain ⟨v, h1, t, x1, κ1, L1, e1, q1, hs1, ⟨A, d, Lt, r⟩, g, ex, _⟩ := j e x h κ L M _ hs q
  dsimp only
  rw [e1]
  obtain ⟨b, e2, q2⟩ := tru_ok r q1
  show Res RC cl h x κ L M e Q (tru h1 v)
  unfold tru
  rw [e2]
  exact Res.mk0 (b := b) hs1 g ex q2 ⟨rfl, rfl⟩
/-- a look as a value -/
theorem je_done {p : E} {ev : En → AH → Rs AV} {wv : TX → (TV → TX → Prop) → Prop} {cl : Bool} (j : JL p ev wv cl) : JE ev (fun x Q => wv x fun t x1 => done p Q t x1) cl := by
  intro e x h κ L M Q hs q
  obtain ⟨v, h1, t, x1, κ1, L1, e1, q1, hs1, sh, g, ex, a0⟩ := j e x h κ L M _ hs q
  rw [e1]
  obtain ⟨A, d, Lt, r⟩ := sh
  unfold done at q1
  cases ht : t.atm with
  | true =>
    rw [ht] at q1
    obtain ⟨_, r⟩ := rep_atm (d' := 9) ht r
    exact Res.mk0 (R := RV) (b := (t, 9)) hs1 g ex q1 (by have := (rep_atm (d' := 9) ht (r [])).1; subst this; exact r _)
  | false =>
    rw [ht] at q1
    cases hr : root p with
    | none =>
      rw [hr] at q1
      rcases a0 with a0 | a0 | ⟨i, l, t0, d0, v0, z, _⟩
      · exact Res.mk0 (R := RV) (b := (t, 0)) hs1 g ex q1 a0
      · rw [ht] at a0; cases a0
      · rw [hr] at z; cases z
    | some il =>
      obtain ⟨i, l⟩ := il
      rw [hr] at q1
      have ex' : cl = true → Cm h x h1 (x1.low i l) := fun c => (ex c).trans (Cm.low _ _ _ _)
      rcases a0 with a0 | a0 | ⟨i', l', t0, d0, v0, z, s, e2, pt⟩
      · cases s : slot x1.e i with
        | none =>
          have el : x1.low i l = x1 := by
            unfold TX.low
            rw [s]
          dsimp only at q1
          rw [el] at q1
          exact Res.mk0 (R := RV) (b := (t, 0)) hs1 g ex q1 a0
        | some u =>
          obtain ⟨t0, d0⟩ := u
          obtain ⟨L2, v1, L3, hs2, c2, e3, r2, _⟩ := hs1.low l s
          exact Res.mk0 (R := RV) (b := (t, 0)) hs2 (g.trans (go_less c2)) ex' q1 (rep_A hs1.ok (mem_of_count fun n => by have := c2 n; simp only [List.count_append]; omega) a0)
      · rw [ht] at a0; cases a0
      · rw [hr] at z
        cases z
        obtain ⟨L2, v1, L3, hs2, c2, e3, r2, _⟩ := hs1.low l s
        rw [e2] at e3
        cases e3
        obtain ⟨L4, r3⟩ := pth_rep pt r2
        rw [show min d0 l - l = 0 by omega] at r3
        have e4 := rep0 r3
        subst e4
        exact Res.mk0 (R := RV) (b := (t, 0)) hs2 (g.trans (go_less c2)) ex' q1 r3
end
end EV

/-! EvZd: the forms of expressions. -/
namespace EV
open PySem
section
variable {eva evb evc : En → AH → Rs AV} {wa wb wc : TX → KE → Prop} {la lb : TX → (TV → TX → Prop) → Prop} {ca cb cc cl : Bool}
theorem and2 {a b : Bool} {P : Prop} (f : a = true → b = true → P) : (a && b) = true → P := fun h => by
  rw [Bool.and_eq_true] at h
  exact f h.1 h.2
theorem Go.trans' {h h1 h2 : AH} {κ κ1 κ2 : KA} {L L1 L2 Lr Lr2 : List Nat} (a : Go h κ L h1 κ1 (L1 ++ Lr)) (b : Go h1 κ1 L1 h2 κ2 (L2 ++ Lr2)) : Go h κ L h2 κ2 (L2 ++ (Lr2 ++ Lr)) :=
  (a.trans (b.more Lr)).weak (fun n m => m) fun n m => .inl (by rw [List.append_assoc]; exact m)
theorem Hs.reb {h : AH} {e : En} {x : TX} {κ : KA} {L M N : List Nat} (a : Hs h e x κ L M) (hN : ∀ n, N.count n ≤ M.count n) : Hs h e x κ L N := a.less hN
theorem je_no : JE (fun _ _ => .no) (fun _ _ => False) cl := fun _ _ _ _ _ _ _ _ q => q.elim
theorem jt_no0 {ev : En → AH → Rs Bool} : JT ev (fun _ _ => False) cl := fun _ _ _ _ _ _ _ _ q => q.elim
theorem jl_no {p : E} {ev : En → AH → Rs AV} : JL p ev (fun _ _ => False) cl := fun _ _ _ _ _ _ _ _ q => q.elim
theorem kT_ok {c : AV} {t : TV} {h : AH} {A : List Nat} {κ : KA} (e : kT c = some t) : Rep h A κ t 9 c [] := by
  cases c <;> first | cases e; done | skip
  all_goals (cases e; exact ⟨rfl, rfl⟩)
theorem je_k {c : AV} : JE (fun _ h => .ok c h) (fun x Q => match kT c with
    | some t => Q (t, 9) x
    | none => False) cl := fun e x h κ L M Q hs q => by
  dsimp only at q
  cases et : kT c with
  | none => rw [et] at q; exact q.elim
  | some t =>
    rw [et] at q
    exact Res.mk0 (R := RV) (b := (t, 9)) hs (Go.refl _ _ _) (fun _ => Cm.refl _ _) q (kT_ok et)
theorem jl_var {i : Nat} {m : Mo} (hm : root (.var i m) = some (i, 0)) : JL (.var i m) (fun e h => opt h ((e[i]?).getD none)) (fun x Q => match slot x.e i with
    | some (t, _) => Q t x
    | none => False) cl := fun e x h κ L M Q hs q => by
  dsimp only at q ⊢
  cases s : slot x.e i with
  | none => rw [s] at q; exact q.elim
  | some u =>
    obtain ⟨t, d⟩ := u
    rw [s] at q
    obtain ⟨v, L1, L2, e1, _, r, _⟩ := enR_take hs.en s
    rw [e1]
    exact ⟨v, h, t, x, κ, L, rfl, q, hs, r.sh, Go.refl _ _ _, fun _ => Cm.refl _ _, .inr (.inr ⟨i, 0, t, d, v, hm, s, e1, .zero⟩)⟩
theorem je_mv {i : Nat} : JE (fun e h => opt h ((e[i]?).getD none)) (fun x Q => match slot x.e i with
    | some u => Q u (x.put i none)
    | none => False) false := fun e x h κ L M Q hs q => by
  dsimp only at q ⊢
  cases s : slot x.e i with
  | none => rw [s] at q; exact q.elim
  | some u =>
    obtain ⟨t, d⟩ := u
    rw [s] at q
    obtain ⟨v, L1, L2, e1, c1, r, en⟩ := enR_take hs.en s
    rw [e1]
    have hA : ∀ n ∈ kl κ ++ (L2 ++ (L1 ++ M)), n ∈ kl κ ++ (L ++ M) := mem_of_count fun n => by
      have := c1 n
      simp only [List.count_append]
      omega
    refine ⟨v, h, (t, d), x.put i none, κ, L2, L1, rfl, q, ⟨hs.ok, hs.st, fun n => ?_, enR_A hs.ok hA en, fun n m => ?_⟩, rep_A hs.ok hA r, Go.same (fun _ _ => rfl) (Nat.le_refl _) rfl fun n m => .inl ?_, fun z => by cases z⟩
    · have := hs.un n
      have := c1 n
      simp only [List.count_append] at *
      omega
    · rcases List.mem_append.mp m with m | m
      · exact rep_in hs.ok r n m
      · exact hs.lt n m
    · exact mem_of_count (m := L) (l := L2 ++ L1) (fun n => by have := c1 n; simp only [List.count_append]; omega) n m
/-- held over a step, then shared -/
theorem hold0 {h h' : AH} {κ κ' : KA} {L L' Lr Lr2 M : List Nat} {e : En} {x x' : TX} {t : TV} {d : Nat} {v : AV} (a : Hs h e x κ L (Lr ++ M)) (r : Rep h (kl κ ++ (L ++ (Lr ++ M))) κ t d v Lr) (b : Hs h' e x' κ' L' (Lr2 ++ (Lr ++ M))) (g : Go h κ L h' κ' (L' ++ Lr2)) : Rep h' (kl κ' ++ (L' ++ M)) κ' t 0 v [] := by
  have hu : Rep h' (kl κ' ++ ((L' ++ Lr2) ++ (Lr ++ M))) κ' t d v Lr := hold a.ok a.un g (fun n m => List.mem_append_left _ m) r
  refine share b.ok (fun n => ?_) hu fun n => by simp only [List.count_append]; omega
  have := b.un n
  simp only [List.count_append] at *
  omega
theorem jpair (ja : JE eva wa ca) (jb : JE evb wb cb) {e : En} {x : TX} {h : AH} {κ : KA} {L M : List Nat} {Q : TD → TD → TX → Prop} (hs : Hs h e x κ L M) (q : wa x fun u x1 => wb x1 fun v x2 => Q u v x2) :
    ∃ v h1 w h2 u1 u2 x2 κ2 L2, eva e h = .ok v h1 ∧ evb e h1 = .ok w h2 ∧ Q u1 u2 x2 ∧ Hs h2 e x2 κ2 L2 M ∧ Rep h2 (kl κ2 ++ (L2 ++ M)) κ2 u1.1 0 v [] ∧ Rep h2 (kl κ2 ++ (L2 ++ M)) κ2 u2.1 0 w [] ∧ Go h κ L h2 κ2 L2 ∧ ((ca && cb) = true → Cm h x h2 x2) := by
  obtain ⟨v, h1, u, x1, κ1, L1, Lr, e1, q1, hs1, rr, g, ex⟩ := ja e x h κ L M _ hs q
  obtain ⟨w, h2, u2, x2, κ2, L2, Lr2, e2, q2, hs2, rr2, g2, ex2⟩ := jb e x1 h1 κ1 L1 (Lr ++ M) _ hs1 q1
  refine ⟨v, h1, w, h2, u, u2, x2, κ2, L2, e1, e2, q2, hs2.less fun n => by simp only [List.count_append]; omega, hold0 hs1 rr hs2 g2, share hs2.ok hs2.un rr2 fun n => by simp only [List.count_append]; omega, ?_, and2 fun c1 c2 => (ex c1).trans (ex2 c2)⟩
  exact (g.trans' g2).weak (fun n m => m) fun n m => .inl (List.mem_append_left _ m)
theorem je_bin {op : BOp} (ja : JE eva wa ca) (jb : JE evb wb cb) : JE (fun e h => (eva e h).bind fun x h1 => (evb e h1).bind fun y h2 => binA op h2 x y) (fun x Q => wa x fun u x1 => wb x1 fun v x2 => wBin op u.1 v.1 fun r => Q r x2) (ca && cb) := fun e x h κ L M Q hs q => by
  obtain ⟨v, h1, w, h2, u1, u2, x2, κ2, L2, e1, e2, q2, hs2, r1, r2, g, ex⟩ := jpair ja jb hs q
  dsimp only
  rw [e1]
  show Res RV _ h x κ L M e Q ((evb e h1).bind fun y h2 => binA op h2 v y)
  rw [e2]
  exact Out.res g ex (bin_okT hs2 r1 r2 q2)
theorem je_neg (ja : JE eva wa ca) : JE (fun e h => (eva e h).bind fun x h1 => match x with
    | .int i => .ok (.int (-i)) h1
    | _ => .no) (fun x Q => wa x fun u x1 => match u.1 with
    | .int i => Q (.int (-i), 9) x1
    | _ => False) ca := fun e x h κ L M Q hs q => by
  refine (ja e x h κ L M _ hs q).bnd fun v h1 u x1 κ1 L1 Lr q1 hs1 rr g ex => ?_
  obtain ⟨t, d⟩ := u
  cases t <;> first | exact q1.elim | skip
  obtain ⟨rfl, _⟩ := rr
  exact Res.mk0 (R := RV) (b := (_, 9)) hs1.let g.drop ex q1 ⟨rfl, rfl⟩
theorem je_noL {p : E} (ja : JL p eva la ca) : JE (fun e h => (eva e h).bind fun x h1 => (tru h1 x).bind fun b h2 => .ok (.bl (!b)) h2) (fun x Q => la x fun u x1 => wTru u fun b => Q (.bl (!b), 9) x1) ca := fun e x h κ L M Q hs q => by
  obtain ⟨v, h1, t, x1, κ1, L1, e1, q1, hs1, ⟨A, d, Lt, r⟩, g, ex, _⟩ := ja e x h κ L M _ hs q
  obtain ⟨b, e2, q2⟩ := tru_ok r q1
  dsimp only
  rw [e1]
  show Res RV _ h x κ L M e Q ((tru h1 v).bind fun b h2 => .ok (.bl (!b)) h2)
  unfold tru
  rw [e2]
  exact Res.mk0 (R := RV) (b := (.bl (!b), 9)) hs1 g ex q2 ⟨rfl, rfl⟩
variable {ta tb tc : En → AH → Rs Bool} {va vb vc : TX → KT → Prop}
theorem jt_no (ja : JT ta va ca) : JT (fun e h => (ta e h).bind fun b h1 => .ok (!b) h1) (fun x Q => va x fun b x1 => Q (!b) x1) ca := fun e x h κ L M Q hs q => by
  refine (ja e x h κ L M _ hs q).bnd fun v h1 u x1 κ1 L1 Lr q1 hs1 rr g ex => ?_
  obtain ⟨rfl, _⟩ := rr
  exact Res.mk0 (R := RC) (b := !v) hs1.let g.drop ex q1 ⟨rfl, rfl⟩
theorem res_br {α β : Type} {R : AH → List Nat → KA → β → α → List Nat → Prop} {cl : Bool} {h : AH} {x : TX} {κ : KA} {L M : List Nat} {e : En} {Q : β → TX → Prop} {b : Bool} {r s : Rs α} {A B : Prop} (q : br b A B) (f : A → Res R cl h x κ L M e Q r) (g : B → Res R cl h x κ L M e Q s) : Res R cl h x κ L M e Q (if b = true then r else s) := by
  cases b
  · exact g q
  · exact f q
theorem Res.wk {α β : Type} {R : AH → List Nat → KA → β → α → List Nat → Prop} {c1 c2 : Bool} {h : AH} {x : TX} {κ : KA} {L M : List Nat} {e : En} {Q : β → TX → Prop} {r : Rs α} (a : Res R c1 h x κ L M e Q r) (f : c2 = true → c1 = true) : Res R c2 h x κ L M e Q r := by
  obtain ⟨v, h1, u, x1, κ1, L1, Lr, e1, q1, hs1, rr, g, ex⟩ := a
  exact ⟨v, h1, u, x1, κ1, L1, Lr, e1, q1, hs1, rr, g, fun c => ex (f c)⟩
theorem andl {a b : Bool} (h : (a && b) = true) : a = true := by
  rw [Bool.and_eq_true] at h
  exact h.1
theorem andr {a b : Bool} (h : (a && b) = true) : b = true := by
  rw [Bool.and_eq_true] at h
  exact h.2
theorem jt_an (ja : JT ta va ca) (jb : JT tb vb cb) : JT (fun e h => (ta e h).bind fun t h1 => if t then tb e h1 else .ok false h1) (fun x Q => va x fun t x1 => br t (vb x1 Q) (Q false x1)) (ca && cb) := fun e x h κ L M Q hs q => by
  refine (ja e x h κ L M _ hs q).bnd fun v h1 u x1 κ1 L1 Lr q1 hs1 rr g ex => ?_
  obtain ⟨rfl, _⟩ := rr
  refine res_br q1 (fun q => ?_) fun q => ?_
  · exact Res.up g (fun c => ex (andl c)) ((jb e x1 h1 κ1 L1 (Lr ++ M) _ hs1 q).wk andr)
  · exact Res.mk0 (R := RC) (b := false) hs1.let g.drop (fun c => ex (andl c)) q ⟨rfl, rfl⟩
theorem jt_orr (ja : JT ta va ca) (jb : JT tb vb cb) : JT (fun e h => (ta e h).bind fun t h1 => if t then .ok true h1 else tb e h1) (fun x Q => va x fun t x1 => br t (Q true x1) (vb x1 Q)) (ca && cb) := fun e x h κ L M Q hs q => by
  refine (ja e x h κ L M _ hs q).bnd fun v h1 u x1 κ1 L1 Lr q1 hs1 rr g ex => ?_
  obtain ⟨rfl, _⟩ := rr
  refine res_br q1 (fun q => ?_) fun q => ?_
  · exact Res.mk0 (R := RC) (b := true) hs1.let g.drop (fun c => ex (andl c)) q ⟨rfl, rfl⟩
  · exact Res.up g (fun c => ex (andl c)) ((jb e x1 h1 κ1 L1 (Lr ++ M) _ hs1 q).wk andr)
theorem je_ite (jc : JT tc vc cc) (ja : JE eva wa ca) (jb : JE evb wb cb) : JE (fun e h => (tc e h).bind fun t h1 => if t then eva e h1 else evb e h1) (fun x Q => vc x fun t x1 => br t (wa x1 Q) (wb x1 Q)) (cc && ca && cb) := fun e x h κ L M Q hs q => by
  refine (jc e x h κ L M _ hs q).bnd fun v h1 u x1 κ1 L1 Lr q1 hs1 rr g ex => ?_
  obtain ⟨rfl, _⟩ := rr
  refine res_br q1 (fun q => ?_) fun q => ?_
  · exact Res.up g (fun c => ex (andl (andl c))) ((ja e x1 h1 κ1 L1 (Lr ++ M) _ hs1 q).wk fun c => andr (andl c))
  · exact Res.up g (fun c => ex (andl (andl c))) ((jb e x1 h1 κ1 L1 (Lr ++ M) _ hs1 q).wk andr)
theorem je_an (ja : JE eva wa ca) (jb : JE evb wb cb) : JE (fun e h => (eva e h).bind fun x h1 => (tru h1 x).bind fun t h2 => if t then evb e h2 else .ok x h2) (fun x Q => wa x fun u x1 => wTru u.1 fun t => br t (wb x1 Q) (Q u x1)) (ca && cb) := fun e x h κ L M Q hs q => by
  refine (ja e x h κ L M _ hs q).bnd fun v h1 u x1 κ1 L1 Lr q1 hs1 rr g ex => ?_
  obtain ⟨b, e2, q2⟩ := tru_ok rr q1
  unfold tru
  rw [e2]
  refine res_br q2 (fun q => ?_) fun q => ?_
  · exact Res.up g (fun c => ex (andl c)) ((jb e x1 h1 κ1 L1 (Lr ++ M) _ hs1 q).wk andr)
  · exact ⟨v, h1, u, x1, κ1, L1, Lr, rfl, q, hs1, rr, g, fun c => ex (andl c)⟩
theorem je_orr (ja : JE eva wa ca) (jb : JE evb wb cb) : JE (fun e h => (eva e h).bind fun x h1 => (tru h1 x).bind fun t h2 => if t then .ok x h2 else evb e h2) (fun x Q => wa x fun u x1 => wTru u.1 fun t => br t (Q u x1) (wb x1 Q)) (ca && cb) := fun e x h κ L M Q hs q => by
  refine (ja e x h κ L M _ hs q).bnd fun v h1 u x1 κ1 L1 Lr q1 hs1 rr g ex => ?_
  obtain ⟨b, e2, q2⟩ := tru_ok rr q1
  unfold tru
  rw [e2]
  refine res_br q2 (fun q => ?_) fun q => ?_
  · exact ⟨v, h1, u, x1, κ1, L1, Lr, rfl, q, hs1, rr, g, fun c => ex (andl c)⟩
  · exact Res.up g (fun c => ex (andl c)) ((jb e x1 h1 κ1 L1 (Lr ++ M) _ hs1 q).wk andr)
/-- two looks -/
theorem jtwo {pa pb : E} {A B : W3} (ja : JE eva A.e (calm pa)) (jla : JL pa eva A.l (calm pa)) (jlb : JL pb evb B.l (calm pb)) {e : En} {x : TX} {h : AH} {κ : KA} {L M : List Nat} {Q : TV → TV → TX → Prop} (hs : Hs h e x κ L M) (q : two pb A B x Q) :
    ∃ v h1 w h2 t u x2 κ2 L2, eva e h = .ok v h1 ∧ evb e h1 = .ok w h2 ∧ Q t u x2 ∧ Hs h2 e x2 κ2 L2 M ∧ Sh h2 κ2 t v ∧ Sh h2 κ2 u w ∧ Go h κ L h2 κ2 L2 ∧ ((calm pa && calm pb) = true → Cm h x h2 x2) ∧
      (Rep h2 (kl κ2 ++ (L2 ++ M)) κ2 t 0 v [] ∨ t.atm = true ∨ ∃ i l t0 d0 v0, root pa = some (i, l) ∧ slot x2.e i = some (t0, d0) ∧ e[i]? = some (some v0) ∧ Pth h2 l t0 v0 t v) := by
  unfold two at q
  cases hc : calm pb with
  | true =>
    rw [hc] at q
    obtain ⟨v, h1, t, x1, κ1, L1, e1, q1, hs1, sh1, g1, ex1, a1⟩ := jla e x h κ L M _ hs q
    obtain ⟨w, h2, u, x2, κ2, L2, e2, q2, hs2, sh2, g2, ex2, a2⟩ := jlb e x1 h1 κ1 L1 M _ hs1 q1
    have cm := ex2 hc
    refine ⟨v, h1, w, h2, t, u, x2, κ2, L2, e1, e2, q2, hs2, sh1.ex hs1.ok cm.ex g2.kk, sh2, g1.trans g2, fun c => (ex1 (andl c)).trans cm, ?_⟩
    rcases a1 with a1 | a1 | ⟨i, l, t0, d0, v0, z, s, e3, pt⟩
    · exact .inl (hold hs1.ok hs1.un g2 (fun _ m => by cases m) a1)
    · exact .inr (.inl a1)
    · obtain ⟨d1, s1⟩ := cm.lw i t0 d0 s
      exact .inr (.inr ⟨i, l, t0, d1, v0, z, s1, e3, pth_ex hs1.ok cm.ex pt⟩)
  | false =>
    rw [hc] at q
    obtain ⟨v, h1, t, x1, κ1, L1, Lr, e1, q1, hs1, rr, g1, ex1⟩ := ja e x h κ L M _ hs q
    obtain ⟨w, h2, u, x2, κ2, L2, e2, q2, hs2, sh2, g2, ex2, a2⟩ := jlb e x1 h1 κ1 L1 (Lr ++ M) _ hs1 q1
    have hu : Rep h2 (kl κ2 ++ (L2 ++ (Lr ++ M))) κ2 t.1 t.2 v Lr := hold hs1.ok hs1.un g2 (fun n m => List.mem_append_left _ m) rr
    refine ⟨v, h1, w, h2, t.1, u, x2, κ2, L2, e1, e2, q2, hs2.let, hu.sh, sh2, ?_, fun c => (by first | (simp at c; done) | (rw [hc] at c; simp at c)), .inl (shareT hs2 hu)⟩
    exact (g1.trans (g2.more Lr)).weak (fun n m => m) fun n m => .inl (List.mem_append_left _ m)
theorem je_cmp {op : COp} {pa pb : E} {A B : W3} (ja : JE eva A.e (calm pa)) (jla : JL pa eva A.l (calm pa)) (jlb : JL pb evb B.l (calm pb)) : JE (fun e h => (eva e h).bind fun x h1 => (evb e h1).bind fun y h2 => match cmpA op h2 x y with
    | some t => .ok (.bl t) h2
    | none => .no) (fun x Q => two pb A B x fun u v x1 => wCmp op u v fun t => Q (.bl t, 9) x1) (calm pa && calm pb) := fun e x h κ L M Q hs q => by
  obtain ⟨v, h1, w, h2, t, u, x2, κ2, L2, e1, e2, q2, hs2, ⟨A1, d1, M1, r1⟩, ⟨A2, d2, M2, r2⟩, g, ex, _⟩ := jtwo ja jla jlb hs q
  obtain ⟨b, e3, q3⟩ := cmp_okT r1 r2 q2
  dsimp only
  rw [e1]
  show Res RV _ h x κ L M e Q ((evb e h1).bind fun y h2 => match cmpA op h2 v y with
    | some t => .ok (.bl t) h2
    | none => .no)
  rw [e2]
  show Res RV _ h x κ L M e Q (match cmpA op h2 v w with
    | some t => .ok (.bl t) h2
    | none => .no)
  rw [e3]
  exact Res.mk0 (R := RV) (b := (.bl b, 9)) hs2 g ex q3 ⟨rfl, rfl⟩
theorem je_cmp2 {op op' : COp} (ja : JE eva wa ca) (jb : JE evb wb cb) (jc : JE evc wc cc) : JE (fun e h => (eva e h).bind fun x h1 => (evb e h1).bind fun y h2 => match cmpA op h2 x y with
    | some true => (evc e h2).bind fun z h3 => match cmpA op' h3 y z with
      | some t => .ok (.bl t) h3
      | none => .no
    | some false => .ok (.bl false) h2
    | none => .no) (fun x Q => wa x fun u x1 => wb x1 fun v x2 => wCmp op u.1 v.1 fun t => br t (wc x2 fun w x3 => wCmp op' v.1 w.1 fun t => Q (.bl t, 9) x3) (Q (.bl false, 9) x2)) false := fun e x h κ L M Q hs q => by
  obtain ⟨v, h1, w, h2, u1, u2, x2, κ2, L2, e1, e2, q2, hs2, r1, r2, g, ex⟩ := jpair ja jb hs q
  obtain ⟨b, e3, q3⟩ := cmp_okT r1 r2 q2
  dsimp only
  rw [e1]
  show Res RV _ h x κ L M e Q ((evb e h1).bind fun y h2 => match cmpA op h2 v y with
    | some true => (evc e h2).bind fun z h3 => match cmpA op' h3 y z with
      | some t => .ok (.bl t) h3
      | none => .no
    | some false => .ok (.bl false) h2
    | none => .no)
  rw [e2]
  show Res RV _ h x κ L M e Q (match cmpA op h2 v w with
    | some true => (evc e h2).bind fun z h3 => match cmpA op' h3 w z with
      | some t => .ok (.bl t) h3
      | none => .no
    | some false => .ok (.bl false) h2
    | none => .no)
  rw [e3]
  cases b with
  | false => exact Res.mk0 (R := RV) (b := (.bl false, 9)) hs2 g (fun c => by cases c) q3 ⟨rfl, rfl⟩
  | true =>
    obtain ⟨z, h3, u3, x3, κ3, L3, Lr3, e4, q4, hs3, r3, g3, _⟩ := jc e x2 h2 κ2 L2 M _ hs2 q3
    have hu : Rep h3 (kl κ3 ++ ((L3 ++ Lr3) ++ M)) κ3 u2.1 0 w [] := hold hs2.ok hs2.un g3 (fun _ m => by cases m) r2
    obtain ⟨b, e5, q5⟩ := cmp_okT hu r3 q4
    show Res RV _ h x κ L M e Q ((evc e h2).bind fun z h3 => match cmpA op' h3 w z with
      | some t => .ok (.bl t) h3
      | none => .no)
    rw [e4]
    show Res RV _ h x κ L M e Q (match cmpA op' h3 w z with
      | some t => .ok (.bl t) h3
      | none => .no)
    rw [e5]
    exact Res.mk0 (R := RV) (b := (.bl b, 9)) hs3.let (g.trans g3).drop (fun c => by cases c) q5 ⟨rfl, rfl⟩
end
end EV

/-! EvZe: subscripts, displays, lists of arguments, calls. -/
namespace EV
open PySem
section
variable {eva evb evc : En → AH → Rs AV} {wa wb wc : TX → KE → Prop} {ca cb cc : Bool} {evs evs2 : En → AH → Rs (List AV)} {ws ws2 : TX → (List TD → TX → Prop) → Prop}
theorem at0_ix {a b : E} {h : AH} {A A1 : List Nat} {κ : KA} {e : En} {x : TX} {t u : TV} {v w : AV} {d d2 : Nat} {L L2 A2 : List Nat} {Q : K1} (q : wIx t u Q) (r : Rep h A1 κ t d v L) (s : Rep h A2 κ u d2 w L2)
    (z : Rep h A κ t 0 v [] ∨ t.atm = true ∨ ∃ i l t0 d0 v0, root a = some (i, l) ∧ slot x.e i = some (t0, d0) ∧ e[i]? = some (some v0) ∧ Pth h l t0 v0 t v) : ∃ v' t', ixA h v w = some v' ∧ Q t' ∧ Sh h κ t' v' ∧ At0 (.ix a b) h A κ e x t' v' := by
  rcases z with z | z | ⟨i, l, t0, d0, v0, hr, sl, e1, pt⟩
  · obtain ⟨v', t', L1, e2, q2, r2, s2, _⟩ := ix_ok z s q
    have : L1 = [] := List.eq_nil_of_sublist_nil s2
    subst this
    exact ⟨v', t', e2, q2, r2.sh, .inl r2⟩
  · obtain ⟨v', t', L1, e2, q2, r2, s2, k⟩ := ix_ok r s q
    refine ⟨v', t', e2, q2, r2.sh, .inr (.inl ?_)⟩
    rcases k with k | ⟨n, ts, vs, k, _, hk, _⟩
    · exact k
    · rcases hk with ⟨rfl, _⟩ | ⟨rfl, _⟩ <;> cases z
  · obtain ⟨v', t', L1, e2, q2, r2, s2, k⟩ := ix_ok r s q
    refine ⟨v', t', e2, q2, r2.sh, ?_⟩
    rcases k with k | k
    · exact .inr (.inl k)
    · exact .inr (.inr ⟨i, l + 1, t0, d0, v0, by unfold root; rw [hr], sl, e1, .succ pt k⟩)
theorem jl_ix {a b : E} {A B : W3} (ja : JE eva A.e (calm a)) (jla : JL a eva A.l (calm a)) (jlb : JL b evb B.l (calm b)) : JL (.ix a b) (fun e h => (eva e h).bind fun x h1 => (evb e h1).bind fun y h2 => opt h2 (ixA h2 x y)) (fun x Q => two b A B x fun u v x1 => wIx u v fun t => Q t x1) (calm a && calm b) := fun e x h κ L M Q hs q => by
  obtain ⟨v, h1, w, h2, t, u, x2, κ2, L2, e1, e2, q2, hs2, ⟨A1, d1, M1, r1⟩, ⟨A2, d2, M2, r2⟩, g, ex, z⟩ := jtwo ja jla jlb hs q
  obtain ⟨v', t', e3, q3, sh, a0⟩ := at0_ix (b := b) q2 r1 r2 z
  refine ⟨v', h2, t', x2, κ2, L2, ?_, q3, hs2, sh, g, ex, a0⟩
  dsimp only
  rw [e1]
  show ((evb e h1).bind fun y h2 => opt h2 (ixA h2 v y)) = _
  rw [e2]
  show opt h2 (ixA h2 v w) = _
  rw [e3]
  rfl
theorem jl_ixV {i : Nat} {m : Mo} {b : E} {B : W3} (hm : root (.var i m) = some (i, 0)) (hc : calm b = false) (jlb : JL b evb B.l (calm b)) : JL (.ix (.var i m) b) (fun e h => (opt h ((e[i]?).getD none)).bind fun x h1 => (evb e h1).bind fun y h2 => opt h2 (ixA h2 x y)) (fun x Q => B.l x fun v x1 => match slot x1.e i with
    | some (u, _) => wIx u v fun t => Q t x1
    | none => False) (ca && calm b) := fun e x h κ L M Q hs q => by
  obtain ⟨w, h2, u, x2, κ2, L2, e2, q2, hs2, ⟨A2, d2, M2, r2⟩, g2, ex2, _⟩ := jlb e x h κ L M _ hs q
  cases s : slot x2.e i with
  | none => rw [s] at q2; exact q2.elim
  | some ud =>
    obtain ⟨t, d⟩ := ud
    rw [s] at q2
    obtain ⟨v, L3, L4, e1, _, r, _⟩ := enR_take hs2.en s
    obtain ⟨v', t', e3, q3, sh, a0⟩ := at0_ix (a := .var i m) (b := b) (A := kl κ2 ++ (L2 ++ M)) q2 r r2 (.inr (.inr ⟨i, 0, t, d, v, hm, s, e1, .zero⟩))
    refine ⟨v', h2, t', x2, κ2, L2, ?_, q3, hs2, sh, g2, fun c => ?_, a0⟩
    · dsimp only
      rw [e1]
      show ((evb e h).bind fun y h2 => opt h2 (ixA h2 v y)) = _
      rw [e2]
      show opt h2 (ixA h2 v w) = _
      rw [e3]
      rfl
    · rw [hc] at c
      simp at c
theorem je_isi {p : E} {ts : List String} {la : TX → (TV → TX → Prop) → Prop} (ja : JL p eva la ca) : JE (fun e h => (eva e h).bind fun x h1 => match typN h1 x with
    | some t => .ok (.bl (ts.any (isiB t))) h1
    | none => .no) (fun x Q => la x fun u x1 => match typT u with
    | some t => Q (.bl (ts.any (isiB t)), 9) x1
    | none => False) ca := fun e x h κ L M Q hs q => by
  obtain ⟨v, h1, t, x1, κ1, L1, e1, q1, hs1, ⟨A, d, Lt, r⟩, g, ex, _⟩ := ja e x h κ L M _ hs q
  dsimp only at q1 ⊢
  rw [e1]
  cases ht : typT t with
  | none => rw [ht] at q1; exact q1.elim
  | some s =>
    rw [ht] at q1
    show Res RV _ h x κ L M e Q (match typN h1 v with
      | some t => .ok (.bl (ts.any (isiB t))) h1
      | none => .no)
    rw [typ_ok r ht]
    exact Res.mk0 (R := RV) (b := (.bl _, 9)) hs1 g ex q1 ⟨rfl, rfl⟩
/-! ### lists -/
theorem jp_nil : JP (fun _ h => .ok [] h) (fun x Q => Q [] x) := fun e x h κ L M Q hs q => Res.mk0 (R := RP) (b := []) hs (Go.refl _ _ _) (fun c => by cases c) q ⟨rfl, rfl⟩
theorem jp_cons (ja : JE eva wa ca) (js : JP evs ws) : JP (fun e h => (eva e h).bind fun x h1 => (evs e h1).bind fun xs h2 => .ok (x :: xs) h2) (fun x Q => wa x fun u x1 => ws x1 fun us x2 => Q (u :: us) x2) := fun e x h κ L M Q hs q => by
  obtain ⟨v, h1, u, x1, κ1, L1, Lr, e1, q1, hs1, rr, g, ex⟩ := ja e x h κ L M _ hs q
  obtain ⟨vs, h2, us, x2, κ2, L2, Lr2, e2, q2, hs2, rr2, g2, ex2⟩ := js e x1 h1 κ1 L1 (Lr ++ M) _ hs1 q1
  have hu : Rep h2 (kl κ2 ++ ((L2 ++ Lr2) ++ (Lr ++ M))) κ2 u.1 u.2 v Lr := hold hs1.ok hs1.un g2 (fun n m => List.mem_append_left _ m) rr
  have hc : ∀ n, ((Lr ++ Lr2) ++ M).count n ≤ (Lr2 ++ (Lr ++ M)).count n := fun n => by simp only [List.count_append]; omega
  refine ⟨v :: vs, h2, u :: us, x2, κ2, L2, Lr ++ Lr2, ?_, q2, hs2.less hc, ⟨v, vs, Lr, Lr2, rfl, rfl, rep_A hs2.ok (mem_of_count fun n => by simp only [List.count_append]; omega) hu, Mon.mon hs2.ok (mem_of_count fun n => by simp only [List.count_append]; omega) rr2⟩, ?_, fun c => by cases c⟩
  · dsimp only
    rw [e1]
    show ((evs e h1).bind fun xs h2 => Rs.ok (v :: xs) h2) = _
    rw [e2]
    rfl
  · exact (g.trans' g2).weak (fun n m => m) fun n m => .inl (mem_of_count (l := L2 ++ (Lr ++ Lr2)) (m := L2 ++ (Lr2 ++ Lr)) (fun n => by simp only [List.count_append]; omega) n m)
theorem rp_low {h : AH} {A : List Nat} {κ : KA} : ∀ {us : List TD} {m : Nat} {vs : List AV} {L : List Nat}, RP h A κ us vs L → L.Nodup → m ≤ dmin us → ∃ L', L'.Sublist L ∧ ∀ A', (∀ n ∈ A', n ∈ A) → (∀ n ∈ L, n ∉ L' → n ∉ A') → RepL h A' κ (us.map (·.1)) m vs L'
  | [], _, _, _, r, _, _ => ⟨_, List.Sublist.refl _, fun _ _ _ => r⟩
  | u :: us, m, vs, L, ⟨v, vs', L1, L2, f, e, r1, r2⟩, nd, hd => by
    subst e
    rw [List.nodup_append] at nd
    obtain ⟨n1, n2, n3⟩ := nd
    have hd : m ≤ min u.2 (dmin us) := hd
    obtain ⟨M1, s1, q1⟩ := rep_low r1 n1 (show m ≤ u.2 by omega)
    obtain ⟨M2, s2, q2⟩ := rp_low r2 n2 (show m ≤ dmin us by omega)
    refine ⟨M1 ++ M2, s1.append s2, fun A' h1 h2 => ⟨v, vs', M1, M2, f, rfl, q1 A' h1 fun n i j => ?_, q2 A' h1 fun n i j => ?_⟩⟩
    · refine h2 n (List.mem_append_left _ i) fun k => ?_
      rcases List.mem_append.mp k with k | k
      · exact j k
      · exact n3 n i n (s2.subset k) rfl
    · refine h2 n (List.mem_append_right _ i) fun k => ?_
      rcases List.mem_append.mp k with k | k
      · exact n3 n (s1.subset k) n i rfl
      · exact j k
theorem rp_len {h : AH} {A : List Nat} {κ : KA} : ∀ {us : List TD} {vs : List AV} {L : List Nat}, RP h A κ us vs L → vs.length = us.length
  | [], _, _, r => by rw [r.1]; rfl
  | u :: us, _, _, ⟨v, vs', L1, L2, f, e, r1, r2⟩ => by rw [f, List.length_cons, List.length_cons, rp_len r2]
/-- the temps at one depth, among what is held -/
theorem rp_flat {h : AH} {e : En} {x : TX} {κ : KA} {L M Lr : List Nat} {us : List TD} {vs : List AV} (m : Nat) (hm : m ≤ dmin us) (a : Hs h e x κ L (Lr ++ M)) (r : RP h (kl κ ++ (L ++ (Lr ++ M))) κ us vs Lr) : ∃ Lr', (∀ n, Lr'.count n ≤ Lr.count n) ∧ RepL h (kl κ ++ (L ++ (Lr' ++ M))) κ (us.map (·.1)) m vs Lr' := by
  have nd : Lr.Nodup := un_nd fun n => by
    have := a.un n
    simp only [List.count_append] at this
    omega
  obtain ⟨Lr', s, q⟩ := rp_low r nd hm
  refine ⟨Lr', fun n => s.count_le n, q _ (mem_of_count fun n => ?_) fun n i j k => ?_⟩
  · have := s.count_le n
    simp only [List.count_append]
    omega
  · have := a.un n
    have i := List.count_pos_iff.mpr i
    have k := List.count_pos_iff.mpr k
    have j := List.count_eq_zero.mpr j
    simp only [List.count_append] at this k
    omega
/-- a new list of what is held -/
theorem new_lst {h : AH} {e : En} {x : TX} {κ : KA} {L M Lr Lr' : List Nat} {ts : List TV} {vs : List AV} {d : Nat} (a : Hs h e x κ L (Lr ++ M)) (hc : ∀ n, Lr'.count n ≤ Lr.count n) (r : RepL h (kl κ ++ (L ++ (Lr' ++ M))) κ ts d vs Lr') :
    Hs (h.push (.lst vs)) e x κ L ((h.sz :: Lr') ++ M) ∧ Rep (h.push (.lst vs)) (kl κ ++ (L ++ ((h.sz :: Lr') ++ M))) κ (.lst ts) (d + 1) (.ref h.sz) (h.sz :: Lr') ∧ Go h κ (L ++ Lr) (h.push (.lst vs)) κ (L ++ (h.sz :: Lr')) := by
  refine ⟨a.push _ _ fun n => ?_, ⟨h.sz, vs, Lr', rfl, get_new, rfl, repL_ex a.ok ex_push (fun n l m => notin_more (X := [h.sz]) l m (fun b => ?_) (by simp)) r⟩, Go.same ex_push (Nat.le_succ _) rfl fun n m => ?_⟩
  · have := hc n
    simp only [List.count_append, List.count_cons, List.count_nil]
    omega
  · simp only [List.count_append, List.count_cons, List.count_nil]
    omega
  · have := List.count_pos_iff.mpr m
    by_cases e1 : n = h.sz
    · exact .inr (by omega)
    · refine .inl (List.count_pos_iff.mp ?_)
      have := hc n
      have z : [h.sz].count n = 0 := by rw [List.count_eq_zero]; simp; exact e1
      simp only [List.count_append, List.count_cons, List.count_nil] at *
      omega
theorem new_tup {h : AH} {e : En} {x : TX} {κ : KA} {L M Lr Lr' : List Nat} {ts : List TV} {vs : List AV} {d : Nat} (a : Hs h e x κ L (Lr ++ M)) (hc : ∀ n, Lr'.count n ≤ Lr.count n) (r : RepL h (kl κ ++ (L ++ (Lr' ++ M))) κ ts d vs Lr') :
    Hs (h.push (.tup vs)) e x κ L (Lr' ++ M) ∧ Rep (h.push (.tup vs)) (kl κ ++ (L ++ (Lr' ++ M))) κ (.tup ts) (d + 1) (.ref h.sz) Lr' ∧ Go h κ (L ++ Lr) (h.push (.tup vs)) κ (L ++ Lr') := by
  have fr := a.fresh
  refine ⟨a.push _ _ fun n => ?_, ⟨h.sz, vs, rfl, get_new, fun m => ?_, repL_ex a.ok ex_push (fun n l m => m) r⟩, Go.same ex_push (Nat.le_succ _) rfl fun n m => .inl (mem_of_count (l := L ++ Lr') (m := L ++ Lr) (fun n => ?_) n m)⟩
  · have := hc n
    simp only [List.count_append]
    omega
  · have := List.count_pos_iff.mpr m
    have := hc h.sz
    simp only [List.count_append] at *
    omega
  · have := hc n
    simp only [List.count_append]
    omega
theorem je_lst (js : JP evs ws) : JE (fun e h => (evs e h).bind fun xs h1 => if xs.length ≤ sizeLine then newA h1 (.lst xs) else .no) (fun x Q => ws x fun us x1 => us.length ≤ sizeLine ∧ Q (.lst (us.map (·.1)), dmin us + 1) x1) false := fun e x h κ L M Q hs q => by
  refine (js e x h κ L M _ hs q).bnd fun vs h1 us x1 κ1 L1 Lr q1 hs1 rr g ex => ?_
  rw [if_pos (by rw [rp_len rr]; exact q1.1)]
  obtain ⟨Lr', c, r⟩ := rp_flat (dmin us) (Nat.le_refl _) hs1 rr
  obtain ⟨a1, a2, a3⟩ := new_lst hs1 c r
  exact ⟨_, _, (.lst (us.map (·.1)), dmin us + 1), x1, κ1, L1, h1.sz :: Lr', rfl, q1.2, a1, a2, g.trans a3, fun c => by cases c⟩
theorem je_tup (js : JP evs ws) : JE (fun e h => (evs e h).bind fun xs h1 => if xs.length ≤ sizeLine then newA h1 (.tup xs) else .no) (fun x Q => ws x fun us x1 => us.length ≤ sizeLine ∧ Q (.tup (us.map (·.1)), dmin us + 1) x1) false := fun e x h κ L M Q hs q => by
  refine (js e x h κ L M _ hs q).bnd fun vs h1 us x1 κ1 L1 Lr q1 hs1 rr g ex => ?_
  rw [if_pos (by rw [rp_len rr]; exact q1.1)]
  obtain ⟨Lr', c, r⟩ := rp_flat (dmin us) (Nat.le_refl _) hs1 rr
  obtain ⟨a1, a2, a3⟩ := new_tup hs1 c r
  exact ⟨_, _, (.tup (us.map (·.1)), dmin us + 1), x1, κ1, L1, Lr', rfl, q1.2, a1, a2, g.trans a3, fun c => by cases c⟩
/-- the empty list, at peace -/
theorem je_nil {cl : Bool} : JE (fun _ h => newA h (.lst [])) (fun x Q => Q (.lst [], 10) x) cl := fun e x h κ L M Q hs q => by
  obtain ⟨a1, a2, a3⟩ := new_lst (Lr := []) (Lr' := []) (ts := []) (vs := []) (d := 9) (M := M) hs (fun n => Nat.le_refl _) ⟨rfl, rfl⟩
  refine ⟨_, _, (.lst [], 10), x, κ, L, [h.sz], rfl, q, a1, a2, by simpa using a3, fun c => ⟨ex_push, Nat.le_succ _, fun _ _ d s => ⟨d, s⟩⟩⟩
/-! ### calls -/
def CallS (C : Cs) (CT : CTs) : Prop := ∀ k ts vs h κ c M Q, OkH h → StR h c κ → Un (kl κ ++ M) → (∀ n ∈ M, n < h.sz) → RepL h (kl κ ++ M) κ ts 0 vs [] → CT.call k ts c Q →
  ∃ v h' u c' κ' Lr, C.call k vs h = .ok v h' ∧ Q u c' ∧ OkH h' ∧ StR h' c' κ' ∧ Un (kl κ' ++ (Lr ++ M)) ∧ (∀ n ∈ Lr, n < h'.sz) ∧ Rep h' (kl κ' ++ (Lr ++ M)) κ' u.1 u.2 v Lr ∧ Go h κ [] h' κ' Lr
def Owed (r : Rs AV) (h : AH) (κ : KA) (M : List Nat) (Q : TD → Option Nat → Prop) : Prop := ∃ v h' u c' κ' Lr, r = .ok v h' ∧ Q u c' ∧ OkH h' ∧ StR h' c' κ' ∧ Un (kl κ' ++ (Lr ++ M)) ∧ (∀ n ∈ Lr, n < h'.sz) ∧ Rep h' (kl κ' ++ (Lr ++ M)) κ' u.1 u.2 v Lr ∧ Go h κ [] h' κ' Lr
theorem res_call {e : En} {x x1 : TX} {h h1 : AH} {κ κ1 : KA} {L L1 M : List Nat} {Q : KE} {r : Rs AV} (hs : Hs h1 e x1 κ1 L1 M) (g : Go h κ L h1 κ1 L1) (a : Owed r h1 κ1 (L1 ++ M) fun r c => Q r ⟨x1.e, c⟩) : Res RV false h x κ L M e Q r := by
  obtain ⟨v, h2, u, c', κ2, Lr, e1, q1, ok, st, un, lt, rr, g2⟩ := a
  have hA : ∀ n, n ∈ kl κ2 ++ (L1 ++ (Lr ++ M)) → n ∈ kl κ2 ++ (Lr ++ (L1 ++ M)) := mem_of_count fun n => by simp only [List.count_append]; omega
  have notin : ∀ n, n < h1.sz → n ∉ kl κ1 ++ (L1 ++ M) → n ∉ kl κ2 ++ (L1 ++ (Lr ++ M)) := fun n l m i => by
    simp only [List.mem_append] at i m
    have sub : n ∈ kl κ2 ++ Lr → False := fun z => by
      rcases g2.sub n z with z | z
      · simp only [List.append_nil] at z
        exact m (.inl z)
      · omega
    rcases i with i | i | i | i
    · exact sub (List.mem_append_left _ i)
    · exact m (.inr (.inl i))
    · exact sub (List.mem_append_right _ i)
    · exact m (.inr (.inr i))
  refine ⟨v, h2, u, ⟨x1.e, c'⟩, κ2, L1, Lr, e1, q1, ⟨ok, st, fun n => ?_, ?_, fun n m => ?_⟩, rep_A ok hA rr, ?_, fun c => by cases c⟩
  · have := un n
    simp only [List.count_append] at *
    omega
  · refine enR_fr hs.ok notin g2.kk (fun n l m => g2.fr n l fun i => m ?_) (fun n m => g2.fr n (enR_in hs.ok hs.en n m) fun i => ?_) hs.en
    · simp only [List.append_nil] at i
      exact List.mem_append_left _ i
    · simp only [List.append_nil] at i
      have := hs.un n
      have a := List.count_pos_iff.mpr m
      have b := List.count_pos_iff.mpr i
      simp only [List.count_append] at this
      omega
  · rcases List.mem_append.mp m with m | m
    · exact lt n m
    · exact Nat.lt_of_lt_of_le (hs.lt n m) g2.sz
  · have g3 := g2.more L1
    exact g.trans (g3.weak (fun n m => by simpa using m) fun n m => .inl (mem_of_count (l := L1 ++ Lr) (m := Lr ++ L1) (fun n => by simp only [List.count_append]; omega) n m))
theorem call_res {C : Cs} {CT : CTs} (hC : CallS C CT) {e : En} {x x1 : TX} {h h1 : AH} {κ κ1 : KA} {L L1 M : List Nat} {Q : KE} {k : Nat} {ts : List TV} {vs : List AV} (hs : Hs h1 e x1 κ1 L1 M) (g : Go h κ L h1 κ1 L1) (r : RepL h1 (kl κ1 ++ (L1 ++ M)) κ1 ts 0 vs []) (q : CT.call k ts x1.c fun r c => Q r ⟨x1.e, c⟩) :
    Res RV false h x κ L M e Q (C.call k vs h1) := res_call hs g (hC k ts vs h1 κ1 x1.c (L1 ++ M) _ hs.ok hs.st hs.un (fun n m => hs.hot n (List.mem_append_right _ m)) r q)
theorem rp_share {h : AH} {e : En} {x : TX} {κ : KA} {L M Lr : List Nat} {us : List TD} {vs : List AV} (a : Hs h e x κ L (Lr ++ M)) (r : RP h (kl κ ++ (L ++ (Lr ++ M))) κ us vs Lr) : RepL h (kl κ ++ (L ++ M)) κ (us.map (·.1)) 0 vs [] := by
  obtain ⟨Lr', c, r⟩ := rp_flat 0 (Nat.zero_le _) a r
  have e1 := repL0 r
  subst e1
  exact r
theorem je_call {C : Cs} {CT : CTs} (hC : CallS C CT) {k : Nat} (js : JP evs ws) : JE (fun e h => (evs e h).bind fun xs h1 => C.call k xs h1) (fun x Q => ws x fun us x1 => CT.call k (us.map (·.1)) x1.c fun r c => Q r ⟨x1.e, c⟩) false := fun e x h κ L M Q hs q => by
  refine (js e x h κ L M _ hs q).bnd fun vs h1 us x1 κ1 L1 Lr q1 hs1 rr g ex => ?_
  exact call_res hC hs1.let g.drop (rp_share hs1 rr) q1
theorem repL_pick {h : AH} {A : List Nat} {κ : KA} {ts : List TV} {vs : List AV} (r : RepL h A κ ts 0 vs []) : ∀ pm : List Nat, RepL h A κ (pm.filterMap fun j => ts[j]?) 0 (pm.filterMap fun j => vs[j]?) []
  | [] => ⟨rfl, rfl⟩
  | j :: pm => by
    rw [List.filterMap_cons, List.filterMap_cons]
    cases e : ts[j]? with
    | none =>
      have : vs[j]? = none := by
        rw [List.getElem?_eq_none_iff] at e ⊢
        rw [repL_len r]
        exact e
      rw [this]
      exact repL_pick r pm
    | some t =>
      obtain ⟨v, L1, e1, r1, s⟩ := repL_get r e
      have : L1 = [] := List.eq_nil_of_sublist_nil s
      subst this
      rw [e1]
      exact ⟨v, _, [], [], rfl, rfl, r1, repL_pick r pm⟩
theorem holdL {h h' : AH} {κ κ' : KA} {L L' X M : List Nat} {ts : List TV} {vs : List AV} (ok : OkH h) (g : Go h κ L h' κ' (L' ++ X)) (r : RepL h (kl κ ++ (L ++ M)) κ ts 0 vs []) : RepL h' (kl κ' ++ (L' ++ M)) κ' ts 0 vs [] := by
  refine repL_fr ok (fun n l m i => ?_) g.kk (fun n l m => g.fr n l fun i => m ?_) (fun n m => by cases m) r
  · simp only [List.mem_append] at i m
    have sub : n ∈ kl κ' ++ (L' ++ X) → False := fun z => by
      rcases g.sub n z with z | z
      · simp only [List.mem_append] at z
        rcases z with z | z
        · exact m (.inl z)
        · exact m (.inr (.inl z))
      · omega
    rcases i with i | i | i
    · exact sub (List.mem_append_left _ i)
    · exact sub (List.mem_append_right _ (List.mem_append_left _ i))
    · exact m (.inr (.inr i))
  · simp only [List.mem_append] at i ⊢
    rcases i with i | i
    · exact .inl i
    · exact .inr (.inl i)
theorem je_callk {C : Cs} {CT : CTs} (hC : CallS C CT) {k ne nk : Nat} {pm : List Nat} (js : JP evs ws) (jk : JP evs2 ws2) (hl : ∀ e h xs h', evs e h = .ok xs h' → xs.length = ne) (hl2 : ∀ e h xs h', evs2 e h = .ok xs h' → xs.length = nk) :
    JE (fun e h => (evs e h).bind fun xs h1 => (evs2 e h1).bind fun zs h2 => if xs.length = ne ∧ zs.length = nk then C.call k (xs ++ pm.filterMap fun j => zs[j]?) h2 else .no) (fun x Q => ws x fun us x1 => ws2 x1 fun vs x2 => CT.call k (us.map (·.1) ++ pm.filterMap fun j => (vs.map (·.1))[j]?) x2.c fun r c => Q r ⟨x2.e, c⟩) false := fun e x h κ L M Q hs q => by
  obtain ⟨vs, h1, us, x1, κ1, L1, Lr, e1, q1, hs1, rr, g, ex⟩ := js e x h κ L M _ hs q
  obtain ⟨zs, h2, us2, x2, κ2, L2, Lr2, e2, q2, hs2, rr2, g2, ex2⟩ := jk e x1 h1 κ1 L1 (Lr ++ M) _ hs1 q1
  dsimp only
  rw [e1]
  show Res RV _ h x κ L M e Q ((evs2 e h1).bind fun zs h2 => if vs.length = ne ∧ zs.length = nk then C.call k (vs ++ pm.filterMap fun j => zs[j]?) h2 else .no)
  rw [e2]
  show Res RV _ h x κ L M e Q (if vs.length = ne ∧ zs.length = nk then C.call k (vs ++ pm.filterMap fun j => zs[j]?) h2 else .no)
  rw [if_pos ⟨hl _ _ _ _ e1, hl2 _ _ _ _ e2⟩]
  have hA : ∀ n, n ∈ kl κ2 ++ (L2 ++ M) → n ∈ kl κ2 ++ (L2 ++ (Lr2 ++ M)) := mem_of_count fun n => by simp only [List.count_append]; omega
  have s2 : RepL h2 (kl κ2 ++ (L2 ++ M)) κ2 (us2.map (·.1)) 0 zs [] := repL_fr hs2.ok (fun n l m i => m (mem_of_count (fun n => by simp only [List.count_append]; omega) n i)) (KLe.refl _) (fun _ _ _ => rfl) (fun _ _ => rfl) (rp_share hs2 rr2)
  have s1' := rp_share hs1 rr
  have s1 : RepL h2 (kl κ2 ++ (L2 ++ M)) κ2 (us.map (·.1)) 0 vs [] := by
    exact holdL hs1.ok g2 s1'
  refine call_res hC (hs2.less fun n => by simp only [List.count_append]; omega) ((g.trans' g2).weak (fun n m => m) fun n m => .inl (List.mem_append_left _ m)) (repL_app s1 (repL_pick s2 pm)) q2
end
end EV

/-! EvZf: slices, built-ins, methods. -/
namespace EV
open PySem
section
variable {eva evb evc : En → AH → Rs AV} {wa wb wc : TX → KE → Prop} {ca cb cc : Bool} {evs evs2 : En → AH → Rs (List AV)} {ws ws2 : TX → (List TD → TX → Prop) → Prop}
theorem hold1 {h h' : AH} {κ κ' : KA} {L L' X M : List Nat} {t : TV} {v : AV} (ok : OkH h) (g : Go h κ L h' κ' (L' ++ X)) (r : Rep h (kl κ ++ (L ++ M)) κ t 0 v []) : Rep h' (kl κ' ++ (L' ++ M)) κ' t 0 v [] := by
  obtain ⟨v', vs', L1, L2, e1, e2, r1, _⟩ := holdL (ts := [t]) (vs := [v]) ok g ⟨v, [], [], [], rfl, rfl, r, rfl, rfl⟩
  cases e1
  obtain ⟨rfl, rfl⟩ := List.append_eq_nil_iff.mp e2.symm
  exact r1
theorem jo_none : JO (fun _ h => .ok none h) (fun x Q => Q none x) := fun e x h κ L M Q hs q => Res.mk0 (R := RC) (b := none) hs (Go.refl _ _ _) (fun c => by cases c) q ⟨rfl, rfl⟩
theorem jo_some (ja : JE eva wa ca) : JO (fun e h => (eva e h).bind fun x h1 => match x with
    | .int i => .ok (some i) h1
    | _ => .no) (fun x Q => wa x fun u x1 => match u.1 with
    | .int i => Q (some i) x1
    | _ => False) := fun e x h κ L M Q hs q => by
  refine (ja e x h κ L M _ hs q).bnd fun v h1 u x1 κ1 L1 Lr q1 hs1 rr g ex => ?_
  obtain ⟨t, d⟩ := u
  cases t <;> first | exact q1.elim | skip
  obtain ⟨rfl, _⟩ := rr
  exact Res.mk0 (R := RC) (b := some _) hs1.let g.drop (fun c => by cases c) q1 ⟨rfl, rfl⟩
variable {evl evh : En → AH → Rs (Option Int)} {wl wh : TX → (Option Int → TX → Prop) → Prop}
theorem je_sl (ja : JE eva wa ca) (jl : JO evl wl) (jh : JO evh wh) : JE (fun e h => (eva e h).bind fun x h1 => (evl e h1).bind fun l h2 => (evh e h2).bind fun u h3 => sliceA h3 x l u) (fun x Q => wa x fun u x1 => wl x1 fun l x2 => wh x2 fun h x3 => wSlice u.1 l h fun r => Q r x3) false := fun e x h κ L M Q hs q => by
  refine (ja e x h κ L M _ hs q).bnd fun v h1 u x1 κ1 L1 Lr q1 hs1 rr g ex => ?_
  have r1 := shareT hs1 rr
  obtain ⟨l, h2, l', x2, κ2, L2, Lr2, e2, q2, hs2, ⟨rfl, _⟩, g2, _⟩ := jl e x1 h1 κ1 L1 M _ hs1.let q1
  obtain ⟨u', h3, l2, x3, κ3, L3, Lr3, e3, q3, hs3, ⟨rfl, _⟩, g3, _⟩ := jh e x2 h2 κ2 L2 M _ hs2.let q2
  rw [e2]
  show Res RV _ h x κ L M e Q ((evh e h2).bind fun u h3 => sliceA h3 v l u)
  rw [e3]
  have r3 := hold1 hs2.ok g3 (hold1 hs1.ok g2 r1)
  exact Out.res ((g.drop.trans g2.drop).trans g3.drop) (fun c => by cases c) (slice_okT hs3.let r3 q3)
/-- the items of a taken value are nobody's own -/
theorem jtakes {p : E} {A : W3} (ja : JE eva A.e (calm p)) (jla : JL p eva A.l (calm p)) {e : En} {x : TX} {h : AH} {κ : KA} {L M : List Nat} {Q : TV → TX → Prop} (hs : Hs h e x κ L M) (q : takes p A x Q) :
    ∃ v h1 t x1 κ1 L1, eva e h = .ok v h1 ∧ Q t x1 ∧ Hs h1 e x1 κ1 L1 M ∧ Go h κ L h1 κ1 L1 ∧ (t.atm = true ∨ ∃ d L3, d ≤ 1 ∧ Rep h1 (kl κ1 ++ (L1 ++ M)) κ1 t d v L3) := by
  unfold takes at q
  cases hr : root p with
  | none =>
    rw [hr] at q
    obtain ⟨v, h1, u, x1, κ1, L1, Lr, e1, q1, hs1, rr, g, ex⟩ := ja e x h κ L M _ hs q
    exact ⟨v, h1, u.1, x1, κ1, L1, e1, q1, hs1.let, g.drop, .inr ⟨0, [], Nat.zero_le _, shareT hs1 rr⟩⟩
  | some il =>
    obtain ⟨i, l⟩ := il
    rw [hr] at q
    obtain ⟨v, h1, t, x1, κ1, L1, e1, q1, hs1, sh, g, ex, a0⟩ := jla e x h κ L M _ hs q
    cases s : slot x1.e i with
    | none =>
      have el : x1.low i (l + 1) = x1 := by
        unfold TX.low
        rw [s]
      rw [el] at q1
      refine ⟨v, h1, t, x1, κ1, L1, e1, q1, hs1, g, ?_⟩
      rcases a0 with a0 | a0 | ⟨i', l', t0, d0, v0, z, s2, _⟩
      · exact .inr ⟨0, [], Nat.zero_le _, a0⟩
      · exact .inl a0
      · rw [hr] at z
        cases z
        rw [s] at s2
        cases s2
    | some u =>
      obtain ⟨t0, d0⟩ := u
      obtain ⟨L2, v1, L3, hs2, c2, e3, r2, _⟩ := hs1.low (l + 1) s
      refine ⟨v, h1, t, x1.low i (l + 1), κ1, L2, e1, q1, hs2, g.trans (go_less c2), ?_⟩
      rcases a0 with a0 | a0 | ⟨i', l', t0', d0', v0, z, s2, e2, pt⟩
      · exact .inr ⟨0, [], Nat.zero_le _, rep_A hs1.ok (mem_of_count fun n => by have := c2 n; simp only [List.count_append]; omega) a0⟩
      · exact .inl a0
      · rw [hr] at z
        cases z
        rw [s] at s2
        cases s2
        rw [e2] at e3
        cases e3
        obtain ⟨L4, r3⟩ := pth_rep pt r2
        exact .inr ⟨_, L4, by omega, r3⟩
theorem items1 {h : AH} {A : List Nat} {κ : KA} {ts : List TV} {d : Nat} {v : AV} {L : List Nat} (hd : d ≤ 1) (r : Rep h A κ (.lst ts) d v L) : ∃ n vs, v = .ref n ∧ h.get n = some (.lst vs) ∧ RepL h A κ ts 0 vs [] := by
  obtain ⟨n, vs, L1, e, g, r, _⟩ := lst_of r
  rw [show d - 1 = 0 by omega] at r
  have := repL0 r
  subst this
  exact ⟨n, vs, e, g, r⟩
theorem items2 {h : AH} {A : List Nat} {κ : KA} {ts : List TV} {d : Nat} {v : AV} {L : List Nat} (hd : d ≤ 1) (r : Rep h A κ (.tup ts) d v L) : Rep h A κ (.tup ts) 0 v [] := by
  obtain ⟨n, vs, e, g, a, r⟩ := r
  rw [show d - 1 = 0 by omega] at r
  have := repL0 r
  subst this
  exact ⟨n, vs, e, g, a, r⟩
theorem rep_isZ {h : AH} {A : List Nat} {κ : KA} : ∀ {is : List Int}, RepL h A κ (is.map .int) 0 (is.map .int) []
  | [] => ⟨rfl, rfl⟩
  | i :: is => ⟨.int i, is.map .int, [], [], rfl, rfl, ⟨rfl, rfl⟩, rep_isZ⟩
theorem je_take {p : E} {A : W3} {b : Bi} (hb : isTk b = true) (ja : JE eva A.e (calm p)) (jla : JL p eva A.l (calm p)) : JE (fun e h => ((eva e h).bind fun x h1 => (Rs.ok [] h1).bind fun xs h2 => .ok (x :: xs) h2).bind fun xs h1 => biA b h1 xs) (fun x Q => takes p A x fun u x1 => wTake b u fun r => Q r x1) false := fun e x h κ L M Q hs q => by
  obtain ⟨v, h1, t, x1, κ1, L1, e1, q1, hs1, g, r⟩ := jtakes ja jla hs q
  dsimp only
  rw [e1]
  show Res RV _ h x κ L M e Q (biA b h1 [v])
  refine Out.res (x1 := x1) g (fun c => by cases c) ?_
  cases b <;> first | (exfalso; exact Bool.false_ne_true hb) | skip
  · cases t <;> first | exact q1.elim | skip
    · rcases r with r | ⟨d, L3, hd, r⟩
      · cases r
      · obtain ⟨n, vs, rfl, gg, r⟩ := items1 hd r
        have : biA .list h1 [.ref n] = newA h1 (.lst vs) := by simp only [biA, gg]
        rw [this]
        exact Out.list hs1 r q1
    · rcases r with r | ⟨d, L3, hd, r⟩
      · cases r
      · obtain ⟨n, vs, rfl, gg, _, r⟩ := tup0 (items2 hd r)
        have : biA .list h1 [.ref n] = newA h1 (.lst vs) := by simp only [biA, gg]
        rw [this]
        exact Out.list hs1 r q1
  · cases t <;> first | exact q1.elim | skip
    · rcases r with r | ⟨d, L3, hd, r⟩
      · cases r
      · obtain ⟨n, vs, rfl, gg, r⟩ := items1 hd r
        have : biA .tuple h1 [.ref n] = newA h1 (.tup vs) := by simp only [biA, gg]
        rw [this]
        exact Out.tup hs1 r q1
    · rcases r with r | ⟨d, L3, hd, r⟩
      · cases r
      · rename_i ts
        have r0 := items2 hd r
        obtain ⟨n, vs, rfl, gg, _, r⟩ := tup0 r0
        have : biA .tuple h1 [.ref n] = .ok (.ref n) h1 := by simp only [biA, gg]
        rw [this]
        exact Out.here (u := (.tup ts, 0)) hs1 r0 q1
  · cases t <;> first | exact q1.elim | skip
    rcases r with r | ⟨d, L3, hd, r⟩
    · cases r
    · obtain ⟨n, vs, rfl, gg, r⟩ := items1 hd r
      obtain ⟨is, ei, q1⟩ := q1
      have : biA .sorted h1 [.ref n] = newA h1 (.lst ((sortI is).map .int)) := by simp only [biA, lstA, gg, ints_ok r ei]
      rw [this]
      exact Out.list hs1 rep_isZ q1
theorem je_takeD {b : Bi} {wa : TX → KE → Prop} {cl : Bool} (hb : isTk b = true) (ja : JE eva wa cl) : JE (fun e h => ((eva e h).bind fun x h1 => (Rs.ok [] h1).bind fun xs h2 => .ok (x :: xs) h2).bind fun xs h1 => biA b h1 xs) (fun x Q => wa x fun u x1 => wTakeD b u fun r => Q r x1) false := fun e x h κ L M Q hs q => by
  obtain ⟨v, h1, u, x1, κ1, L1, Lr, e1, q1, hs1, rr, g, _⟩ := ja e x h κ L M _ hs q
  have rr : Rep h1 (kl κ1 ++ (L1 ++ (Lr ++ M))) κ1 u.1 u.2 v Lr := rr
  dsimp only
  rw [e1]
  show Res RV _ h x κ L M e Q (biA b h1 [v])
  obtain ⟨t, d⟩ := u
  have lstC : ∀ {ts : List TV} {n : Nat} {vs : List AV} {Lx : List Nat}, Lx.Sublist Lr → RepL h1 (kl κ1 ++ (L1 ++ (Lr ++ M))) κ1 ts (d - 1) vs Lx → Q (.lst ts, d - 1 + 1) x1 → Res RV false h x κ L M e Q (newA h1 (.lst vs)) := fun {ts n vs Lx} sb r q1 => by
    have c : ∀ n, _ := fun n => sb.count_le n
    have r' := repL_fr (A' := kl κ1 ++ (L1 ++ (Lx ++ M))) hs1.ok (fun b _ m z => m (mem_of_count (fun n => by have := c n; simp only [List.count_append]; omega) b z)) (KLe.refl _) (fun _ _ _ => rfl) (fun _ _ => rfl) r
    obtain ⟨a1, a2, a3⟩ := new_lst hs1 c r'
    exact ⟨_, _, (.lst _, d - 1 + 1), x1, κ1, L1, _, rfl, q1, a1, a2, g.trans a3, fun c => by cases c⟩
  have tupC : ∀ {ts : List TV} {n : Nat} {vs : List AV} {Lx : List Nat}, Lx.Sublist Lr → RepL h1 (kl κ1 ++ (L1 ++ (Lr ++ M))) κ1 ts (d - 1) vs Lx → Q (.tup ts, d - 1 + 1) x1 → Res RV false h x κ L M e Q (newA h1 (.tup vs)) := fun {ts n vs Lx} sb r q1 => by
    have c : ∀ n, _ := fun n => sb.count_le n
    have r' := repL_fr (A' := kl κ1 ++ (L1 ++ (Lx ++ M))) hs1.ok (fun b _ m z => m (mem_of_count (fun n => by have := c n; simp only [List.count_append]; omega) b z)) (KLe.refl _) (fun _ _ _ => rfl) (fun _ _ => rfl) r
    obtain ⟨a1, a2, a3⟩ := new_tup hs1 c r'
    exact ⟨_, _, (.tup _, d - 1 + 1), x1, κ1, L1, _, rfl, q1, a1, a2, g.trans a3, fun c => by cases c⟩
  cases b <;> first | (exfalso; exact Bool.false_ne_true hb) | skip
  · cases t <;> first | exact q1.elim | skip
    · obtain ⟨n, vs, Lx, rfl, gg, r, sb⟩ := lst_of rr
      have : biA .list h1 [.ref n] = newA h1 (.lst vs) := by simp only [biA, gg]
      rw [this]
      exact lstC (n := n) sb r q1
    · obtain ⟨n, vs, rfl, gg, _, r⟩ := rr
      have : biA .list h1 [.ref n] = newA h1 (.lst vs) := by simp only [biA, gg]
      rw [this]
      exact lstC (n := n) (List.Sublist.refl _) r q1
  · cases t <;> first | exact q1.elim | skip
    · obtain ⟨n, vs, Lx, rfl, gg, r, sb⟩ := lst_of rr
      have : biA .tuple h1 [.ref n] = newA h1 (.tup vs) := by simp only [biA, gg]
      rw [this]
      exact tupC (n := n) sb r q1
    · have r0 := rr
      obtain ⟨n, vs, rfl, gg, _, r⟩ := rr
      have : biA .tuple h1 [.ref n] = .ok (.ref n) h1 := by simp only [biA, gg]
      rw [this]
      exact ⟨_, _, (.tup _, d), x1, κ1, L1, Lr, rfl, q1, hs1, r0, g, fun c => by cases c⟩
  · cases t <;> first | exact q1.elim | skip
    obtain ⟨n, vs, Lx, rfl, gg, r, sb⟩ := lst_of rr
    obtain ⟨is, ei, q1⟩ := q1
    have : biA .sorted h1 [.ref n] = newA h1 (.lst ((sortI is).map .int)) := by simp only [biA, lstA, gg, ints_ok r ei]
    rw [this]
    exact Out.res g.drop (fun c => by cases c) (Out.list hs1.let rep_isZ q1)
/-- an item of a value that is nobody else's: its own -/
theorem je_ixmv {pb : E} {lb : TX → (TV → TX → Prop) → Prop} (ja : JE eva wa ca) (jb : JL pb evb lb cb) : JE (fun e h => (eva e h).bind fun x h1 => (evb e h1).bind fun y h2 => opt h2 (ixA h2 x y)) (fun x Q => wa x fun u x1 => lb x1 fun v x2 => wIx u.1 v fun t => Q (t, u.2 - 1) x2) false := fun e x h κ L M Q hs q => by
  obtain ⟨v, h1, u, x1, κ1, L1, Lr, e1, q1, hs1, rr, g, ex⟩ := ja e x h κ L M _ hs q
  obtain ⟨w, h2, t2, x2, κ2, L2, e2, q2, hs2, ⟨A2, d2, Lt, r2⟩, g2, ex2, _⟩ := jb e x1 h1 κ1 L1 (Lr ++ M) _ hs1 q1
  have hu : Rep h2 (kl κ2 ++ (L2 ++ (Lr ++ M))) κ2 u.1 u.2 v Lr := hold hs1.ok hs1.un g2 (fun n m => List.mem_append_left _ m) rr
  obtain ⟨a, b, L3, e3, q3, r3, sb, _⟩ := ix_ok hu r2 q2
  have c : ∀ n, L3.count n ≤ Lr.count n := fun n => sb.count_le n
  refine ⟨a, h2, (b, u.2 - 1), x2, κ2, L2, L3, ?_, q3, hs2.less fun n => by have := c n; simp only [List.count_append]; omega, rep_A hs2.ok (mem_of_count fun n => by have := c n; simp only [List.count_append]; omega) r3, ?_, fun c => by cases c⟩
  · dsimp only
    rw [e1]
    show ((evb e h1).bind fun y h2 => opt h2 (ixA h2 v y)) = _
    rw [e2]
    show opt h2 (ixA h2 v w) = _
    rw [e3]
    rfl
  · exact (g.trans (g2.more Lr)).weak (fun n m => m) fun n m => .inl (mem_of_count (l := L2 ++ L3) (m := L2 ++ Lr) (fun n => by have := c n; simp only [List.count_append]; omega) n m)
theorem rep_rg {h : AH} {A : List Nat} {κ : KA} (lo : Int) (n : Nat) : RepL h A κ (rgT lo n) 0 (rgA lo n) [] := by
  unfold rgT rgA
  generalize List.range n = r
  induction r with
  | nil => exact ⟨rfl, rfl⟩
  | cons k r ih => exact ⟨_, _, [], [], rfl, rfl, ⟨rfl, rfl⟩, ih⟩
theorem je_lrg1 (ja : JE eva wa ca) : JE (fun e h => (eva e h).bind fun x h1 => lrgA h1 [x]) (fun x Q => wa x fun u x1 => match u.1 with
    | .int j => ((-(2 ^ 62) ≤ j ∧ j < 2 ^ 62) ∧ j.toNat ≤ 16777216) ∧ Q (.lst (rgT 0 j.toNat), 1) x1
    | _ => False) false := fun e x h κ L M Q hs q => by
  refine (ja e x h κ L M _ hs q).bnd fun v h1 u x1 κ1 L1 Lr q1 hs1 rr g ex => ?_
  obtain ⟨t, d⟩ := u
  cases t <;> first | exact q1.elim | skip
  rename_i j
  obtain ⟨rfl, _⟩ := rr
  obtain ⟨⟨hr, hj⟩, q1⟩ := q1
  have : lrgA h1 [.int j] = newA h1 (.lst (rgA 0 j.toNat)) := by
    simp only [lrgA]
    rw [if_pos (by simpa [inR] using (show (-(2 ^ 62) ≤ j ∧ j < 2 ^ 62) ∧ j.toNat ≤ 16777216 from ⟨hr, hj⟩))]
  rw [this]
  exact Out.res g.drop (fun c => by cases c) (Out.list hs1.let (rep_rg _ _) q1)
theorem je_lrg2 (ja : JE eva wa ca) (jb : JE evb wb cb) : JE (fun e h => (eva e h).bind fun x h1 => (evb e h1).bind fun y h2 => lrgA h2 [x, y]) (fun x Q => wa x fun u x1 => wb x1 fun v x2 => match u.1, v.1 with
    | .int i, .int j => (((-(2 ^ 62) ≤ i ∧ i < 2 ^ 62) ∧ -(2 ^ 62) ≤ j ∧ j < 2 ^ 62) ∧ (j - i).toNat ≤ 16777216) ∧ Q (.lst (rgT i (j - i).toNat), 1) x2
    | _, _ => False) false := fun e x h κ L M Q hs q => by
  refine (ja e x h κ L M _ hs q).bnd fun v h1 u x1 κ1 L1 Lr q1 hs1 rr g ex => ?_
  obtain ⟨w, h2, u2, x2, κ2, L2, Lr2, e2, q2, hs2, rr2, g2, _⟩ := jb e x1 h1 κ1 L1 M _ hs1.let q1
  obtain ⟨t, d⟩ := u
  obtain ⟨t2, d2⟩ := u2
  rw [e2]
  cases t <;> cases t2 <;> first | exact q2.elim | skip
  rename_i i j
  obtain ⟨rfl, _⟩ := rr
  obtain ⟨rfl, _⟩ := rr2
  obtain ⟨⟨⟨hr1, hr2⟩, hj⟩, q2⟩ := q2
  show Res RV false h x κ L M e Q (lrgA h2 [.int i, .int j])
  have : lrgA h2 [.int i, .int j] = newA h2 (.lst (rgA i (j - i).toNat)) := by
    simp only [lrgA]
    rw [if_pos (by simpa [inR] using (show ((-(2 ^ 62) ≤ i ∧ i < 2 ^ 62) ∧ -(2 ^ 62) ≤ j ∧ j < 2 ^ 62) ∧ (j - i).toNat ≤ 16777216 from ⟨⟨hr1, hr2⟩, hj⟩))]
  rw [this]
  exact Out.res (g.drop.trans g2.drop) (fun c => by cases c) (Out.list hs2.let (rep_rg _ _) q2)
theorem rp_shared {h : AH} {A : List Nat} {κ : KA} : ∀ {ts : List TV} {vs : List AV} {us : List TD} {ws : List AV} {L : List Nat}, RepL h A κ ts 0 vs [] → RP h A κ us ws L → RP h A κ (ts.map (fun y => (y, 0)) ++ us) (vs ++ ws) L
  | [], _, _, _, _, ⟨rfl, _⟩, s => s
  | t :: ts, _, _, _, _, ⟨v, vs', L1, L2, f, eL, r1, r2⟩, s => by
    subst f
    obtain ⟨rfl, rfl⟩ := List.append_eq_nil_iff.mp eL.symm
    exact ⟨v, vs' ++ _, [], _, rfl, rfl, r1, rp_shared r2 s⟩
/-- starred: the items are shared -/
theorem jp_star {p : E} {A : W3} (ja : JE eva A.e (calm p)) (jla : JL p eva A.l (calm p)) (js : JP evs ws) : JP (fun e h => (eva e h).bind fun x h1 => match seqA h1 x with
      | some ys => (evs e h1).bind fun xs h2 => .ok (ys ++ xs) h2
      | none => .no) (fun x Q => takes p A x fun u x1 => match u with
      | .lst ys => ws x1 fun us x2 => Q (ys.map (fun y => (y, 0)) ++ us) x2
      | .tup ys => ws x1 fun us x2 => Q (ys.map (fun y => (y, 0)) ++ us) x2
      | _ => False) := fun e x h κ L M Q hs q => by
  obtain ⟨v, h1, t, x1, κ1, L1, e1, q1, hs1, g, r⟩ := jtakes ja jla hs q
  dsimp only
  rw [e1]
  have fin : ∀ {ts : List TV} {n : Nat} {vs : List AV}, v = .ref n → seqA h1 (.ref n) = some vs → RepL h1 (kl κ1 ++ (L1 ++ M)) κ1 ts 0 vs [] → ws x1 (fun us x2 => Q (ts.map (fun y => (y, 0)) ++ us) x2) → Res RP false h x κ L M e Q ((Rs.ok v h1).bind fun x h1 => match seqA h1 x with
      | some ys => (evs e h1).bind fun xs h2 => .ok (ys ++ xs) h2
      | none => .no) := fun {ts n vs} ev es rs q1 => by
    subst ev
    show Res RP false h x κ L M e Q (match seqA h1 (.ref n) with
      | some ys => (evs e h1).bind fun xs h2 => .ok (ys ++ xs) h2
      | none => .no)
    rw [es]
    obtain ⟨zs, h2, us, x2, κ2, L2, Lr2, e2, q2, hs2, rr2, g2, _⟩ := js e x1 h1 κ1 L1 M _ hs1 q1
    have r3 := holdL (L' := L2 ++ Lr2) (X := []) (M := M) hs1.ok (by simpa using g2) rs
    rw [List.append_assoc] at r3
    refine ⟨vs ++ zs, h2, _, x2, κ2, L2, Lr2, ?_, q2, hs2, rp_shared r3 rr2, ?_, fun c => by cases c⟩
    · show ((evs e h1).bind fun xs h2 => Rs.ok (vs ++ xs) h2) = _
      rw [e2]
      rfl
    · exact g.trans g2
  cases t <;> first | exact q1.elim | skip
  · rcases r with r | ⟨d, L3, hd, r⟩
    · cases r
    · obtain ⟨n, vs, ev, gg, r⟩ := items1 hd r
      exact fin ev (by simp only [seqA, gg]) r q1
  · rcases r with r | ⟨d, L3, hd, r⟩
    · cases r
    · obtain ⟨n, vs, ev, gg, _, r⟩ := tup0 (items2 hd r)
      exact fin ev (by simp only [seqA, gg]) r q1
theorem je_rev {p : E} {A : W3} (ja : JE eva A.e (calm p)) (jla : JL p eva A.l (calm p)) : JE (fun e h => (eva e h).bind fun x h1 => match lstA h1 x with
    | some xs => newA h1 (.lst xs.reverse)
    | none => .no) (fun x Q => takes p A x fun u x1 => match u with
    | .lst xs => Q (.lst xs.reverse, 1) x1
    | _ => False) false := fun e x h κ L M Q hs q => by
  obtain ⟨v, h1, t, x1, κ1, L1, e1, q1, hs1, g, r⟩ := jtakes ja jla hs q
  dsimp only
  rw [e1]
  cases t <;> first | exact q1.elim | skip
  rcases r with r | ⟨d, L3, hd, r⟩
  · cases r
  · obtain ⟨n, vs, rfl, gg, r⟩ := items1 hd r
    show Res RV _ h x κ L M e Q (match lstA h1 (.ref n) with
      | some xs => newA h1 (.lst xs.reverse)
      | none => .no)
    have : lstA h1 (.ref n) = some vs := by simp only [lstA, gg]
    rw [this]
    exact Out.res g (fun c => by cases c) (Out.list hs1 (rl_rev r) q1)
theorem je_look {p : E} {b : Bi} {la : TX → (TV → TX → Prop) → Prop} (ja : JL p eva la ca) : JE (fun e h => ((eva e h).bind fun x h1 => (Rs.ok [] h1).bind fun xs h2 => .ok (x :: xs) h2).bind fun xs h1 => biA b h1 xs) (fun x Q => la x fun u x1 => wLook b u fun t => Q (t, 9) x1) ca := fun e x h κ L M Q hs q => by
  obtain ⟨v, h1, t, x1, κ1, L1, e1, q1, hs1, ⟨A, d, Lt, r⟩, g, ex, _⟩ := ja e x h κ L M _ hs q
  dsimp only
  rw [e1]
  obtain ⟨a, c, e2, q2, _, r2⟩ := look_ok r q1
  show Res RV _ h x κ L M e Q (biA b h1 [v])
  rw [e2]
  exact Res.mk0 (R := RV) (b := (c, 9)) hs1 g ex q2 (r2 _ _)
theorem je_mlook {m : Mt} (hm : isLk m = true) (ja : JE eva wa ca) (js : JP evs ws) : JE (fun e h => (eva e h).bind fun x h1 => if rcvA m h1 x then (evs e h1).bind fun xs h2 => mtA m h2 x xs else .no) (fun x Q => wa x fun u x1 => ws x1 fun us x2 => wMlook m u.1 (us.map (·.1)) fun t => Q (t, 9) x2) false := fun e x h κ L M Q hs q => by
  refine (ja e x h κ L M _ hs q).bnd fun v h1 u x1 κ1 L1 Lr q1 hs1 rr g ex => ?_
  obtain ⟨vs, h2, us, x2, κ2, L2, Lr2, e2, q2, hs2, rr2, g2, _⟩ := js e x1 h1 κ1 L1 (Lr ++ M) _ hs1 q1
  have hu := hold0 hs1 rr hs2 g2
  have key : ∃ ts n ws, u.1 = .lst ts ∧ v = .ref n ∧ h1.get n = some (.lst ws) := by
    obtain ⟨t, d⟩ := u
    cases m <;> first | (exfalso; exact Bool.false_ne_true hm) | skip
    all_goals (cases t <;> first | exact q2.elim | skip)
    all_goals (obtain ⟨n, ws, L3, e, gg, _⟩ := lst_of rr; exact ⟨_, n, ws, rfl, e, gg⟩)
  obtain ⟨ts, n, ws', eu, rfl, gg⟩ := key
  have hr : rcvA m h1 (.ref n) = true := by
    cases m <;> first | (exfalso; exact Bool.false_ne_true hm) | skip
    all_goals (simp only [rcvA, lstA, gg]; rfl)
  rw [hr, if_pos rfl, e2]
  show Res RV _ h x κ L M e Q (mtA m h2 (.ref n) vs)
  rw [eu] at hu q2
  have rs := rp_share (M := Lr ++ M) hs2 rr2
  obtain ⟨n', ws2, e3, gg2, _, r3⟩ := lst0 hu
  cases e3
  have g3 : Go h κ L h2 κ2 L2 := (g.trans' g2).weak (fun n m => m) fun n m => .inl (List.mem_append_left _ m)
  have hs3 : Hs h2 e x2 κ2 L2 M := hs2.less fun n => by simp only [List.count_append]; omega
  cases m <;> first | (exfalso; exact Bool.false_ne_true hm) | skip
  · rcases us with _ | ⟨u1, _ | ⟨_, _⟩⟩ <;> first | exact q2.elim | skip
    obtain ⟨ds, d, j, d1, d2, e4, q3⟩ := q2
    obtain ⟨w, vs', L4, L5, rfl, e5, r5, r6⟩ := rr2
    obtain ⟨rfl, _⟩ := r6
    have z1 := dat_ok hu d1
    have z2 := dat_ok r5 d2
    have : mtA .index h2 (.ref n) [w] = .ok (.int j) h2 := by simp only [mtA, gg2, z1, z2, e4]
    rw [this]
    exact Res.mk0 (R := RV) (b := (.int j, 9)) hs3 g3 (fun c => by cases c) q3 ⟨rfl, rfl⟩
  · rcases us with _ | ⟨⟨t1, d1⟩, _ | ⟨_, _⟩⟩ <;> first | exact q2.elim | skip
    · cases t1 <;> first | exact q2.elim | skip
      rename_i ui
      obtain ⟨is, e4, q3⟩ := q2
      obtain ⟨w, vs', L4, L5, rfl, e5, r5, r6⟩ := rr2
      obtain ⟨rfl, _⟩ := r6
      obtain ⟨rfl, _⟩ := r5
      have : mtA .count h2 (.ref n) [.int ui] = .ok (.int (is.count ui)) h2 := by simp only [mtA, gg2, ints_ok r3 e4]
      rw [this]
      exact Res.mk0 (R := RV) (b := (.int _, 9)) hs3 g3 (fun c => by cases c) q3 ⟨rfl, rfl⟩
    · cases t1 <;> exact q2.elim
/-! ### changes in place -/
theorem ok_set {h : AH} (ok : OkH h) {n : Nat} {o o' : AO} (g : h.get n = some o') : OkH (h.set n o) := fun m o2 e => by
  rw [AH.get_set] at e
  split at e
  · rename_i z
    rw [z]
    exact ok _ _ g
  · exact ok _ _ e
theorem get_set_ne {h : AH} {n m : Nat} {o : AO} (z : m ≠ n) : (h.set n o).get m = h.get m := by
  rw [AH.get_set, if_neg z]
/-- a slot's list changed -/
theorem Hs.chg {h : AH} {e : En} {x : TX} {κ : KA} {L N : List Nat} {i : Nat} {xs : List TV} {d : Nat} (a : Hs h e x κ L N) (s : slot x.e i = some (.lst xs, d + 1)) : ∃ n vs Lx L2, e[i]? = some (some (.ref n)) ∧ h.get n = some (.lst vs) ∧ (∀ b, L.count b = [n].count b + Lx.count b + L2.count b) ∧ RepL h (kl κ ++ (L ++ N)) κ xs d vs Lx ∧
    ∀ ys m ws Ly N', (∀ b, Ly.count b + N'.count b ≤ Lx.count b + N.count b) → RepL h (kl κ ++ ((n :: (Ly ++ L2)) ++ N')) κ ys m ws Ly → ∃ L', (∀ b, L'.count b = [n].count b + Ly.count b + L2.count b) ∧ Hs (h.set n (.lst ws)) e (x.put i (some (.lst ys, m + 1))) κ L' N' ∧
      (∀ t d v Lt, Rep h (kl κ ++ (L' ++ N')) κ t d v Lt → (∀ b ∈ Lt, b ∈ N') → Rep (h.set n (.lst ws)) (kl κ ++ (L' ++ N')) κ t d v Lt) := by
  obtain ⟨v, L1, L2, e1, c1, r, en⟩ := enR_take a.en s
  obtain ⟨n, vs, Lx, rfl, g, f, r⟩ := r
  subst f
  have c1' : ∀ b, L.count b = [n].count b + Lx.count b + L2.count b := fun b => by
    have := c1 b
    simp only [List.count_cons, List.count_nil] at *
    omega
  refine ⟨n, vs, Lx, L2, e1, g, c1', r, fun ys m ws Ly N' hc r' => ?_⟩
  have hi : i < x.e.length := by
    by_cases hi : i < x.e.length
    · exact hi
    · unfold slot at s
      rw [List.getElem?_eq_none (by omega)] at s
      cases s
  have un : Un (kl κ ++ ((n :: (Ly ++ L2)) ++ N')) := fun b => by
    have := a.un b
    have := c1' b
    have := hc b
    simp only [List.count_append, List.count_cons, List.count_nil] at *
    omega
  have ne : ∀ b ∈ Ly, b ≠ n := fun b m z => by
    subst z
    have := un b
    have := List.count_pos_iff.mpr m
    simp only [List.count_append, List.count_cons, List.count_nil, beq_self_eq_true, if_true] at *
    omega
  have ne2 : ∀ b ∈ L2, b ≠ n := fun b m z => by
    subst z
    have := un b
    have := List.count_pos_iff.mpr m
    simp only [List.count_append, List.count_cons, List.count_nil, beq_self_eq_true, if_true] at *
    omega
  have ne3 : ∀ b ∈ N', b ≠ n := fun b m z => by
    subst z
    have := un b
    have := List.count_pos_iff.mpr m
    simp only [List.count_append, List.count_cons, List.count_nil, beq_self_eq_true, if_true] at *
    omega
  have nk : ∀ b ∈ kl κ, b ≠ n := fun b m z => by
    subst z
    have := un b
    have := List.count_pos_iff.mpr m
    simp only [List.count_append, List.count_cons, List.count_nil, beq_self_eq_true, if_true] at *
    omega
  have inA : n ∈ kl κ ++ ((n :: (Ly ++ L2)) ++ N') := by simp
  have r2 : RepL (h.set n (.lst ws)) (kl κ ++ ((n :: (Ly ++ L2)) ++ N')) κ ys m ws Ly := repL_fr a.ok (fun _ _ z => z) (KLe.refl _) (fun b l z => get_set_ne fun y => z (by rw [y]; exact inA)) (fun b z => get_set_ne (ne b z)) r'
  have hA2 : ∀ b, b ∈ kl κ ++ ((n :: (Ly ++ L2)) ++ N') → b ∈ kl κ ++ (L ++ N) := mem_of_count fun b => by
    have := c1' b
    have := hc b
    simp only [List.count_append, List.count_cons, List.count_nil] at *
    omega
  have en2 : EnR (h.set n (.lst ws)) (kl κ ++ ((n :: (Ly ++ L2)) ++ N')) κ e (x.e.set i none) L2 := enR_fr a.ok (fun b l z y => z (hA2 b y)) (KLe.refl _) (fun b l z => get_set_ne fun y => z (by rw [y]; exact hA2 n inA)) (fun b z => get_set_ne (ne2 b z)) en
  obtain ⟨L', c2, en3⟩ := enR_put (u := some (.lst ys, m + 1)) (L1 := n :: Ly) en2 slot_set_same ⟨.ref n, by rw [e1]; rfl, n, ws, Ly, rfl, by rw [AH.get_set, if_pos rfl], rfl, r2⟩ (fun z => by rw [List.length_set] at z; omega)
  rw [set_back] at en3
  have c3 : ∀ b, L'.count b = [n].count b + Ly.count b + L2.count b := fun b => by
    have := c2 b
    simp only [List.count_cons, List.count_nil] at *
    omega
  have hA3 : ∀ b, b ∈ kl κ ++ (L' ++ N') → b ∈ kl κ ++ ((n :: (Ly ++ L2)) ++ N') := mem_of_count fun b => by
    have := c3 b
    simp only [List.count_append, List.count_cons, List.count_nil] at *
    omega
  refine ⟨L', c3, ⟨ok_set a.ok g, ?_, fun b => ?_, enR_A (ok_set a.ok g) hA3 en3, fun b z => ?_⟩, fun t d v Lt rt hz => ?_⟩
  · have st := a.st
    cases κ with
    | none =>
      show StR _ x.c _
      cases hc : x.c with
      | none => rw [hc] at st; exact st
      | some k => rw [hc] at st; exact st.elim
    | some p =>
      obtain ⟨rr, l⟩ := p
      show StR _ x.c _
      cases hc : x.c with
      | none => rw [hc] at st; exact st.elim
      | some k =>
        rw [hc] at st
        obtain ⟨cells, p, q, mm, lc, g1, g2, z⟩ := st
        exact ⟨cells, p, q, mm, lc, by rw [get_set_ne (nk _ (by simp [kl]))]; exact g1, by rw [get_set_ne (nk _ (by simp [kl]))]; exact g2, z⟩
  · have := un b
    have := c3 b
    simp only [List.count_append, List.count_cons, List.count_nil] at *
    omega
  · have := hc b
    have z := List.count_pos_iff.mpr z
    show b < h.sz
    by_cases y : 0 < N.count b
    · exact a.lt b (List.count_pos_iff.mp y)
    · exact repL_in a.ok r b (List.count_pos_iff.mp (by omega))
  · refine rep_fr a.ok (fun _ _ z => z) (KLe.refl _) (fun b l z => get_set_ne fun y => z (by rw [y]; exact List.count_pos_iff.mp (by have := c3 n; simp only [List.count_append, List.count_cons, List.count_nil, beq_self_eq_true, if_true] at *; omega))) (fun b z => get_set_ne (ne3 b (hz b z))) rt
theorem repL_erase {h : AH} {A : List Nat} {κ : KA} : ∀ {ts : List TV} {d : Nat} {vs : List AV} {L : List Nat} {k : Nat} {t : TV}, RepL h A κ ts d vs L → ts[k]? = some t → ∃ (v : AV) (L1 L2 : List Nat), vs[k]? = some v ∧ (∀ b, L.count b = L1.count b + L2.count b) ∧ Rep h A κ t d v L1 ∧ RepL h A κ (ts.eraseIdx k) d (vs.eraseIdx k) L2
  | [], _, _, _, _, _, r, e => by simp at e
  | t :: ts, d, vs, L, 0, u, ⟨v, vs', L1, L2, f, e, r1, r2⟩, g => by
    simp at g
    subst g f e
    exact ⟨v, L1, L2, by simp, fun b => List.count_append, r1, r2⟩
  | t :: ts, d, vs, L, k + 1, u, ⟨v, vs', L1, L2, f, e, r1, r2⟩, g => by
    simp at g
    obtain ⟨w, M1, M2, e1, c, r3, r4⟩ := repL_erase r2 g
    subst f e
    refine ⟨w, M1, L1 ++ M2, by simpa using e1, fun b => ?_, r3, v, _, L1, M2, rfl, rfl, r1, r4⟩
    have := c b
    simp only [List.count_append]
    omega
theorem repL_set {h : AH} {A : List Nat} {κ : KA} : ∀ {ts : List TV} {d : Nat} {vs : List AV} {L L3 : List Nat} {k : Nat} {t u : TV} {w : AV}, RepL h A κ ts d vs L → ts[k]? = some t → Rep h A κ u d w L3 → ∃ (L1 L2 L4 : List Nat), (∀ b, L.count b = L1.count b + L2.count b) ∧ (∀ b, L4.count b = L3.count b + L2.count b) ∧ RepL h A κ (ts.set k u) d (vs.set k w) L4
  | [], _, _, _, _, _, _, _, _, r, e, _ => by simp at e
  | t :: ts, d, vs, L, L3, 0, _, u, w, ⟨v, vs', L1, L2, f, e, r1, r2⟩, g, s => by
    subst f e
    exact ⟨L1, L2, L3 ++ L2, fun b => List.count_append, fun b => List.count_append, w, vs', L3, L2, rfl, rfl, s, r2⟩
  | t :: ts, d, vs, L, L3, k + 1, t', u, w, ⟨v, vs', L1, L2, f, e, r1, r2⟩, g, s => by
    simp at g
    obtain ⟨M1, M2, M4, c1, c2, r3⟩ := repL_set r2 g s
    subst f e
    refine ⟨M1, L1 ++ M2, L1 ++ M4, fun b => ?_, fun b => ?_, v, _, L1, M4, rfl, rfl, r1, r3⟩
    · have := c1 b
      simp only [List.count_append]
      omega
    · have := c2 b
      simp only [List.count_append]
      omega
end
end EV

/-! EvZg: methods that change. -/
namespace EV
open PySem
section
variable {evs : En → AH → Rs (List AV)} {ws : TX → (List TD → TX → Prop) → Prop}
theorem Go.set {h : AH} {κ : KA} {X Y : List Nat} {n : Nat} {o : AO} (m : n ∈ X) (s : ∀ b, Y.count b ≤ X.count b) : Go h κ X (h.set n o) κ Y :=
  ⟨Nat.le_refl _, rfl, fun b l z => get_set_ne fun y => z (by rw [y]; exact List.mem_append_right _ m), fun b z => .inl (mem_of_count (l := kl κ ++ Y) (m := kl κ ++ X) (fun b => by have := s b; simp only [List.count_append]; omega) b z), KLe.refl _⟩
theorem dl {α : Type} (xs : List α) : xs.dropLast = xs.eraseIdx (xs.length - 1) := by
  rw [List.dropLast_eq_take, List.eraseIdx_eq_take_drop_succ]
  have : xs.drop (xs.length - 1 + 1) = [] := List.drop_eq_nil_of_le (by omega)
  rw [this, List.append_nil]
theorem je_mchg {m : Mt} {i : Nat} (hm : isLk m = false) (js : JP evs ws) : JE (fun e h => (opt h ((e[i]?).getD none)).bind fun x h1 => if rcvA m h1 x then (evs e h1).bind fun xs h2 => mtA m h2 x xs else .no) (fun x Q => match slot x.e i with
    | some (.lst _, _) => ws x fun us x1 => match slot x1.e i with
      | some (.lst xs, d + 1) => wMchg m xs d us fun ys d' r => Q r (x1.put i (some (.lst ys, d' + 1)))
      | _ => False
    | _ => False) false := fun e x h κ L M Q hs q => by
  dsimp only at q ⊢
  cases s0 : slot x.e i with
  | none => rw [s0] at q; exact q.elim
  | some td =>
  obtain ⟨t0, d0⟩ := td
  rw [s0] at q
  cases t0 <;> first | exact q.elim | skip
  rename_i ts0
  have q : ws x fun us x1 => match slot x1.e i with
      | some (.lst xs, d + 1) => wMchg m xs d us fun ys d' r => Q r (x1.put i (some (.lst ys, d' + 1)))
      | _ => False := q
  obtain ⟨v0, L0, L0', e0, _, r0, _⟩ := enR_take hs.en s0
  obtain ⟨n0, vs0, _, rfl, g0, _⟩ := lst_of r0
  rw [e0]
  show Res RV false h x κ L M e Q (if rcvA m h (.ref n0) then (evs e h).bind fun xs h2 => mtA m h2 (.ref n0) xs else .no)
  obtain ⟨vs, h1, us, x1, κ1, L1, Lr, e1, q1, hs1, rr, g1, _⟩ := js e x h κ L M _ hs q
  cases s1 : slot x1.e i with
  | none => rw [s1] at q1; exact q1.elim
  | some td =>
  obtain ⟨t1, d1⟩ := td
  rw [s1] at q1
  cases t1 <;> first | exact q1.elim | skip
  rename_i xs
  cases d1 with
  | zero => exact q1.elim
  | succ d =>
  have q1 : wMchg m xs d us fun ys d' r => Q r (x1.put i (some (.lst ys, d' + 1))) := q1
  obtain ⟨n, vs1, Lx, L2, e2, gn, cL, rx, ch⟩ := hs1.chg s1
  rw [e0] at e2
  cases e2
  have un := hs1.un
  have ndx : Lx.Nodup := un_nd fun b => by
    have := un b
    have := cL b
    simp only [List.count_append] at *
    omega
  have mem : n0 ∈ L1 ++ Lr := List.mem_append_left _ (List.count_pos_iff.mp (by have := cL n0; simp only [List.count_cons, beq_self_eq_true, if_true] at this; omega))
  have hrcv : (m = .append ∨ m = .extend ∨ m = .pop) → rcvA m h (.ref n0) = true := by
    rintro (rfl | rfl | rfl)
    all_goals (simp only [rcvA, lstA, g0]; rfl)
  cases m <;> first | (exfalso; exact Bool.false_ne_true hm.symm) | exact q1.elim | skip
  · -- append
    rw [hrcv (.inl rfl), if_pos rfl, e1]
    rcases us with _ | ⟨u, _ | ⟨_, _⟩⟩ <;> first | exact q1.elim | skip
    obtain ⟨hl, q1⟩ := q1
    obtain ⟨w, vs', Lu, Le, rfl, eL, ru, rn⟩ := rr
    obtain ⟨rfl, rfl⟩ := rn
    rw [List.append_nil] at eL
    subst eL
    show Res RV false h x κ L M e Q (mtA .append h1 (.ref n0) [w])
    have : mtA .append h1 (.ref n0) [w] = .ok .non (h1.set n0 (.lst (vs1 ++ [w]))) := by
      simp only [mtA, gn]
      rw [if_pos (by rw [repL_len rx]; exact hl)]
    rw [this]
    have ndu : Lr.Nodup := un_nd fun b => by
      have := un b
      simp only [List.count_append] at *
      omega
    obtain ⟨Lx', sx, qx⟩ := repL_low rx ndx (show min d u.2 ≤ d by omega)
    obtain ⟨Lu', su, qu⟩ := rep_low ru ndu (show min d u.2 ≤ u.2 by omega)
    have cx := fun b => sx.count_le b
    have cu := fun b => su.count_le b
    have sub : ∀ b ∈ kl κ1 ++ ((n0 :: ((Lx' ++ Lu') ++ L2)) ++ M), b ∈ kl κ1 ++ (L1 ++ (Lr ++ M)) := mem_of_count fun b => by
      have := cL b
      have := cx b
      have := cu b
      simp only [List.count_append, List.count_cons, List.count_nil] at *
      omega
    have rx' := qx _ sub fun b i1 i2 i3 => by
      have := un b
      have := cL b
      have := cu b
      have a1 := List.count_pos_iff.mpr i1
      have a2 := List.count_eq_zero.mpr i2
      have a3 := List.count_pos_iff.mpr i3
      simp only [List.count_append, List.count_cons, List.count_nil] at *
      omega
    have ru' := qu _ sub fun b i1 i2 i3 => by
      have := un b
      have := cL b
      have := cx b
      have a1 := List.count_pos_iff.mpr i1
      have a2 := List.count_eq_zero.mpr i2
      have a3 := List.count_pos_iff.mpr i3
      simp only [List.count_append, List.count_cons, List.count_nil] at *
      omega
    obtain ⟨L', c', hs', _⟩ := ch (xs ++ [u.1]) (min d u.2) (vs1 ++ [w]) (Lx' ++ Lu') M (fun b => by
      have := cx b
      have := cu b
      simp only [List.count_append]
      omega) (repL_app rx' (repL_one ru'))
    refine Res.mk0 (R := RV) (b := (.non, 9)) hs' (g1.trans (Go.set mem fun b => ?_)) (fun c => by cases c) q1 ⟨rfl, rfl⟩
    have := c' b
    have := cL b
    have := cx b
    have := cu b
    simp only [List.count_append] at *
    omega
  · -- extend
    rw [hrcv (.inr (.inl rfl)), if_pos rfl, e1]
    rcases us with _ | ⟨⟨tu, du⟩, _ | ⟨_, _⟩⟩ <;> first | exact q1.elim | skip
    rotate_left
    · cases tu <;> exact q1.elim
    obtain ⟨zs, rfl⟩ : ∃ zs, tu = .lst zs := by
      cases tu <;> first | exact q1.elim | exact ⟨_, rfl⟩
    obtain ⟨hl, q1⟩ := q1
    obtain ⟨w, vs', Lu, Le, rfl, eL, ru, rn⟩ := rr
    obtain ⟨rfl, rfl⟩ := rn
    rw [List.append_nil] at eL
    subst eL
    obtain ⟨nz, wz, Lz, rfl, gz, rz, sz⟩ := lst_of ru
    have cz := fun b => sz.count_le b
    show Res RV false h x κ L M e Q (mtA .extend h1 (.ref n0) [.ref nz])
    have : mtA .extend h1 (.ref n0) [.ref nz] = .ok .non (h1.set n0 (.lst (vs1 ++ wz))) := by
      simp only [mtA, gn, gz]
      rw [if_pos (by rw [repL_len rx, repL_len rz]; exact hl)]
    rw [this]
    have ndz : Lz.Nodup := un_nd fun b => by
      have := un b
      have := cz b
      simp only [List.count_append] at *
      omega
    obtain ⟨Lx', sx, qx⟩ := repL_low rx ndx (show min d (du - 1) ≤ d by omega)
    obtain ⟨Lu', su, qu⟩ := repL_low rz ndz (show min d (du - 1) ≤ du - 1 by omega)
    have cx := fun b => sx.count_le b
    have cu := fun b => su.count_le b
    have sub : ∀ b ∈ kl κ1 ++ ((n0 :: ((Lx' ++ Lu') ++ L2)) ++ M), b ∈ kl κ1 ++ (L1 ++ (Lr ++ M)) := mem_of_count fun b => by
      have := cL b
      have := cx b
      have := cu b
      have := cz b
      simp only [List.count_append, List.count_cons, List.count_nil] at *
      omega
    have rx' := qx _ sub fun b i1 i2 i3 => by
      have := un b
      have := cL b
      have := cu b
      have := cz b
      have a1 := List.count_pos_iff.mpr i1
      have a2 := List.count_eq_zero.mpr i2
      have a3 := List.count_pos_iff.mpr i3
      simp only [List.count_append, List.count_cons, List.count_nil] at *
      omega
    have ru' := qu _ sub fun b i1 i2 i3 => by
      have := un b
      have := cL b
      have := cx b
      have := cz b
      have a1 := List.count_pos_iff.mpr i1
      have a2 := List.count_eq_zero.mpr i2
      have a3 := List.count_pos_iff.mpr i3
      simp only [List.count_append, List.count_cons, List.count_nil] at *
      omega
    obtain ⟨L', c', hs', _⟩ := ch (xs ++ zs) (min d (du - 1)) (vs1 ++ wz) (Lx' ++ Lu') M (fun b => by
      have := cx b
      have := cu b
      have := cz b
      simp only [List.count_append]
      omega) (repL_app rx' ru')
    refine Res.mk0 (R := RV) (b := (.non, 9)) hs' (g1.trans (Go.set mem fun b => ?_)) (fun c => by cases c) q1 ⟨rfl, rfl⟩
    have := c' b
    have := cL b
    have := cx b
    have := cu b
    have := cz b
    simp only [List.count_append] at *
    omega
  · -- pop
    rw [hrcv (.inr (.inr rfl)), if_pos rfl, e1]
    have main : ∀ (k : Nat) (y : TV), xs[k]? = some y → Q (y, d) (x1.put i (some (.lst (xs.eraseIdx k), d + 1))) → (∀ w, vs1[k]? = some w → mtA .pop h1 (.ref n0) vs = .ok w (h1.set n0 (.lst (vs1.eraseIdx k)))) → Res RV false h x κ L M e Q (mtA .pop h1 (.ref n0) vs) := by
      intro k y ek q2 em
      obtain ⟨w, Ly1, Ly2, e3, c3, ry, rest⟩ := repL_erase rx ek
      rw [em w e3]
      have sub : ∀ b ∈ kl κ1 ++ ((n0 :: (Ly2 ++ L2)) ++ (Ly1 ++ M)), b ∈ kl κ1 ++ (L1 ++ (Lr ++ M)) := mem_of_count fun b => by
        have := cL b
        have := c3 b
        simp only [List.count_append, List.count_cons, List.count_nil] at *
        omega
      have rest' : RepL h1 (kl κ1 ++ ((n0 :: (Ly2 ++ L2)) ++ (Ly1 ++ M))) κ1 (xs.eraseIdx k) d (vs1.eraseIdx k) Ly2 := repL_fr hs1.ok (fun b l z y => z (sub b y)) (KLe.refl _) (fun _ _ _ => rfl) (fun _ _ => rfl) rest
      obtain ⟨L', c', hs', pr⟩ := ch (xs.eraseIdx k) d (vs1.eraseIdx k) Ly2 (Ly1 ++ M) (fun b => by
        have := c3 b
        simp only [List.count_append]
        omega) rest'
      have ry' : Rep h1 (kl κ1 ++ (L' ++ (Ly1 ++ M))) κ1 y d w Ly1 := rep_A hs1.ok (mem_of_count fun b => by
        have := c' b
        have := cL b
        have := c3 b
        simp only [List.count_append] at *
        omega) ry
      refine ⟨w, _, (y, d), x1.put i (some (.lst (xs.eraseIdx k), d + 1)), κ1, L', Ly1, rfl, q2, hs', pr _ _ _ _ ry' fun b z => List.mem_append_left _ z, g1.trans (Go.set mem fun b => ?_), fun c => by cases c⟩
      have := c' b
      have := cL b
      have := c3 b
      simp only [List.count_append] at *
      omega
    have hlen := repL_len rx
    rcases us with _ | ⟨⟨tu, du⟩, _ | ⟨_, _⟩⟩
    · obtain ⟨y, ey, q1⟩ := q1
      obtain ⟨rfl, _⟩ := rr
      show Res RV false h x κ L M e Q (mtA .pop h1 (.ref n0) [])
      rw [dl] at q1
      refine main _ y ey q1 fun w ew => ?_
      rw [← hlen] at ew
      simp only [mtA, gn, ew]
      rw [dl, hlen]
    · cases tu <;> first | exact q1.elim | skip
      rename_i j
      obtain ⟨hb, k, y, ek, ey, q1⟩ := q1
      obtain ⟨w, vs', Lu, Le, rfl, eL, ru, rn⟩ := rr
      obtain ⟨rfl, rfl⟩ := rn
      obtain ⟨rfl, _⟩ := ru
      refine main k y ey q1 fun w ew => ?_
      simp only [mtA, gn, hlen, ek, ew]
      rw [if_pos hb]
    · cases tu <;> exact q1.elim
end
end EV

/-! EvZh: slots set and wiped; what is walked. -/
namespace EV
open PySem
section
variable {h h' : AH} {A A' : List Nat} {κ κ' : KA} {L M Lr : List Nat} {e e1 e2 : En} {x : TX}
/-- what stands at an empty slot is of no account -/
theorem enR_env : ∀ {e1 e2 : En} {te : TEn} {L : List Nat}, EnR h A κ e1 te L → e1.length = e2.length → (∀ i, slot te i ≠ none → e1[i]? = e2[i]?) → EnR h A κ e2 te L
  | [], [], [], _, r, _, _ => r
  | o :: e1, o2 :: e2, u :: te, L, ⟨L1, L2, f, s, r⟩, l, q => by
    refine ⟨L1, L2, f, ?_, enR_env r (by simpa using l) fun i z => ?_⟩
    · cases u with
      | none => exact s
      | some u =>
        have := q 0 (by simp [slot])
        simp at this
        rw [← this]
        exact s
    · have := q (i + 1) (by rw [slot_cons]; exact z)
      simpa using this
  | [], _ :: _, _, _, _, l, _ => by simp at l
  | _ :: _, [], _, _, _, l, _ => by simp at l
  | [], [], _ :: _, _, r, _, _ => r.elim
  | _ :: _, _ :: _, [], _, r, _, _ => r.elim
theorem Hs.env (a : Hs h e1 x κ L M) (l : e1.length = e2.length) (q : ∀ i, slot x.e i ≠ none → e1[i]? = e2[i]?) : Hs h e2 x κ L M := ⟨a.ok, a.st, a.un, enR_env a.en l q, a.lt⟩
/-- a slot set to what is held -/
theorem Hs.set {t : TV} {d : Nat} {v : AV} (a : Hs h e x κ L (Lr ++ M)) (r : Rep h (kl κ ++ (L ++ (Lr ++ M))) κ t d v Lr) (i : Nat) : ∃ L', (∀ b, L'.count b ≤ L.count b + Lr.count b) ∧ Hs h (e.set i (some v)) (x.put i (some (t, d))) κ L' M := by
  obtain ⟨L1, L2, c, en, _, _⟩ := enR_drop i (some v) a.en
  by_cases hi : i < x.e.length
  · have le := enR_len a.en
    have hA : ∀ n ∈ kl κ ++ ((Lr ++ L2) ++ M), n ∈ kl κ ++ (L ++ (Lr ++ M)) := mem_of_count fun n => by
      have := c n
      simp only [List.count_append]
      omega
    obtain ⟨L', c2, en2⟩ := enR_put (u := some (t, d)) (L1 := Lr) (enR_A a.ok hA en) slot_set_same ⟨v, by rw [List.getElem?_set_self (by omega)]; rfl, rep_A a.ok hA r⟩ (fun z => by rw [List.length_set] at z; omega)
    rw [set_back] at en2
    refine ⟨L', fun b => by have := c b; have := c2 b; omega, a.ok, a.st, fun n => ?_, enR_A a.ok (mem_of_count fun n => by have := c2 n; simp only [List.count_append]; omega) en2, fun n m => a.lt n (List.mem_append_right _ m)⟩
    have := a.un n
    have := c n
    have := c2 n
    simp only [List.count_append] at *
    omega
  · have le := enR_len a.en
    have e1 : e.set i (some v) = e := List.set_eq_of_length_le (by omega)
    have e2 : x.put i (some (t, d)) = x := by
      unfold TX.put
      rw [List.set_eq_of_length_le (by omega)]
    rw [e1, e2]
    exact ⟨L, fun b => by omega, a.let⟩
theorem Hs.set0 {t : TV} {v : AV} (a : Hs h e x κ L M) (r : Rep h (kl κ ++ (L ++ M)) κ t 0 v []) (i : Nat) : ∃ L', (∀ b, L'.count b ≤ L.count b) ∧ Hs h (e.set i (some v)) (x.put i (some (t, 0))) κ L' M := by
  obtain ⟨L', c, a'⟩ := Hs.set (Lr := []) (M := M) (by simpa using a) (by simpa using r) i
  exact ⟨L', fun b => by have := c b; simp at this; exact this, a'⟩
theorem setMany_ok : ∀ {is : List Nat} {ts : List TV} {vs : List AV} {e : En} {x : TX} {L : List Nat} {te : TEn}, Hs h e x κ L M → RepL h (kl κ ++ (L ++ M)) κ ts 0 vs [] → setManyT x.e is ts = some te → ∃ e' L', setMany e is vs = some e' ∧ (∀ b, L'.count b ≤ L.count b) ∧ Hs h e' ⟨te, x.c⟩ κ L' M
  | [], [], _, e, x, L, te, a, r, q => by
    obtain ⟨rfl, _⟩ := r
    cases q
    exact ⟨e, L, rfl, fun b => Nat.le_refl _, a⟩
  | i :: is, t :: ts, _, e, x, L, te, a, ⟨v, vs', L1, L2, f, eL, r1, r2⟩, q => by
    subst f
    obtain ⟨rfl, rfl⟩ := List.append_eq_nil_iff.mp eL.symm
    obtain ⟨L', c, a'⟩ := a.set0 r1 i
    have r2' : RepL h (kl κ ++ (L' ++ M)) κ ts 0 vs' [] := repL_fr a.ok (fun n l m z => m (mem_of_count (l := kl κ ++ (L' ++ M)) (m := kl κ ++ (L ++ M)) (fun n => by have := c n; simp only [List.count_append]; omega) n z)) (KLe.refl _) (fun _ _ _ => rfl) (fun _ _ => rfl) r2
    obtain ⟨e', L'', e1, c2, a2⟩ := setMany_ok (x := x.put i (some (t, 0))) a' r2' q
    exact ⟨e', L'', e1, fun b => Nat.le_trans (c2 b) (c b), a2⟩
  | [], _ :: _, _, _, _, _, _, _, _, q => by cases q
  | _ :: _, [], _, _, _, _, _, _, _, q => by cases q
/-! ### what is walked -/
def TvT (h : AH) (A : List Nat) (κ : KA) : TTv → Tv → Prop
  | .one t, .one v => Rep h A κ t 0 v []
  | .two t u, .two v w => Rep h A κ t 0 v [] ∧ Rep h A κ u 0 w []
  | _, _ => False
def TvL (h : AH) (A : List Nat) (κ : KA) : List TTv → List Tv → Prop
  | [], [] => True
  | t :: ts, v :: vs => TvT h A κ t v ∧ TvL h A κ ts vs
  | _, _ => False
theorem tvT_fr (ok : OkH h) (hA : ∀ n, n < h.sz → n ∉ A → n ∉ A') (hk : KLe κ κ') (hs : ∀ n, n < h.sz → n ∉ A → h'.get n = h.get n) : ∀ {t : TTv} {v : Tv}, TvT h A κ t v → TvT h' A' κ' t v
  | .one t, .one v, r => rep_fr ok hA hk hs (fun _ m => by cases m) r
  | .two t u, .two v w, ⟨r, s⟩ => ⟨rep_fr ok hA hk hs (fun _ m => by cases m) r, rep_fr ok hA hk hs (fun _ m => by cases m) s⟩
  | .one _, .two _ _, r => r.elim
  | .two _ _, .one _, r => r.elim
theorem tvL_fr (ok : OkH h) (hA : ∀ n, n < h.sz → n ∉ A → n ∉ A') (hk : KLe κ κ') (hs : ∀ n, n < h.sz → n ∉ A → h'.get n = h.get n) : ∀ {ts : List TTv} {vs : List Tv}, TvL h A κ ts vs → TvL h' A' κ' ts vs
  | [], [], r => r
  | t :: ts, v :: vs, ⟨r, s⟩ => ⟨tvT_fr ok hA hk hs r, tvL_fr ok hA hk hs s⟩
  | [], _ :: _, r => r.elim
  | _ :: _, [], r => r.elim
/-- the check holds while the shared parts stand -/
def CkOk (h : AH) (A : List Nat) (ck : AH → Bool) : Prop := ∀ h', (∀ n, n < h.sz → n ∉ A → h'.get n = h.get n) → ck h' = true
theorem tvl_one : ∀ {ts : List TV} {vs : List AV}, RepL h A κ ts 0 vs [] → TvL h A κ (ts.map .one) (vs.map .one)
  | [], _, r => by obtain ⟨rfl, _⟩ := r; trivial
  | t :: ts, _, ⟨v, vs', L1, L2, f, eL, r1, r2⟩ => by
    subst f
    obtain ⟨rfl, rfl⟩ := List.append_eq_nil_iff.mp eL.symm
    exact ⟨r1, tvl_one r2⟩
theorem tvl_enum : ∀ {ts : List TV} {vs : List AV} (k : Nat), RepL h A κ ts 0 vs [] → TvL h A κ (enumT k ts) (enumFrom k vs)
  | [], _, _, r => by obtain ⟨rfl, _⟩ := r; trivial
  | t :: ts, _, k, ⟨v, vs', L1, L2, f, eL, r1, r2⟩ => by
    subst f
    obtain ⟨rfl, rfl⟩ := List.append_eq_nil_iff.mp eL.symm
    exact ⟨⟨⟨rfl, rfl⟩, r1⟩, tvl_enum (k + 1) r2⟩
theorem tvl_zip : ∀ {ts us : List TV} {vs ws : List AV}, RepL h A κ ts 0 vs [] → RepL h A κ us 0 ws [] → TvL h A κ (zipTT ts us) (zipTv vs ws)
  | [], _, _, _, r, _ => by obtain ⟨rfl, _⟩ := r; trivial
  | t :: ts, [], _, _, ⟨v, vs', L1, L2, f, eL, r1, r2⟩, s => by
    subst f
    obtain ⟨rfl, _⟩ := s
    trivial
  | t :: ts, u :: us, _, _, ⟨v, vs', L1, L2, f, eL, r1, r2⟩, ⟨w, ws', L3, L4, g, eM, s1, s2⟩ => by
    subst f g
    obtain ⟨rfl, rfl⟩ := List.append_eq_nil_iff.mp eL.symm
    obtain ⟨rfl, rfl⟩ := List.append_eq_nil_iff.mp eM.symm
    exact ⟨⟨r1, s1⟩, tvl_zip r2 s2⟩
theorem tvl_range : ∀ (n : Nat) (lo : Int), TvL h A κ (rangeTT lo n) (rangeTv lo n)
  | 0, _ => trivial
  | n + 1, lo => ⟨⟨rfl, rfl⟩, tvl_range n (lo + 1)⟩
theorem tvl_step : ∀ (n : Nat) (lo c : Int), TvL h A κ (stepTT lo c n) (stepTv lo c n)
  | 0, _, _ => trivial
  | n + 1, lo, c => ⟨⟨rfl, rfl⟩, tvl_step n (lo + c) c⟩
theorem ck_l {n : Nat} {vs : List AV} (ok : OkH h) (g : h.get n = some (.lst vs)) (m : n ∉ A) : CkOk h A (isL n vs) := fun h' q => by
  unfold isL
  rw [q n (ok _ _ g) m, g]
  exact decide_eq_true rfl
theorem ck_t {n : Nat} {vs : List AV} (ok : OkH h) (g : h.get n = some (.tup vs)) (m : n ∉ A) : CkOk h A (isT n vs) := fun h' q => by
  unfold isT
  rw [q n (ok _ _ g) m, g]
  exact decide_eq_true rfl
theorem srcT_ok {sk : Sk} {ts : List TV} {vs : List AV} {Q : List TTv → Prop} (ok : OkH h) (r : RepL h A κ ts 0 vs []) (q : wSrc sk ts Q) : ∃ it tt, srcA sk h vs = some it ∧ Q tt ∧ TvL h A κ tt it.turns ∧ CkOk h A it.ck := by
  have one : ∀ {t : TV} {vs : List AV}, RepL h A κ [t] 0 vs [] → ∃ v, vs = [v] ∧ Rep h A κ t 0 v [] := fun ⟨v, vs', L1, L2, f, eL, r1, r2⟩ => by
    obtain ⟨rfl, rfl⟩ := List.append_eq_nil_iff.mp eL.symm
    obtain ⟨rfl, _⟩ := r2
    exact ⟨v, f, r1⟩
  have two : ∀ {t u : TV} {vs : List AV}, RepL h A κ [t, u] 0 vs [] → ∃ v w, vs = [v, w] ∧ Rep h A κ t 0 v [] ∧ Rep h A κ u 0 w [] := fun ⟨v, vs', L1, L2, f, eL, r1, r2⟩ => by
    obtain ⟨rfl, rfl⟩ := List.append_eq_nil_iff.mp eL.symm
    obtain ⟨w, rfl, r3⟩ := one r2
    exact ⟨v, w, f, r1, r3⟩
  have three : ∀ {t u w : TV} {vs : List AV}, RepL h A κ [t, u, w] 0 vs [] → ∃ a b c, vs = [a, b, c] ∧ Rep h A κ t 0 a [] ∧ Rep h A κ u 0 b [] ∧ Rep h A κ w 0 c [] := fun ⟨v, vs', L1, L2, f, eL, r1, r2⟩ => by
    obtain ⟨rfl, rfl⟩ := List.append_eq_nil_iff.mp eL.symm
    obtain ⟨a, b, rfl, r3, r4⟩ := two r2
    exact ⟨v, a, b, f, r1, r3, r4⟩
  unfold wSrc at q
  split at q
  · obtain ⟨v, ev, r1⟩ := one r
    obtain ⟨n, ws, en, g, m, r2⟩ := lst0 r1
    subst ev en
    exact ⟨⟨ws.map .one, isL n ws⟩, _, by simp only [srcA, g]; first | done | rfl, q, tvl_one r2, ck_l ok g m⟩
  · obtain ⟨v, ev, r1⟩ := one r
    obtain ⟨n, ws, en, g, m, r2⟩ := tup0 r1
    subst ev en
    exact ⟨⟨ws.map .one, isT n ws⟩, _, by simp only [srcA, g]; first | done | rfl, q, tvl_one r2, ck_t ok g m⟩
  · obtain ⟨v, ev, r1⟩ := one r
    obtain ⟨en, _⟩ := r1
    subst ev en
    refine ⟨⟨_, fun _ => true⟩, _, by simp only [srcA]; rw [if_pos (by simpa [inR] using q.1)], q.2, tvl_range _ _, fun _ _ => rfl⟩
  · obtain ⟨v, w, ev, r1, s1⟩ := two r
    obtain ⟨en, _⟩ := r1
    obtain ⟨en2, _⟩ := s1
    subst ev en en2
    refine ⟨⟨_, fun _ => true⟩, _, by simp only [srcA]; rw [if_pos (by simpa [inR] using q.1)], q.2, tvl_range _ _, fun _ _ => rfl⟩
  · obtain ⟨v, w, z, ev, r1, s1, s2⟩ := three r
    obtain ⟨en, _⟩ := r1
    obtain ⟨en2, _⟩ := s1
    obtain ⟨en3, _⟩ := s2
    subst ev en en2 en3
    refine ⟨⟨_, fun _ => true⟩, _, by simp only [srcA]; rw [if_pos (by simpa [inR] using q.1)], q.2, tvl_step _ _ _, fun _ _ => rfl⟩
  · obtain ⟨v, ev, r1⟩ := one r
    obtain ⟨n, ws, en, g, m, r2⟩ := lst0 r1
    subst ev en
    exact ⟨⟨enumFrom 0 ws, isL n ws⟩, _, by simp only [srcA, g]; first | done | rfl, q, tvl_enum 0 r2, ck_l ok g m⟩
  · obtain ⟨v, w, ev, r1, s1⟩ := two r
    obtain ⟨n, ws, en, g, m, r2⟩ := lst0 r1
    obtain ⟨n2, ws2, en2, g2, m2, s2⟩ := lst0 s1
    subst ev en en2
    exact ⟨⟨zipTv ws ws2, fun h => isL n ws h && isL n2 ws2 h⟩, _, by simp only [srcA, g, g2]; first | done | rfl, q, tvl_zip r2 s2, fun h' z => by show (isL n ws h' && isL n2 ws2 h') = true; rw [ck_l ok g m h' z, ck_l ok g2 m2 h' z]; rfl⟩
  · obtain ⟨v, w, ev, r1, s1⟩ := two r
    obtain ⟨n, ws, en, g, m, r2⟩ := tup0 r1
    obtain ⟨n2, ws2, en2, g2, m2, s2⟩ := tup0 s1
    subst ev en en2
    exact ⟨⟨zipTv ws ws2, fun h => isT n ws h && isT n2 ws2 h⟩, _, by simp only [srcA, g, g2]; first | done | rfl, q, tvl_zip r2 s2, fun h' z => by show (isT n ws h' && isT n2 ws2 h') = true; rw [ck_t ok g m h' z, ck_t ok g2 m2 h' z]; rfl⟩
  · exact q.elim
theorem bind_ok {tg : Tg} {t : TTv} {v : Tv} {e : En} {x : TX} {L : List Nat} {te : TEn} (a : Hs h e x κ L M) (r : TvT h (kl κ ++ (L ++ M)) κ t v) (q : bindTT tg t x.e = some te) : ∃ e' L', bindT tg h v e = some e' ∧ (∀ b, L'.count b ≤ L.count b) ∧ Hs h e' ⟨te, x.c⟩ κ L' M := by
  cases tg with
  | nm i =>
    cases t with
    | two _ _ => cases q
    | one t =>
      cases v with
      | two _ _ => exact r.elim
      | one v =>
        cases q
        obtain ⟨L', c, a'⟩ := a.set0 r i
        exact ⟨_, L', rfl, c, a'⟩
  | tp is =>
    cases t with
    | two t u =>
      cases v with
      | one _ => exact r.elim
      | two v w => exact setMany_ok a (ts := [t, u]) (vs := [v, w]) ⟨v, [w], [], [], rfl, rfl, r.1, w, [], [], [], rfl, rfl, r.2, rfl, rfl⟩ q
    | one t =>
      cases v with
      | two _ _ => exact r.elim
      | one v =>
        cases t <;> first | cases q; done | skip
        rename_i ts
        obtain ⟨n, ws, rfl, g, m, r⟩ := tup0 r
        obtain ⟨e', L', e1, c, a'⟩ := setMany_ok a r q
        exact ⟨e', L', by simp only [bindT, tupA, g]; exact e1, c, a'⟩
end
end EV

/-! EvZi: comprehensions. -/
namespace EV
open PySem
section
variable {h h' : AH} {A A' : List Nat} {κ κ' : KA} {L M Lr : List Nat} {e e1 e2 : En} {x : TX}
theorem wipeT_len {te : TEn} : ∀ vs : List Nat, (wipeT te vs).length = te.length
  | [] => rfl
  | v :: vs => by
    show ((wipeT te vs).set v none).length = _
    rw [List.length_set, wipeT_len vs]
theorem slot_set {te : TEn} {i j : Nat} {u : Option TD} : slot (te.set i u) j = if i = j then (if i < te.length then u else none) else slot te j := by
  unfold slot
  by_cases e : i = j
  · subst e
    rw [if_pos rfl]
    by_cases hi : i < te.length
    · rw [List.getElem?_set_self hi, if_pos hi]
      rfl
    · rw [List.getElem?_eq_none (by rw [List.length_set]; omega), if_neg hi]
      rfl
  · rw [List.getElem?_set_ne e, if_neg e]
theorem slot_wipe {te : TEn} {i : Nat} : ∀ {vs : List Nat}, slot (wipeT te vs) i = if i ∈ vs then none else slot te i
  | [] => by simp [wipeT]
  | v :: vs => by
    show slot ((wipeT te vs).set v none) i = _
    rw [slot_set, slot_wipe (vs := vs)]
    by_cases e : v = i
    · subst e
      simp
    · have e' : ¬ i = v := fun z => e z.symm
      simp [e, e']
theorem en_wipe {e : En} {i : Nat} : ∀ {vs : List Nat}, i ∉ vs → (wipeA e vs)[i]? = e[i]?
  | [], _ => rfl
  | v :: vs, hn => by
    show ((wipeA e vs).set v none)[i]? = _
    rw [List.getElem?_set_ne (fun z => hn (by rw [z]; exact List.mem_cons_self))]
    exact en_wipe fun m => hn (List.mem_cons_of_mem _ m)
theorem wipeA_len {e : En} : ∀ vs : List Nat, (wipeA e vs).length = e.length
  | [] => rfl
  | v :: vs => by
    show ((wipeA e vs).set v none).length = _
    rw [List.length_set, wipeA_len vs]
theorem te_ext {a b : TEn} (l : a.length = b.length) (q : ∀ i, slot a i = slot b i) : a = b := by
  refine List.ext_getElem? fun i => ?_
  by_cases hi : i < a.length
  · have := q i
    unfold slot at this
    rw [List.getElem?_eq_getElem hi, List.getElem?_eq_getElem (by omega)] at this ⊢
    simpa using this
  · rw [List.getElem?_eq_none (by omega), List.getElem?_eq_none (by omega)]
theorem wipe_sub {te : TEn} {own own1 : List Nat} (hs : ∀ i ∈ own1, i ∈ own) : wipeT (wipeT te own1) own = wipeT te own := by
  refine te_ext (by rw [wipeT_len, wipeT_len, wipeT_len]) fun i => ?_
  rw [slot_wipe, slot_wipe, slot_wipe]
  by_cases h : i ∈ own
  · rw [if_pos h, if_pos h]
  · rw [if_neg h, if_neg h, if_neg fun m => h (hs i m)]
/-- slots given up -/
theorem Hs.wipe (a : Hs h e x κ L M) : ∀ own : List Nat, ∃ L', (∀ b, L'.count b ≤ L.count b) ∧ Hs h e ⟨wipeT x.e own, x.c⟩ κ L' M
  | [] => ⟨L, fun b => Nat.le_refl _, a⟩
  | v :: vs => by
    obtain ⟨L', c, a'⟩ := a.wipe vs
    obtain ⟨L1, L2, c2, _, en, _⟩ := enR_drop v none a'.en
    refine ⟨L2, fun b => by have := c b; have := c2 b; omega, a'.ok, a'.st, fun n => ?_, enR_A a'.ok (mem_of_count fun n => ?_) en, a'.lt⟩
    · have := a'.un n
      have := c2 n
      simp only [List.count_append] at *
      omega
    · have := c2 n
      simp only [List.count_append]
      omega
/-- what the slots own held -/
inductive Sav (h : AH) (A : List Nat) (κ : KA) (e : En) (te : TEn) : List Nat → List Nat → Prop
  | nil : Sav h A κ e te [] []
  | cons {v : Nat} {vs L1 L2 : List Nat} : SlR h A κ ((e[v]?).getD none) (slot te v) L1 → Sav h A κ e te vs L2 → Sav h A κ e te (v :: vs) (L1 ++ L2)
theorem slR_fr (ok : OkH h) (hA : ∀ n, n < h.sz → n ∉ A → n ∉ A') (hk : KLe κ κ') (hs : ∀ n, n < h.sz → n ∉ A → h'.get n = h.get n) {o : Option AV} {u : Option TD} {L : List Nat} (q : ∀ n ∈ L, h'.get n = h.get n) (r : SlR h A κ o u L) : SlR h' A' κ' o u L := by
  cases u with
  | none => exact r
  | some u =>
    obtain ⟨v, e1, e2⟩ := r
    exact ⟨v, e1, rep_fr ok hA hk hs q e2⟩
theorem sav_fr (ok : OkH h) (hA : ∀ n, n < h.sz → n ∉ A → n ∉ A') (hk : KLe κ κ') (hs : ∀ n, n < h.sz → n ∉ A → h'.get n = h.get n) {te : TEn} {own L : List Nat} (r : Sav h A κ e te own L) : (∀ n ∈ L, h'.get n = h.get n) → Sav h' A' κ' e te own L := by
  induction r with
  | nil => exact fun _ => .nil
  | cons s _ ih => exact fun q => .cons (slR_fr ok hA hk hs (fun n m => q n (List.mem_append_left _ m)) s) (ih fun n m => q n (List.mem_append_right _ m))
theorem slR_in (ok : OkH h) {o : Option AV} {u : Option TD} {L : List Nat} (r : SlR h A κ o u L) : ∀ n ∈ L, n < h.sz := by
  cases u with
  | none => have r : L = [] := r; subst r; intro n m; cases m
  | some u => obtain ⟨v, _, s⟩ := r; exact rep_in ok s
theorem sav_in (ok : OkH h) {te : TEn} {own L : List Nat} (r : Sav h A κ e te own L) : ∀ n ∈ L, n < h.sz := by
  induction r with
  | nil => intro n m; cases m
  | cons s _ ih =>
    intro n m
    rcases List.mem_append.mp m with m | m
    · exact slR_in ok s n m
    · exact ih n m
theorem nodupB_cons {v : Nat} {vs : List Nat} (h : nodupB (v :: vs) = true) : v ∉ vs ∧ nodupB vs = true := by
  have h : (!vs.contains v && nodupB vs) = true := h
  rw [Bool.and_eq_true] at h
  exact ⟨by simpa using h.1, h.2⟩
/-- slots put aside -/
theorem Hs.aside (a : Hs h e x κ L M) : ∀ own : List Nat, nodupB own = true → ∃ L' Ld, (∀ b, L.count b = L'.count b + Ld.count b) ∧ Hs h e ⟨wipeT x.e own, x.c⟩ κ L' (Ld ++ M) ∧ Sav h (kl κ ++ (L ++ M)) κ e x.e own Ld
  | [], _ => ⟨L, [], fun b => by simp, a, .nil⟩
  | v :: vs, hn => by
    obtain ⟨hv, hn⟩ := nodupB_cons hn
    obtain ⟨L', Ld, c, a', s⟩ := a.aside vs hn
    obtain ⟨L1, L2, c2, _, en, sl⟩ := enR_drop v none a'.en
    have hA : ∀ n ∈ kl κ ++ (L ++ M), n ∈ kl κ ++ (L' ++ (Ld ++ M)) := mem_of_count fun n => by
      have := c n
      simp only [List.count_append]
      omega
    have hA' : ∀ n ∈ kl κ ++ (L2 ++ ((L1 ++ Ld) ++ M)), n ∈ kl κ ++ (L' ++ (Ld ++ M)) := mem_of_count fun n => by
      have := c2 n
      simp only [List.count_append]
      omega
    have sl' : SlR h (kl κ ++ (L ++ M)) κ ((e[v]?).getD none) (slot x.e v) L1 := by
      have e1 : slot (wipeT x.e vs) v = slot x.e v := by rw [slot_wipe, if_neg hv]
      rw [← e1]
      exact slR_fr a.ok (fun n _ m z => m (hA n z)) (KLe.refl _) (fun _ _ _ => rfl) (fun _ _ => rfl) sl
    refine ⟨L2, L1 ++ Ld, fun b => by have := c b; have := c2 b; simp only [List.count_append]; omega, ⟨a'.ok, a'.st, fun n => ?_, enR_A a'.ok hA' en, fun n m => ?_⟩, .cons sl' s⟩
    · have := a'.un n
      have := c2 n
      simp only [List.count_append] at *
      omega
    · simp only [List.mem_append] at m
      rcases m with (m | m) | m
      · exact slR_in a.ok sl' n m
      · exact a'.lt n (List.mem_append_left _ m)
      · exact a'.lt n (List.mem_append_right _ m)
theorem slot_len {te : TEn} {i : Nat} (l : te.length ≤ i) : slot te i = none := by
  unfold slot
  rw [List.getElem?_eq_none l]
  rfl
/-- .. and put back -/
theorem Hs.back {te0 : TEn} {y : TEn} {c0 : Option Nat} : ∀ {own Ld : List Nat} {M : List Nat}, Hs h e ⟨y, c0⟩ κ L (Ld ++ M) → (∀ i ∈ own, slot y i = none) → nodupB own = true → te0.length = y.length → Sav h (kl κ ++ (L ++ (Ld ++ M))) κ e te0 own Ld → ∃ L', (∀ b, L'.count b = L.count b + Ld.count b) ∧ Hs h e ⟨backT te0 y own, c0⟩ κ L' M ∧ (∀ i, i ∉ own → slot (backT te0 y own) i = slot y i) ∧ (backT te0 y own).length = y.length
  | [], _, M, a, _, _, _, s => by
    cases s
    exact ⟨L, fun b => by simp, a, fun _ _ => rfl, rfl⟩
  | v :: vs, _, M, a, hy, hn, hl, s => by
    obtain ⟨hv, hn⟩ := nodupB_cons hn
    cases s with
    | cons sl s =>
    rename_i L1 L2
    have hA : ∀ n ∈ kl κ ++ (L ++ (L2 ++ (L1 ++ M))), n ∈ kl κ ++ (L ++ ((L1 ++ L2) ++ M)) := mem_of_count fun n => by
      simp only [List.count_append]
      omega
    obtain ⟨L', c, a', so, le⟩ := Hs.back (M := L1 ++ M) (own := vs) (Ld := L2) (a.less fun n => by simp only [List.count_append]; omega) (fun i m => hy i (List.mem_cons_of_mem _ m)) hn hl (sav_fr a.ok (fun n _ m z => m (hA n z)) (KLe.refl _) (fun _ _ _ => rfl) s (fun _ _ => rfl))
    have hA2 : ∀ n ∈ kl κ ++ (L' ++ (L1 ++ M)), n ∈ kl κ ++ (L ++ ((L1 ++ L2) ++ M)) := mem_of_count fun n => by
      have := c n
      simp only [List.count_append]
      omega
    obtain ⟨L3, c3, en⟩ := enR_put (u := slot te0 v) (L1 := L1) a'.en (by rw [so v hv]; exact hy v List.mem_cons_self) (slR_fr a.ok (fun n _ m z => m (hA2 n z)) (KLe.refl _) (fun _ _ _ => rfl) (fun _ _ => rfl) sl) (fun z => by
      have : slot te0 v = none := slot_len (by rw [le] at z; omega)
      rw [this] at sl
      exact sl)
    refine ⟨L3, fun b => by have := c b; have := c3 b; simp only [List.count_append]; omega, ⟨a'.ok, a'.st, fun n => ?_, enR_A a'.ok (mem_of_count fun n => by have := c3 n; simp only [List.count_append]; omega) en, fun n m => a'.lt n (List.mem_append_right _ m)⟩, fun i m => ?_, ?_⟩
    · have := a'.un n
      have := c3 n
      simp only [List.count_append] at *
      omega
    · show slot ((backT te0 y vs).set v (slot te0 v)) i = _
      rw [slot_set, if_neg (fun z => m (by rw [z]; exact List.mem_cons_self))]
      exact so i fun z => m (List.mem_cons_of_mem _ z)
    · show ((backT te0 y vs).set v (slot te0 v)).length = _
      rw [List.length_set, le]
/-- a loop's body: the slots own may be used within -/
def JTn (own : List Nat) (e : En) (f : Tv → AH → Rs (Option AV)) (f' : TTv → TX → (Option TD → TX → Prop) → Prop) : Prop := ∀ h x κ L M t tv Q, Hs h e ⟨wipeT x.e own, x.c⟩ κ L M → TvT h (kl κ ++ (L ++ M)) κ t tv → f' t x Q →
  ∃ o h' u x' κ' L' Lr, f tv h = .ok o h' ∧ Q u x' ∧ x'.e.length = x.e.length ∧ Hs h' e ⟨wipeT x'.e own, x'.c⟩ κ' L' (Lr ++ M) ∧ Go h κ L h' κ' (L' ++ Lr) ∧ (match u, o with
    | some u, some v => Rep h' (kl κ' ++ (L' ++ (Lr ++ M))) κ' u.1 u.2 v Lr
    | none, none => Lr = []
    | _, _ => False)
theorem ck_mono {ck : AH → Bool} (g : ∀ n, n < h.sz → n ∉ A → h'.get n = h.get n) (s : h.sz ≤ h'.sz) (hA : ∀ n, n < h.sz → n ∉ A → n ∉ A') (c : CkOk h A ck) : CkOk h' A' ck := fun h2 q => c h2 fun n l m => by
  rw [q n (Nat.lt_of_lt_of_le l s) (hA n l m), g n l m]
/-- two owned parts at one depth -/
theorem low2 {ts us : List TV} {d d2 m : Nat} {vs ws : List AV} {L1 L2 N : List Nat} (un : Un (N ++ (L1 ++ L2))) (r : RepL h (N ++ (L1 ++ L2)) κ ts d vs L1) (s : RepL h (N ++ (L1 ++ L2)) κ us d2 ws L2) (h1 : m ≤ d) (h2 : m ≤ d2) : ∃ L', (∀ b, L'.count b ≤ (L1 ++ L2).count b) ∧ RepL h (N ++ L') κ (ts ++ us) m (vs ++ ws) L' := by
  obtain ⟨M1, s1, q1⟩ := repL_low r (un_nd fun b => by have := un b; simp only [List.count_append] at *; omega) h1
  obtain ⟨M2, s2, q2⟩ := repL_low s (un_nd fun b => by have := un b; simp only [List.count_append] at *; omega) h2
  have c1 := fun b => s1.count_le b
  have c2 := fun b => s2.count_le b
  have sub : ∀ n ∈ N ++ (M1 ++ M2), n ∈ N ++ (L1 ++ L2) := mem_of_count fun b => by
    have := c1 b
    have := c2 b
    simp only [List.count_append] at *
    omega
  refine ⟨M1 ++ M2, fun b => by have := c1 b; have := c2 b; simp only [List.count_append] at *; omega, repL_app (q1 _ sub fun b i j k => ?_) (q2 _ sub fun b i j k => ?_)⟩
  · have := un b
    have := c2 b
    have a1 := List.count_pos_iff.mpr i
    have a2 := List.count_eq_zero.mpr j
    have a3 := List.count_pos_iff.mpr k
    simp only [List.count_append] at *
    omega
  · have := un b
    have := c1 b
    have a1 := List.count_pos_iff.mpr i
    have a2 := List.count_eq_zero.mpr j
    have a3 := List.count_pos_iff.mpr k
    simp only [List.count_append] at *
    omega
end
end EV

/-! EvZj: comprehensions' loops. -/
namespace EV
open PySem
section
variable {h h' h1 : AH} {A A' : List Nat} {κ κ' κ1 : KA} {L L' L1 M N Lr : List Nat} {e e1 e2 : En} {x : TX}
theorem low3 {ts us : List TV} {d d2 m : Nat} {vs ws : List AV} {L1 L2 : List Nat} (un : Un A) (hc : ∀ b, N.count b + L1.count b + L2.count b ≤ A.count b) (r : RepL h A κ ts d vs L1) (s : RepL h A κ us d2 ws L2) (h1 : m ≤ d) (h2 : m ≤ d2) : ∃ L', (∀ b, L'.count b ≤ L1.count b + L2.count b) ∧ ∀ A', (∀ b, A'.count b ≤ N.count b + L'.count b) → RepL h A' κ (ts ++ us) m (vs ++ ws) L' := by
  obtain ⟨M1, s1, q1⟩ := repL_low r (un_nd fun b => by have := un b; have := hc b; omega) h1
  obtain ⟨M2, s2, q2⟩ := repL_low s (un_nd fun b => by have := un b; have := hc b; omega) h2
  have c1 := fun b => s1.count_le b
  have c2 := fun b => s2.count_le b
  refine ⟨M1 ++ M2, fun b => by have := c1 b; have := c2 b; simp only [List.count_append] at *; omega, fun A' hA => ?_⟩
  have sub : ∀ n ∈ A', n ∈ A := mem_of_count fun b => by
    have := c1 b
    have := c2 b
    have := hc b
    have := hA b
    simp only [List.count_append] at *
    omega
  refine repL_app (q1 _ sub fun b i j k => ?_) (q2 _ sub fun b i j k => ?_)
  · have := un b
    have := hc b
    have := hA b
    have := c2 b
    have a1 := List.count_pos_iff.mpr i
    have a2 := List.count_eq_zero.mpr j
    have a3 := List.count_pos_iff.mpr k
    simp only [List.count_append] at *
    omega
  · have := un b
    have := hc b
    have := hA b
    have := c1 b
    have a1 := List.count_pos_iff.mpr i
    have a2 := List.count_eq_zero.mpr j
    have a3 := List.count_pos_iff.mpr k
    simp only [List.count_append] at *
    omega
/-- what is not touched by a step, and is no place of its -/
theorem go_not (g : Go h κ L h' κ' L') {X : List Nat} (hX : ∀ n ∈ X, n ∈ A) (hL : ∀ n ∈ kl κ ++ L, n ∈ A) {B : List Nat} (hB : ∀ n ∈ B, n ∈ kl κ' ++ L' ∨ n ∈ X) : ∀ n, n < h.sz → n ∉ A → n ∉ B := fun n l m i => by
  rcases hB n i with i | i
  · rcases g.sub n i with i | i
    · exact m (hL n i)
    · omega
  · exact m (hX n i)
theorem go_get (g : Go h κ L h' κ' L') (hL : ∀ n ∈ kl κ ++ L, n ∈ A) : ∀ n, n < h.sz → n ∉ A → h'.get n = h.get n := fun n l m => g.fr n l fun i => m (hL n i)
theorem holdR {ts : List TV} {d : Nat} {vs : List AV} {Lt : List Nat} (ok : OkH h) (un : Un (kl κ ++ (L ++ M))) (g : Go h κ L h' κ' L') (hL : ∀ n ∈ Lt, n ∈ M) (r : RepL h (kl κ ++ (L ++ M)) κ ts d vs Lt) : RepL h' (kl κ' ++ (L' ++ M)) κ' ts d vs Lt := by
  have inL : ∀ n ∈ kl κ ++ L, n ∈ kl κ ++ (L ++ M) := mem_of_count fun n => by simp only [List.count_append]; omega
  refine repL_fr ok (go_not g (X := M) (fun n m => List.mem_append_right _ (List.mem_append_right _ m)) inL fun n m => ?_) g.kk (go_get g inL) (fun n m => g.fr n (repL_in ok r n m) fun q => ?_) r
  · simp only [List.mem_append] at m ⊢
    rcases m with m | m | m
    · exact .inl (.inl m)
    · exact .inl (.inr m)
    · exact .inr m
  · have := un n
    have a := List.count_pos_iff.mpr (hL n m)
    have b := List.count_pos_iff.mpr q
    simp only [List.count_append] at this b
    omega
theorem comp_ok {own : List Nat} {f : Tv → AH → Rs (Option AV)} {f' : TTv → TX → (Option TD → TX → Prop) → Prop} (j : JTn own e f f') {ck : AH → Bool} {Q : List TV → Nat → TX → Prop} : ∀ (ts : List TTv) (tvs : List Tv) (h : AH) (x : TX) (κ : KA) (L Lacc : List Nat) (tacc : List TV) (d : Nat) (vacc : List AV), Hs h e ⟨wipeT x.e own, x.c⟩ κ L (Lacc ++ M) → TvL h (kl κ ++ (L ++ (Lacc ++ M))) κ ts tvs → CkOk h (kl κ ++ (L ++ (Lacc ++ M))) ck →
    RepL h (kl κ ++ (L ++ (Lacc ++ M))) κ tacc d vacc Lacc → wComp f' Q ts x tacc d → ∃ vacc' h' tacc' d' x' κ' L' Lacc', compL ck f tvs h vacc = .ok vacc' h' ∧ Q tacc' d' x' ∧ x'.e.length = x.e.length ∧ Hs h' e ⟨wipeT x'.e own, x'.c⟩ κ' L' (Lacc' ++ M) ∧ RepL h' (kl κ' ++ (L' ++ (Lacc' ++ M))) κ' tacc' d' vacc' Lacc' ∧ Go h κ (L ++ Lacc) h' κ' (L' ++ Lacc')
  | [], [], h, x, κ, L, Lacc, tacc, d, vacc, hs, _, c, r, q => by
    refine ⟨vacc, h, tacc, d, x, κ, L, Lacc, ?_, q, rfl, hs, r, Go.refl _ _ _⟩
    unfold compL
    rw [c h fun _ _ _ => rfl]
    rfl
  | t :: ts, tv :: tvs, h, x, κ, L, Lacc, tacc, d, vacc, hs, ⟨tv1, tvr⟩, c, r, q => by
    obtain ⟨o, h1, u, x1, κ1, L1, Lr, e3, q1, l1, hs1, g1, mt⟩ := j h x κ L (Lacc ++ M) t tv _ hs tv1 q
    have inL : ∀ n ∈ kl κ ++ L, n ∈ kl κ ++ (L ++ (Lacc ++ M)) := mem_of_count fun n => by simp only [List.count_append]; omega
    have r1 := holdR hs.ok hs.un g1 (fun n m => List.mem_append_left _ m) r
    have un1 : Un (kl κ1 ++ ((L1 ++ Lr) ++ (Lacc ++ M))) := fun b => by
      have := hs1.un b
      simp only [List.count_append] at *
      omega
    have step : ∀ (Lacc1 : List Nat), (∀ b, Lacc1.count b ≤ Lacc.count b + Lr.count b) → TvL h1 (kl κ1 ++ (L1 ++ (Lacc1 ++ M))) κ1 ts tvs ∧ CkOk h1 (kl κ1 ++ (L1 ++ (Lacc1 ++ M))) ck ∧ Go h κ (L ++ Lacc) h1 κ1 (L1 ++ Lacc1) := fun Lacc1 hc => by
      have nn : ∀ n, n < h.sz → n ∉ kl κ ++ (L ++ (Lacc ++ M)) → n ∉ kl κ1 ++ (L1 ++ (Lacc1 ++ M)) := go_not g1 (X := Lacc ++ M) (fun n m => List.mem_append_right _ (List.mem_append_right _ m)) inL fun n m => by
        have m := List.count_pos_iff.mpr m
        have := hc n
        by_cases z : 0 < (kl κ1 ++ (L1 ++ Lr)).count n
        · exact .inl (List.count_pos_iff.mp z)
        · refine .inr (List.count_pos_iff.mp ?_)
          simp only [List.count_append] at *
          omega
      exact ⟨tvL_fr hs.ok nn g1.kk (go_get g1 inL) tvr, ck_mono (go_get g1 inL) g1.sz nn c, (g1.more Lacc).weak (fun n m => m) fun n m => .inl (mem_of_count (l := L1 ++ Lacc1) (m := (L1 ++ Lr) ++ Lacc) (fun b => by have := hc b; simp only [List.count_append]; omega) n m)⟩
    cases u with
    | none =>
      cases o with
      | some _ => exact mt.elim
      | none =>
        have e4 : Lr = [] := mt
        subst e4
        obtain ⟨s1, s2, s3⟩ := step Lacc fun b => by omega
        obtain ⟨vacc', h', tacc', d', x', κ', L', Lacc', e5, q5, l5, hs5, r5, g5⟩ := comp_ok j ts tvs h1 x1 κ1 L1 Lacc tacc d vacc hs1 s1 s2 (by simpa using r1) q1
        refine ⟨vacc', h', tacc', d', x', κ', L', Lacc', ?_, q5, l5.trans l1, hs5, r5, s3.trans g5⟩
        unfold compL
        rw [c h fun _ _ _ => rfl, if_pos rfl, e3]
        exact e5
    | some u =>
      cases o with
      | none => exact mt.elim
      | some v =>
        obtain ⟨hl, q1⟩ := q1
        have mt : Rep h1 (kl κ1 ++ (L1 ++ (Lr ++ (Lacc ++ M)))) κ1 u.1 u.2 v Lr := mt
        have mt2 : Rep h1 (kl κ1 ++ ((L1 ++ Lr) ++ (Lacc ++ M))) κ1 u.1 u.2 v Lr := rep_A hs1.ok (mem_of_count fun b => by simp only [List.count_append]; omega) mt
        obtain ⟨Lacc1, hc, rr⟩ := low3 (N := kl κ1 ++ (L1 ++ M)) (m := min d u.2) un1 (fun b => by simp only [List.count_append]; omega) r1 (repL_one mt2) (by omega) (by omega)
        obtain ⟨s1, s2, s3⟩ := step Lacc1 hc
        obtain ⟨vacc', h', tacc', d', x', κ', L', Lacc', e5, q5, l5, hs5, r5, g5⟩ := comp_ok j ts tvs h1 x1 κ1 L1 Lacc1 (tacc ++ [u.1]) (min d u.2) (vacc ++ [v]) (hs1.less fun b => by have := hc b; simp only [List.count_append]; omega) s1 s2 (rr _ fun b => by simp only [List.count_append]; omega) q1
        refine ⟨vacc', h', tacc', d', x', κ', L', Lacc', ?_, q5, l5.trans l1, hs5, r5, s3.trans g5⟩
        unfold compL
        rw [c h fun _ _ _ => rfl, if_pos rfl, e3]
        show (if vacc.length < sizeLine then compL ck f tvs h1 (vacc ++ [v]) else .no) = _
        rw [if_pos (by rw [repL_len r]; exact hl)]
        exact e5
  | [], _ :: _, _, _, _, _, _, _, _, _, _, r, _, _, _ => r.elim
  | _ :: _, [], _, _, _, _, _, _, _, _, _, r, _, _, _ => r.elim
def JTn2 (own : List Nat) (e : En) (f : Tv → AH → List AV → Rs (List AV)) (f' : TTv → TX → List TV → Nat → (List TV → Nat → TX → Prop) → Prop) : Prop := ∀ h x κ L M Lacc tacc d vacc t tv Q, Hs h e ⟨wipeT x.e own, x.c⟩ κ L (Lacc ++ M) → TvT h (kl κ ++ (L ++ (Lacc ++ M))) κ t tv → RepL h (kl κ ++ (L ++ (Lacc ++ M))) κ tacc d vacc Lacc → f' t x tacc d Q →
  ∃ vacc' h' tacc' d' x' κ' L' Lacc', f tv h vacc = .ok vacc' h' ∧ Q tacc' d' x' ∧ x'.e.length = x.e.length ∧ Hs h' e ⟨wipeT x'.e own, x'.c⟩ κ' L' (Lacc' ++ M) ∧ RepL h' (kl κ' ++ (L' ++ (Lacc' ++ M))) κ' tacc' d' vacc' Lacc' ∧ Go h κ (L ++ Lacc) h' κ' (L' ++ Lacc')
theorem comp2_ok {own : List Nat} {f : Tv → AH → List AV → Rs (List AV)} {f' : TTv → TX → List TV → Nat → (List TV → Nat → TX → Prop) → Prop} (j : JTn2 own e f f') {ck : AH → Bool} {Q : List TV → Nat → TX → Prop} : ∀ (ts : List TTv) (tvs : List Tv) (h : AH) (x : TX) (κ : KA) (L Lacc : List Nat) (tacc : List TV) (d : Nat) (vacc : List AV), Hs h e ⟨wipeT x.e own, x.c⟩ κ L (Lacc ++ M) → TvL h (kl κ ++ (L ++ (Lacc ++ M))) κ ts tvs → CkOk h (kl κ ++ (L ++ (Lacc ++ M))) ck →
    RepL h (kl κ ++ (L ++ (Lacc ++ M))) κ tacc d vacc Lacc → wComp2 f' Q ts x tacc d → ∃ vacc' h' tacc' d' x' κ' L' Lacc', compL2 ck f tvs h vacc = .ok vacc' h' ∧ Q tacc' d' x' ∧ x'.e.length = x.e.length ∧ Hs h' e ⟨wipeT x'.e own, x'.c⟩ κ' L' (Lacc' ++ M) ∧ RepL h' (kl κ' ++ (L' ++ (Lacc' ++ M))) κ' tacc' d' vacc' Lacc' ∧ Go h κ (L ++ Lacc) h' κ' (L' ++ Lacc')
  | [], [], h, x, κ, L, Lacc, tacc, d, vacc, hs, _, c, r, q => by
    refine ⟨vacc, h, tacc, d, x, κ, L, Lacc, ?_, q, rfl, hs, r, Go.refl _ _ _⟩
    unfold compL2
    rw [c h fun _ _ _ => rfl]
    rfl
  | t :: ts, tv :: tvs, h, x, κ, L, Lacc, tacc, d, vacc, hs, ⟨tv1, tvr⟩, c, r, q => by
    obtain ⟨vacc1, h1, tacc1, d1, x1, κ1, L1, Lacc1, e3, q1, l1, hs1, r1, g1⟩ := j h x κ L M Lacc tacc d vacc t tv _ hs tv1 r q
    have inL : ∀ n ∈ kl κ ++ (L ++ Lacc), n ∈ kl κ ++ (L ++ (Lacc ++ M)) := mem_of_count fun n => by simp only [List.count_append]; omega
    have nn : ∀ n, n < h.sz → n ∉ kl κ ++ (L ++ (Lacc ++ M)) → n ∉ kl κ1 ++ (L1 ++ (Lacc1 ++ M)) := go_not g1 (X := M) (fun n m => List.mem_append_right _ (List.mem_append_right _ (List.mem_append_right _ m))) inL fun n m => by
      simp only [List.mem_append] at m ⊢
      rcases m with m | m | m | m
      · exact .inl (.inl m)
      · exact .inl (.inr (.inl m))
      · exact .inl (.inr (.inr m))
      · exact .inr m
    obtain ⟨vacc', h', tacc', d', x', κ', L', Lacc', e5, q5, l5, hs5, r5, g5⟩ := comp2_ok j ts tvs h1 x1 κ1 L1 Lacc1 tacc1 d1 vacc1 hs1 (tvL_fr hs.ok nn g1.kk (go_get g1 inL) tvr) (ck_mono (go_get g1 inL) g1.sz nn c) r1 q1
    refine ⟨vacc', h', tacc', d', x', κ', L', Lacc', ?_, q5, l5.trans l1, hs5, r5, g1.trans g5⟩
    unfold compL2
    rw [c h fun _ _ _ => rfl, if_pos rfl, e3]
    exact e5
  | [], _ :: _, _, _, _, _, _, _, _, _, _, r, _, _, _ => r.elim
  | _ :: _, [], _, _, _, _, _, _, _, _, _, r, _, _, _ => r.elim
/-! ### turns -/
theorem setMany_env : ∀ {is : List Nat} {vs : List AV} {e e' : En}, setMany e is vs = some e' → e'.length = e.length ∧ ∀ i, i ∉ is → e'[i]? = e[i]?
  | [], [], e, e', q => by cases q; exact ⟨rfl, fun _ _ => rfl⟩
  | i :: is, v :: vs, e, e', q => by
    obtain ⟨a, b⟩ := setMany_env (e := e.set i (some v)) q
    refine ⟨by rw [a, List.length_set], fun k m => ?_⟩
    rw [b k fun z => m (List.mem_cons_of_mem _ z), List.getElem?_set_ne fun z => m (by rw [z]; exact List.mem_cons_self)]
  | [], _ :: _, _, _, q => by cases q
  | _ :: _, [], _, _, q => by cases q
theorem bindT_env {tg : Tg} {v : Tv} {e' : En} (q : bindT tg h v e = some e') : e'.length = e.length ∧ ∀ i, i ∉ tgS tg → e'[i]? = e[i]? := by
  cases tg with
  | nm i =>
    cases v with
    | two _ _ => cases q
    | one v =>
      cases q
      exact ⟨List.length_set .., fun k m => List.getElem?_set_ne fun z => m (by rw [z]; exact List.mem_cons_self)⟩
  | tp is =>
    cases v with
    | two a b => exact setMany_env q
    | one v =>
      unfold bindT at q
      dsimp only at q
      cases ht : tupA h v with
      | none => rw [ht] at q; cases q
      | some xs => rw [ht] at q; exact setMany_env q
theorem insB_of {xs ys : List Nat} (h : insB xs ys = true) : ∀ i ∈ xs, i ∈ ys := fun i m => by
  unfold insB at h
  rw [List.all_eq_true] at h
  simpa using h i m
/-- into a turn -/
theorem turn_in {own : List Nat} {tg : Tg} {t : TTv} {tv : Tv} {te2 : TEn} (hs : Hs h e ⟨wipeT x.e own, x.c⟩ κ L M) (r : TvT h (kl κ ++ (L ++ M)) κ t tv) (q : bindTT tg t (wipeT x.e own) = some te2) : ∃ e2 L', bindT tg h tv (wipeA e own) = some e2 ∧ (∀ b, L'.count b ≤ L.count b) ∧ Hs h e2 ⟨te2, x.c⟩ κ L' M ∧ e2.length = e.length ∧ ∀ i, i ∉ tgS tg → i ∉ own → e2[i]? = e[i]? := by
  have hs' : Hs h (wipeA e own) ⟨wipeT x.e own, x.c⟩ κ L M := hs.env (wipeA_len own).symm fun i z => by
    have hi : i ∉ own := fun m => z (by show slot (wipeT x.e own) i = none; rw [slot_wipe, if_pos m])
    rw [en_wipe hi]
  obtain ⟨e2, L', b1, c, a⟩ := bind_ok hs' r q
  obtain ⟨l, s⟩ := bindT_env b1
  exact ⟨e2, L', b1, c, a, by rw [l, wipeA_len], fun i m n => by rw [s i m, en_wipe n]⟩
/-- out of a turn -/
theorem turn_out {own own1 : List Nat} {x4 : TX} {te : TEn} (hs : Hs h e2 ⟨te, x4.c⟩ κ L M) (ht : te = x4.e ∨ (te = wipeT x4.e own1 ∧ ∀ i ∈ own1, i ∈ own)) (l : e2.length = e.length) (s : ∀ i, i ∉ own → e2[i]? = e[i]?) : ∃ L', (∀ b, L'.count b ≤ L.count b) ∧ Hs h e ⟨wipeT x4.e own, x4.c⟩ κ L' M := by
  obtain ⟨L', c, a⟩ := hs.wipe own
  have e1 : wipeT te own = wipeT x4.e own := by
    rcases ht with ht | ⟨ht, hi⟩
    · rw [ht]
    · rw [ht, wipe_sub hi]
  have a : Hs h e2 ⟨wipeT te own, x4.c⟩ κ L' M := a
  rw [e1] at a
  refine ⟨L', c, a.env l fun i z => ?_⟩
  refine s i fun m => z ?_
  show slot (wipeT x4.e own) i = none
  rw [slot_wipe, if_pos m]
variable {own own1 : List Nat} {tg tg1 : Tg} {cv cv1 : En → AH → Rs Bool} {cw cw1 : TX → KT → Prop} {ev : En → AH → Rs AV} {wv : TX → KE → Prop} {cl cl1 cl2 : Bool}
theorem jtn_turn (ht : ∀ i ∈ tgS tg, i ∈ own) (jc : JT cv cw cl) (je : JE ev wv cl1) : JTn own e (turnA tg own cv ev e) (turnTA tg own cw wv) := by
  intro h x κ L M t tv Q hs r q
  unfold turnTA wBind at q
  cases eb : bindTT tg t (wipeT x.e own) with
  | none => rw [eb] at q; exact q.elim
  | some te2 =>
    rw [eb] at q
    obtain ⟨e2, L0, b1, c0, a0, l0, s0⟩ := turn_in hs r eb
    have s0' : ∀ i, i ∉ own → e2[i]? = e[i]? := fun i m => s0 i (fun z => m (ht i z)) m
    obtain ⟨b, h3, b', x3, κ3, L3, Lr3, e3, q3, hs3, ⟨rfl, rfl⟩, g3, _⟩ := jc e2 ⟨te2, x.c⟩ h κ L0 M _ a0 q
    have lx : x.e.length = e.length := by
      have := enR_len hs.en
      rw [this]
      exact (wipeT_len own).symm
    unfold turnA
    rw [b1]
    dsimp only
    rw [e3]
    cases b with
    | false =>
      obtain ⟨L4, c4, a4⟩ := turn_out (own1 := []) (x4 := x3) hs3 (.inl rfl) l0 s0'
      refine ⟨none, h3, none, x3, κ3, L4, [], rfl, q3, ?_, a4, ?_, rfl⟩
      · have := enR_len hs3.en
        omega
      · exact ((go_less c0).trans g3).weak (fun n m => m) fun n m => .inl (mem_of_count (l := L4 ++ []) (m := L3 ++ []) (fun b => by have := c4 b; simp only [List.count_append]; omega) n m)
    | true =>
      obtain ⟨v, h4, u, x4, κ4, L4, Lr, e4, q4, hs4, rr, g4, _⟩ := je e2 x3 h3 κ3 L3 ([] ++ M) _ hs3 q3
      obtain ⟨L5, c5, a5⟩ := turn_out (own1 := []) (x4 := x4) hs4 (.inl rfl) l0 s0'
      refine ⟨some v, h4, some u, x4, κ4, L5, Lr, ?_, q4, ?_, a5, ?_, rep_A hs4.ok (mem_of_count fun b => by have := c5 b; simp only [List.count_append, List.nil_append] at *; omega) rr⟩
      · show ((ev e2 h3).bind fun v h4 => Rs.ok (some v) h4) = _
        rw [e4]
        rfl
      · have := enR_len hs4.en
        omega
      · exact (((go_less c0).trans g3.drop).trans g4).weak (fun n m => m) fun n m => .inl (mem_of_count (l := L5 ++ Lr) (m := L4 ++ Lr) (fun b => by have := c5 b; simp only [List.count_append]; omega) n m)
end
end EV

/-! EvZk: comprehensions as values. -/
namespace EV
open PySem
section
variable {h h' h1 : AH} {A A' : List Nat} {κ κ' κ1 : KA} {L L' L1 M N Lr : List Nat} {e e1 e2 : En} {x : TX}
variable {own own1 : List Nat} {tg tg1 : Tg} {cv cv1 : En → AH → Rs Bool} {cw cw1 : TX → KT → Prop} {ev : En → AH → Rs AV} {wv : TX → KE → Prop} {cl cl1 cl2 : Bool} {sk sk1 : Sk} {evs evs1 : En → AH → Rs (List AV)} {ws ws1 : TX → (List TD → TX → Prop) → Prop}
theorem jtn2_turn (ht : ∀ i ∈ tgS tg, i ∈ own) (ho : ∀ i ∈ own1, i ∈ own) (ht1 : ∀ i ∈ tgS tg1, i ∈ own1) (jc : JT cv cw cl) (js : JP evs1 ws1) (jc1 : JT cv1 cw1 cl2) (je : JE ev wv cl1) : JTn2 own e (turnB tg own own1 cv sk1 evs1 tg1 cv1 ev e) (turnTB tg own own1 cw sk1 ws1 tg1 cw1 wv) := by
  intro h x κ L M Lacc tacc d vacc t tv Q hs tvt r q
  unfold turnTB wBind at q
  cases eb : bindTT tg t (wipeT x.e own) with
  | none => rw [eb] at q; exact q.elim
  | some te2 =>
    rw [eb] at q
    obtain ⟨e2, L0, b1, c0, a0, l0, s0⟩ := turn_in hs tvt eb
    have s0' : ∀ i, i ∉ own → e2[i]? = e[i]? := fun i m => s0 i (fun z => m (ht i z)) m
    obtain ⟨b, h3, b', x3, κ3, L3, Lr3, e3, q3, hs3, ⟨rfl, rfl⟩, g3, _⟩ := jc e2 ⟨te2, x.c⟩ h κ L0 (Lacc ++ M) _ a0 q
    have lx : x.e.length = e.length := by
      have := enR_len hs.en
      rw [this]
      exact (wipeT_len own).symm
    have g30 : Go h κ L h3 κ3 L3 := (go_less c0).trans g3.drop
    have hs3' : Hs h3 e2 x3 κ3 L3 (Lacc ++ M) := hs3
    have r3 : RepL h3 (kl κ3 ++ (L3 ++ (Lacc ++ M))) κ3 tacc d vacc Lacc := holdR hs.ok hs.un g30 (fun n m => List.mem_append_left _ m) r
    unfold turnB
    rw [b1]
    dsimp only
    rw [e3]
    cases b with
    | false =>
      obtain ⟨L4, c4, a4⟩ := turn_out (own1 := []) (x4 := x3) hs3' (.inl rfl) l0 s0'
      refine ⟨vacc, h3, tacc, d, x3, κ3, L4, Lacc, rfl, q3, ?_, a4, repL_fr hs3.ok (fun n _ m z => m (mem_of_count (l := kl κ3 ++ (L4 ++ (Lacc ++ M))) (m := kl κ3 ++ (L3 ++ (Lacc ++ M))) (fun b => by have := c4 b; simp only [List.count_append]; omega) n z)) (KLe.refl _) (fun _ _ _ => rfl) (fun _ _ => rfl) r3, ?_⟩
      · have := enR_len hs3.en
        omega
      · exact (g30.more Lacc).weak (fun n m => m) fun n m => .inl (mem_of_count (l := L4 ++ Lacc) (m := L3 ++ Lacc) (fun b => by have := c4 b; simp only [List.count_append]; omega) n m)
    | true =>
      obtain ⟨ys, h4, us, x4, κ4, L4, Lr, e4, q4, hs4, rr, g4, _⟩ := js e2 x3 h3 κ3 L3 (Lacc ++ M) _ hs3' q3
      have rs := rp_share (M := Lacc ++ M) hs4 rr
      have hs4' : Hs h4 e2 x4 κ4 L4 (Lacc ++ M) := hs4.let
      obtain ⟨it, tt, es, q5, tvl, ck⟩ := srcT_ok hs4.ok rs q4
      have r4 : RepL h4 (kl κ4 ++ (L4 ++ (Lacc ++ M))) κ4 tacc d vacc Lacc := holdR hs3.ok hs3'.un g4.drop (fun n m => List.mem_append_left _ m) r3
      obtain ⟨L5, c5, a5⟩ := hs4'.wipe own1
      have hA5 : ∀ n, n ∈ kl κ4 ++ (L5 ++ (Lacc ++ M)) → n ∈ kl κ4 ++ (L4 ++ (Lacc ++ M)) := mem_of_count fun b => by have := c5 b; simp only [List.count_append]; omega
      obtain ⟨vacc', h6, tacc', d', x6, κ6, L6, Lacc', e6, q6, l6, hs6, r6, g6⟩ := comp_ok (M := M) (jtn_turn (own := own1) (e := e2) ht1 jc1 je) tt it.turns h4 x4 κ4 L5 Lacc tacc d vacc a5 (tvL_fr hs4.ok (fun n _ m z => m (hA5 n z)) (KLe.refl _) (fun _ _ _ => rfl) tvl) (ck_mono (fun _ _ _ => rfl) (Nat.le_refl _) (fun n _ m z => m (hA5 n z)) ck) (repL_fr hs4.ok (fun n _ m z => m (hA5 n z)) (KLe.refl _) (fun _ _ _ => rfl) (fun _ _ => rfl) r4) q5
      obtain ⟨L7, c7, a7⟩ := turn_out (own1 := own1) (x4 := x6) hs6 (.inr ⟨rfl, ho⟩) l0 s0'
      refine ⟨vacc', h6, tacc', d', x6, κ6, L7, Lacc', ?_, q6, ?_, a7, repL_fr hs6.ok (fun n _ m z => m (mem_of_count (l := kl κ6 ++ (L7 ++ (Lacc' ++ M))) (m := kl κ6 ++ (L6 ++ (Lacc' ++ M))) (fun b => by have := c7 b; simp only [List.count_append]; omega) n z)) (KLe.refl _) (fun _ _ _ => rfl) (fun _ _ => rfl) r6, ?_⟩
      · show ((evs1 e2 h3).bind fun ys h4 => match srcA sk1 h4 ys with
          | some it1 => compL it1.ck (turnA tg1 own1 cv1 ev e2) it1.turns h4 vacc
          | none => .no) = _
        rw [e4]
        show (match srcA sk1 h4 ys with
          | some it1 => compL it1.ck (turnA tg1 own1 cv1 ev e2) it1.turns h4 vacc
          | none => .no) = _
        rw [es]
        exact e6
      · have := enR_len hs4.en
        omega
      · have g45 : Go h κ L h4 κ4 L5 := (g30.trans g4.drop).weak (fun n m => m) fun n m => .inl (mem_of_count c5 n m)
        exact ((g45.more Lacc).trans g6).weak (fun n m => m) fun n m => .inl (mem_of_count (l := L7 ++ Lacc') (m := L6 ++ Lacc') (fun b => by have := c7 b; simp only [List.count_append]; omega) n m)
/-- the whole: the loop L makes the items, then the new list stands, the slots are put back -/
theorem lc_all {Q : KE} {run : AH → Rs (List AV)} {P : TX → (List TV → Nat → TX → Prop) → Prop} (hn : nodupB own = true) (hs : Hs h1 e x κ1 L1 M)
    (loop : ∀ (Lw Ld : List Nat) (Q : List TV → Nat → TX → Prop), Hs h1 e ⟨wipeT x.e own, x.c⟩ κ1 Lw (Ld ++ M) → (∀ b, L1.count b = Lw.count b + Ld.count b) → P x Q → ∃ vacc' h' tacc' d' x' κ' L' Lacc', run h1 = .ok vacc' h' ∧ Q tacc' d' x' ∧ x'.e.length = x.e.length ∧ Hs h' e ⟨wipeT x'.e own, x'.c⟩ κ' L' (Lacc' ++ (Ld ++ M)) ∧ RepL h' (kl κ' ++ (L' ++ (Lacc' ++ (Ld ++ M)))) κ' tacc' d' vacc' Lacc' ∧ Go h1 κ1 Lw h' κ' (L' ++ Lacc'))
    (q : P x fun acc d x2 => Q (.lst acc, d + 1) ⟨backT x.e (wipeT x2.e own) own, x2.c⟩) {x0 : TX} {h0 : AH} {κ0 : KA} {L0 : List Nat} (g0 : Go h0 κ0 L0 h1 κ1 L1) : Res RV false h0 x0 κ0 L0 M e Q (finL (run h1)) := by
  obtain ⟨Lw, Ld, c, a, sv⟩ := hs.aside own hn
  obtain ⟨vacc, h2, tacc, d, x2, κ2, L2, Lacc, e2, q2, l2, hs2, r2, g2⟩ := loop Lw Ld _ a c q
  obtain ⟨a1, a2, a3⟩ := new_lst (M := Ld ++ M) hs2 (fun n => Nat.le_refl _) r2
  rw [e2]
  have gw : Go h1 κ1 Lw (h2.push (.lst vacc)) κ2 (L2 ++ (h2.sz :: Lacc)) := g2.trans a3
  have inL : ∀ n ∈ kl κ1 ++ Lw, n ∈ kl κ1 ++ (L1 ++ M) := mem_of_count fun n => by
    have := c n
    simp only [List.count_append]
    omega
  have sv2 : Sav (h2.push (.lst vacc)) (kl κ2 ++ (L2 ++ (Ld ++ ((h2.sz :: Lacc) ++ M)))) κ2 e x.e own Ld := by
    refine sav_fr hs.ok (go_not gw (X := Ld ++ M) (fun n m => mem_of_count (l := Ld ++ M) (m := kl κ1 ++ (L1 ++ M)) (fun b => by have := c b; simp only [List.count_append]; omega) n m) inL fun n m => ?_) gw.kk (go_get gw inL) sv fun n m => gw.fr n (sav_in hs.ok sv n m) fun i => ?_
    · simp only [List.mem_append] at m ⊢
      rcases m with m | m | m | m | m
      · exact .inl (.inl m)
      · exact .inl (.inr (.inl m))
      · exact .inr (.inl m)
      · exact .inl (.inr (.inr m))
      · exact .inr (.inr m)
    · have := hs.un n
      have := c n
      have a := List.count_pos_iff.mpr m
      have b := List.count_pos_iff.mpr i
      simp only [List.count_append] at *
      omega
  obtain ⟨L3, c3, a4, _, _⟩ := Hs.back (te0 := x.e) (y := wipeT x2.e own) (own := own) (M := (h2.sz :: Lacc) ++ M) (a1.less fun n => by simp only [List.count_append]; omega) (fun i m => by rw [slot_wipe, if_pos m]) hn (by rw [wipeT_len, l2]) sv2
  refine ⟨_, _, (.lst tacc, d + 1), ⟨backT x.e (wipeT x2.e own) own, x2.c⟩, κ2, L3, h2.sz :: Lacc, rfl, q2, a4, rep_A a1.ok (mem_of_count fun n => by have := c3 n; simp only [List.count_append]; omega) a2, ?_, fun z => by cases z⟩
  refine g0.trans ((gw.more Ld).weak (fun n m => mem_of_count (l := Lw ++ Ld) (m := L1) (fun b => by have := c b; simp only [List.count_append]; omega) n m) fun n m => .inl (mem_of_count (l := L3 ++ (h2.sz :: Lacc)) (m := (L2 ++ (h2.sz :: Lacc)) ++ Ld) (fun b => by have := c3 b; simp only [List.count_append]; omega) n m))
theorem gd_of {b : Bool} {P : Prop} (q : gd b P) : b = true ∧ P := by
  cases b
  · exact q.elim
  · exact ⟨rfl, q⟩
theorem je_lcT (js : JP evs ws) (jc : JT cv cw cl) (je : JE ev wv cl1) : JE (fun e h => (evs e h).bind fun xs h1 => match srcA sk h1 xs with
    | some it => finL (compL it.ck (turnA tg own cv ev e) it.turns h1 [])
    | none => .no) (fun x Q => gd (nodupB own && insB (tgS tg) own) (ws x fun us x1 => wSrc sk (us.map (·.1)) fun ts => wComp (turnTA tg own cw wv) (fun acc d x2 => Q (.lst acc, d + 1) ⟨backT x1.e (wipeT x2.e own) own, x2.c⟩) ts x1 [] 9)) false := fun e x h κ L M Q hs q => by
  obtain ⟨hb, q⟩ := gd_of q
  have hn := andl hb
  have ht := insB_of (andr hb)
  refine (js e x h κ L M _ hs q).bnd fun vs h1 us x1 κ1 L1 Lr q1 hs1 rr g ex => ?_
  obtain ⟨it, tt, es, q2, tvl, ck⟩ := srcT_ok hs1.ok (rp_share hs1 rr) q1
  rw [es]
  refine lc_all (own := own) (run := fun h => compL it.ck (turnA tg own cv ev e) it.turns h []) (P := fun x Q => wComp (turnTA tg own cw wv) Q tt x [] 9) hn hs1.let (fun Lw Ld Q a c q => ?_) q2 g.drop
  have hA : ∀ n, n ∈ kl κ1 ++ (Lw ++ ([] ++ (Ld ++ M))) → n ∈ kl κ1 ++ (L1 ++ M) := mem_of_count fun n => by
    have := c n
    simp only [List.count_append, List.count_nil]
    omega
  obtain ⟨vacc', h', tacc', d', x', κ', L', Lacc', b1, b2, b3, b4, b5, b6⟩ := comp_ok (M := Ld ++ M) (jtn_turn (own := own) (e := e) ht jc je) tt it.turns h1 x1 κ1 Lw [] [] 9 [] a (tvL_fr hs1.ok (fun n _ m z => m (hA n z)) (KLe.refl _) (fun _ _ _ => rfl) tvl) (ck_mono (fun _ _ _ => rfl) (Nat.le_refl _) (fun n _ m z => m (hA n z)) ck) ⟨rfl, rfl⟩ q
  exact ⟨vacc', h', tacc', d', x', κ', L', Lacc', b1, b2, b3, b4, b5, by simpa using b6⟩
theorem je_lc2T (js : JP evs ws) (jc : JT cv cw cl) (js1 : JP evs1 ws1) (jc1 : JT cv1 cw1 cl2) (je : JE ev wv cl1) : JE (fun e h => (evs e h).bind fun xs h1 => match srcA sk h1 xs with
    | some it => finL (compL2 it.ck (turnB tg own own1 cv sk1 evs1 tg1 cv1 ev e) it.turns h1 [])
    | none => .no) (fun x Q => gd (nodupB own && insB (tgS tg) own && insB own1 own && insB (tgS tg1) own1) (ws x fun us x1 => wSrc sk (us.map (·.1)) fun ts => wComp2 (turnTB tg own own1 cw sk1 ws1 tg1 cw1 wv) (fun acc d x2 => Q (.lst acc, d + 1) ⟨backT x1.e (wipeT x2.e own) own, x2.c⟩) ts x1 [] 9)) false := fun e x h κ L M Q hs q => by
  obtain ⟨hb, q⟩ := gd_of q
  have hn := andl (andl (andl hb))
  have ht := insB_of (andr (andl (andl hb)))
  have ho := insB_of (andr (andl hb))
  have ht1 := insB_of (andr hb)
  refine (js e x h κ L M _ hs q).bnd fun vs h1 us x1 κ1 L1 Lr q1 hs1 rr g ex => ?_
  obtain ⟨it, tt, es, q2, tvl, ck⟩ := srcT_ok hs1.ok (rp_share hs1 rr) q1
  rw [es]
  refine lc_all (own := own) (run := fun h => compL2 it.ck (turnB tg own own1 cv sk1 evs1 tg1 cv1 ev e) it.turns h []) (P := fun x Q => wComp2 (turnTB tg own own1 cw sk1 ws1 tg1 cw1 wv) Q tt x [] 9) hn hs1.let (fun Lw Ld Q a c q => ?_) q2 g.drop
  have hA : ∀ n, n ∈ kl κ1 ++ (Lw ++ ([] ++ (Ld ++ M))) → n ∈ kl κ1 ++ (L1 ++ M) := mem_of_count fun n => by
    have := c n
    simp only [List.count_append, List.count_nil]
    omega
  obtain ⟨vacc', h', tacc', d', x', κ', L', Lacc', b1, b2, b3, b4, b5, b6⟩ := comp2_ok (M := Ld ++ M) (jtn2_turn (own := own) (e := e) ht ho ht1 jc js1 jc1 je) tt it.turns h1 x1 κ1 Lw [] [] 9 [] a (tvL_fr hs1.ok (fun n _ m z => m (hA n z)) (KLe.refl _) (fun _ _ _ => rfl) tvl) (ck_mono (fun _ _ _ => rfl) (Nat.le_refl _) (fun n _ m z => m (hA n z)) ck) ⟨rfl, rfl⟩ q
  exact ⟨vacc', h', tacc', d', x', κ', L', Lacc', b1, b2, b3, b4, b5, by simpa using b6⟩
end
end EV

/-! EvZka: lambdas over trees. -/
namespace EV
open PySem
/-- what a lambda that was handed owes -/
def AppS (C : Cs) (CT : CTs) : Prop := ∀ n e ts h κ c M Q, OkH h → StR h c κ → Un (kl κ ++ M) → (∀ n ∈ M, n < h.sz) → RepE h (kl κ ++ M) κ ts e → CT.app n e ts c Q → Owed (C.app n h) h κ M Q
/-- what a def owes that is handed lambdas -/
def ClS (C : Cs) (CT : CTs) : Prop := ∀ ls e te k ts vs h κ c M Q, OkH h → StR h c κ → Un (kl κ ++ M) → (∀ n ∈ M, n < h.sz) → RepL h (kl κ ++ M) κ ts 0 vs [] → RepE h (kl κ ++ M) κ te e →
  (∀ n e', CT.cl ls n e' te k (ts ++ (List.range ls.length).map fun j => .fn (n + j) e' te) c Q) → Owed (C.cl ls e h.sz k (vs ++ argL h.sz ls.length) (h.pushL e ls.length)) h κ M Q
section
variable {h h1 : AH} {A A' : List Nat} {κ : KA}
/-- the slots shared -/
theorem enR_lowE : ∀ {e : En} {te : TEn} {L : List Nat}, EnR h A κ e te L → L.Nodup → (∀ n ∈ A', n ∈ A) → (∀ n ∈ L, n ∉ A') → EnR h A' κ e (lowE te) [] ∧ RepE h A' κ (teTo te) e
  | [], [], L, r, nd, h1, h2 => ⟨rfl, rfl⟩
  | o :: e, u :: te, L, ⟨L1, L2, eL, s, r⟩, nd, h1, h2 => by
    subst eL
    rw [List.nodup_append] at nd
    obtain ⟨a, b⟩ := enR_lowE r nd.2.1 h1 fun n m => h2 n (List.mem_append_right _ m)
    cases u with
    | none => exact ⟨⟨[], [], rfl, rfl, a⟩, o, e, rfl, b⟩
    | some td =>
      obtain ⟨t, d⟩ := td
      obtain ⟨v, rfl, rr⟩ := s
      have sh := rep_share rr nd.1 h1 fun n m => h2 n (List.mem_append_left _ m)
      exact ⟨⟨[], [], rfl, ⟨v, rfl, sh⟩, a⟩, v, e, rfl, sh, b⟩
  | [], _ :: _, _, r, _, _, _ => r.elim
  | _ :: _, [], _, r, _, _, _ => r.elim
theorem enR_teOf : ∀ {e : En} {ts : List TV}, RepE h A κ ts e → EnR h A κ e (teOf ts) []
  | e, [], r => by
    have r : e = [] := r
    subst r
    rfl
  | e, t :: ts, r => by
    cases t <;> first | exact r.elim | skip
    · obtain ⟨o, os, rfl, r⟩ := r
      exact ⟨[], [], rfl, rfl, enR_teOf r⟩
    · obtain ⟨v, os, rfl, a, r⟩ := r
      exact ⟨[], [], rfl, ⟨v, rfl, a⟩, enR_teOf r⟩
end
theorem Hs.lowAll {h : AH} {e : En} {x : TX} {κ : KA} {L M : List Nat} (a : Hs h e x κ L M) : Hs h e ⟨lowE x.e, x.c⟩ κ [] M ∧ RepE h (kl κ ++ M) κ (teTo x.e) e := by
  have nd : L.Nodup := un_nd fun n => by
    have := a.un n
    simp only [List.count_append] at this
    omega
  obtain ⟨h1, h2⟩ := enR_lowE (A' := kl κ ++ M) a.en nd (mem_of_count fun n => by simp only [List.count_append]; omega) fun n m i => by
    have := a.un n
    have b := List.count_pos_iff.mpr m
    have c := List.count_pos_iff.mpr i
    simp only [List.count_append] at this c
    omega
  exact ⟨⟨a.ok, a.st, fun n => by have := a.un n; simp only [List.count_append, List.nil_append] at *; omega, h1, a.lt⟩, h2⟩
theorem je_app {C : Cs} {CT : CTs} (hA : AppS C CT) {i : Nat} : JE (evE C (.app i)) (fun x Q => match slot x.e i with
    | some (.fn n e ts, _) => CT.app n e ts x.c fun r c => Q r ⟨x.e, c⟩
    | _ => False) false := fun e x h κ L M Q hs q => by
  dsimp only at q
  cases hsl : slot x.e i with
  | none => rw [hsl] at q; exact q.elim
  | some td =>
    obtain ⟨t, d⟩ := td
    rw [hsl] at q
    cases t <;> first | exact q.elim | skip
    rename_i n e0 ts
    obtain ⟨v, L1, L2, e1, hc, r, _⟩ := enR_take hs.en hsl
    obtain ⟨⟨rfl, g, na⟩, eL, rE⟩ := r
    have ev : evE C (.app i) e h = C.app n h := by
      show (match (e[i]?).getD none with
        | some (.ref n) => match h.get n with
          | some (.clo _) => C.app n h
          | _ => .no
        | _ => .no) = _
      rw [e1]
      dsimp only [Option.getD_some]
      rw [g]
    rw [ev]
    exact res_call hs (Go.refl _ _ _) (hA n e0 ts h κ x.c (L ++ M) _ hs.ok hs.st hs.un (fun n m => hs.hot n (List.mem_append_right _ m)) rE q)
theorem je_calll {C : Cs} {CT : CTs} (hL : ClS C CT) {k : Nat} {es ls : List E} (js : JP (evEs C es) (wEs CT es)) : JE (evE C (.calll k es ls)) (fun x Q => wEs CT es x fun us x1 => ∀ n e, CT.cl ls n e (teTo x1.e) k (us.map (·.1) ++ (List.range ls.length).map fun j => .fn (n + j) e (teTo x1.e)) x1.c fun r c => Q r ⟨lowE x1.e, c⟩) false := fun e x h κ L M Q hs q => by
  refine (js e x h κ L M _ hs q).bnd fun vs h1 us x1 κ1 L1 Lr q1 hs1 rr g ex => ?_
  have sh := rp_share hs1 rr
  have hs2 := hs1.let
  obtain ⟨hs3, rE⟩ := hs2.lowAll
  have sh2 : RepL h1 (kl κ1 ++ M) κ1 (us.map (·.1)) 0 vs [] := repL_fr hs1.ok (fun n l m i => m (mem_of_count (fun n => by simp only [List.count_append]; omega) n i)) (KLe.refl _) (fun _ _ _ => rfl) (fun _ _ => rfl) sh
  refine res_call (x1 := ⟨lowE x1.e, x1.c⟩) (L1 := []) hs3 (g.drop.weak (fun n m => m) fun n m => by cases m) ?_
  have un : Un (kl κ1 ++ M) := fun n => by have := hs3.un n; simpa using this
  have := hL ls e (teTo x1.e) k (us.map (·.1)) vs h1 κ1 x1.c M _ hs1.ok hs1.st un (fun n m => hs3.lt n m) sh2 rE q1
  simpa using this
end EV

/-! EvZl: every expression. -/
namespace EV
open PySem
section
variable {C : Cs} {CT : CTs}
structure J3 (C : Cs) (CT : CTs) (p : E) : Prop where
  e : JE (evE C p) (wP CT p).e (calm p)
  t : JT (evT C p) (wP CT p).t (calm p)
  l : JL p (evE C p) (wP CT p).l (calm p)
theorem j_by {p : E} {f : TX → KE → Prop} (hp : wP CT p = .by f) (ht : evT C p = fun e h => (evE C p e h).bind fun x h1 => tru h1 x) (je : JE (evE C p) f (calm p)) : J3 C CT p := by
  refine ⟨?_, ?_, ?_⟩
  · rw [hp]; exact je
  · rw [hp, ht]; exact jt_of je
  · rw [hp]; exact jl_of je
theorem j_lk {p : E} {f : TX → (TV → TX → Prop) → Prop} (hp : wP CT p = .lk p f) (ht : evT C p = fun e h => (evE C p e h).bind fun x h1 => tru h1 x) (jl : JL p (evE C p) f (calm p)) : J3 C CT p := by
  refine ⟨?_, ?_, ?_⟩
  · rw [hp]; exact je_done jl
  · rw [hp, ht]; exact jt_lk jl
  · rw [hp]; exact jl
theorem j_tt {p : E} {f : TX → KE → Prop} {g : TX → KT → Prop} (hp : wP CT p = .tt f g) (je : JE (evE C p) f (calm p)) (jt : JT (evT C p) g (calm p)) : J3 C CT p := by
  refine ⟨?_, ?_, ?_⟩
  · rw [hp]; exact je
  · rw [hp]; exact jt
  · rw [hp]; exact jl_of je
theorem j_no {p : E} (hp : wP CT p = .no) : J3 C CT p := by
  refine ⟨?_, ?_, ?_⟩
  · rw [hp]; exact fun _ _ _ _ _ _ _ _ q => q.elim
  · rw [hp]; exact jt_no0
  · rw [hp]; exact jl_no
theorem evEs_len2 : ∀ (es : List E) (e : En) (h : AH) (xs : List AV) (h' : AH), evEs C es e h = .ok xs h' → xs.length = es.length
  | [], env, h, xs, h', e => by cases e; rfl
  | p :: ps, env, h, xs, h', e => by
    have e : ((evE C p env h).bind fun x h1 => (evEs C ps env h1).bind fun xs h2 => Rs.ok (x :: xs) h2) = .ok xs h' := e
    cases e1 : evE C p env h with
    | exc _ _ _ => rw [e1] at e; cases e
    | no => rw [e1] at e; cases e
    | ok v h1 =>
      rw [e1] at e
      have e : ((evEs C ps env h1).bind fun xs h2 => Rs.ok (v :: xs) h2) = .ok xs h' := e
      cases e2 : evEs C ps env h1 with
      | exc _ _ _ => rw [e2] at e; cases e
      | no => rw [e2] at e; cases e
      | ok ys h2 =>
        rw [e2] at e
        cases e
        show ys.length + 1 = ps.length + 1
        rw [evEs_len2 ps env h1 ys h' e2]
theorem jt_weak {ev : En → AH → Rs Bool} {wv : TX → KT → Prop} {cl : Bool} (j : JT ev wv cl) : JT ev wv false := fun e x h κ L M Q hs q => (j e x h κ L M Q hs q).wk fun z => by cases z
variable (hC : CallS C CT) (hA : AppS C CT) (hL : ClS C CT)
include hC hA hL
mutual
theorem jP : ∀ p : E, J3 C CT p
  | .bad => j_no rfl
  | .k c => j_by rfl rfl je_k
  | .var i m => by
    cases m with
    | rd => exact j_lk rfl rfl (jl_var rfl)
    | bo => exact j_lk rfl rfl (jl_var rfl)
    | mv => exact j_by rfl rfl je_mv
  | .glo k => j_no rfl
  | .bin op a b => j_by rfl rfl (je_bin (jP a).e (jP b).e)
  | .neg a => j_by rfl rfl (je_neg (jP a).e)
  | .no a => j_tt rfl (je_noL (jP a).l) (jt_no (jP a).t)
  | .an a b => j_tt rfl (je_an (jP a).e (jP b).e) (jt_an (jP a).t (jP b).t)
  | .orr a b => j_tt rfl (je_orr (jP a).e (jP b).e) (jt_orr (jP a).t (jP b).t)
  | .ite c a b => j_tt rfl (je_ite (jP c).t (jP a).e (jP b).e) jt_no0
  | .cmp op a b => j_by rfl rfl (je_cmp (jP a).e (jP a).l (jP b).l)
  | .cmp2 op op' a b c => j_by rfl rfl (je_cmp2 (jP a).e (jP b).e (jP c).e)
  | .ix a b => by
    have ja := jP a
    have jb := jP b
    cases hm : mvV a with
    | some i =>
      have hc : calm (.ix a b) = false := by
        cases a <;> first | cases hm; done | skip
        rename_i j m
        cases m <;> first | cases hm; done | rfl
      refine j_by (f := fun x Q => (wP CT a).e x fun u x1 => (wP CT b).l x1 fun v x2 => wIx u.1 v fun t => Q (t, u.2 - 1) x2) (by show (match mvV a with | some _ => _ | none => _) = _; rw [hm]) rfl ?_
      rw [hc]
      exact je_ixmv ja.e jb.l
    | none =>
    refine j_lk (by show (match mvV a with | some _ => _ | none => _) = _; rw [hm]) rfl ?_
    have std : JL (.ix a b) (evE C (.ix a b)) (fun x Q => two b (wP CT a) (wP CT b) x fun u v x1 => wIx u v fun t => Q t x1) (calm (.ix a b)) := jl_ix ja.e ja.l jb.l
    cases hr : rootV a with
    | none => exact std
    | some i =>
      cases hc : calm b with
      | true => exact std
      | false =>
        cases a <;> first | cases hr; done | skip
        rename_i j m
        cases m with
        | mv => cases hr
        | rd =>
          cases hr
          exact jl_ixV (ca := calm (.var i .rd)) rfl hc jb.l
        | bo =>
          cases hr
          exact jl_ixV (ca := calm (.var i .bo)) rfl hc jb.l
  | .sl a lo hi => j_by rfl rfl (je_sl (jP a).e (jO lo) (jO hi))
  | .rev a => j_by rfl rfl (je_rev (jP a).e (jP a).l)
  | .lst es => by
    refine j_by rfl rfl ?_
    cases es with
    | cons e es => exact je_lst (jEs (e :: es))
    | nil =>
      intro e x h κ L M Q hs q
      have q : 0 ≤ sizeLine ∧ Q (.lst [], 10) x := q
      have r := je_nil (cl := true) e x h κ L M Q hs q.2
      have e1 : evE C (.lst []) e h = (if ([] : List AV).length ≤ sizeLine then newA h (.lst []) else .no) := rfl
      rw [if_pos (show ([] : List AV).length ≤ sizeLine from Nat.zero_le _)] at e1
      rw [e1]
      exact r
  | .tup es => j_by rfl rfl (je_tup (jEs es))
  | .lstS fs es => j_by rfl rfl (je_lst (jFs fs es))
  | .lrg1 a => j_by rfl rfl (je_lrg1 (jP a).e)
  | .lrg2 a b => j_by rfl rfl (je_lrg2 (jP a).e (jP b).e)
  | .dnew t => j_no rfl
  | .disp ks vs => j_no rfl
  | .call k es => j_by rfl rfl (je_call hC (jEs es))
  | .app i => j_by rfl rfl (je_app hA)
  | .calll k es ls => j_by rfl rfl (je_calll hL (jEs es))
  | .callk k es ks pm => j_by rfl rfl (je_callk hC (jEs es) (jEs ks) (evEs_len2 es) (evEs_len2 ks))
  | .bi b es => by
    rcases es with _ | ⟨a, _ | ⟨a2, as_⟩⟩
    · exact j_no rfl
    · have ja := jP a
      cases hb : isTk b with
      | true =>
        cases hr : root a with
        | some il =>
          refine j_by (by show (match isTk b with | true => (match root a with | some _ => _ | none => _) | false => _) = _; rw [hb, hr]) rfl ?_
          show JE _ _ (!isTk b && calm a)
          rw [hb]
          exact je_take hb ja.e ja.l
        | none =>
          refine j_by (by show (match isTk b with | true => (match root a with | some _ => _ | none => _) | false => _) = _; rw [hb, hr]) rfl ?_
          show JE _ _ (!isTk b && calm a)
          rw [hb]
          exact je_takeD hb ja.e
      | false =>
        refine j_by (by show (match isTk b with | true => _ | false => _) = _; rw [hb]) rfl ?_
        show JE _ _ (!isTk b && calm a)
        rw [hb]
        exact je_look ja.l
    · exact j_no rfl
  | .isi a ts => j_by rfl rfl (je_isi (jP a).l)
  | .mt m o es => by
    have jo := jP o
    have js := jEs es
    cases hm : isLk m with
    | true =>
      refine j_by (by show (match isLk m with | true => _ | false => _) = _; rw [hm]) rfl ?_
      exact je_mlook hm jo.e js
    | false =>
      cases hr : rootV o with
      | none => exact j_no (by show (match isLk m with | true => _ | false => _) = _; rw [hm]; dsimp only; rw [hr])
      | some i =>
        refine j_by (by show (match isLk m with | true => _ | false => _) = _; rw [hm]; dsimp only; rw [hr]) rfl ?_
        cases o <;> first | cases hr; done | skip
        rename_i j mo
        cases mo with
        | mv => cases hr
        | rd => cases hr; exact je_mchg hm js
        | bo => cases hr; exact je_mchg hm js
  | .lc own elt tg sk src cond => j_by rfl rfl (je_lcT (jEs src) (jC cond) (jP elt).e)
  | .lc2 own own1 elt tg sk src cond tg1 sk1 src1 cond1 => j_by rfl rfl (je_lc2T (jEs src) (jC cond) (jEs src1) (jC cond1) (jP elt).e)
theorem jC : ∀ o : Option E, JT (evC C o) (wC CT o) false
  | none => fun e x h κ L M Q hs q => Res.mk0 (R := RC) (b := true) hs (Go.refl _ _ _) (fun c => by cases c) q ⟨rfl, rfl⟩
  | some p => jt_weak (jP p).t
theorem jO : ∀ o : Option E, JO (evO C o) (wO CT o)
  | none => jo_none
  | some p => jo_some (jP p).e
theorem jFs : ∀ (fs : List Bool) (es : List E), JP (evFs C fs es) (wFs CT fs es)
  | fs, [] => jp_nil
  | fs, p :: ps => by
    cases hf : fs.headD false with
    | true =>
      rw [evFs_t C hf, wFs_t hf]
      exact jp_star (jP p).e (jP p).l (jFs fs.tail ps)
    | false =>
      rw [evFs_f C hf, wFs_f hf]
      exact jp_cons (jP p).e (jFs fs.tail ps)
theorem jEs : ∀ es : List E, JP (evEs C es) (wEs CT es)
  | [] => jp_nil
  | p :: ps => jp_cons (jP p).e (jEs ps)
end
end
end EV

/-! EvZm: statements. -/
namespace EV
open PySem
section
/-- an answer handed out -/
def RtOk (h : AH) (κ : KA) (L M : List Nat) (P : TD → Option Nat → Prop) (v : AV) (h' : AH) : Prop := ∃ u c' κ' Lr, P u c' ∧ OkH h' ∧ StR h' c' κ' ∧ Un (kl κ' ++ (Lr ++ M)) ∧ (∀ n ∈ Lr, n < h'.sz) ∧ Rep h' (kl κ' ++ (Lr ++ M)) κ' u.1 u.2 v Lr ∧ Go h κ L h' κ' Lr
def NxOk (h : AH) (κ : KA) (L M : List Nat) (P : TX → Prop) (e' : En) (h' : AH) : Prop := ∃ x' κ' L', P x' ∧ Hs h' e' x' κ' L' M ∧ Go h κ L h' κ' L'
def ResS (h : AH) (κ : KA) (L M : List Nat) (D : KS) : Rt → Prop
  | .nx e' h' => NxOk h κ L M D.nx e' h'
  | .rt v h' => RtOk h κ L M D.rt v h'
  | .bk e' h' => NxOk h κ L M D.bk e' h'
  | .ct e' h' => NxOk h κ L M D.ct e' h'
  | .exc _ _ _ _ => False
  | .no => False
def JS (ev : En → AH → Rt) (wv : TX → KS → Prop) : Prop := ∀ e x h κ L M D, Hs h e x κ L M → wv x D → ResS h κ L M D (ev e h)
variable {h h' h1 : AH} {A A' : List Nat} {κ κ' κ1 : KA} {L L' L1 M N Lr : List Nat} {e e1 e2 : En} {x x1 : TX} {D : KS}
theorem ResS.up {r : Rt} (g : Go h κ L h1 κ1 L1) (a : ResS h1 κ1 L1 M D r) : ResS h κ L M D r := by
  cases r with
  | nx e' h' => obtain ⟨x', κ', L', p, hs, g2⟩ := a; exact ⟨x', κ', L', p, hs, g.trans g2⟩
  | rt v h' => obtain ⟨u, c', κ', Lr, p, a1, a2, a3, a4, a5, g2⟩ := a; exact ⟨u, c', κ', Lr, p, a1, a2, a3, a4, a5, g.trans g2⟩
  | bk e' h' => obtain ⟨x', κ', L', p, hs, g2⟩ := a; exact ⟨x', κ', L', p, hs, g.trans g2⟩
  | ct e' h' => obtain ⟨x', κ', L', p, hs, g2⟩ := a; exact ⟨x', κ', L', p, hs, g.trans g2⟩
  | exc _ _ _ _ => exact a
  | no => exact a
variable {ev ev1 ev2 : En → AH → Rs AV} {wv wv1 wv2 : TX → KE → Prop} {cl cl1 cl2 : Bool} {sb sb2 : En → AH → Rt} {bw bw2 : TX → KS → Prop} {mu : List Nat}
theorem js_no {ev : En → AH → Rt} : JS ev (fun _ _ => False) := fun _ _ _ _ _ _ _ _ q => q.elim
theorem js_set {i : Nat} (j : JE ev wv cl) : JS (fun e h => ofE e (ev e h) fun v h1 => .nx (e.set i (some v)) h1) (fun x D => wv x fun u x1 => D.nx (x1.put i (some (keep mu i u)))) := fun e x h κ L M D hs q => by
  obtain ⟨v, h1, u, x1, κ1, L1, Lr, e1, q1, hs1, rr, g, _⟩ := j e x h κ L M _ hs q
  dsimp only
  rw [e1]
  unfold keep at q1
  cases hm : mu.contains i with
  | true =>
    rw [hm] at q1
    obtain ⟨L', c, a⟩ := Hs.set hs1 (t := u.1) (d := u.2) rr i
    exact ⟨_, κ1, L', q1, a, g.weak (fun n m => m) fun n m => .inl (mem_of_count (l := L') (m := L1 ++ Lr) (fun b => by have := c b; simp only [List.count_append]; omega) n m)⟩
  | false =>
    rw [hm] at q1
    obtain ⟨L', c, a⟩ := hs1.let.set0 (shareT hs1 rr) i
    exact ⟨_, κ1, L', q1, a, g.drop.weak (fun n m => m) fun n m => .inl (mem_of_count c n m)⟩
theorem js_ex (j : JE ev wv cl) : JS (fun e h => ofE e (ev e h) fun _ h1 => .nx e h1) (fun x D => wv x fun _ x1 => D.nx x1) := fun e x h κ L M D hs q => by
  obtain ⟨v, h1, u, x1, κ1, L1, Lr, e1, q1, hs1, rr, g, _⟩ := j e x h κ L M _ hs q
  dsimp only
  rw [e1]
  exact ⟨x1, κ1, L1, q1, hs1.let, g.drop⟩
theorem js_ret (j : JE ev wv cl) : JS (fun e h => ofE e (ev e h) fun v h1 => .rt v h1) (fun x D => wv x fun u x1 => D.rt u x1.c) := fun e x h κ L M D hs q => by
  obtain ⟨v, h1, u, x1, κ1, L1, Lr, e1, q1, hs1, rr, g, _⟩ := j e x h κ L M _ hs q
  dsimp only
  rw [e1]
  refine ⟨u, x1.c, κ1, Lr, q1, hs1.ok, hs1.st, fun b => ?_, fun n m => hs1.lt n (List.mem_append_left _ m), rep_A hs1.ok (mem_of_count fun b => by simp only [List.count_append]; omega) rr, g.weak (fun n m => m) fun n m => .inl (List.mem_append_right _ m)⟩
  have := hs1.un b
  simp only [List.count_append] at *
  omega
theorem js_retn : JS (fun _ h => .rt .non h) (fun x D => D.rt (.non, 9) x.c) := fun e x h κ L M D hs q => by
  refine ⟨(.non, 9), x.c, κ, [], q, hs.ok, hs.st, fun b => ?_, (fun n m => by cases m), ⟨rfl, rfl⟩, (Go.refl h κ L).weak (fun n m => m) (fun n m => by cases m)⟩
  have := hs.un b
  simp only [List.count_append, List.nil_append] at *
  omega
theorem js_iff {tv : En → AH → Rs Bool} {tw : TX → KT → Prop} (jc : JT tv tw cl) (j1 : JS sb bw) (j2 : JS sb2 bw2) : JS (fun e h => ofE e (tv e h) fun t h1 => if t then sb e h1 else sb2 e h1) (fun x D => tw x fun t x1 => br t (bw x1 D) (bw2 x1 D)) := fun e x h κ L M D hs q => by
  obtain ⟨v, h1, u, x1, κ1, L1, Lr, e1, q1, hs1, ⟨rfl, rfl⟩, g, _⟩ := jc e x h κ L M _ hs q
  dsimp only
  rw [e1]
  cases v with
  | true => exact (j1 e x1 h1 κ1 L1 M D hs1 q1).up g.drop
  | false => exact (j2 e x1 h1 κ1 L1 M D hs1 q1).up g.drop
theorem js_nil : JS (fun e h => .nx e h) (fun x D => D.nx x) := fun e x h κ L M D hs q => ⟨x, κ, L, q, hs, Go.refl _ _ _⟩
theorem js_brk : JS (fun e h => .bk e h) (fun x D => D.bk x) := fun e x h κ L M D hs q => ⟨x, κ, L, q, hs, Go.refl _ _ _⟩
theorem js_cnt : JS (fun e h => .ct e h) (fun x D => D.ct x) := fun e x h κ L M D hs q => ⟨x, κ, L, q, hs, Go.refl _ _ _⟩
theorem js_cons (j1 : JS sb bw) (j2 : JS sb2 bw2) : JS (fun e h => match sb e h with
    | .nx e1 h1 => sb2 e1 h1
    | r => r) (fun x D => bw x ⟨fun x1 => bw2 x1 D, D.rt, D.bk, D.ct⟩) := fun e x h κ L M D hs q => by
  have a := j1 e x h κ L M _ hs q
  dsimp only
  cases es : sb e h with
  | nx e1 h1 =>
    rw [es] at a
    obtain ⟨x', κ', L', p, hs', g⟩ := a
    exact (j2 e1 x' h1 κ' L' M D hs' p).up g
  | rt v h' => rw [es] at a; exact a
  | bk e1 h1 => rw [es] at a; exact a
  | ct e1 h1 => rw [es] at a; exact a
  | exc _ _ _ _ => rw [es] at a; exact a
  | no => rw [es] at a; exact a
theorem js_whl {tv : En → AH → Rs Bool} {tw : TX → KT → Prop} (jc : JT tv tw cl) (j : JS sb bw) : ∀ W : Nat, JS (fun e h => whlL tv sb W e h) (fun x D => wWhl tw bw D W x)
  | 0 => fun _ _ _ _ _ _ _ _ q => q.elim
  | W + 1 => fun e x h κ L M D hs q => by
    obtain ⟨v, h1, u, x1, κ1, L1, Lr, e1, q1, hs1, ⟨rfl, rfl⟩, g, _⟩ := jc e x h κ L M _ hs q
    have hs1 : Hs h1 e x1 κ1 L1 M := hs1
    have g := g.drop
    show ResS h κ L M D (whlL tv sb (W + 1) e h)
    unfold whlL
    rw [e1]
    cases v with
    | false => exact ⟨x1, κ1, L1, q1, hs1, g⟩
    | true =>
      have a := j e x1 h1 κ1 L1 M _ hs1 q1
      dsimp only
      cases es : sb e h1 with
      | nx e2 h2 =>
        rw [es] at a
        obtain ⟨x', κ', L', p, hs', g2⟩ := a
        exact (js_whl jc j W e2 x' h2 κ' L' M D hs' p).up (g.trans g2)
      | rt v h' => rw [es] at a; exact ResS.up (r := .rt v h') g a
      | bk e2 h2 => rw [es] at a; exact ResS.up (r := .nx e2 h2) g a
      | ct e2 h2 =>
        rw [es] at a
        obtain ⟨x', κ', L', p, hs', g2⟩ := a
        exact (js_whl jc j W e2 x' h2 κ' L' M D hs' p).up (g.trans g2)
      | exc _ _ _ _ => rw [es] at a; exact a.elim
      | no => rw [es] at a; exact a.elim
theorem for_ok {f : Tv → En → AH → Rt} {f' : TTv → TX → KS → Prop} {ck : AH → Bool} (j : ∀ t tv e x h κ L M D, Hs h e x κ L M → TvT h (kl κ ++ (L ++ M)) κ t tv → f' t x D → ResS h κ L M D (f tv e h)) : ∀ (ts : List TTv) (tvs : List Tv) (e : En) (x : TX) (h : AH) (κ : KA) (L M : List Nat) (D : KS), Hs h e x κ L M → TvL h (kl κ ++ (L ++ M)) κ ts tvs → CkOk h (kl κ ++ (L ++ M)) ck → wFor f' D ts x → ResS h κ L M D (forL ck f tvs e h)
  | [], [], e, x, h, κ, L, M, D, hs, _, c, q => by
    unfold forL
    rw [c h fun _ _ _ => rfl, if_pos rfl]
    exact ⟨x, κ, L, q, hs, Go.refl _ _ _⟩
  | t :: ts, tv :: tvs, e, x, h, κ, L, M, D, hs, ⟨t1, t2⟩, c, q => by
    have a := j t tv e x h κ L M _ hs t1 q
    unfold forL
    rw [c h fun _ _ _ => rfl, if_pos rfl]
    have next : ∀ {e1 : En} {h1 : AH}, NxOk h κ L M (wFor f' D ts) e1 h1 → ResS h κ L M D (forL ck f tvs e1 h1) := fun {e1 h1} ⟨x', κ', L', p, hs', g⟩ => by
      have inL : ∀ n ∈ kl κ ++ L, n ∈ kl κ ++ (L ++ M) := mem_of_count fun n => by simp only [List.count_append]; omega
      have nn : ∀ n, n < h.sz → n ∉ kl κ ++ (L ++ M) → n ∉ kl κ' ++ (L' ++ M) := go_not g (X := M) (fun n m => List.mem_append_right _ (List.mem_append_right _ m)) inL fun n m => by
        simp only [List.mem_append] at m ⊢
        rcases m with m | m | m
        · exact .inl (.inl m)
        · exact .inl (.inr m)
        · exact .inr m
      exact (for_ok j ts tvs e1 x' h1 κ' L' M D hs' (tvL_fr hs.ok nn g.kk (go_get g inL) t2) (ck_mono (go_get g inL) g.sz nn c) p).up g
    cases es : f tv e h with
    | nx e1 h1 => rw [es] at a; exact next a
    | rt v h' => rw [es] at a; exact a
    | bk e1 h1 => rw [es] at a; exact a
    | ct e1 h1 => rw [es] at a; exact next a
    | exc _ _ _ _ => rw [es] at a; exact a.elim
    | no => rw [es] at a; exact a.elim
  | [], _ :: _, _, _, _, _, _, _, _, _, r, _, _ => r.elim
  | _ :: _, [], _, _, _, _, _, _, _, _, r, _, _ => r.elim
theorem js_for {t : Tg} {sk : Sk} {evs : En → AH → Rs (List AV)} {ws : TX → (List TD → TX → Prop) → Prop} (js : JP evs ws) (j : JS sb bw) : JS (fun e h => ofE e (evs e h) fun xs h1 => match srcA sk h1 xs with
    | some it => forL it.ck (fun v e1 h2 => match bindT t h2 v e1 with
        | some e2 => sb e2 h2
        | none => .no) it.turns e h1
    | none => .no) (fun x D => ws x fun us x1 => wSrc sk (us.map (·.1)) fun ts => wFor (fun v x2 D' => wBind t v x2.e fun e => bw ⟨e, x2.c⟩ D') D ts x1) := fun e x h κ L M D hs q => by
  obtain ⟨vs, h1, us, x1, κ1, L1, Lr, e1, q1, hs1, rr, g, _⟩ := js e x h κ L M _ hs q
  dsimp only
  rw [e1]
  obtain ⟨it, tt, es, q2, tvl, ck⟩ := srcT_ok hs1.ok (rp_share hs1 rr) q1
  show ResS h κ L M D (match srcA sk h1 vs with
    | some it => forL it.ck (fun v e1 h2 => match bindT t h2 v e1 with
        | some e2 => sb e2 h2
        | none => .no) it.turns e h1
    | none => .no)
  rw [es]
  refine ResS.up g.drop (for_ok (fun t1 tv e x h κ L M D hs r q => ?_) tt it.turns e x1 h1 κ1 L1 M D hs1.let tvl ck q2)
  unfold wBind at q
  cases eb : bindTT t t1 x.e with
  | none => rw [eb] at q; exact q.elim
  | some te =>
    rw [eb] at q
    obtain ⟨e', L', b1, c, a⟩ := bind_ok hs r eb
    rw [b1]
    exact ResS.up (go_less c) (j e' ⟨te, x.c⟩ h κ L' M D a q)
theorem js_asg {t : Tg} (j : JE ev wv cl) : JS (fun e h => ofE e (ev e h) fun v h1 => match bindT t h1 (.one v) e with
    | some e1 => .nx e1 h1
    | none => .no) (fun x D => wv x fun u x1 => wBind t (.one u.1) x1.e fun e => D.nx ⟨e, x1.c⟩) := fun e x h κ L M D hs q => by
  obtain ⟨v, h1, u, x1, κ1, L1, Lr, e1, q1, hs1, rr, g, _⟩ := j e x h κ L M _ hs q
  unfold wBind at q1
  cases eb : bindTT t (.one u.1) x1.e with
  | none => rw [eb] at q1; exact q1.elim
  | some te =>
    rw [eb] at q1
    obtain ⟨e', L', b1, c, a⟩ := bind_ok (t := .one u.1) (v := .one v) hs1.let (shareT hs1 rr) eb
    dsimp only
    rw [e1]
    show ResS h κ L M D (match bindT t h1 (.one v) e with
      | some e1 => .nx e1 h1
      | none => .no)
    rw [b1]
    exact ⟨_, κ1, L', q1, a, g.drop.weak (fun n m => m) fun n m => .inl (mem_of_count c n m)⟩
theorem setManyD_ok : ∀ {is : List Nat} {us : List TD} {vs : List AV} {e : En} {x : TX} {L Lr : List Nat} {te : TEn}, Hs h e x κ L (Lr ++ M) → RP h (kl κ ++ (L ++ (Lr ++ M))) κ us vs Lr → setManyD mu x.e is us = some te → ∃ e' L', setMany e is vs = some e' ∧ (∀ b, L'.count b ≤ L.count b + Lr.count b) ∧ Hs h e' ⟨te, x.c⟩ κ L' M
  | [], [], _, e, x, L, Lr, te, a, r, q => by
    obtain ⟨rfl, rfl⟩ := r
    cases q
    exact ⟨e, L, rfl, fun b => by omega, a⟩
  | i :: is, u :: us, _, e, x, L, Lr, te, a, ⟨v, vs', L1, L2, f, eL, r1, r2⟩, q => by
    subst f eL
    have a2 : Hs h e x κ L (L1 ++ (L2 ++ M)) := a.less fun n => by simp only [List.count_append]; omega
    have r1' : Rep h (kl κ ++ (L ++ (L1 ++ (L2 ++ M)))) κ u.1 u.2 v L1 := rep_A a.ok (mem_of_count fun n => by simp only [List.count_append]; omega) r1
    have key : ∃ L', (∀ b, L'.count b ≤ L.count b + L1.count b) ∧ Hs h (e.set i (some v)) (x.put i (some (keep mu i u))) κ L' (L2 ++ M) := by
      unfold keep
      cases hm : mu.contains i with
      | true => exact Hs.set a2 r1' i
      | false =>
        obtain ⟨L', c, a3⟩ := a2.let.set0 (shareT a2 r1') i
        exact ⟨L', fun b => by have := c b; omega, a3⟩
    obtain ⟨L', c, a3⟩ := key
    have r2' : RP h (kl κ ++ (L' ++ (L2 ++ M))) κ us vs' L2 := Mon.mon a.ok (mem_of_count fun n => by have := c n; simp only [List.count_append]; omega) r2
    obtain ⟨e', L'', e1, c2, a4⟩ := setManyD_ok (x := x.put i (some (keep mu i u))) a3 r2' q
    exact ⟨e', L'', e1, fun b => by have := c b; have := c2 b; simp only [List.count_append]; omega, a4⟩
  | [], _ :: _, _, _, _, _, _, _, _, _, q => by cases q
  | _ :: _, [], _, _, _, _, _, _, _, _, q => by cases q
theorem js_par {is : List Nat} {evs : En → AH → Rs (List AV)} {ws : TX → (List TD → TX → Prop) → Prop} (js : JP evs ws) : JS (fun e h => ofE e (evs e h) fun vs h1 => match setMany e is vs with
    | some e1 => .nx e1 h1
    | none => .no) (fun x D => ws x fun us x1 => match setManyD mu x1.e is us with
    | some e => D.nx ⟨e, x1.c⟩
    | none => False) := fun e x h κ L M D hs q => by
  obtain ⟨vs, h1, us, x1, κ1, L1, Lr, e1, q1, hs1, rr, g, _⟩ := js e x h κ L M _ hs q
  cases eb : setManyD mu x1.e is us with
  | none => rw [eb] at q1; exact q1.elim
  | some te =>
    rw [eb] at q1
    obtain ⟨e', L', b1, c, a⟩ := setManyD_ok hs1 rr eb
    dsimp only
    rw [e1]
    show ResS h κ L M D (match setMany e is vs with
      | some e1 => .nx e1 h1
      | none => .no)
    rw [b1]
    exact ⟨_, κ1, L', q1, a, g.weak (fun n m => m) fun n m => .inl (mem_of_count (l := L') (m := L1 ++ Lr) (fun b => by have := c b; simp only [List.count_append]; omega) n m)⟩
theorem js_aug {i : Nat} {op : BOp} (j : JE ev wv cl) : JS (fun e h => match (e[i]?).getD none with
    | some x => ofE e (ev e h) fun y h1 => ofE e (augA op h1 x y) fun v h2 => .nx (e.set i (some v)) h2
    | none => .no) (fun x D => match slot x.e i with
    | some (t, _) => wv x fun u x1 => wAug op t u.1 fun r => D.nx (x1.put i (some (r, 0)))
    | none => False) := fun e x h κ L M D hs q => by
  dsimp only at q ⊢
  cases s0 : slot x.e i with
  | none => rw [s0] at q; exact q.elim
  | some td =>
    obtain ⟨t, d⟩ := td
    rw [s0] at q
    obtain ⟨v0, L0, L0', e0, _, r0, _⟩ := enR_take hs.en s0
    rw [e0]
    obtain ⟨v, h1, u, x1, κ1, L1, Lr, e1, q1, hs1, rr, g, _⟩ := j e x h κ L M _ hs q
    show ResS h κ L M D (ofE e (ev e h) fun y h1 => ofE e (augA op h1 v0 y) fun v h2 => .nx (e.set i (some v)) h2)
    rw [e1]
    show ResS h κ L M D (ofE e (augA op h1 v0 v) fun v h2 => .nx (e.set i (some v)) h2)
    obtain ⟨t1, d1⟩ := u
    cases op <;> first | exact q1.elim | skip
    all_goals (cases t <;> first | exact q1.elim | skip)
    all_goals (cases t1 <;> first | exact q1.elim | skip)
    all_goals (
      obtain ⟨rfl, _⟩ := r0
      obtain ⟨rfl, _⟩ := rr
      obtain ⟨L', c, a⟩ := hs1.let.set0 (t := .int _) (v := .int _) ⟨rfl, rfl⟩ i
      exact ⟨_, κ1, L', q1, a, g.drop.weak (fun n m => m) fun n m => .inl (mem_of_count c n m)⟩)
end
end EV

/-! EvZma: all lists of a tree made longer. -/
namespace EV
open PySem
def SpoS (C : Cs) (CT : CTs) : Prop := ∀ k t, CT.spo k t → ∀ h A κ d v L, OkH h → L.Nodup → (∀ n ∈ L, n ∈ A) → Rep h A κ t d v L → hgt t ≤ d → room t →
  ∃ h', C.call k [v] h = .ok .non h' ∧ h'.sz = h.sz ∧ h'.z = h.z ∧ OkH h' ∧ (∀ n, n ∉ L → h'.get n = h.get n) ∧ Rep h' A κ (spoilT t) d v L
theorem js_spo {C : Cs} {CT : CTs} (hS : SpoS C CT) {k i : Nat} : JS (fun e h => ofE e (evE C (.call k [.var i .rd]) e h) fun _ h1 => .nx e h1) (fun x D => match slot x.e i with
    | some (t, d) => (CT.spo k t ∧ hgt t ≤ d ∧ room t) ∧ D.nx (x.put i (some (spoilT t, d)))
    | none => False) := fun e x h κ L M D hs q => by
  dsimp only at q
  cases s0 : slot x.e i with
  | none => rw [s0] at q; exact q.elim
  | some td =>
    obtain ⟨t, d⟩ := td
    rw [s0] at q
    obtain ⟨⟨q1, q2, q3⟩, q⟩ := q
    obtain ⟨v, L1, L2, ev, hc, r, rest⟩ := enR_take hs.en s0
    have nd1 : L1.Nodup := un_nd fun n => by
      have := hs.un n
      have := hc n
      simp only [List.count_append] at *
      omega
    have inA : ∀ n ∈ L1, n ∈ kl κ ++ (L ++ M) := fun n m => by
      have b := hc n
      have c := List.count_pos_iff.mpr m
      exact List.mem_append_right _ (List.mem_append_left _ (List.count_pos_iff.mp (by omega)))
    obtain ⟨h', e1, sz, hz, ok', fr, r'⟩ := hS k t q1 h _ κ d v L1 hs.ok nd1 inA r q2 q3
    have el : evE C (.call k [.var i .rd]) e h = .ok .non h' := by
      show ((opt h ((e[i]?).getD none)).bind fun x h1 => (Rs.ok [] h1).bind fun xs h2 => Rs.ok (x :: xs) h2).bind (fun xs h1 => C.call k xs h1) = _
      rw [ev]
      exact e1
    show ResS h κ L M D (ofE e (evE C (.call k [.var i .rd]) e h) fun _ h1 => .nx e h1)
    rw [el]
    have in1 : ∀ n, n ∈ L1 → n ∉ kl κ ∧ n ∉ L2 ∧ n ∉ M ∧ n ∈ L := fun n m => by
      have a := hs.un n
      have b := hc n
      have c := List.count_pos_iff.mpr m
      simp only [List.count_append] at a
      refine ⟨fun z => ?_, fun z => ?_, fun z => ?_, List.count_pos_iff.mp (by omega)⟩
      · have := List.count_pos_iff.mpr z; omega
      · have := List.count_pos_iff.mpr z; omega
      · have := List.count_pos_iff.mpr z; omega
    have hot : ∀ n, n ∉ kl κ ++ (L ++ M) → h'.get n = h.get n := fun n m => fr n fun z => m (List.mem_append_right _ (List.mem_append_left _ (in1 n z).2.2.2))
    have rest' : EnR h' (kl κ ++ (L ++ M)) κ e (x.e.set i none) L2 := enR_fr hs.ok (fun n _ m => m) (KLe.refl _) (fun n _ m => hot n m) (fun n m => fr n fun z => (in1 n z).2.1 m) rest
    have sn : slot (x.e.set i none) i = none := slot_set_same
    obtain ⟨L', hc', en'⟩ := enR_put (i := i) (u := some (spoilT t, d)) rest' sn (by
      rw [ev]
      exact ⟨v, rfl, r'⟩) (fun hlen => by
      exfalso
      unfold slot at s0
      rw [List.getElem?_eq_none (by simpa using hlen)] at s0
      cases s0)
    have cnt : ∀ a, L'.count a = L.count a := fun a => by rw [hc' a, hc a]
    have mem : ∀ a, a ∈ L' ↔ a ∈ L := fun a => by rw [← List.count_pos_iff, ← List.count_pos_iff, cnt a]
    refine ⟨x.put i (some (spoilT t, d)), κ, L', q, ⟨ok', ?_, fun a => ?_, ?_, fun n m => by rw [sz]; exact hs.lt n m⟩, ⟨by rw [sz]; exact Nat.le_refl _, hz, fun n l m => fr n fun z => m ?_, fun n m => ?_, KLe.refl _⟩⟩
    · show StR h' x.c κ
      have st := hs.st
      unfold StR at st ⊢
      cases hxc : x.c with
      | none =>
        rw [hxc] at st
        cases κ with
        | none => rw [hz]; exact st
        | some _ => exact st
      | some kk =>
        rw [hxc] at st
        cases κ with
        | none => exact st
        | some rl =>
          obtain ⟨rr, ll⟩ := rl
          obtain ⟨cells, p, qq, m, c1, c2, c3, c4⟩ := st
          refine ⟨cells, p, qq, m, c1, ?_, ?_, c4⟩
          · rw [fr rr fun z => (in1 rr z).1 (by simp [kl])]
            exact c2
          · rw [fr ll fun z => (in1 ll z).1 (by simp [kl])]
            exact c3
    · have := hs.un a
      have := cnt a
      simp only [List.count_append] at *
      omega
    · have e2 : (x.put i (some (spoilT t, d))).e = (x.e.set i none).set i (some (spoilT t, d)) := set_back.symm
      rw [e2]
      exact enR_A ok' (mem_of_count fun a => by have := cnt a; simp only [List.count_append]; omega) en'
    · exact List.mem_append_right _ (in1 n z).2.2.2
    · rcases List.mem_append.mp m with m | m
      · exact .inl (List.mem_append_left _ m)
      · exact .inl (List.mem_append_right _ ((mem n).mp m))
theorem js_own {sb : En → AH → Rt} {i : Nat} {P : TV → Nat → TV → Prop}
    (hP : ∀ t d t', P t d t' → ∀ (e : En) h A κ v L, e[i]? = some (some v) → OkH h → L.Nodup → (∀ n ∈ L, n ∈ A) → Rep h A κ t d v L → ∃ h', sb e h = .nx e h' ∧ h'.sz = h.sz ∧ h'.z = h.z ∧ OkH h' ∧ (∀ n, n ∉ L → h'.get n = h.get n) ∧ Rep h' A κ t' d v L) :
    JS sb (fun x D => match slot x.e i with
    | some (t, d) => ∃ t', P t d t' ∧ D.nx (x.put i (some (t', d)))
    | none => False) := fun e x h κ L M D hs q => by
  dsimp only at q
  cases s0 : slot x.e i with
  | none => rw [s0] at q; exact q.elim
  | some td =>
    obtain ⟨t, d⟩ := td
    rw [s0] at q
    obtain ⟨t', q1, q⟩ := q
    obtain ⟨v, L1, L2, ev, hc, r, rest⟩ := enR_take hs.en s0
    have nd1 : L1.Nodup := un_nd fun n => by
      have := hs.un n
      have := hc n
      simp only [List.count_append] at *
      omega
    have inA : ∀ n ∈ L1, n ∈ kl κ ++ (L ++ M) := fun n m => by
      have b := hc n
      have c := List.count_pos_iff.mpr m
      exact List.mem_append_right _ (List.mem_append_left _ (List.count_pos_iff.mp (by omega)))
    obtain ⟨h', e1, sz, hz, ok', fr, r'⟩ := hP t d t' q1 e h _ κ v L1 ev hs.ok nd1 inA r
    rw [e1]
    have in1 : ∀ n, n ∈ L1 → n ∉ kl κ ∧ n ∉ L2 ∧ n ∉ M ∧ n ∈ L := fun n m => by
      have a := hs.un n
      have b := hc n
      have c := List.count_pos_iff.mpr m
      simp only [List.count_append] at a
      refine ⟨fun z => ?_, fun z => ?_, fun z => ?_, List.count_pos_iff.mp (by omega)⟩
      · have := List.count_pos_iff.mpr z; omega
      · have := List.count_pos_iff.mpr z; omega
      · have := List.count_pos_iff.mpr z; omega
    have hot : ∀ n, n ∉ kl κ ++ (L ++ M) → h'.get n = h.get n := fun n m => fr n fun z => m (List.mem_append_right _ (List.mem_append_left _ (in1 n z).2.2.2))
    have rest' : EnR h' (kl κ ++ (L ++ M)) κ e (x.e.set i none) L2 := enR_fr hs.ok (fun n _ m => m) (KLe.refl _) (fun n _ m => hot n m) (fun n m => fr n fun z => (in1 n z).2.1 m) rest
    have sn : slot (x.e.set i none) i = none := slot_set_same
    obtain ⟨L', hc', en'⟩ := enR_put (i := i) (u := some (t', d)) rest' sn (by
      rw [ev]
      exact ⟨v, rfl, r'⟩) (fun hlen => by
      exfalso
      unfold slot at s0
      rw [List.getElem?_eq_none (by simpa using hlen)] at s0
      cases s0)
    have cnt : ∀ a, L'.count a = L.count a := fun a => by rw [hc' a, hc a]
    have mem : ∀ a, a ∈ L' ↔ a ∈ L := fun a => by rw [← List.count_pos_iff, ← List.count_pos_iff, cnt a]
    refine ⟨x.put i (some (t', d)), κ, L', q, ⟨ok', ?_, fun a => ?_, ?_, fun n m => by rw [sz]; exact hs.lt n m⟩, ⟨by rw [sz]; exact Nat.le_refl _, hz, fun n l m => fr n fun z => m ?_, fun n m => ?_, KLe.refl _⟩⟩
    · show StR h' x.c κ
      have st := hs.st
      unfold StR at st ⊢
      cases hxc : x.c with
      | none =>
        rw [hxc] at st
        cases κ with
        | none => rw [hz]; exact st
        | some _ => exact st
      | some kk =>
        rw [hxc] at st
        cases κ with
        | none => exact st
        | some rl =>
          obtain ⟨rr, ll⟩ := rl
          obtain ⟨cells, p, qq, m, c1, c2, c3, c4⟩ := st
          refine ⟨cells, p, qq, m, c1, ?_, ?_, c4⟩
          · rw [fr rr fun z => (in1 rr z).1 (by simp [kl])]
            exact c2
          · rw [fr ll fun z => (in1 ll z).1 (by simp [kl])]
            exact c3
    · have := hs.un a
      have := cnt a
      simp only [List.count_append] at *
      omega
    · have e2 : (x.put i (some (t', d))).e = (x.e.set i none).set i (some (t', d)) := set_back.symm
      rw [e2]
      exact enR_A ok' (mem_of_count fun a => by have := cnt a; simp only [List.count_append]; omega) en'
    · exact List.mem_append_right _ (in1 n z).2.2.2
    · rcases List.mem_append.mp m with m | m
      · exact .inl (List.mem_append_left _ m)
      · exact .inl (List.mem_append_right _ ((mem n).mp m))
/-- one element of a tuple, and another in its place -/
theorem repL_at {h : AH} {A : List Nat} {κ : KA} (ok : OkH h) : ∀ {ts : List TV} {k : Nat} {t : TV} {d : Nat} {vs : List AV} {L : List Nat}, RepL h A κ ts d vs L → ts[k]? = some t → ∃ w La Lk Lb, vs[k]? = some w ∧ L = La ++ (Lk ++ Lb) ∧ Rep h A κ t d w Lk ∧
    ∀ h' t', (∀ n, n < h.sz → n ∉ A → h'.get n = h.get n) → (∀ n ∈ La ++ Lb, h'.get n = h.get n) → Rep h' A κ t' d w Lk → RepL h' A κ (ts.set k t') d vs (La ++ (Lk ++ Lb))
  | [], k, t, d, vs, L, _, e => by simp at e
  | t0 :: ts, 0, t, d, vs, L, ⟨v, vs', L1, L2, f, g, r1, r2⟩, e => by
    cases e
    subst f
    subst g
    exact ⟨v, [], L1, L2, rfl, rfl, r1, fun h' t' hs hl r' => ⟨v, vs', L1, L2, rfl, rfl, r', repL_fr ok (fun _ _ m => m) (KLe.refl _) hs (fun n m => hl n m) r2⟩⟩
  | t0 :: ts, k + 1, t, d, vs, L, ⟨v, vs', L1, L2, f, g, r1, r2⟩, e => by
    obtain ⟨w, La, Lk, Lb, e1, e2, e3, e4⟩ := repL_at ok r2 (k := k) e
    subst f
    subst g
    subst e2
    refine ⟨w, L1 ++ La, Lk, Lb, e1, by simp, e3, fun h' t' hs hl r' => ⟨v, vs', L1, La ++ (Lk ++ Lb), rfl, by simp, rep_fr ok (fun _ _ m => m) (KLe.refl _) hs (fun n m => hl n (by simp [m])) r1, e4 h' t' hs (fun n m => hl n ?_) r'⟩⟩
    simp only [List.mem_append] at m ⊢
    rcases m with m | m
    · exact .inl (.inr m)
    · exact .inr m
theorem js_inner {C : Cs} {W i : Nat} {m : Mo} {j : Int} {c : AV} : JS (evS C W (.ex (.mt .append (.ix (.var i m) (.k (.int j))) [.k c]))) (fun x D => match slot x.e i with
    | some (t, d) => ∃ t', Grown j c t d t' ∧ D.nx (x.put i (some (t', d)))
    | none => False) := js_own fun t d t' ⟨ts, k, xs, u, e1, e2, e3, e4, e5, e6, e7⟩ e h A κ v L ev ok nd inA r => by
  subst e1
  subst e7
  obtain ⟨n, vs, rfl, g, nA, r⟩ := r
  obtain ⟨d, rfl⟩ : ∃ d0, d = d0 + 2 := ⟨d - 2, by omega⟩
  have r : RepL h A κ ts (d + 1) vs L := r
  have len := repL_len r
  obtain ⟨w, La, Lk, Lb, f1, rfl, f3, f4⟩ := repL_at ok r e4
  obtain ⟨p, ws, Lx, rfl, gp, rfl, rx⟩ := f3
  have lenx := repL_len rx
  have pA : p ∈ A := inA p (by simp)
  have np : p ≠ n := fun z => nA (by rw [← z]; exact pA)
  have pL : p ∉ Lx ∧ p ∉ La ∧ p ∉ Lb := by
    have := nd
    simp only [List.nodup_append, List.nodup_cons, List.mem_append, List.mem_cons, List.cons_append] at this
    refine ⟨fun z => this.2.1.1 (.inl z), fun z => this.2.2 p z p (.inl rfl) rfl, fun z => this.2.1.1 (.inr z)⟩
  have ru : Rep h A κ u d c [] := (rep_atm (by
    cases c <;> first | cases e2; done | skip
    all_goals (cases e2; rfl)) (kT_ok (h := h) (A := A) (κ := κ) e2)).2 A
  have ra : RepL h A κ (xs ++ [u]) d (ws ++ [c]) Lx := by
    have r1 : RepL h A κ [u] d [c] [] := ⟨c, [], [], [], rfl, rfl, ru, rfl, rfl⟩
    have := repL_app rx r1
    rw [List.append_nil] at this
    exact this
  refine ⟨h.set p (.lst (ws ++ [c])), ?_, rfl, rfl, ok_set ok gp, fun b z => get_set_ne fun y => z (by rw [y]; simp), n, vs, rfl, by rw [get_set_ne fun y => np y.symm]; exact g, nA, ?_⟩
  · show ofE e (((opt h ((e[i]?).getD none)).bind fun x h1 => (Rs.ok (AV.int j) h1).bind fun y h2 => opt h2 (ixA h2 x y)).bind fun x h1 => if rcvA .append h1 x then ((Rs.ok c h1).bind fun x h1 => (Rs.ok [] h1).bind fun xs h2 => Rs.ok (x :: xs) h2).bind (fun xs h2 => mtA .append h2 x xs) else .no) _ = _
    have ev' : (e[i]?).getD none = some (AV.ref n) := by rw [ev]; rfl
    rw [ev']
    have ei : ixA h (.ref n) (.int j) = some (.ref p) := by
      have : ixA h (.ref n) (.int j) = L2.atI vs j := by simp only [ixA, g]
      rw [this]
      unfold L2.atI
      rw [len, e3]
      exact f1
    show ofE e ((opt h (ixA h (.ref n) (.int j))).bind fun x h1 => if rcvA .append h1 x then mtA .append h1 x [c] else .no) _ = _
    rw [ei]
    show ofE e (if rcvA .append h (.ref p) then mtA .append h (.ref p) [c] else .no) _ = _
    have e8 : rcvA .append h (.ref p) = true := by simp only [rcvA, lstA, gp]; rfl
    rw [e8, if_pos rfl]
    simp only [mtA, gp]
    rw [if_pos (by rw [lenx]; exact e6)]
    rfl
  · exact f4 _ _ (fun b _ z => get_set_ne fun y => z (by rw [y]; exact pA)) (fun b z => get_set_ne fun y => by
      subst y
      rcases List.mem_append.mp z with z | z
      · exact pL.2.1 z
      · exact pL.2.2 z) ⟨p, ws ++ [c], Lx, rfl, by rw [AH.get_set, if_pos rfl], rfl, repL_fr ok (fun _ _ m => m) (KLe.refl _) (fun b _ z => get_set_ne fun y => z (by rw [y]; exact pA)) (fun b z => get_set_ne fun y => pL.1 (by rw [← y]; exact z)) ra⟩
/-- a test to which all is lent -/
theorem js_iffB {cl : Bool} {sb sb2 : En → AH → Rt} {bw bw2 : TX → KS → Prop} {tv : En → AH → Rs Bool} {tw : TX → KT → Prop} (jc : JT tv tw cl) (j1 : JS sb bw) (j2 : JS sb2 bw2) : JS (fun e h => ofE e (tv e h) fun t h1 => if t then sb e h1 else sb2 e h1) (fun x D => tw ⟨lowE x.e, x.c⟩ fun t x1 => br t (bw ⟨x.e, x1.c⟩ D) (bw2 ⟨x.e, x1.c⟩ D)) := fun e x h κ L M D hs q => by
  obtain ⟨hs0, _⟩ := hs.lowAll
  obtain ⟨v, h1, u, x1, κ1, L1, Lr, e1, q1, hs1, ⟨rfl, rfl⟩, g, _⟩ := jc e ⟨lowE x.e, x.c⟩ h κ [] M _ hs0 q
  have hot : ∀ n ∈ L, n < h.sz := fun n m => hs.hot n (List.mem_append_right _ (List.mem_append_left _ m))
  have out : ∀ n ∈ L, n ∉ kl κ := fun n m z => by
    have a := hs.un n
    have b := List.count_pos_iff.mpr m
    have c := List.count_pos_iff.mpr z
    simp only [List.count_append] at a
    omega
  have fr : ∀ n, n < h.sz → n ∉ kl κ → h1.get n = h.get n := fun n l m => g.fr n l (by simpa using m)
  have sub : ∀ n ∈ kl κ1, n ∈ kl κ ∨ h.sz ≤ n := fun n m => by
    have := g.sub n (List.mem_append_left _ m)
    simpa using this
  have hs2 : Hs h1 e ⟨x.e, x1.c⟩ κ1 L M := by
    refine ⟨hs1.ok, hs1.st, fun n => ?_, ?_, fun n m => Nat.lt_of_lt_of_le (hs.lt n m) g.sz⟩
    · have a := hs1.un n
      have b := hs.un n
      simp only [List.count_append, List.nil_append] at a b ⊢
      by_cases m : n ∈ kl κ1
      · have : L.count n = 0 := List.count_eq_zero.mpr fun z => by
          rcases sub n m with y | y
          · exact out n z y
          · have := hot n z
            omega
        omega
      · have : (kl κ1).count n = 0 := List.count_eq_zero.mpr m
        omega
    · refine enR_fr hs.ok (fun n l m z => ?_) g.kk (fun n l m => fr n l fun z => m (List.mem_append_left _ z)) (fun n m => fr n (hot n m) (out n m)) hs.en
      rcases List.mem_append.mp z with z | z
      · rcases sub n z with y | y
        · exact m (List.mem_append_left _ y)
        · omega
      · exact m (List.mem_append_right _ z)
  have g2 : Go h κ L h1 κ1 L := ⟨g.sz, g.z, fun n l m => fr n l fun z => m (List.mem_append_left _ z), fun n m => by
    rcases List.mem_append.mp m with m | m
    · exact (sub n m).imp (List.mem_append_left _) id
    · exact .inl (List.mem_append_right _ m), g.kk⟩
  dsimp only
  rw [e1]
  cases v with
  | true => exact (j1 e ⟨x.e, x1.c⟩ h1 κ1 L M D hs2 q1).up g2
  | false => exact (j2 e ⟨x.e, x1.c⟩ h1 κ1 L M D hs2 q1).up g2
end EV

/-! EvZn: stores by subscript; every statement; calls. -/
namespace EV
open PySem
section
variable {ev ev2 : En → AH → Rs AV} {wv wv2 : TX → KE → Prop} {cl cl2 : Bool} {mu : List Nat}
theorem js_sub {k : Nat} (j : JE ev wv cl) (ji : JE ev2 wv2 cl2) : JS (fun e h => ofE e (ev e h) fun v h1 => ofE e (opt h1 ((e[k]?).getD none)) fun x h2 => ofE e (ev2 e h2) fun y h3 => match setA h3 x y v with
    | some h4 => .nx e h4
    | none => .no) (fun x D => wv x fun u x1 => match slot x1.e k with
    | some _ => wv2 x1 fun v x2 => match slot x2.e k, v.1 with
      | some (.lst xs, d + 1), .int j => ∃ n, L2.ixN xs.length j = some n ∧ D.nx (x2.put k (some (.lst (xs.set n u.1), min d u.2 + 1)))
      | _, _ => False
    | none => False) := fun e x h κ L M D hs q => by
  obtain ⟨v, h1, u, x1, κ1, L1, Lr, e1, q1, hs1, rr, g1, _⟩ := j e x h κ L M _ hs q
  dsimp only at q1 ⊢
  rw [e1]
  cases s0 : slot x1.e k with
  | none => rw [s0] at q1; exact q1.elim
  | some td =>
  obtain ⟨t0, d0⟩ := td
  rw [s0] at q1
  have q1 : wv2 x1 fun v x2 => match slot x2.e k, v.1 with
      | some (.lst xs, d + 1), .int j => ∃ n, L2.ixN xs.length j = some n ∧ D.nx (x2.put k (some (.lst (xs.set n u.1), min d u.2 + 1)))
      | _, _ => False := q1
  obtain ⟨v0, _, _, e0, _, _, _⟩ := enR_take hs1.en s0
  show ResS h κ L M D (ofE e (opt h1 ((e[k]?).getD none)) fun x h2 => ofE e (ev2 e h2) fun y h3 => match setA h3 x y v with
    | some h4 => .nx e h4
    | none => .no)
  rw [e0]
  show ResS h κ L M D (ofE e (ev2 e h1) fun y h3 => match setA h3 v0 y v with
    | some h4 => .nx e h4
    | none => .no)
  obtain ⟨w, h2, u2, x2, κ2, L2, Lr2, e2, q2, hs2, rr2, g2, _⟩ := ji e x1 h1 κ1 L1 (Lr ++ M) _ hs1 q1
  rw [e2]
  show ResS h κ L M D (match setA h2 v0 w v with
    | some h4 => .nx e h4
    | none => .no)
  cases s1 : slot x2.e k with
  | none => rw [s1] at q2; exact q2.elim
  | some td =>
  obtain ⟨t1, d1⟩ := td
  rw [s1] at q2
  obtain ⟨tj, dj⟩ := u2
  cases t1 <;> first | (exfalso; revert q2; cases tj <;> exact id) | skip
  rename_i xs
  cases d1 with
  | zero => exfalso; revert q2; cases tj <;> exact id
  | succ d =>
  obtain ⟨j, rfl⟩ : ∃ j, tj = .int j := by
    cases tj <;> first | exact q2.elim | exact ⟨_, rfl⟩
  obtain ⟨nn, ek, q3⟩ := q2
  obtain ⟨rfl, hLr2⟩ := rr2
  have hLr2 : Lr2 = [] := hLr2
  subst hLr2
  have hs2 : Hs h2 e x2 κ2 L2 (Lr ++ M) := hs2
  have g2 : Go h1 κ1 L1 h2 κ2 L2 := g2.drop
  have hu : Rep h2 (kl κ2 ++ (L2 ++ (Lr ++ M))) κ2 u.1 u.2 v Lr := hold hs1.ok hs1.un g2 (fun n m => List.mem_append_left _ m) rr
  obtain ⟨n, vs1, Lx, L3, e3, gn, cL, rx, ch⟩ := hs2.chg s1
  rw [e0] at e3
  cases e3
  have un := hs2.un
  have hk : nn < xs.length := (_root_.L2.ixN_seq ek).2.1
  have ndx : Lx.Nodup := un_nd fun b => by
    have := un b
    have := cL b
    simp only [List.count_append] at *
    omega
  have ndu : Lr.Nodup := un_nd fun b => by
    have := un b
    simp only [List.count_append] at *
    omega
  obtain ⟨Lx', sx, qx⟩ := repL_low rx ndx (show min d u.2 ≤ d by omega)
  obtain ⟨Lu', su, qu⟩ := rep_low hu ndu (show min d u.2 ≤ u.2 by omega)
  have cx := fun b => sx.count_le b
  have cu := fun b => su.count_le b
  have sub : ∀ b ∈ kl κ2 ++ ((n :: ((Lx' ++ Lu') ++ L3)) ++ M), b ∈ kl κ2 ++ (L2 ++ (Lr ++ M)) := mem_of_count fun b => by
    have := cL b
    have := cx b
    have := cu b
    simp only [List.count_append, List.count_cons, List.count_nil] at *
    omega
  have rx' := qx _ sub fun b i1 i2 i3 => by
    have := un b
    have := cL b
    have := cu b
    have a1 := List.count_pos_iff.mpr i1
    have a2 := List.count_eq_zero.mpr i2
    have a3 := List.count_pos_iff.mpr i3
    simp only [List.count_append, List.count_cons, List.count_nil] at *
    omega
  have ru' := qu _ sub fun b i1 i2 i3 => by
    have := un b
    have := cL b
    have := cx b
    have a1 := List.count_pos_iff.mpr i1
    have a2 := List.count_eq_zero.mpr i2
    have a3 := List.count_pos_iff.mpr i3
    simp only [List.count_append, List.count_cons, List.count_nil] at *
    omega
  obtain ⟨Z1, Z2, Ly, z1, z2, ry⟩ := repL_set rx' (List.getElem?_eq_getElem hk) ru'
  have sub2 : ∀ b ∈ kl κ2 ++ ((n :: (Ly ++ L3)) ++ M), b ∈ kl κ2 ++ ((n :: ((Lx' ++ Lu') ++ L3)) ++ M) := mem_of_count fun b => by
    have := z1 b
    have := z2 b
    simp only [List.count_append, List.count_cons, List.count_nil] at *
    omega
  obtain ⟨L', c', hs', _⟩ := ch (xs.set nn u.1) (min d u.2) (vs1.set nn v) Ly M (fun b => by
    have := cx b
    have := cu b
    have := z1 b
    have := z2 b
    simp only [List.count_append]
    omega) (repL_fr hs2.ok (fun b _ m z => m (sub2 b z)) (KLe.refl _) (fun _ _ _ => rfl) (fun _ _ => rfl) ry)
  have es : setA h2 (.ref n) (.int j) v = some (h2.set n (.lst (vs1.set nn v))) := by
    simp only [setA, gn, repL_len rx, ek]
  rw [es]
  have mem : n ∈ L2 ++ Lr := List.mem_append_left _ (List.count_pos_iff.mp (by have := cL n; simp only [List.count_cons, beq_self_eq_true, if_true] at this; omega))
  refine ⟨_, κ2, L', q3, hs', ?_⟩
  refine ((g1.trans (g2.more Lr)).trans (Go.set (Y := L') mem fun b => ?_))
  have := c' b
  have := cL b
  have := cx b
  have := cu b
  have := z1 b
  have := z2 b
  simp only [List.count_append] at *
  omega
end
section
variable {C : Cs} {CT : CTs} (hC : CallS C CT) (hA : AppS C CT) (hL : ClS C CT) (hSp : SpoS C CT) {W : Nat} {mu : List Nat}
include hC hA hL hSp
mutual
theorem jS : ∀ s : S, JS (evS C W s) (wS CT W mu s)
  | .bad => js_no
  | .set i p => js_set (jP hC hA hL p).e
  | .par is ps => js_par (jEs hC hA hL ps)
  | .asg t p => js_asg (jP hC hA hL p).e
  | .sub o i p => by
    cases hr : rootV o with
    | none =>
      intro e x h κ L M D hs q
      exfalso
      obtain ⟨v, h1, u, x1, κ1, L1, Lr, e1, q1, _⟩ := (jP hC hA hL p).e e x h κ L M _ hs q
      rw [hr] at q1
      exact q1
    | some k =>
      have base := js_sub (k := k) (jP hC hA hL p).e (jP hC hA hL i).e
      intro e x h κ L M D hs q
      have q' : (wP CT p).e x fun u x1 => match slot x1.e k with
          | some _ => (wP CT i).e x1 fun v x2 => match slot x2.e k, v.1 with
            | some (.lst xs, d + 1), .int j => ∃ n, L2.ixN xs.length j = some n ∧ D.nx (x2.put k (some (.lst (xs.set n u.1), min d u.2 + 1)))
            | _, _ => False
          | none => False := by
        have q : (wP CT p).e x fun u x1 => match rootV o with
          | some k => match slot x1.e k with
            | some _ => (wP CT i).e x1 fun v x2 => match slot x2.e k, v.1 with
              | some (.lst xs, d + 1), .int j => ∃ n, L2.ixN xs.length j = some n ∧ D.nx (x2.put k (some (.lst (xs.set n u.1), min d u.2 + 1)))
              | _, _ => False
            | none => False
          | none => False := q
        rw [hr] at q
        exact q
      have r := base e x h κ L M D hs q'
      cases o <;> first | cases hr; done | skip
      rename_i jj mo
      cases mo with
      | mv => cases hr
      | rd => cases hr; exact r
      | bo => cases hr; exact r
  | .aug i op p => js_aug (jP hC hA hL p).e
  | .augs o i op p => fun _ _ _ _ _ _ _ _ q => q.elim
  | .ex p => by
    have base := js_ex (jP hC hA hL p).e
    intro e x h κ L M D hs q
    have q : (match inner p with
      | some (i, j, c) => match slot x.e i with
        | some (t, d) => ∃ t', Grown j c t d t' ∧ D.nx (x.put i (some (t', d)))
        | none => False
      | none => (wP CT p).e x fun _ x1 => D.nx x1) := by
      have q : (match inner p with
        | some (i, j, c) => fun (x : TX) (D : KS) => match slot x.e i with
          | some (t, d) => ∃ t', Grown j c t d t' ∧ D.nx (x.put i (some (t', d)))
          | none => False
        | none => fun x D => (wP CT p).e x fun _ x1 => D.nx x1) x D := q
      cases hi : inner p with
      | none => rw [hi] at q; exact q
      | some w => rw [hi] at q; exact q
    cases hi : inner p with
    | none =>
      rw [hi] at q
      exact base e x h κ L M D hs q
    | some w =>
      obtain ⟨i, j, c⟩ := w
      rw [hi] at q
      unfold inner at hi
      split at hi
      · cases hi
        exact js_inner e x h κ L M D hs q
      · cases hi
  | .ret p => js_ret (jP hC hA hL p).e
  | .retn => js_retn
  | .iff c a b => by
    have b1 := js_iff (jP hC hA hL c).t (jSs a) (jSs b)
    have b2 := js_iffB (jP hC hA hL c).t (jSs a) (jSs b)
    intro e x h κ L M D hs q
    have q : (match lends c with
      | true => fun (x : TX) (D : KS) => (wP CT c).t ⟨lowE x.e, x.c⟩ fun t x1 => br t (wSs CT W mu a ⟨x.e, x1.c⟩ D) (wSs CT W mu b ⟨x.e, x1.c⟩ D)
      | false => fun x D => (wP CT c).t x fun t x1 => br t (wSs CT W mu a x1 D) (wSs CT W mu b x1 D)) x D := q
    cases hl : lends c with
    | true => rw [hl] at q; exact b2 e x h κ L M D hs q
    | false => rw [hl] at q; exact b1 e x h κ L M D hs q
  | .whl c b => js_whl (jP hC hA hL c).t (jSs b) W
  | .for_ t sk src b => js_for (jEs hC hA hL src) (jSs b)
  | .brk => js_brk
  | .cnt => js_cnt
  | .pass => js_nil
  | .raise c ps => fun _ _ _ _ _ _ _ _ q => q.elim
  | .spo k i => js_spo hSp
theorem jSs : ∀ ss : List S, JS (evSs C W ss) (wSs CT W mu ss)
  | [] => js_nil
  | s :: ss => fun e x h κ L M D hs q => js_cons (jS s) (jSs ss) e x h κ L M D hs q
end
end
end EV

/-! EvZna: the def that makes all lists longer. -/
namespace EV
open PySem
def bSpoil (k : Nat) : List S := [.iff (.isi (.var 0 .rd) ["list", "tuple"]) [.for_ (.nm 1) .seq [.var 0 .rd] [.spo k 1]] [], .iff (.isi (.var 0 .rd) ["list"]) [.ex (.mt .append (.var 0 .rd) [.k (.str "late")])] []]
/-- what it owes at a tree -/
def Sp1 (R : List AV → AH → Rs AV) (t : TV) : Prop := ∀ h A κ d v L, OkH h → L.Nodup → (∀ n ∈ L, n ∈ A) → Rep h A κ t d v L → hgt t ≤ d → room t →
  ∃ h', R [v] h = .ok .non h' ∧ h'.sz = h.sz ∧ h'.z = h.z ∧ OkH h' ∧ (∀ n, n ∉ L → h'.get n = h.get n) ∧ Rep h' A κ (spoilT t) d v L
section
variable {T : List Fd} {C : Cs} {W k : Nat}
theorem sp_run (hT : T[k]? = some ⟨1, 2, bSpoil k⟩) (v : AV) (h : AH) : runF T C W k [v] h = retOf (evSs C W (bSpoil k) [some v, none] h) := by
  unfold runF
  rw [hT]
  rfl
theorem sp_atm (hT : T[k]? = some ⟨1, 2, bSpoil k⟩) {v : AV} {h : AH} {s : String} (ht : typN h v = some s) (e1 : isiB s "list" = false) (e2 : isiB s "tuple" = false) : runF T C W k [v] h = .ok .non h := by
  rw [sp_run hT]
  have a1 : evT C (.isi (.var 0 .rd) ["list", "tuple"]) [some v, none] h = .ok false h := by
    show ((match typN h v with
      | some t => Rs.ok (AV.bl (["list", "tuple"].any (isiB t))) h
      | none => .no).bind fun x h1 => tru h1 x) = _
    rw [ht]
    show tru h (AV.bl (["list", "tuple"].any (isiB s))) = _
    simp only [List.any_cons, List.any_nil, e1, e2]
    rfl
  have a2 : evT C (.isi (.var 0 .rd) ["list"]) [some v, none] h = .ok false h := by
    show ((match typN h v with
      | some t => Rs.ok (AV.bl (["list"].any (isiB t))) h
      | none => .no).bind fun x h1 => tru h1 x) = _
    rw [ht]
    show tru h (AV.bl (["list"].any (isiB s))) = _
    simp only [List.any_cons, List.any_nil, e1]
    rfl
  show retOf (match ofE _ (evT C (.isi (.var 0 .rd) ["list", "tuple"]) [some v, none] h) _ with
    | .nx e1 h1 => evSs C W [.iff (.isi (.var 0 .rd) ["list"]) [.ex (.mt .append (.var 0 .rd) [.k (.str "late")])] []] e1 h1
    | r => r) = _
  rw [a1]
  show retOf (match ofE _ (evT C (.isi (.var 0 .rd) ["list"]) [some v, none] h) _ with
    | .nx e1 h1 => evSs C W [] e1 h1
    | r => r) = _
  rw [a2]
  rfl
def spBody (C : Cs) (W k : Nat) : Tv → En → AH → Rt := fun v e1 h2 => match bindT (.nm 1) h2 v e1 with
  | some e2 => evSs C W [.spo k 1] e2 h2
  | none => .no
/-- the loop over the parts -/
theorem sp_loop {v0 : AV} {ck : AH → Bool} {nn : Nat} (hck : ∀ h h' : AH, h'.get nn = h.get nn → ck h' = ck h) {A : List Nat} {κ : KA} {d : Nat} : ∀ {ts : List TV} {vs : List AV} {L : List Nat} {h : AH} {o : Option AV}, (∀ t ∈ ts, Sp1 (C.call k) t) → OkH h → L.Nodup → (∀ n ∈ L, n ∈ A) → nn ∉ L → ck h = true → RepL h A κ ts d vs L → hgtL ts ≤ d → roomL ts →
    ∃ h' o', forL ck (spBody C W k) (vs.map .one) [some v0, o] h = .nx [some v0, o'] h' ∧ h'.sz = h.sz ∧ h'.z = h.z ∧ OkH h' ∧ (∀ n, n ∉ L → h'.get n = h.get n) ∧ RepL h' A κ (spoilL ts) d vs L
  | [], vs, L, h, o, _, ok, _, _, _, c, r, _, _ => by
    obtain ⟨rfl, rfl⟩ := r
    refine ⟨h, o, ?_, rfl, rfl, ok, fun _ _ => rfl, rfl, rfl⟩
    show (if ck h then Rt.nx [some v0, o] h else .no) = _
    rw [c]
    rfl
  | t :: ts, vs, L, h, o, hS, ok, nd, inA, nL, c, ⟨x, vs', L1, L2, eV, eL, r1, r2⟩, hg, rm => by
    subst eV
    subst eL
    obtain ⟨nd1, nd2, dis⟩ := List.nodup_append.mp nd
    have hg' : hgt t ≤ d ∧ hgtL ts ≤ d := by
      have : max (hgt t) (hgtL ts) ≤ d := hg
      omega
    obtain ⟨rm1, rm2⟩ := rm
    obtain ⟨h1, e1, sz1, z1, ok1, fr1, r1'⟩ := hS t List.mem_cons_self h A κ d x L1 ok nd1 (fun n m => inA n (List.mem_append_left _ m)) r1 hg'.1 rm1
    have sh1 : ∀ n, n < h.sz → n ∉ A → h1.get n = h.get n := fun n _ m => fr1 n fun z => m (inA n (List.mem_append_left _ z))
    have r2' : RepL h1 A κ ts d vs' L2 := repL_fr ok (fun n _ m => m) (KLe.refl _) sh1 (fun n m => fr1 n fun z => dis n z n m rfl) r2
    have nL1 : nn ∉ L1 := fun m => nL (List.mem_append_left _ m)
    obtain ⟨h2, o2, e2, sz2, z2, ok2, fr2, r3⟩ := sp_loop (v0 := v0) hck (o := some x) (fun t m => hS t (List.mem_cons_of_mem _ m)) ok1 nd2 (fun n m => inA n (List.mem_append_right _ m)) (fun m => nL (List.mem_append_right _ m)) (by rw [hck h h1 (fr1 nn nL1)]; exact c) r2' hg'.2 rm2
    refine ⟨h2, o2, ?_, sz2.trans sz1, z2.trans z1, ok2, fun n m => ?_, x, vs', L1, L2, rfl, rfl, ?_, r3⟩
    · show (if ck h then (match spBody C W k (.one x) [some v0, o] h with
        | .nx e1 h1 => forL ck (spBody C W k) (vs'.map .one) e1 h1
        | .ct e1 h1 => forL ck (spBody C W k) (vs'.map .one) e1 h1
        | .bk e1 h1 => .nx e1 h1
        | r => r) else .no) = _
      rw [c]
      have b : spBody C W k (.one x) [some v0, o] h = .nx [some v0, some x] h1 := by
        show (match ofE [some v0, some x] (((Rs.ok x h).bind fun x h1 => (Rs.ok [] h1).bind fun xs h2 => Rs.ok (x :: xs) h2).bind fun xs h1 => C.call k xs h1) (fun _ h1 => Rt.nx [some v0, some x] h1) with
          | .nx e1 h1 => evSs C W [] e1 h1
          | r => r) = _
        show (match ofE [some v0, some x] (C.call k [x] h) (fun _ h1 => Rt.nx [some v0, some x] h1) with
          | .nx e1 h1 => evSs C W [] e1 h1
          | r => r) = _
        rw [e1]
        rfl
      rw [b]
      exact e2
    · rw [fr2 n fun z => m (List.mem_append_right _ z), fr1 n fun z => m (List.mem_append_left _ z)]
    · exact rep_fr ok1 (fun n _ m => m) (KLe.refl _) (fun n _ m => fr2 n fun z => m (inA n (List.mem_append_right _ z))) (fun n m => fr2 n fun z => dis n m n z rfl) r1'
theorem hgtL_mem {d : Nat} : ∀ {ts : List TV}, hgtL ts ≤ d → ∀ t ∈ ts, hgt t ≤ d
  | x :: xs, q, t, m => by
    have q : max (hgt x) (hgtL xs) ≤ d := q
    rcases List.mem_cons.mp m with z | m
    · subst z
      omega
    · exact hgtL_mem (by omega) t m
/-- one list or tuple -/
theorem sp_lst (hT : T[k]? = some ⟨1, 2, bSpoil k⟩) {ts : List TV} (hS : ∀ t ∈ ts, Sp1 (C.call k) t) : Sp1 (runF T C W k) (.lst ts) := by
  intro h A κ d v L ok nd inA r hg rm
  cases d with
  | zero => exact absurd hg (by show ¬ hgtL ts + 1 ≤ 0; omega)
  | succ d =>
    obtain ⟨n, vs, L1, rfl, g, rfl, r⟩ := r
    obtain ⟨rm0, rm⟩ := rm
    have hg : hgtL ts ≤ d := by
      have : hgtL ts + 1 ≤ d + 1 := hg
      omega
    have nd' := List.nodup_cons.mp nd
    obtain ⟨h1, o1, e1, sz1, z1, ok1, fr1, r1⟩ := sp_loop (C := C) (W := W) (k := k) (v0 := .ref n) (ck := isL n vs) (nn := n) (fun h h' e => by unfold isL; rw [e]) (o := none) hS ok nd'.2 (fun m i => inA m (List.mem_cons_of_mem _ i)) nd'.1 (by unfold isL; rw [g]; simp) r hg rm
    have g1 : h1.get n = some (.lst vs) := by rw [fr1 n nd'.1]; exact g
    have len := repL_len r
    have nA : n ∈ A := inA n List.mem_cons_self
    refine ⟨h1.set n (.lst (vs ++ [.str "late"])), ?_, sz1, z1, ok_set ok1 g1, fun m i => ?_, n, vs ++ [.str "late"], L1, rfl, by rw [AH.get_set, if_pos rfl], rfl, ?_⟩
    · rw [sp_run hT]
      have a1 : evT C (.isi (.var 0 .rd) ["list", "tuple"]) [some (.ref n), none] h = .ok true h := by
        show ((match typN h (.ref n) with
          | some t => Rs.ok (AV.bl (["list", "tuple"].any (isiB t))) h
          | none => .no).bind fun x h1 => tru h1 x) = _
        simp only [typN, g]
        rfl
      have a2 : evT C (.isi (.var 0 .rd) ["list"]) [some (.ref n), o1] h1 = .ok true h1 := by
        show ((match typN h1 (.ref n) with
          | some t => Rs.ok (AV.bl (["list"].any (isiB t))) h1
          | none => .no).bind fun x h1 => tru h1 x) = _
        simp only [typN, g1]
        rfl
      have a3 : evS C W (.for_ (.nm 1) .seq [.var 0 .rd] [.spo k 1]) [some (.ref n), none] h = .nx [some (.ref n), o1] h1 := by
        show (match srcA .seq h [.ref n] with
          | some it => forL it.ck (spBody C W k) it.turns [some (.ref n), none] h
          | none => .no) = _
        simp only [srcA, g]
        exact e1
      have a4 : evS C W (.ex (.mt .append (.var 0 .rd) [.k (.str "late")])) [some (.ref n), o1] h1 = .nx [some (.ref n), o1] (h1.set n (.lst (vs ++ [.str "late"]))) := by
        show ofE _ (if rcvA .append h1 (.ref n) then mtA .append h1 (.ref n) [.str "late"] else .no) _ = _
        have e2 : rcvA .append h1 (.ref n) = true := by simp only [rcvA, lstA, g1]; rfl
        rw [e2, if_pos rfl]
        simp only [mtA, g1]
        rw [if_pos (by rw [len]; exact rm0)]
        rfl
      show retOf (match ofE _ (evT C (.isi (.var 0 .rd) ["list", "tuple"]) [some (.ref n), none] h) (fun t h1 => if t then evSs C W [.for_ (.nm 1) .seq [.var 0 .rd] [.spo k 1]] [some (.ref n), none] h1 else evSs C W [] [some (.ref n), none] h1) with
        | .nx e1 h1 => evSs C W [.iff (.isi (.var 0 .rd) ["list"]) [.ex (.mt .append (.var 0 .rd) [.k (.str "late")])] []] e1 h1
        | r => r) = _
      rw [a1]
      show retOf (match (match evS C W (.for_ (.nm 1) .seq [.var 0 .rd] [.spo k 1]) [some (.ref n), none] h with
          | .nx e1 h1 => evSs C W [] e1 h1
          | r => r) with
        | .nx e1 h1 => evSs C W [.iff (.isi (.var 0 .rd) ["list"]) [.ex (.mt .append (.var 0 .rd) [.k (.str "late")])] []] e1 h1
        | r => r) = _
      rw [a3]
      show retOf (match ofE _ (evT C (.isi (.var 0 .rd) ["list"]) [some (.ref n), o1] h1) (fun t h1 => if t then evSs C W [.ex (.mt .append (.var 0 .rd) [.k (.str "late")])] [some (.ref n), o1] h1 else evSs C W [] [some (.ref n), o1] h1) with
        | .nx e1 h1 => evSs C W [] e1 h1
        | r => r) = _
      rw [a2]
      show retOf (match (match evS C W (.ex (.mt .append (.var 0 .rd) [.k (.str "late")])) [some (.ref n), o1] h1 with
          | .nx e1 h1 => evSs C W [] e1 h1
          | r => r) with
        | .nx e1 h1 => evSs C W [] e1 h1
        | r => r) = _
      rw [a4]
      rfl
    · have i' : m ≠ n ∧ m ∉ L1 := ⟨fun z => i (by rw [z]; exact List.mem_cons_self), fun z => i (List.mem_cons_of_mem _ z)⟩
      rw [get_set_ne i'.1, fr1 m i'.2]
    · have r2 : RepL h1 A κ [.str "late"] d [.str "late"] [] := ⟨.str "late", [], [], [], rfl, rfl, ⟨rfl, rfl⟩, rfl, rfl⟩
      have r3 := repL_app r1 r2
      rw [List.append_nil] at r3
      exact repL_fr ok1 (fun n _ m => m) (KLe.refl _) (fun m _ i => get_set_ne fun z => i (by rw [z]; exact nA)) (fun m i => get_set_ne fun z => nd'.1 (by rw [← z]; exact i)) r3
theorem sp_tup (hT : T[k]? = some ⟨1, 2, bSpoil k⟩) {ts : List TV} (hS : ∀ t ∈ ts, Sp1 (C.call k) t) : Sp1 (runF T C W k) (.tup ts) := by
  intro h A κ d v L ok nd inA r hg rm
  obtain ⟨n, vs, rfl, g, nA, r⟩ := r
  have hg : hgtL ts ≤ d - 1 := by
    have : hgtL ts + 1 ≤ d := hg
    omega
  have nL : n ∉ L := fun z => nA (inA n z)
  obtain ⟨h1, o1, e1, sz1, z1, ok1, fr1, r1⟩ := sp_loop (C := C) (W := W) (k := k) (v0 := .ref n) (ck := isT n vs) (nn := n) (fun h h' e => by unfold isT; rw [e]) (o := none) hS ok nd inA nL (by unfold isT; rw [g]; simp) r hg rm
  have g1 : h1.get n = some (.tup vs) := by rw [fr1 n nL]; exact g
  refine ⟨h1, ?_, sz1, z1, ok1, fr1, n, vs, rfl, g1, nA, r1⟩
  rw [sp_run hT]
  have a1 : evT C (.isi (.var 0 .rd) ["list", "tuple"]) [some (.ref n), none] h = .ok true h := by
    show ((match typN h (.ref n) with
      | some t => Rs.ok (AV.bl (["list", "tuple"].any (isiB t))) h
      | none => .no).bind fun x h1 => tru h1 x) = _
    simp only [typN, g]
    rfl
  have a2 : evT C (.isi (.var 0 .rd) ["list"]) [some (.ref n), o1] h1 = .ok false h1 := by
    show ((match typN h1 (.ref n) with
      | some t => Rs.ok (AV.bl (["list"].any (isiB t))) h1
      | none => .no).bind fun x h1 => tru h1 x) = _
    simp only [typN, g1]
    rfl
  have a3 : evS C W (.for_ (.nm 1) .seq [.var 0 .rd] [.spo k 1]) [some (.ref n), none] h = .nx [some (.ref n), o1] h1 := by
    show (match srcA .seq h [.ref n] with
      | some it => forL it.ck (spBody C W k) it.turns [some (.ref n), none] h
      | none => .no) = _
    simp only [srcA, g]
    exact e1
  show retOf (match ofE _ (evT C (.isi (.var 0 .rd) ["list", "tuple"]) [some (.ref n), none] h) (fun t h1 => if t then evSs C W [.for_ (.nm 1) .seq [.var 0 .rd] [.spo k 1]] [some (.ref n), none] h1 else evSs C W [] [some (.ref n), none] h1) with
    | .nx e1 h1 => evSs C W [.iff (.isi (.var 0 .rd) ["list"]) [.ex (.mt .append (.var 0 .rd) [.k (.str "late")])] []] e1 h1
    | r => r) = _
  rw [a1]
  show retOf (match (match evS C W (.for_ (.nm 1) .seq [.var 0 .rd] [.spo k 1]) [some (.ref n), none] h with
      | .nx e1 h1 => evSs C W [] e1 h1
      | r => r) with
    | .nx e1 h1 => evSs C W [.iff (.isi (.var 0 .rd) ["list"]) [.ex (.mt .append (.var 0 .rd) [.k (.str "late")])] []] e1 h1
    | r => r) = _
  rw [a3]
  show retOf (match ofE _ (evT C (.isi (.var 0 .rd) ["list"]) [some (.ref n), o1] h1) (fun t h1 => if t then evSs C W [.ex (.mt .append (.var 0 .rd) [.k (.str "late")])] [some (.ref n), o1] h1 else evSs C W [] [some (.ref n), o1] h1) with
    | .nx e1 h1 => evSs C W [] e1 h1
    | r => r) = _
  rw [a2]
  rfl
end
theorem sp_all {T : List Fd} {W k : Nat} (hT : T[k]? = some ⟨1, 2, bSpoil k⟩) : ∀ n t, hgt t ≤ n → Sp1 (runF T (csF T W n noL) W k) t
  | n, .non, _ => fun h A κ d v L ok _ _ r _ _ => ⟨h, sp_atm hT (s := "NoneType") (by rw [r.1]; rfl) (by decide) (by decide), rfl, rfl, ok, fun _ _ => rfl, r⟩
  | n, .bl _, _ => fun h A κ d v L ok _ _ r _ _ => ⟨h, sp_atm hT (s := "bool") (by rw [r.1]; rfl) (by decide) (by decide), rfl, rfl, ok, fun _ _ => rfl, r⟩
  | n, .int _, _ => fun h A κ d v L ok _ _ r _ _ => ⟨h, sp_atm hT (s := "int") (by rw [r.1]; rfl) (by decide) (by decide), rfl, rfl, ok, fun _ _ => rfl, r⟩
  | n, .str _, _ => fun h A κ d v L ok _ _ r _ _ => ⟨h, sp_atm hT (s := "str") (by rw [r.1]; rfl) (by decide) (by decide), rfl, rfl, ok, fun _ _ => rfl, r⟩
  | n, .ty _, _ => fun h A κ d v L ok _ _ r _ q => q.elim
  | n, .stm, _ => fun h A κ d v L ok _ _ r _ q => q.elim
  | n, .scr, _ => fun h A κ d v L ok _ _ r _ q => q.elim
  | n, .unset, _ => fun h A κ d v L ok _ _ r _ q => q.elim
  | n, .som _, _ => fun h A κ d v L ok _ _ r _ q => q.elim
  | n, .fn _ _ _, _ => fun h A κ d v L ok _ _ r _ q => q.elim
  | 0, .lst ts, q => absurd q (by show ¬ hgtL ts + 1 ≤ 0; omega)
  | 0, .tup ts, q => absurd q (by show ¬ hgtL ts + 1 ≤ 0; omega)
  | n + 1, .lst ts, q => sp_lst hT fun t m => sp_all hT n t (hgtL_mem (by have : hgtL ts + 1 ≤ n + 1 := q; omega) t m)
  | n + 1, .tup ts, q => sp_tup hT fun t m => sp_all hT n t (hgtL_mem (by have : hgtL ts + 1 ≤ n + 1 := q; omega) t m)
theorem spoS_ctF {T : List Fd} {mus : List (List Nat × Bool)} {pr : Nat → Option Pr} {W : Nat} (hs3 : ∀ k, pr k = some .spoil → T[k]? = some ⟨1, 2, bSpoil k⟩) : ∀ n L LT, SpoS (csF T W n L) (ctF T mus pr W n LT)
  | 0, _, _ => fun k t q => q.elim
  | n + 1, L, LT => fun k t q => by
    have q : pr k = some .spoil ∧ hgt t ≤ n := by
      cases n <;> exact q
    have := sp_all (W := W) (hs3 k q.1) n t q.2
    intro h A κ d v Lt ok nd inA r hg rm
    have e : (csF T W (n + 1) L).call = runF T (csF T W n noL) W := by rw [csF_call]; rfl
    rw [e]
    exact this h A κ d v Lt ok nd inA r hg rm
end EV

/-! EvZo: calls over trees. -/
namespace EV
open PySem
/-- what a call owes -/
def CallG (r : List AV → AH → Rs AV) (w : List TV → Option Nat → (TD → Option Nat → Prop) → Prop) : Prop := ∀ ts vs h κ c M Q, OkH h → StR h c κ → Un (kl κ ++ M) → (∀ n ∈ M, n < h.sz) → RepL h (kl κ ++ M) κ ts 0 vs [] → w ts c Q →
  ∃ v h' u c' κ' Lr, r vs h = .ok v h' ∧ Q u c' ∧ OkH h' ∧ StR h' c' κ' ∧ Un (kl κ' ++ (Lr ++ M)) ∧ (∀ n ∈ Lr, n < h'.sz) ∧ Rep h' (kl κ' ++ (Lr ++ M)) κ' u.1 u.2 v Lr ∧ Go h κ [] h' κ' Lr
theorem enR_none {h : AH} {A : List Nat} {κ : KA} : ∀ k : Nat, EnR h A κ (List.replicate k none) (List.replicate k none) []
  | 0 => rfl
  | k + 1 => ⟨[], [], rfl, rfl, enR_none k⟩
theorem enR_args {h : AH} {A : List Nat} {κ : KA} {k : Nat} : ∀ {ts : List TV} {vs : List AV}, RepL h A κ ts 0 vs [] → EnR h A κ (vs.map some ++ List.replicate k none) (ts.map (fun v => some (v, 0)) ++ List.replicate k none) []
  | [], _, r => by obtain ⟨rfl, _⟩ := r; exact enR_none k
  | t :: ts, _, ⟨v, vs', L1, L2, f, eL, r1, r2⟩ => by
    subst f
    obtain ⟨rfl, rfl⟩ := List.append_eq_nil_iff.mp eL.symm
    exact ⟨[], [], rfl, ⟨v, rfl, r1⟩, enR_args r2⟩
theorem pushL_szE (h : AH) (e : En) : ∀ k, (h.pushL e k).sz = h.sz + k
  | 0 => rfl
  | k + 1 => by
    show ((h.push (.clo e)).pushL e k).sz = h.sz + (k + 1)
    rw [pushL_szE (h.push (.clo e)) e k]
    show h.sz + 1 + k = _
    omega
theorem pushL_z (h : AH) (e : En) : ∀ k, (h.pushL e k).z = h.z
  | 0 => rfl
  | k + 1 => pushL_z (h.push (.clo e)) e k
theorem pushL_old (h : AH) (e : En) : ∀ k n, n < h.sz → (h.pushL e k).get n = h.get n
  | 0, n, l => rfl
  | k + 1, n, l => by
    show ((h.push (.clo e)).pushL e k).get n = _
    rw [pushL_old (h.push (.clo e)) e k n (Nat.lt_succ_of_lt l), AH.get_push, if_neg (by omega)]
theorem pushL_new (h : AH) (e : En) : ∀ k j, j < k → (h.pushL e k).get (h.sz + j) = some (.clo e)
  | k + 1, 0, _ => by
    show ((h.push (.clo e)).pushL e k).get h.sz = _
    rw [pushL_old (h.push (.clo e)) e k h.sz (Nat.lt_succ_self _), AH.get_push, if_pos rfl]
  | k + 1, j + 1, l => by
    have := pushL_new (h.push (.clo e)) e k j (by omega)
    have e1 : (h.push (.clo e)).sz + j = h.sz + (j + 1) := by show h.sz + 1 + j = _; omega
    rw [e1] at this
    exact this
theorem pushL_ok {h : AH} (ok : OkH h) (e : En) : ∀ k, OkH (h.pushL e k)
  | 0 => ok
  | k + 1 => pushL_ok (h := h.push (.clo e)) (ok_push ok) e k
theorem repL_fns {h : AH} {A : List Nat} {κ : KA} {e : En} {te : List TV} {u : Nat} : ∀ (js : List Nat), (∀ j ∈ js, h.get (u + j) = some (.clo e) ∧ u + j ∉ A) → RepE h A κ te e → RepL h A κ (js.map fun j => .fn (u + j) e te) 0 (js.map fun j => .ref (u + j)) []
  | [], _, _ => ⟨rfl, rfl⟩
  | j :: js, hj, r => ⟨_, _, [], [], rfl, rfl, ⟨⟨rfl, hj j List.mem_cons_self⟩, rfl, r⟩, repL_fns js (fun i m => hj i (List.mem_cons_of_mem _ m)) r⟩
theorem run_ok {T : List Fd} {mus : List (List Nat × Bool)} {pr : Nat → Option Pr} {W : Nat} {C : Cs} {CT : CTs} (hs1 : ∀ C k, pr k = some .stream → CallG (runF T C W k) wStream) (hs2 : ∀ C k, pr k = some .draw → CallG (runF T C W k) wDraw)
    (hC : CallS C CT) (hA : AppS C CT) (hL : ClS C CT) (hSp : SpoS C CT) (k : Nat) : CallG (runF T C W k) (runT T mus pr CT W k) := fun ts vs h κ c M Q ok st un lt r q => by
  unfold runT at q
  cases hp : pr k with
  | some p =>
    rw [hp] at q
    cases p with
    | stream => exact hs1 C k hp ts vs h κ c M Q ok st un lt r q
    | draw => exact hs2 C k hp ts vs h κ c M Q ok st un lt r q
    | spoil => exact q.elim
  | none =>
    rw [hp] at q
    dsimp only at q
    cases hT : T[k]? with
    | none => rw [hT] at q; exact q.elim
    | some d =>
      rw [hT] at q
      obtain ⟨hl, q⟩ := q
      have hlen := repL_len r
      have hs : Hs h (enOf d.ns vs) ⟨enT d.ns ts, c⟩ κ [] M := by
        refine ⟨ok, st, by simpa using un, ?_, lt⟩
        unfold enOf enT
        rw [hlen]
        exact enR_args (by simpa using r)
      have a := jSs hC hA hL hSp (W := W) (mu := ((mus[k]?).getD ([], false)).1) d.body _ _ _ _ _ _ _ hs q
      have ev : runF T C W k vs h = retOf (evSs C W d.body (enOf d.ns vs) h) := by
        unfold runF
        rw [hT]
        exact if_pos (by rw [hlen]; exact hl)
      rw [ev]
      cases es : evSs C W d.body (enOf d.ns vs) h with
      | nx e' h' =>
        rw [es] at a
        obtain ⟨x', κ', L', p, hs', g⟩ := a
        refine ⟨.non, h', (.non, 9), x'.c, κ', [], rfl, p, hs'.ok, hs'.st, fun b => ?_, (fun _ m => by cases m), ⟨rfl, rfl⟩, g.weak (fun n m => m) (fun n m => by cases m)⟩
        have := hs'.un b
        simp only [List.count_append, List.nil_append] at *
        omega
      | rt v h' =>
        rw [es] at a
        obtain ⟨u, c', κ', Lr, p, a1, a2, a3, a4, a5, g⟩ := a
        unfold kst at p
        dsimp only at p
        cases hr : ((mus[k]?).getD ([], false)).2 with
        | true =>
          rw [hr] at p
          exact ⟨v, h', u, c', κ', Lr, rfl, p, a1, a2, a3, a4, a5, g⟩
        | false =>
          rw [hr] at p
          refine ⟨v, h', (u.1, 0), c', κ', [], rfl, p, a1, a2, fun b => ?_, (fun _ m => by cases m), share a1 a3 a5 fun n => by simp only [List.count_append, List.nil_append]; omega, g.weak (fun n m => m) (fun n m => by cases m)⟩
          have := a3 b
          simp only [List.count_append, List.nil_append] at *
          omega
      | bk e' h' => rw [es] at a; obtain ⟨_, _, _, p, _⟩ := a; exact p.elim
      | ct e' h' => rw [es] at a; obtain ⟨_, _, _, p, _⟩ := a; exact p.elim
      | exc _ _ _ _ => rw [es] at a; exact a.elim
      | no => rw [es] at a; exact a.elim
theorem app_no {C : Cs} {CT : CTs} (h : CT.app = noT) : AppS C CT := fun n e ts hh κ c M Q _ _ _ _ _ q => by
  rw [h] at q
  exact q.elim
/-- a lambda called -/
theorem app_ok {C Cl : Cs} {CT CTl : CTs} {u : Nat} {e0 : En} {ls : List E} (hC : CallS Cl CTl) (hA : AppS Cl CTl) (hL : ClS Cl CTl) (e1 : C.app = appL u (evLs Cl ls e0)) (e2 : CT.app = appT u e0 (wLs CTl ls)) : AppS C CT := fun n e ts h κ c M Q ok st un lt r q => by
  rw [e2] at q
  obtain ⟨j, f, rfl, rfl, hf, q⟩ := q
  unfold wLs at hf
  rw [List.getElem?_map] at hf
  obtain ⟨p, hp, rfl⟩ := Option.map_eq_some_iff.mp hf
  have ev : C.app (u + j) h = evE Cl p e h := by
    rw [e1]
    unfold appL evLs
    rw [if_pos (Nat.le_add_right _ _), Nat.add_sub_cancel_left, List.getElem?_map, hp]
    rfl
  rw [ev]
  have hs : Hs h e ⟨teOf ts, c⟩ κ [] M := ⟨ok, st, by simpa using un, by simpa using enR_teOf r, lt⟩
  obtain ⟨v, h', b, x', κ', L', Lr, ee, q', hs', rr, g, _⟩ := (jP hC hA hL p).e e ⟨teOf ts, c⟩ h κ [] M _ hs q
  refine ⟨v, h', b, x'.c, κ', Lr, ee, q', hs'.ok, hs'.st, fun n => ?_, fun n m => ?_, ?_, g.weak (fun n m => m) fun n m => .inl (List.mem_append_right _ m)⟩
  · have := hs'.un n
    simp only [List.count_append] at *
    omega
  · exact hs'.lt n (List.mem_append_left _ m)
  · exact rep_A hs'.ok (mem_of_count fun n => by simp only [List.count_append]; omega) rr
theorem cl_no {C : Cs} {CT : CTs} (h : ∀ ls n e te k ts c Q, CT.cl ls n e te k ts c Q → False) : ClS C CT := fun ls e te k ts vs hh κ c M Q _ _ _ _ _ _ q => (h _ _ _ _ _ _ _ _ (q 0 e)).elim
theorem calls_all {T : List Fd} {mus : List (List Nat × Bool)} {pr : Nat → Option Pr} {W : Nat} (hs1 : ∀ C k, pr k = some .stream → CallG (runF T C W k) wStream) (hs2 : ∀ C k, pr k = some .draw → CallG (runF T C W k) wDraw) (hs3 : ∀ k, pr k = some .spoil → T[k]? = some ⟨1, 2, bSpoil k⟩) :
    ∀ n L LT, CallS (csF T W n L) (ctF T mus pr W n LT) ∧ ClS (csF T W n L) (ctF T mus pr W n LT) := by
  intro n
  induction n using Nat.strongRecOn with
  | ind n ih =>
    intro L LT
    cases n with
    | zero => exact ⟨fun k ts vs h κ c M Q _ _ _ _ _ q => q.elim, cl_no fun _ _ _ _ _ _ _ _ q => q⟩
    | succ n =>
      refine ⟨fun k => run_ok (mus := mus) hs1 hs2 (ih n (by omega) noL noT).1 (app_no (by cases n <;> rfl)) (ih n (by omega) noL noT).2 (spoS_ctF hs3 n noL noT) k, ?_⟩
      cases n with
      | zero => exact cl_no fun _ _ _ _ _ _ _ _ q => q
      | succ m =>
        intro ls e te k ts vs h κ c M Q ok st un lt r rE q
        obtain ⟨_, q⟩ := q h.sz e
        have x : Ex h (h.pushL e ls.length) := fun n l => pushL_old h e _ n l
        have hot : ∀ n ∈ kl κ ++ M, n < h.sz := fun n m => by
          rcases List.mem_append.mp m with m | m
          · exact kl_in ok st n m
          · exact lt n m
        have rE' : RepE (h.pushL e ls.length) (kl κ ++ M) κ te e := repE_fr ok (fun n _ m => m) (KLe.refl _) (fun n l _ => x n l) rE
        have r2 := repL_app (repL_ex ok x (fun n _ m => m) r) (repL_fns (u := h.sz) (List.range ls.length) (fun j hj => ⟨pushL_new h e _ j (by simpa using hj), fun m => by have := hot _ m; omega⟩) rE')
        have hz : h.sz ≤ (h.pushL e ls.length).sz := by rw [pushL_szE]; omega
        obtain ⟨v, h', u, c', κ', Lr, a1, a2, a3, a4, a5, a6, a7, a8⟩ := run_ok hs1 hs2 (C := csF T W (m + 1) (appL h.sz (evLs (csF T W m noL) ls e))) (CT := ctF T mus pr W (m + 1) (appT h.sz e (wLs (ctF T mus pr W m noT) ls)))
          (ih (m + 1) (by omega) _ _).1 (app_ok (ih m (by omega) noL noT).1 (app_no (by cases m <;> rfl)) (ih m (by omega) noL noT).2 rfl rfl) (ih (m + 1) (by omega) _ _).2 (spoS_ctF hs3 (m + 1) _ _) k _ _ (h.pushL e ls.length) κ c M Q (pushL_ok ok e _) (st_ex ok x (pushL_z h e _) st) un (fun n m => Nat.lt_of_lt_of_le (lt n m) hz) r2 q
        refine ⟨v, h', u, c', κ', Lr, a1, a2, a3, a4, a5, a6, a7, ?_⟩
        have g0 : Go h κ [] (h.pushL e ls.length) κ [] := Go.same x hz (pushL_z h e _) fun n m => .inl m
        exact g0.trans a8
theorem calls_ok {T : List Fd} {mus : List (List Nat × Bool)} {pr : Nat → Option Pr} {W : Nat} (hs1 : ∀ C k, pr k = some .stream → CallG (runF T C W k) wStream) (hs2 : ∀ C k, pr k = some .draw → CallG (runF T C W k) wDraw) (hs3 : ∀ k, pr k = some .spoil → T[k]? = some ⟨1, 2, bSpoil k⟩) (n : Nat) : CallS (csF T W n noL) (ctF T mus pr W n noT) := (calls_all hs1 hs2 hs3 n noL noT).1
def bStream : List S := [.ret (.lst [.bi .list [.var 0 .rd], .k (.int 0), .k (.int 0), .k (.int 17)])]
theorem stream_ok {T : List Fd} {C : Cs} {W k : Nat} (hT : T[k]? = some ⟨1, 1, bStream⟩) : CallG (runF T C W k) wStream := by
  intro ts vs h κ c M Q ok st un lt r q
  unfold wStream at q
  split at q
  · obtain ⟨v, vs', L1, L2, rfl, eL, r1, r2⟩ := r
    obtain ⟨rfl, _⟩ := r1
    obtain ⟨rfl, _⟩ := r2
    cases κ with
    | some _ => exact st.elim
    | none =>
      have st : h.z.length ≤ 63 := st
      have ev : runF T C W k [.scr] h = .ok (.ref (h.sz + 1)) ((h.push (.lst (h.z.map .int))).push (.lst [.ref h.sz, .int 0, .int 0, .int 17])) := by
        unfold runF
        rw [hT]
        rfl
      rw [ev]
      have ok1 : OkH (h.push (.lst (h.z.map .int))) := ok_push ok
      refine ⟨_, _, (.stm, 9), some 1000000000, some (h.sz + 1, h.sz), [], rfl, q, ok_push ok1, ⟨h.z, 0, 0, 17, st, get_new, ?_, by omega, by omega, by omega, by omega, by omega⟩, fun b => ?_, (fun _ m => by cases m), ⟨⟨_, _, rfl, rfl⟩, rfl⟩, ?_⟩
      · rw [ex_push h.sz (Nat.lt_succ_self _)]
        exact get_new
      · have := un b
        have h1 : M.count h.sz = 0 := List.count_eq_zero.mpr fun m => by have := lt _ m; omega
        have h2 : M.count (h.sz + 1) = 0 := List.count_eq_zero.mpr fun m => by have := lt _ m; omega
        simp only [kl, List.count_append, List.count_cons, List.count_nil, List.nil_append] at *
        by_cases z : h.sz + 1 = b
        · subst z
          simp
          omega
        · by_cases y : h.sz = b
          · subst y
            simp
            omega
          · have z' : (h.sz + 1 == b) = false := beq_eq_false_iff_ne.mpr z
            have y' : (h.sz == b) = false := beq_eq_false_iff_ne.mpr y
            rw [z', y']
            simp
            omega
      · refine ⟨by show h.sz ≤ h.sz + 1 + 1; omega, rfl, fun m l _ => ?_, fun m i => ?_, fun p e => by cases e⟩
        · rw [ex_push m (Nat.lt_succ_of_lt l), ex_push m l]
        · simp only [kl, List.mem_append, List.mem_cons, List.not_mem_nil, or_false] at i
          right
          omega
  · exact q.elim
end EV

/-! EvZp: the draw. -/
namespace EV
open PySem
def bDraw : List S := [.sub (.var 0 .rd) (.k (.int 2)) (.bin .add (.ix (.var 0 .rd) (.k (.int 2))) (.k (.int 1))), .whl (.an (.cmp .eq (.ix (.var 0 .rd) (.k (.int 1))) (.k (.int 0))) (.cmp .ne (.ix (.var 0 .rd) (.k (.int 0))) (.lst []))) [.set 2 (.bi .abs [.mt .pop (.ix (.var 0 .rd) (.k (.int 0))) [.k (.int 0)]]), .sub (.var 0 .rd) (.k (.int 3)) (.bin .mod (.bi .int [.bin .add (.bin .add (.bin .mul (.ix (.var 0 .rd) (.k (.int 3))) (.k (.int 8191))) (.var 2 .rd)) (.k (.int 3))]) (.k (.int 2147483647))), .sub (.var 0 .rd) (.k (.int 1)) (.ite (.cmp .ge (.var 2 .rd) (.bin .pow (.k (.int 10)) (.k (.int 18)))) (.var 2 .rd) (.k (.int 0)))], .iff (.cmp .gt (.ix (.var 0 .rd) (.k (.int 1))) (.k (.int 0))) [.set 3 (.bin .mod (.bi .int [.ix (.var 0 .rd) (.k (.int 1))]) (.var 1 .rd)), .sub (.var 0 .rd) (.k (.int 1)) (.bin .fdiv (.ix (.var 0 .rd) (.k (.int 1))) (.var 1 .rd)), .ret (.var 3 .rd)] [], .set 4 (.bin .mod (.bi .int [.bin .pow (.bin .add (.bin .add (.ix (.var 0 .rd) (.k (.int 3))) (.bin .mul (.k (.int 7919)) (.ix (.var 0 .rd) (.k (.int 2))))) (.k (.int 104729))) (.k (.int 5))]) (.k (.int 2147483629))), .ret (.bin .mod (.bin .mod (.bi .int [.bin .pow (.bin .add (.bin .add (.bin .mul (.var 4 .rd) (.k (.int 48271))) (.bin .mul (.k (.int 30011)) (.ix (.var 0 .rd) (.k (.int 2))))) (.k (.int 29))) (.k (.int 3))]) (.k (.int 1000000007))) (.var 1 .rd))]
structure DR (h0 : AH) (r l : Nat) (h : AH) (cells : List Int) (p q m : Int) : Prop where
  ok : OkH h
  sz : h0.sz ≤ h.sz
  z : h.z = h0.z
  fr : ∀ n, n < h0.sz → n ≠ r → n ≠ l → h.get n = h0.get n
  gr : h.get r = some (.lst [.ref l, .int p, .int q, .int m])
  gl : h.get l = some (.lst (cells.map .int))
  ne : r ≠ l
section
variable {h0 h : AH} {r l : Nat} {cells : List Int} {p q m p' q' m' : Int}
theorem DR.setr (d : DR h0 r l h cells p q m) : DR h0 r l (h.set r (.lst [.ref l, .int p', .int q', .int m'])) cells p' q' m' :=
  ⟨ok_set d.ok d.gr, d.sz, d.z, fun n a b c => by rw [get_set_ne b]; exact d.fr n a b c, by rw [AH.get_set, if_pos rfl], by rw [get_set_ne d.ne.symm]; exact d.gl, d.ne⟩
theorem DR.setl {c : Int} (d : DR h0 r l h (c :: cells) p q m) : DR h0 r l (h.set l (.lst (cells.map .int))) cells p q m :=
  ⟨ok_set d.ok d.gl, d.sz, d.z, fun n a b c => by rw [get_set_ne c]; exact d.fr n a b c, by rw [get_set_ne d.ne]; exact d.gr, by rw [AH.get_set, if_pos rfl], d.ne⟩
theorem DR.push {o : AO} (d : DR h0 r l h cells p q m) : DR h0 r l (h.push o) cells p q m :=
  ⟨ok_push d.ok, Nat.le_succ_of_le d.sz, d.z, fun n a b c => by rw [ex_push n (Nat.lt_of_lt_of_le a d.sz)]; exact d.fr n a b c, by rw [ex_push r (d.ok _ _ d.gr)]; exact d.gr, by rw [ex_push l (d.ok _ _ d.gl)]; exact d.gl, d.ne⟩
variable {C : Cs} {W : Nat} {many : Int} {x2 x3 x4 : Option AV}
abbrev dEn (r : Nat) (many : Int) (x2 x3 x4 : Option AV) : En := [some (.ref r), some (.int many), x2, x3, x4]
def dE (k : Int) : E := .ix (.var 0 .rd) (.k (.int k))
theorem d0 (d : DR h0 r l h cells p q m) : evE C (dE 0) (dEn r many x2 x3 x4) h = .ok (.ref l) h := by
  show opt h (ixA h (.ref r) (.int 0)) = _
  simp only [ixA, d.gr]
  rfl
theorem d1 (d : DR h0 r l h cells p q m) : evE C (dE 1) (dEn r many x2 x3 x4) h = .ok (.int p) h := by
  show opt h (ixA h (.ref r) (.int 1)) = _
  simp only [ixA, d.gr]
  rfl
theorem d2 (d : DR h0 r l h cells p q m) : evE C (dE 2) (dEn r many x2 x3 x4) h = .ok (.int q) h := by
  show opt h (ixA h (.ref r) (.int 2)) = _
  simp only [ixA, d.gr]
  rfl
theorem d3 (d : DR h0 r l h cells p q m) : evE C (dE 3) (dEn r many x2 x3 x4) h = .ok (.int m) h := by
  show opt h (ixA h (.ref r) (.int 3)) = _
  simp only [ixA, d.gr]
  rfl
theorem evE_bin {op : BOp} {a b : E} {e : En} {h h1 h2 : AH} {x y : AV} (h1' : evE C a e h = .ok x h1) (h2' : evE C b e h1 = .ok y h2) : evE C (.bin op a b) e h = binA op h2 x y := by
  show ((evE C a e h).bind fun x h1 => (evE C b e h1).bind fun y h2 => binA op h2 x y) = _
  rw [h1']
  show ((evE C b e h1).bind fun y h2 => binA op h2 x y) = _
  rw [h2']
  rfl
theorem evE_ite {c a b : E} {e : En} {h h1 : AH} {t : Bool} (h1' : evT C c e h = .ok t h1) : evE C (.ite c a b) e h = if t then evE C a e h1 else evE C b e h1 := by
  show ((evT C c e h).bind fun t h1 => if t then evE C a e h1 else evE C b e h1) = _
  rw [h1']
  rfl
theorem evE_k {c : AV} {e : En} {h : AH} : evE C (.k c) e h = .ok c h := rfl
theorem evE_bi {b : Bi} {a : E} {e : En} {h h1 : AH} {x : AV} (h1' : evE C a e h = .ok x h1) : evE C (.bi b [a]) e h = biA b h1 [x] := by
  show ((evEs C [a] e h).bind fun xs h1 => biA b h1 xs) = _
  have : evEs C [a] e h = .ok [x] h1 := by
    show ((evE C a e h).bind fun x h1 => (Rs.ok [] h1).bind fun xs h2 => .ok (x :: xs) h2) = _
    rw [h1']
    rfl
  rw [this]
  rfl
/-- stream[k] = v -/
theorem dSub {k : Int} {p : E} {v : AV} {h1 h2 : AH} (a : evE C p (dEn r many x2 x3 x4) h = .ok v h1) (b : setA h1 (.ref r) (.int k) v = some h2) : evS C W (.sub (.var 0 .rd) (.k (.int k)) p) (dEn r many x2 x3 x4) h = .nx (dEn r many x2 x3 x4) h2 := by
  show ofE _ (evE C p (dEn r many x2 x3 x4) h) _ = _
  rw [a]
  show (match setA h1 (.ref r) (.int k) v with
    | some h4 => Rt.nx (dEn r many x2 x3 x4) h4
    | none => .no) = _
  rw [b]
theorem set1 (d : DR h0 r l h cells p q m) : setA h (.ref r) (.int 1) (.int p') = some (h.set r (.lst [.ref l, .int p', .int q, .int m])) := by
  simp only [setA, d.gr]
  rfl
theorem set2 (d : DR h0 r l h cells p q m) : setA h (.ref r) (.int 2) (.int q') = some (h.set r (.lst [.ref l, .int p, .int q', .int m])) := by
  simp only [setA, d.gr]
  rfl
theorem set3 (d : DR h0 r l h cells p q m) : setA h (.ref r) (.int 3) (.int m') = some (h.set r (.lst [.ref l, .int p, .int q, .int m'])) := by
  simp only [setA, d.gr]
  rfl
theorem ints_lay : ∀ zs : List Int, PyData.canLayAll0 (zs.map PyData.int) = true
  | [] => by simp [PyData.canLayAll0]
  | z :: zs => by simp [PyData.canLayAll0, PyData.canLay0, ints_lay zs]
theorem ints_depth : ∀ zs : List Int, PyData.depthAll (zs.map PyData.int) ≤ 1
  | [] => by simp [PyData.depthAll]
  | z :: zs => by
    have h1 := ints_depth zs
    simp only [List.map_cons, PyData.depthAll, PyData.depth]
    omega
theorem ints_shaped (zs : List Int) : SeqAt.shaped (.list (zs.map PyData.int)) = true := by
  have h1 := ints_depth zs
  have h2 : PyData.depth (.list (zs.map PyData.int)) ≤ 64 := by
    simp only [PyData.depth]
    omega
  show (PyData.canLay0 (.list (zs.map PyData.int)) && decide (PyData.depth (.list (zs.map PyData.int)) ≤ 64)) = true
  rw [Bool.and_eq_true]
  exact ⟨by simp only [PyData.canLay0]; exact ints_lay zs, decide_eq_true h2⟩
theorem mapO_ints {f : Nat} {h : AH} : ∀ zs : List Int, mapO (toPy (f + 1) h) (zs.map AV.int) = some (zs.map PyData.int)
  | [] => rfl
  | z :: zs => by
    have e1 : toPy (f + 1) h (.int z) = some (.int z) := by simp only [toPy]
    rw [List.map_cons, List.map_cons]
    unfold mapO
    rw [mapO_ints zs, e1]
theorem datA_ints {n : Nat} {zs : List Int} (g : h.get n = some (.lst (zs.map .int))) : datA h (.ref n) = some (.list (zs.map PyData.int)) := by
  have : toPy 200 h (.ref n) = some (.list (zs.map PyData.int)) := by
    unfold toPy
    simp only [g]
    rw [mapO_ints (f := 198)]
    rfl
  unfold datA
  rw [this]
  simp only [ints_shaped, if_true]
def dTest : E := .an (.cmp .eq (.ix (.var 0 .rd) (.k (.int 1))) (.k (.int 0))) (.cmp .ne (.ix (.var 0 .rd) (.k (.int 0))) (.lst []))
theorem test_p (d : DR h0 r l h cells p q m) (hp : p ≠ 0) : evT C dTest (dEn r many x2 x3 x4) h = .ok false h := by
  show (((evE C (dE 1) (dEn r many x2 x3 x4) h).bind fun x h1 => (Rs.ok (.int 0) h1).bind fun y h2 => match cmpA .eq h2 x y with
    | some t => Rs.ok (AV.bl t) h2
    | none => .no).bind fun x h1 => tru h1 x).bind _ = _
  rw [d1 d]
  have : cmpA .eq h (.int p) (.int 0) = some false := by
    show some (PyData.eqv (.int p) (.int 0)) = _
    have : PyData.eqv (.int p) (.int 0) = (p == 0) := by simp only [PyData.eqv]
    rw [this, beq_eq_false_iff_ne.mpr hp]
  show (((match cmpA .eq h (.int p) (.int 0) with
    | some t => Rs.ok (AV.bl t) h
    | none => .no) : Rs AV).bind fun x h1 => tru h1 x).bind _ = _
  rw [this]
  rfl
theorem test_c (d : DR h0 r l h cells 0 q m) : evT C dTest (dEn r many x2 x3 x4) h = .ok (!cells.isEmpty) (h.push (.lst [])) := by
  show (((evE C (dE 1) (dEn r many x2 x3 x4) h).bind fun x h1 => (Rs.ok (.int 0) h1).bind fun y h2 => match cmpA .eq h2 x y with
    | some t => Rs.ok (AV.bl t) h2
    | none => .no).bind fun x h1 => tru h1 x).bind _ = _
  rw [d1 d]
  show evT C (.cmp .ne (dE 0) (.lst [])) (dEn r many x2 x3 x4) h = _
  show ((evE C (dE 0) (dEn r many x2 x3 x4) h).bind fun x h1 => (evE C (.lst []) (dEn r many x2 x3 x4) h1).bind fun y h2 => match cmpA .ne h2 x y with
    | some t => Rs.ok (AV.bl t) h2
    | none => .no).bind _ = _
  rw [d0 d]
  have d' := d.push (o := .lst [])
  have e1 := datA_ints d'.gl
  have e2 : datA (h.push (.lst [])) (.ref h.sz) = some (.list []) := datA_ints (zs := []) get_new
  have e3 : cmpA .ne (h.push (.lst [])) (.ref l) (.ref h.sz) = some (!cells.isEmpty) := by
    unfold cmpA
    simp only [e1, e2]
    cases cells with
    | nil => simp [PyData.eqv, PyData.eqvAll]
    | cons c cs => simp [PyData.eqv, PyData.eqvAll]
  show ((match cmpA .ne (h.push (.lst [])) (.ref l) (.ref h.sz) with
    | some t => Rs.ok (AV.bl t) (h.push (.lst []))
    | none => .no) : Rs AV).bind _ = _
  rw [e3]
  rfl
def absI (c : Int) : Int := if c < 0 then -c else c
def dB1 : S := .set 2 (.bi .abs [.mt .pop (.ix (.var 0 .rd) (.k (.int 0))) [.k (.int 0)]])
def dB2 : S := .sub (.var 0 .rd) (.k (.int 3)) (.bin .mod (.bi .int [.bin .add (.bin .add (.bin .mul (.ix (.var 0 .rd) (.k (.int 3))) (.k (.int 8191))) (.var 2 .rd)) (.k (.int 3))]) (.k (.int 2147483647)))
def dB3 : S := .sub (.var 0 .rd) (.k (.int 1)) (.ite (.cmp .ge (.var 2 .rd) (.bin .pow (.k (.int 10)) (.k (.int 18)))) (.var 2 .rd) (.k (.int 0)))
theorem log2_small {i : Int} (h1 : 0 ≤ i) (h2 : i < 2 ^ 100) : i.natAbs.log2 < 200 := by
  by_cases z : i.natAbs = 0
  · rw [z]
    decide
  · refine (Nat.log2_lt z).mpr ?_
    have : i.natAbs < 2 ^ 100 := by omega
    exact Nat.lt_of_lt_of_le this (Nat.pow_le_pow_right (by decide) (by decide))
theorem mul_ok {i j : Int} (h1 : i.natAbs.log2 < 500) (h2 : j.natAbs.log2 < 500) {h : AH} : binA .mul h (.int i) (.int j) = .ok (.int (i * j)) h := if_pos (by omega)
theorem sB1 {c : Int} (d : DR h0 r l h (c :: cells) p q m) : evS C W dB1 (dEn r many x2 x3 x4) h = .nx (dEn r many (some (.int (absI c))) x3 x4) (h.set l (.lst (cells.map .int))) := by
  have e1 : evE C (.mt .pop (dE 0) [.k (.int 0)]) (dEn r many x2 x3 x4) h = .ok (.int c) (h.set l (.lst (cells.map .int))) := by
    show ((evE C (dE 0) (dEn r many x2 x3 x4) h).bind fun x h1 => if rcvA .pop h1 x then (Rs.ok [AV.int 0] h1).bind fun xs h2 => mtA .pop h2 x xs else .no) = _
    rw [d0 d]
    have e2 : rcvA .pop h (.ref l) = true := by simp only [rcvA, lstA, d.gl]; rfl
    show (if rcvA .pop h (.ref l) then mtA .pop h (.ref l) [.int 0] else .no) = _
    rw [e2, if_pos rfl]
    have e3 : _root_.L2.ixN ((c :: cells).map AV.int).length 0 = some 0 := by
      unfold _root_.L2.ixN
      rw [if_pos (Int.le_refl _), if_pos (by simp)]
      rfl
    simp only [mtA, d.gl, e3]
    rfl
  have e2 := evE_bi (b := .abs) e1
  show ofE _ (evE C (.bi .abs [.mt .pop (dE 0) [.k (.int 0)]]) (dEn r many x2 x3 x4) h) _ = _
  rw [e2]
  rfl
theorem sB2 {a : Int} (ha : 0 ≤ a) (hm : 0 ≤ m) (hm2 : m < 2147483647) (d : DR h0 r l h cells p q m) : evS C W dB2 (dEn r many (some (.int a)) x3 x4) h = .nx (dEn r many (some (.int a)) x3 x4) (h.set r (.lst [.ref l, .int p, .int q, .int ((m * 8191 + a + 3).fmod 2147483647)])) := by
  refine dSub (v := .int _) ?_ (set3 d)
  have m1 : evE C (.bin .mul (dE 3) (.k (.int 8191))) (dEn r many (some (.int a)) x3 x4) h = .ok (.int (m * 8191)) h := by
    rw [evE_bin (d3 d) evE_k]
    exact mul_ok (by have := log2_small hm (by omega); omega) (by decide)
  have m2 : evE C (.bin .add (.bin .add (.bin .mul (dE 3) (.k (.int 8191))) (.var 2 .rd)) (.k (.int 3))) (dEn r many (some (.int a)) x3 x4) h = .ok (.int (m * 8191 + a + 3)) h := by
    rw [evE_bin (x := .int (m * 8191 + a)) (y := .int 3) (h1 := h) (h2 := h) ?_ evE_k]
    · rfl
    · rw [evE_bin (x := .int (m * 8191)) (y := .int a) (h1 := h) (h2 := h) m1 rfl]
      rfl
  have m3 := evE_bi (b := .int) m2
  show evE C (.bin .mod (.bi .int [.bin .add (.bin .add (.bin .mul (dE 3) (.k (.int 8191))) (.var 2 .rd)) (.k (.int 3))]) (.k (.int 2147483647))) (dEn r many (some (.int a)) x3 x4) h = _
  rw [evE_bin (x := .int (m * 8191 + a + 3)) (y := .int 2147483647) (h1 := h) (h2 := h) m3 evE_k]
  rfl
theorem sB3 {a : Int} (d : DR h0 r l h cells p q m) : ∃ p', (p' = a ∨ p' = 0) ∧ evS C W dB3 (dEn r many (some (.int a)) x3 x4) h = .nx (dEn r many (some (.int a)) x3 x4) (h.set r (.lst [.ref l, .int p', .int q, .int m])) := by
  have e1 : evT C (.cmp .ge (.var 2 .rd) (.bin .pow (.k (.int 10)) (.k (.int 18)))) (dEn r many (some (.int a)) x3 x4) h = .ok (decide ((10 : Int) ^ 18 ≤ a)) h := rfl
  by_cases hp : (10 : Int) ^ 18 ≤ a
  · refine ⟨a, .inl rfl, dSub (v := .int a) ?_ (set1 d)⟩
    rw [evE_ite e1]
    rw [decide_eq_true hp]
    rfl
  · refine ⟨0, .inr rfl, dSub (v := .int 0) ?_ (set1 d)⟩
    rw [evE_ite e1]
    rw [decide_eq_false hp]
    rfl
theorem absI_nn (c : Int) : 0 ≤ absI c := by
  unfold absI
  split <;> omega
theorem body_ok {c : Int} (hm : 0 ≤ m) (hm2 : m < 2147483647) (d : DR h0 r l h (c :: cells) p q m) : ∃ h' p' m', evSs C W [dB1, dB2, dB3] (dEn r many x2 x3 x4) h = .nx (dEn r many (some (.int (absI c))) x3 x4) h' ∧ DR h0 r l h' cells p' q m' ∧ 0 ≤ p' ∧ 0 ≤ m' ∧ m' < 2147483647 := by
  have d1' := d.setl
  have d2' := d1'.setr (p' := p) (q' := q) (m' := (m * 8191 + absI c + 3).fmod 2147483647)
  obtain ⟨p', hp, e3⟩ := sB3 (C := C) (W := W) (many := many) (x3 := x3) (x4 := x4) (a := absI c) d2'
  refine ⟨_, p', _, ?_, d2'.setr (p' := p') (q' := q) (m' := (m * 8191 + absI c + 3).fmod 2147483647), ?_, Int.fmod_nonneg_of_pos _ (by decide), Int.fmod_lt_of_pos _ (by decide)⟩
  · show (match evS C W dB1 (dEn r many x2 x3 x4) h with
      | .nx e1 h1 => evSs C W [dB2, dB3] e1 h1
      | r => r) = _
    rw [sB1 d]
    show (match evS C W dB2 (dEn r many (some (.int (absI c))) x3 x4) _ with
      | .nx e1 h1 => evSs C W [dB3] e1 h1
      | r => r) = _
    rw [sB2 (absI_nn c) hm hm2 d1']
    show (match evS C W dB3 (dEn r many (some (.int (absI c))) x3 x4) _ with
      | .nx e1 h1 => evSs C W [] e1 h1
      | r => r) = _
    rw [e3]
    rfl
  · have := absI_nn c
    rcases hp with hp | hp <;> omega
theorem loop_ok : ∀ (cells : List Int) (W' : Nat) (h : AH) (p m : Int) (x2 : Option AV), cells.length < W' → 0 ≤ p → 0 ≤ m → m < 2147483647 → DR h0 r l h cells p q m → ∃ h' cells' p' m' x2', whlL (evT C dTest) (evSs C W [dB1, dB2, dB3]) W' (dEn r many x2 x3 x4) h = .nx (dEn r many x2' x3 x4) h' ∧ DR h0 r l h' cells' p' q m' ∧ cells'.length ≤ cells.length ∧ 0 ≤ p' ∧ 0 ≤ m' ∧ m' < 2147483647
  | cells, 0, h, p, m, x2, hw, _, _, _, _ => absurd hw (Nat.not_lt_zero _)
  | cells, W' + 1, h, p, m, x2, hw, hp, hm, hm2, d => by
    unfold whlL
    by_cases z : p = 0
    · subst z
      rw [test_c d]
      have d' := d.push (o := .lst [])
      cases cells with
      | nil => exact ⟨_, [], 0, m, x2, rfl, d', Nat.le_refl _, hp, hm, hm2⟩
      | cons c cs =>
        obtain ⟨h2, p2, m2, e2, d2, a1, a2, a3⟩ := body_ok (C := C) (W := W) (many := many) (x2 := x2) (x3 := x3) (x4 := x4) hm hm2 d'
        obtain ⟨h3, cells', p', m', x2', e3, d3, b1, b2, b3, b4⟩ := loop_ok cs W' h2 p2 m2 _ (by simpa using hw) a1 a2 a3 d2
        refine ⟨h3, cells', p', m', x2', ?_, d3, Nat.le_succ_of_le b1, b2, b3, b4⟩
        show (match evSs C W [dB1, dB2, dB3] (dEn r many x2 x3 x4) (h.push (.lst [])) with
          | .nx e1 h2 => whlL (evT C dTest) (evSs C W [dB1, dB2, dB3]) W' e1 h2
          | .ct e1 h2 => whlL (evT C dTest) (evSs C W [dB1, dB2, dB3]) W' e1 h2
          | .bk e1 h2 => .nx e1 h2
          | r => r) = _
        rw [e2]
        exact e3
    · rw [test_p d z]
      exact ⟨h, cells, p, m, x2, rfl, d, Nat.le_refl _, hp, hm, hm2⟩
def dF1 : S := .set 3 (.bin .mod (.bi .int [.ix (.var 0 .rd) (.k (.int 1))]) (.var 1 .rd))
def dF2 : S := .sub (.var 0 .rd) (.k (.int 1)) (.bin .fdiv (.ix (.var 0 .rd) (.k (.int 1))) (.var 1 .rd))
theorem sF1 (hm : many ≠ 0) (d : DR h0 r l h cells p q m) : evS C W dF1 (dEn r many x2 x3 x4) h = .nx (dEn r many x2 (some (.int (p.fmod many))) x4) h := by
  have e1 : evE C (.bin .mod (.bi .int [dE 1]) (.var 1 .rd)) (dEn r many x2 x3 x4) h = .ok (.int (p.fmod many)) h := by
    rw [evE_bin (x := .int p) (y := .int many) (h1 := h) (h2 := h) (evE_bi (b := .int) (d1 d)) rfl]
    exact if_pos hm
  show ofE _ (evE C (.bin .mod (.bi .int [dE 1]) (.var 1 .rd)) (dEn r many x2 x3 x4) h) _ = _
  rw [e1]
  rfl
theorem sF2 (hm : 0 < many) (hm2 : many < 1073741824) (d : DR h0 r l h cells p q m) : evS C W dF2 (dEn r many x2 x3 x4) h = .nx (dEn r many x2 x3 x4) (h.set r (.lst [.ref l, .int (p.fdiv many), .int q, .int m])) := by
  refine dSub (v := .int _) ?_ (set1 d)
  show evE C (.bin .fdiv (dE 1) (.var 1 .rd)) (dEn r many x2 x3 x4) h = _
  rw [evE_bin (x := .int p) (y := .int many) (h1 := h) (h2 := h) (d1 d) rfl]
  exact if_pos ⟨by omega, .inl (by omega)⟩
def dG1 : S := .set 4 (.bin .mod (.bi .int [.bin .pow (.bin .add (.bin .add (.ix (.var 0 .rd) (.k (.int 3))) (.bin .mul (.k (.int 7919)) (.ix (.var 0 .rd) (.k (.int 2))))) (.k (.int 104729))) (.k (.int 5))]) (.k (.int 2147483629)))
def dG2 : E := .bin .mod (.bin .mod (.bi .int [.bin .pow (.bin .add (.bin .add (.bin .mul (.var 4 .rd) (.k (.int 48271))) (.bin .mul (.k (.int 30011)) (.ix (.var 0 .rd) (.k (.int 2))))) (.k (.int 29))) (.k (.int 3))]) (.k (.int 1000000007))) (.var 1 .rd)
theorem sG1 (hq : 0 ≤ q) (hq2 : q ≤ 1000000000) (hm : 0 ≤ m) (hm2 : m < 2147483647) (d : DR h0 r l h cells p q m) : ∃ y, 0 ≤ y ∧ y < 2147483629 ∧ evS C W dG1 (dEn r many x2 x3 x4) h = .nx (dEn r many x2 x3 (some (.int y))) h := by
  have a1 : evE C (.bin .mul (.k (.int 7919)) (dE 2)) (dEn r many x2 x3 x4) h = .ok (.int (7919 * q)) h := by
    rw [evE_bin (x := .int 7919) (y := .int q) (h1 := h) (h2 := h) rfl (d2 d)]
    exact mul_ok (by decide) (by have := log2_small hq (by omega); omega)
  have a2 : evE C (.bin .add (.bin .add (dE 3) (.bin .mul (.k (.int 7919)) (dE 2))) (.k (.int 104729))) (dEn r many x2 x3 x4) h = .ok (.int (m + 7919 * q + 104729)) h := by
    rw [evE_bin (x := .int (m + 7919 * q)) (y := .int 104729) (h1 := h) (h2 := h) ?_ rfl]
    · rfl
    · rw [evE_bin (x := .int m) (y := .int (7919 * q)) (h1 := h) (h2 := h) (d3 d) a1]
      rfl
  have a3 : evE C (.bin .pow (.bin .add (.bin .add (dE 3) (.bin .mul (.k (.int 7919)) (dE 2))) (.k (.int 104729))) (.k (.int 5))) (dEn r many x2 x3 x4) h = .ok (.int ((m + 7919 * q + 104729) ^ 5)) h := by
    rw [evE_bin (x := .int (m + 7919 * q + 104729)) (y := .int 5) (h1 := h) (h2 := h) a2 rfl]
    exact if_pos ⟨by decide, by decide, by omega⟩
  refine ⟨((m + 7919 * q + 104729) ^ 5).fmod 2147483629, Int.fmod_nonneg_of_pos _ (by decide), Int.fmod_lt_of_pos _ (by decide), ?_⟩
  show ofE _ (evE C (.bin .mod (.bi .int [.bin .pow (.bin .add (.bin .add (dE 3) (.bin .mul (.k (.int 7919)) (dE 2))) (.k (.int 104729))) (.k (.int 5))]) (.k (.int 2147483629))) (dEn r many x2 x3 x4) h) _ = _
  rw [evE_bin (x := .int ((m + 7919 * q + 104729) ^ 5)) (y := .int 2147483629) (h1 := h) (h2 := h) (evE_bi (b := .int) a3) rfl]
  rfl
theorem sG2 {y : Int} (hy : 0 ≤ y) (hy2 : y < 2147483629) (hq : 0 ≤ q) (hq2 : q ≤ 1000000000) (hm : 0 < many) (d : DR h0 r l h cells p q m) : ∃ z, 0 ≤ z ∧ z < many ∧ evE C dG2 (dEn r many x2 x3 (some (.int y))) h = .ok (.int z) h := by
  have a0 : evE C (.bin .mul (.var 4 .rd) (.k (.int 48271))) (dEn r many x2 x3 (some (.int y))) h = .ok (.int (y * 48271)) h := by
    rw [evE_bin (x := .int y) (y := .int 48271) (h1 := h) (h2 := h) rfl rfl]
    exact mul_ok (by have := log2_small hy (by omega); omega) (by decide)
  have a1 : evE C (.bin .mul (.k (.int 30011)) (dE 2)) (dEn r many x2 x3 (some (.int y))) h = .ok (.int (30011 * q)) h := by
    rw [evE_bin (x := .int 30011) (y := .int q) (h1 := h) (h2 := h) rfl (d2 d)]
    exact mul_ok (by decide) (by have := log2_small hq (by omega); omega)
  have a2 : evE C (.bin .add (.bin .add (.bin .mul (.var 4 .rd) (.k (.int 48271))) (.bin .mul (.k (.int 30011)) (dE 2))) (.k (.int 29))) (dEn r many x2 x3 (some (.int y))) h = .ok (.int (y * 48271 + 30011 * q + 29)) h := by
    rw [evE_bin (x := .int (y * 48271 + 30011 * q)) (y := .int 29) (h1 := h) (h2 := h) ?_ rfl]
    · rfl
    · rw [evE_bin (x := .int (y * 48271)) (y := .int (30011 * q)) (h1 := h) (h2 := h) a0 a1]
      rfl
  have a3 : evE C (.bin .pow (.bin .add (.bin .add (.bin .mul (.var 4 .rd) (.k (.int 48271))) (.bin .mul (.k (.int 30011)) (dE 2))) (.k (.int 29))) (.k (.int 3))) (dEn r many x2 x3 (some (.int y))) h = .ok (.int ((y * 48271 + 30011 * q + 29) ^ 3)) h := by
    rw [evE_bin (x := .int (y * 48271 + 30011 * q + 29)) (y := .int 3) (h1 := h) (h2 := h) a2 rfl]
    exact if_pos ⟨by decide, by decide, by omega⟩
  refine ⟨(((y * 48271 + 30011 * q + 29) ^ 3).fmod 1000000007).fmod many, Int.fmod_nonneg_of_pos _ hm, Int.fmod_lt_of_pos _ hm, ?_⟩
  show evE C (.bin .mod (.bin .mod (.bi .int [.bin .pow (.bin .add (.bin .add (.bin .mul (.var 4 .rd) (.k (.int 48271))) (.bin .mul (.k (.int 30011)) (dE 2))) (.k (.int 29))) (.k (.int 3))]) (.k (.int 1000000007))) (.var 1 .rd)) _ h = _
  rw [evE_bin (x := .int (((y * 48271 + 30011 * q + 29) ^ 3).fmod 1000000007)) (y := .int many) (h1 := h) (h2 := h) ?_ rfl]
  · exact if_pos (by omega)
  · rw [evE_bin (x := .int ((y * 48271 + 30011 * q + 29) ^ 3)) (y := .int 1000000007) (h1 := h) (h2 := h) (evE_bi (b := .int) a3) rfl]
    rfl
def dIf : S := .iff (.cmp .gt (.ix (.var 0 .rd) (.k (.int 1))) (.k (.int 0))) [dF1, dF2, .ret (.var 3 .rd)] []
theorem tail_ok (hp : 0 ≤ p) (hq : 0 ≤ q) (hq2 : q ≤ 1000000000) (hm : 0 ≤ m) (hm2 : m < 2147483647) (hn : 0 < many) (hn2 : many < 1073741824) (d : DR h0 r l h cells p q m) : ∃ z h' p', evSs C W [dIf, dG1, .ret dG2] (dEn r many x2 x3 x4) h = .rt (.int z) h' ∧ 0 ≤ z ∧ z < many ∧ DR h0 r l h' cells p' q m ∧ 0 ≤ p' := by
  have e1 : evT C (.cmp .gt (dE 1) (.k (.int 0))) (dEn r many x2 x3 x4) h = .ok (decide (0 < p)) h := by
    show ((evE C (dE 1) (dEn r many x2 x3 x4) h).bind fun x h1 => (Rs.ok (.int 0) h1).bind fun y h2 => match cmpA .gt h2 x y with
      | some t => Rs.ok (AV.bl t) h2
      | none => .no).bind (fun x h1 => tru h1 x) = _
    rw [d1 d]
    rfl
  by_cases z : 0 < p
  · refine ⟨p.fmod many, _, p.fdiv many, ?_, Int.fmod_nonneg_of_pos _ hn, Int.fmod_lt_of_pos _ hn, d.setr (p' := p.fdiv many) (q' := q) (m' := m), Int.fdiv_nonneg hp (by omega)⟩
    show (match (ofE _ (evT C (.cmp .gt (dE 1) (.k (.int 0))) (dEn r many x2 x3 x4) h) fun t h1 => if t then evSs C W [dF1, dF2, .ret (.var 3 .rd)] (dEn r many x2 x3 x4) h1 else evSs C W [] (dEn r many x2 x3 x4) h1) with
      | .nx e1 h1 => evSs C W [dG1, .ret dG2] e1 h1
      | r => r) = _
    rw [e1, decide_eq_true z]
    show (match (match evS C W dF1 (dEn r many x2 x3 x4) h with
      | .nx e1 h1 => evSs C W [dF2, .ret (.var 3 .rd)] e1 h1
      | r => r) with
      | .nx e1 h1 => evSs C W [dG1, .ret dG2] e1 h1
      | r => r) = _
    rw [sF1 (by omega) d]
    show (match (match evS C W dF2 (dEn r many x2 (some (.int (p.fmod many))) x4) h with
      | .nx e1 h1 => evSs C W [.ret (.var 3 .rd)] e1 h1
      | r => r) with
      | .nx e1 h1 => evSs C W [dG1, .ret dG2] e1 h1
      | r => r) = _
    rw [sF2 hn hn2 d]
    rfl
  · obtain ⟨y, y1, y2, e2⟩ := sG1 (C := C) (W := W) (many := many) (x2 := x2) (x3 := x3) (x4 := x4) hq hq2 hm hm2 d
    obtain ⟨w, w1, w2, e3⟩ := sG2 (C := C) (many := many) (x2 := x2) (x3 := x3) y1 y2 hq hq2 hn d
    refine ⟨w, h, p, ?_, w1, w2, d, hp⟩
    show (match (ofE _ (evT C (.cmp .gt (dE 1) (.k (.int 0))) (dEn r many x2 x3 x4) h) fun t h1 => if t then evSs C W [dF1, dF2, .ret (.var 3 .rd)] (dEn r many x2 x3 x4) h1 else evSs C W [] (dEn r many x2 x3 x4) h1) with
      | .nx e1 h1 => evSs C W [dG1, .ret dG2] e1 h1
      | r => r) = _
    rw [e1, decide_eq_false z]
    show (match evS C W dG1 (dEn r many x2 x3 x4) h with
      | .nx e1 h1 => evSs C W [.ret dG2] e1 h1
      | r => r) = _
    rw [e2]
    show (match ofE _ (evE C dG2 (dEn r many x2 x3 (some (.int y))) h) (fun v h1 => Rt.rt v h1) with
      | .nx e1 h1 => evSs C W [] e1 h1
      | r => r) = _
    rw [e3]
    rfl
end
end EV

/-! EvZq: the draw as a call; the law from what is asked over trees. -/
namespace EV
open PySem
def dS1 : S := .sub (.var 0 .rd) (.k (.int 2)) (.bin .add (.ix (.var 0 .rd) (.k (.int 2))) (.k (.int 1)))
theorem bDraw_eq : bDraw = [dS1, .whl dTest [dB1, dB2, dB3], dIf, dG1, .ret dG2] := rfl
theorem draw_ok {T : List Fd} {C : Cs} {W k : Nat} (hW : 63 < W) (hT : T[k]? = some ⟨2, 5, bDraw⟩) : CallG (runF T C W k) wDraw := by
  intro ts vs h κ c M Q ok st un lt r q
  unfold wDraw at q
  split at q
  · rename_i many c'
    obtain ⟨v, vs', L1, L2, rfl, eL, r1, w, vs2, L3, L4, rfl, eM, r2, r3⟩ := r
    obtain ⟨⟨rr, ll, rfl, rfl⟩, _⟩ := r1
    obtain ⟨rfl, _⟩ := r2
    obtain ⟨rfl, _⟩ := r3
    obtain ⟨⟨hn, hn2⟩, q⟩ := q
    obtain ⟨cells, p, qq, m, lc, g1, g2, hp, hq, hc, hm, hm2⟩ := st
    have ne : rr ≠ ll := fun z => by
      subst z
      have := un rr
      simp [kl] at this
    have d : DR h rr ll h cells p qq m := ⟨ok, Nat.le_refl _, rfl, fun _ _ _ _ => rfl, g1, g2, ne⟩
    have e1 : evS C W dS1 (dEn rr many none none none) h = .nx (dEn rr many none none none) (h.set rr (.lst [.ref ll, .int p, .int (qq + 1), .int m])) := by
      refine dSub (v := .int (qq + 1)) ?_ (set2 d)
      show evE _ (.bin .add (dE 2) (.k (.int 1))) _ h = _
      rw [evE_bin (x := .int qq) (y := .int 1) (h1 := h) (h2 := h) (d2 d) rfl]
      rfl
    have d1' := d.setr (p' := p) (q' := qq + 1) (m' := m)
    obtain ⟨h2, cells2, p2, m2, x2, e2, dd2, l2, hp2, hm3, hm4⟩ := loop_ok (C := C) (W := W) (many := many) (x3 := none) (x4 := none) cells W _ p m none (by omega) hp hm hm2 d1'
    obtain ⟨z, h3, p3, e3, z1, z2, dd3, hp3⟩ := tail_ok (C := C) (W := W) (many := many) (x2 := x2) (x3 := none) (x4 := none) hp2 (by omega : 0 ≤ qq + 1) (by omega) hm3 hm4 hn hn2 dd2
    have ev : runF T C W k [.ref rr, .int many] h = .ok (.int z) h3 := by
      have e0 : runF T C W k [.ref rr, .int many] h = retOf (evSs C W bDraw (dEn rr many none none none) h) := by
        show (match T[k]? with
          | some d => if [AV.ref rr, AV.int many].length = d.np then retOf (evSs C W d.body (enOf d.ns [.ref rr, .int many]) h) else .no
          | none => .no) = _
        rw [hT]
        rfl
      rw [e0, bDraw_eq]
      have s1 : evSs C W [dS1, .whl dTest [dB1, dB2, dB3], dIf, dG1, .ret dG2] (dEn rr many none none none) h = .rt (.int z) h3 := by
        show (match evS C W dS1 (dEn rr many none none none) h with
          | .nx e1 h1 => evSs C W [.whl dTest [dB1, dB2, dB3], dIf, dG1, .ret dG2] e1 h1
          | r => r) = _
        rw [e1]
        show (match whlL (evT C dTest) (evSs C W [dB1, dB2, dB3]) W (dEn rr many none none none) _ with
          | .nx e1 h1 => evSs C W [dIf, dG1, .ret dG2] e1 h1
          | r => r) = _
        rw [e2]
        exact e3
      rw [s1]
      rfl
    refine ⟨.int z, h3, (.int z, 9), some c', some (rr, ll), [], ev, q z z1 z2, dd3.ok, ⟨cells2, p3, qq + 1, m2, by omega, dd3.gr, dd3.gl, hp3, by omega, by omega, hm3, hm4⟩, by simpa using un, (fun _ m => by cases m), ⟨rfl, rfl⟩, ⟨dd3.sz, dd3.z, fun n l i => ?_, fun n i => .inl (by simpa using i), KLe.refl _⟩⟩
    simp only [kl, List.append_nil, List.mem_cons, List.not_mem_nil, or_false, not_or] at i
    exact dd3.fr n l i.1 i.2
  · exact q.elim
/-- the law, from what is asked over trees -/
theorem tree_law {T : List Fd} {mus : List (List Nat × Bool)} {pr : Nat → Option Pr} {W n k : Nat} {ns : List Int} (hW : 63 < W) (h1 : ∀ k, pr k = some .stream → T[k]? = some ⟨1, 1, bStream⟩) (h2 : ∀ k, pr k = some .draw → T[k]? = some ⟨2, 5, bDraw⟩) (h3 : ∀ k, pr k = some .spoil → T[k]? = some ⟨1, 2, bSpoil k⟩) (hl : ns.length ≤ 63)
    (q : wF T mus pr W n k [.scr] none fun u _ => u.1 = .bl true) : ∃ h', evF T W n k [.scr] (AH.nil ns) = .ok (.bl true) h' := by
  have hC := calls_ok (T := T) (mus := mus) (pr := pr) (W := W) (fun C k hp => stream_ok (h1 k hp)) (fun C k hp => draw_ok hW (h2 k hp)) h3 n
  have ok : OkH (AH.nil ns) := fun n o g => by cases g
  obtain ⟨v, h', u, c', κ', Lr, e, q', _, _, _, _, r, _⟩ := hC k [.scr] [.scr] (AH.nil ns) none none [] _ ok hl (fun b => by simp [kl]) (fun _ m => by cases m) ⟨.scr, [], [], [], rfl, rfl, ⟨rfl, rfl⟩, rfl, rfl⟩ q
  rw [q'] at r
  obtain ⟨rfl, _⟩ := r
  exact ⟨h', e⟩
end EV

/-! EvSa: rules for loops over trees, shared by the laws. -/
namespace EV
open PySem
theorem wFor_inv {f : TTv → TX → KS → Prop} {D : KS} (I : List TTv → TX → Prop)
    (step : ∀ t rest x D', I (t :: rest) x → (∀ x', I rest x' → D'.nx x') → (∀ x', I rest x' → D'.ct x') → (∀ u c, D.rt u c → D'.rt u c) → (∀ x', D.nx x' → D'.bk x') → f t x D') (fin : ∀ x, I [] x → D.nx x) : ∀ ts x, I ts x → wFor f D ts x
  | [], x, i => fin x i
  | t :: ts, x, i => step t ts x _ i (fun x' i' => wFor_inv I step fin ts x' i') (fun x' i' => wFor_inv I step fin ts x' i') (fun _ _ r => r) (fun _ r => r)
theorem wWhl_inv {c : TX → KT → Prop} {f : TX → KS → Prop} {D : KS} (I : Nat → TX → Prop)
    (step : ∀ m x D', I m x → (∀ m' x', m' < m → I m' x' → D'.nx x') → (∀ m' x', m' < m → I m' x' → D'.ct x') → (∀ u c, D.rt u c → D'.rt u c) → (∀ x', D.nx x' → D'.bk x') → c x fun b x1 => br b (f x1 D') (D.nx x1)) : ∀ W m x, m < W → I m x → wWhl c f D W x
  | 0, m, x, h, _ => absurd h (Nat.not_lt_zero _)
  | W + 1, m, x, h, i => step m x _ i (fun m' x' l i' => wWhl_inv I step W m' x' (by omega) i') (fun m' x' l i' => wWhl_inv I step W m' x' (by omega) i') (fun _ _ r => r) (fun _ r => r)
/-- a comprehension of one clause: each turn gives g t (or nothing), the slots besides own stand as E, no draw -/
theorem comp_map {own : List Nat} {tg : Tg} {cv : TX → KT → Prop} {ev : TX → KE → Prop} {Q : List TV → Nat → TX → Prop} {E : TEn} {c : Option Nat} (g : TTv → Option TV) : ∀ (ts : List TTv) (x : TX) (acc : List TV) (d : Nat),
    (∀ t ∈ ts, ∀ K : Option TD → TX → Prop, (∀ d e, wipeT e own = E → K ((g t).map fun v => (v, d)) ⟨e, c⟩) → wBind tg t E fun e2 => cv ⟨e2, c⟩ fun b x3 => br b (ev x3 fun v x4 => K (some v) x4) (K none x3)) →
    acc.length + ts.length ≤ sizeLine → wipeT x.e own = E → x.c = c → (∀ d e, wipeT e own = E → Q (acc ++ ts.filterMap g) d ⟨e, c⟩) → wComp (turnTA tg own cv ev) Q ts x acc d
  | [], x, acc, d, h, hl, hx, hc, q => by
    have := q d x.e hx
    rw [List.filterMap_nil, List.append_nil, ← hc] at this
    exact this
  | t :: ts, x, acc, d, h, hl, hx, hc, q => by
    have key : ∀ K : Option TD → TX → Prop, (∀ d e, wipeT e own = E → K ((g t).map fun v => (v, d)) ⟨e, c⟩) → turnTA tg own cv ev t x K := fun K hK => by
      unfold turnTA
      rw [hx, hc]
      exact h t List.mem_cons_self K hK
    show turnTA tg own cv ev t x _
    refine key _ fun d' e he => ?_
    cases hg : g t with
    | none =>
      refine comp_map g ts ⟨e, c⟩ acc d (fun t m => h t (List.mem_cons_of_mem _ m)) (by simp at hl; omega) he rfl fun d e he => ?_
      have := q d e he
      rw [List.filterMap_cons, hg] at this
      exact this
    | some v =>
      refine ⟨by simp at hl; omega, comp_map g ts ⟨e, c⟩ (acc ++ [v]) _ (fun t m => h t (List.mem_cons_of_mem _ m)) (by simp at hl ⊢; omega) he rfl fun d e he => ?_⟩
      have := q d e he
      rw [List.filterMap_cons, hg] at this
      rw [List.append_assoc]
      exact this
/-- the same with draws: I tells what holds of the items so far and of the budget -/
theorem comp_inv {own : List Nat} {tg : Tg} {cv : TX → KT → Prop} {ev : TX → KE → Prop} {Q : List TV → Nat → TX → Prop} {E : TEn} (I : List TTv → List TV → Option Nat → Prop) : ∀ (ts : List TTv) (x : TX) (acc : List TV) (d : Nat),
    (∀ t rest acc c (K : Option TD → TX → Prop), I (t :: rest) acc c → (∀ v d e c', wipeT e own = E → I rest (acc ++ [v]) c' → K (some (v, d)) ⟨e, c'⟩) → (∀ e c', wipeT e own = E → I rest acc c' → K none ⟨e, c'⟩) → wBind tg t E fun e2 => cv ⟨e2, c⟩ fun b x3 => br b (ev x3 fun v x4 => K (some v) x4) (K none x3)) →
    acc.length + ts.length ≤ sizeLine → wipeT x.e own = E → I ts acc x.c → (∀ acc d e c, wipeT e own = E → I [] acc c → Q acc d ⟨e, c⟩) → wComp (turnTA tg own cv ev) Q ts x acc d
  | [], x, acc, d, h, hl, hx, hi, q => q acc d x.e x.c hx hi
  | t :: ts, x, acc, d, h, hl, hx, hi, q => by
    have key : ∀ K : Option TD → TX → Prop, (∀ v d e c', wipeT e own = E → I ts (acc ++ [v]) c' → K (some (v, d)) ⟨e, c'⟩) → (∀ e c', wipeT e own = E → I ts acc c' → K none ⟨e, c'⟩) → turnTA tg own cv ev t x K := fun K h1 h2 => by
      unfold turnTA
      rw [hx]
      exact h t ts acc x.c K hi h1 h2
    show turnTA tg own cv ev t x _
    refine key _ (fun v d' e c' he hi' => ⟨by simp at hl; omega, ?_⟩) fun e c' he hi' => ?_
    · exact comp_inv I ts ⟨e, c'⟩ (acc ++ [v]) _ h (by simp at hl ⊢; omega) he hi' q
    · exact comp_inv I ts ⟨e, c'⟩ acc d h (by simp at hl; omega) he hi' q
end EV

/-! EvSb: the laws' own comparison. -/
namespace EV
open PySem
theorem wF_mk {T : List Fd} {mus : List (List Nat × Bool)} {pr : Nat → Option Pr} {W n k : Nat} {d : Fd} {mu : List Nat} {ro : Bool} {vs : List TV} {c : Option Nat} {Q : TD → Option Nat → Prop} (hp : pr k = none) (hT : T[k]? = some d) (hm : (mus[k]?).getD ([], false) = (mu, ro)) (hl : vs.length = d.np)
    (q : wSs (ctF T mus pr W n noT) W mu d.body ⟨enT d.ns vs, c⟩ (kst ro Q)) : wF T mus pr W (n + 1) k vs c Q := by
  show runT T mus pr (ctF T mus pr W n noT) W k vs c Q
  unfold runT
  rw [hp]
  dsimp only
  rw [hT, hm]
  exact ⟨hl, q⟩
/-- a name's value taken, of a slot that owns nothing -/
theorem done_v {i : Nat} {m : Mo} {Q : KE} {t : TV} {x : TX} (hr : root (.var i m) = some (i, 0)) (hs : slot x.e i = some (t, 0)) (q : ∀ d, Q (t, d) x) : done (.var i m) Q t x := by
  unfold done
  cases t.atm with
  | true => exact q 9
  | false =>
    rw [hr]
    dsimp only
    unfold TX.low
    rw [hs]
    exact q 0
def bSame (k : Nat) : List S := [.iff (.isi (.var 1 .rd) ["list", "tuple"]) [.iff (.orr (.cmp .ne (.isi (.var 0 .rd) ["list"]) (.isi (.var 1 .rd) ["list"])) (.cmp .ne (.isi (.var 0 .rd) ["tuple"]) (.isi (.var 1 .rd) ["tuple"]))) [.ret (.k (.bl false))] [], .ret (.an (.cmp .eq (.bi .len [.var 0 .rd]) (.bi .len [.var 1 .rd])) (.bi .all [.lc [2, 3] (.call k [.var 2 .rd, .var 3 .rd]) (.tp [2, 3]) .zip [.var 0 .rd, .var 1 .rd] none]))] [], .iff (.isi (.var 1 .rd) ["dict"]) [.ret (.an (.isi (.var 0 .rd) ["dict"]) (.call k [.bi .list [.bad], .bi .list [.bad]]))] [], .iff (.orr (.isi (.var 1 .rd) ["bool"]) (.isi (.var 0 .rd) ["bool"])) [.ret (.an (.isi (.var 1 .rd) ["bool"]) (.an (.isi (.var 0 .rd) ["bool"]) (.cmp .eq (.var 0 .rd) (.var 1 .rd))))] [], .iff (.orr (.cmp .is (.var 1 .rd) (.k .non)) (.cmp .is (.var 0 .rd) (.k .non))) [.ret (.an (.cmp .is (.var 1 .rd) (.k .non)) (.cmp .is (.var 0 .rd) (.k .non)))] [], .iff (.orr (.cmp .ne (.isi (.var 1 .rd) ["int"]) (.isi (.var 0 .rd) ["int"])) (.cmp .ne (.isi (.var 1 .rd) ["str"]) (.isi (.var 0 .rd) ["str"]))) [.ret (.k (.bl false))] [], .ret (.an (.no (.isi (.var 0 .rd) ["list", "tuple", "dict"])) (.cmp .eq (.var 0 .rd) (.var 1 .rd)))]
/-- trees that == serves at every place -/
inductive Pl : Nat → TV → Prop
  | non {n : Nat} : Pl n .non
  | bl {n : Nat} {b : Bool} : Pl n (.bl b)
  | int {n : Nat} {i : Int} : Pl n (.int i)
  | str {n : Nat} {x : Str} : SeqAt.shaped (.str x) = true → Pl n (.str x)
  | lst {n : Nat} {xs : List TV} : xs.length ≤ sizeLine → (∀ x ∈ xs, Pl n x) → Pl (n + 1) (.lst xs)
  | tup {n : Nat} {xs : List TV} : xs.length ≤ sizeLine → (∀ x ∈ xs, Pl n x) → Pl (n + 1) (.tup xs)
theorem dat_bl (b : Bool) : datT (.bl b) (.bool b) := ⟨rfl, by cases b <;> decide⟩
theorem wne_bl {a b : Bool} {Q : Bool → Prop} (q : Q (!(a == b))) : wEq (.bl a) (.bl b) fun t => Q (!t) := by
  refine ⟨_, _, dat_bl a, dat_bl b, ?_⟩
  have : PyData.eqv (.bool a) (.bool b) = (a == b) := by simp only [PyData.eqv]
  rw [this]
  exact q
section
variable {T : List Fd} {mus : List (List Nat × Bool)} {pr : Nat → Option Pr} {W n k : Nat} {c : Option Nat} {Q : TD → Option Nat → Prop}
variable (hp : pr k = none) (hT : T[k]? = some ⟨2, 4, bSame k⟩) (hm : (mus[k]?).getD ([], false) = ([], false))
include hp hT hm
theorem same_int {i : Int} (q : Q (.bl true, 0) c) : wF T mus pr W (n + 1) k [.int i, .int i] c Q := by
  refine wF_mk hp hT hm rfl ?_
  refine ⟨_, _, dat_bl _, dat_bl _, ?_⟩
  refine ⟨_, _, dat_bl _, dat_bl _, ?_⟩
  have e : (decide (i = i)) = true := decide_eq_true rfl
  show Q (.bl (decide (i = i)), 0) c
  rw [e]
  exact q
omit hp hT hm in
theorem zip_self : ∀ {xs : List TV} {t : TTv}, t ∈ zipTT xs xs → ∃ x ∈ xs, t = .two x x
  | [], t, m => by cases m
  | x :: xs, t, m => by
    rcases List.mem_cons.mp (show t ∈ .two x x :: zipTT xs xs from m) with e | m
    · exact ⟨x, List.mem_cons_self, e⟩
    · obtain ⟨y, h1, h2⟩ := zip_self m
      exact ⟨y, List.mem_cons_of_mem _ h1, h2⟩
omit hp hT hm in
theorem zip_len : ∀ xs : List TV, (zipTT xs xs).length = xs.length
  | [] => rfl
  | x :: xs => by
    show (zipTT xs xs).length + 1 = xs.length + 1
    rw [zip_len xs]
omit hp hT hm in
theorem bls_true : ∀ ts : List TTv, ∃ bs, blsT (ts.filterMap fun _ => some (.bl true)) = some bs ∧ bs.all id = true
  | [] => ⟨[], rfl, rfl⟩
  | t :: ts => by
    obtain ⟨bs, h1, h2⟩ := bls_true ts
    refine ⟨true :: bs, ?_, ?_⟩
    · rw [List.filterMap_cons]
      show (match blsT (ts.filterMap fun _ => some (.bl true)) with
        | some is => some (true :: is)
        | none => none) = _
      rw [h1]
    · rw [List.all_cons, h2]
      rfl
theorem same_lst {xs : List TV} (ih : ∀ x ∈ xs, ∀ Q : TD → Option Nat → Prop, Q (.bl true, 0) c → wF T mus pr W n k [x, x] c Q) (hl : xs.length ≤ sizeLine) (q : Q (.bl true, 0) c) : wF T mus pr W (n + 1) k [.lst xs, .lst xs] c Q := by
  refine wF_mk hp hT hm rfl ?_
  refine ⟨_, _, dat_bl _, dat_bl _, ?_⟩
  refine ⟨_, _, dat_bl _, dat_bl _, ?_⟩
  refine br_t (decide_eq_true rfl) ?_
  refine comp_map (E := [some (.lst xs, 0), some (.lst xs, 0), none, none]) (c := c) (fun _ => some (.bl true)) (zipTT xs xs) _ [] 9 (fun t m K hK => ?_) (by rw [zip_len]; simpa using hl) rfl rfl (fun d e he => ?_)
  · obtain ⟨x, hx, rfl⟩ := zip_self m
    show done (.var 2 .rd) (fun u x1 => (wP (ctF T mus pr W n noT) (.var 3 .rd)).e x1 fun u2 x2 => wF T mus pr W n k [u.1, u2.1] x2.c fun r c => K (some r) ⟨x2.e, c⟩) x ⟨[some (.lst xs, 0), some (.lst xs, 0), some (x, 0), some (x, 0)], c⟩
    refine done_v rfl rfl fun d1 => ?_
    show done (.var 3 .rd) (fun u2 x2 => wF T mus pr W n k [x, u2.1] x2.c fun r c => K (some r) ⟨x2.e, c⟩) x ⟨[some (.lst xs, 0), some (.lst xs, 0), some (x, 0), some (x, 0)], c⟩
    refine done_v rfl rfl fun d2 => ?_
    exact ih x hx (fun r c' => K (some r) ⟨[some (.lst xs, 0), some (.lst xs, 0), some (x, 0), some (x, 0)], c'⟩) (hK 0 _ rfl)
  · obtain ⟨bs, h1, h2⟩ := bls_true (zipTT xs xs)
    refine ⟨bs, h1, ?_⟩
    show Q (.bl (bs.all id), 0) c
    rw [h2]
    exact q
theorem same_tup {xs : List TV} (ih : ∀ x ∈ xs, ∀ Q : TD → Option Nat → Prop, Q (.bl true, 0) c → wF T mus pr W n k [x, x] c Q) (hl : xs.length ≤ sizeLine) (q : Q (.bl true, 0) c) : wF T mus pr W (n + 1) k [.tup xs, .tup xs] c Q := by
  refine wF_mk hp hT hm rfl ?_
  refine ⟨_, _, dat_bl _, dat_bl _, ?_⟩
  refine ⟨_, _, dat_bl _, dat_bl _, ?_⟩
  refine br_t (decide_eq_true rfl) ?_
  refine comp_map (E := [some (.tup xs, 0), some (.tup xs, 0), none, none]) (c := c) (fun _ => some (.bl true)) (zipTT xs xs) _ [] 9 (fun t m K hK => ?_) (by rw [zip_len]; simpa using hl) rfl rfl (fun d e he => ?_)
  · obtain ⟨x, hx, rfl⟩ := zip_self m
    show done (.var 2 .rd) (fun u x1 => (wP (ctF T mus pr W n noT) (.var 3 .rd)).e x1 fun u2 x2 => wF T mus pr W n k [u.1, u2.1] x2.c fun r c => K (some r) ⟨x2.e, c⟩) x ⟨[some (.tup xs, 0), some (.tup xs, 0), some (x, 0), some (x, 0)], c⟩
    refine done_v rfl rfl fun d1 => ?_
    show done (.var 3 .rd) (fun u2 x2 => wF T mus pr W n k [x, u2.1] x2.c fun r c => K (some r) ⟨x2.e, c⟩) x ⟨[some (.tup xs, 0), some (.tup xs, 0), some (x, 0), some (x, 0)], c⟩
    refine done_v rfl rfl fun d2 => ?_
    exact ih x hx (fun r c' => K (some r) ⟨[some (.tup xs, 0), some (.tup xs, 0), some (x, 0), some (x, 0)], c'⟩) (hK 0 _ rfl)
  · obtain ⟨bs, h1, h2⟩ := bls_true (zipTT xs xs)
    refine ⟨bs, h1, ?_⟩
    show Q (.bl (bs.all id), 0) c
    rw [h2]
    exact q
theorem same_bl {b : Bool} (q : Q (.bl true, 0) c) : wF T mus pr W (n + 1) k [.bl b, .bl b] c Q := by
  refine wF_mk hp hT hm rfl ?_
  refine ⟨_, _, dat_bl _, dat_bl _, ?_⟩
  have : PyData.eqv (.bool b) (.bool b) = true := by simp only [PyData.eqv]; exact beq_self_eq_true b
  show Q (.bl (PyData.eqv (.bool b) (.bool b)), 0) c
  rw [this]
  exact q
theorem same_non (q : Q (.bl true, 0) c) : wF T mus pr W (n + 1) k [.non, .non] c Q := by
  refine wF_mk hp hT hm rfl ?_
  exact q
theorem same_str {x : Str} (hx : SeqAt.shaped (.str x) = true) (q : Q (.bl true, 0) c) : wF T mus pr W (n + 1) k [.str x, .str x] c Q := by
  refine wF_mk hp hT hm rfl ?_
  refine ⟨_, _, dat_bl _, dat_bl _, ?_⟩
  refine ⟨_, _, dat_bl _, dat_bl _, ?_⟩
  refine ⟨.str x, .str x, ⟨rfl, hx⟩, ⟨rfl, hx⟩, ?_⟩
  have : PyData.eqv (.str x) (.str x) = true := by simp only [PyData.eqv]; exact beq_self_eq_true x
  show Q (.bl (PyData.eqv (.str x) (.str x)), 0) c
  rw [this]
  exact q
/-- a tree is the same as itself -/
theorem same_pl : ∀ (m : Nat) (t : TV), Pl m t → ∀ n, m < n → ∀ Q : TD → Option Nat → Prop, Q (.bl true, 0) c → wF T mus pr W n k [t, t] c Q
  | m, _, .non, n + 1, _, Q, q => same_non hp hT hm q
  | m, _, .bl, n + 1, _, Q, q => same_bl hp hT hm q
  | m, _, .int, n + 1, _, Q, q => same_int hp hT hm q
  | m, _, .str hx, n + 1, _, Q, q => same_str hp hT hm hx q
  | m + 1, _, .lst hl h, n + 1, l, Q, q => same_lst hp hT hm (fun x hx Q q => same_pl m x (h x hx) n (by omega) Q q) hl q
  | m + 1, _, .tup hl h, n + 1, l, Q, q => same_tup hp hT hm (fun x hx Q q => same_pl m x (h x hx) n (by omega) Q q) hl q
end
end EV

/-! EvSc: the laws' own copy. -/
namespace EV
open PySem
def bCopied (k : Nat) : List S := [.iff (.isi (.var 0 .rd) ["dict"]) [.ret (.bi .dict [.lc [1] (.tup [.var 1 .rd, .call k [.ix (.var 0 .rd) (.var 1 .rd)]]) (.nm 1) .seq [.var 0 .rd] none])] [], .set 2 (.ite (.isi (.var 0 .rd) ["list", "tuple"]) (.lc [3] (.call k [.var 3 .rd]) (.nm 3) .seq [.var 0 .rd] none) (.var 0 .rd)), .ret (.ite (.isi (.var 0 .rd) ["tuple"]) (.bi .tuple [.var 2 .rd]) (.var 2 .rd))]
def oneV : TTv → Option TV
  | .one v => some v
  | .two _ _ => none
theorem ones (xs : List TV) : (xs.map TTv.one).filterMap oneV = xs := by
  rw [List.filterMap_map]
  exact List.filterMap_some
section
variable {T : List Fd} {mus : List (List Nat × Bool)} {pr : Nat → Option Pr} {W n k : Nat} {c : Option Nat} {Q : TD → Option Nat → Prop}
variable (hp : pr k = none) (hT : T[k]? = some ⟨1, 4, bCopied k⟩) (hm : (mus[k]?).getD ([], false) = ([], false))
include hp hT hm
theorem copied_int {i : Int} (q : Q (.int i, 0) c) : wF T mus pr W (n + 1) k [.int i] c Q := by
  refine wF_mk hp hT hm rfl ?_
  exact q
theorem copied_lst {xs : List TV} (ih : ∀ x ∈ xs, ∀ Q : TD → Option Nat → Prop, Q (x, 0) c → wF T mus pr W n k [x] c Q) (hl : xs.length ≤ sizeLine) (q : Q (.lst xs, 0) c) : wF T mus pr W (n + 1) k [.lst xs] c Q := by
  refine wF_mk hp hT hm rfl ?_
  refine comp_map (E := [some (.lst xs, 0), none, none, none]) (c := c) oneV (xs.map .one) _ [] 9 (fun t m K hK => ?_) (by simpa using hl) rfl rfl (fun d e he => ?_)
  · obtain ⟨x, hx, rfl⟩ := List.mem_map.mp m
    show done (.var 3 .rd) (fun u x1 => wF T mus pr W n k [u.1] x1.c fun r c => K (some r) ⟨x1.e, c⟩) x ⟨[some (.lst xs, 0), none, none, some (x, 0)], c⟩
    refine done_v rfl rfl fun d1 => ?_
    exact ih x hx _ (hK 0 _ rfl)
  · rw [ones, he]
    exact q
theorem copied_tup {xs : List TV} (ih : ∀ x ∈ xs, ∀ Q : TD → Option Nat → Prop, Q (x, 0) c → wF T mus pr W n k [x] c Q) (hl : xs.length ≤ sizeLine) (q : Q (.tup xs, 0) c) : wF T mus pr W (n + 1) k [.tup xs] c Q := by
  refine wF_mk hp hT hm rfl ?_
  refine comp_map (E := [some (.tup xs, 0), none, none, none]) (c := c) oneV (xs.map .one) _ [] 9 (fun t m K hK => ?_) (by simpa using hl) rfl rfl (fun d e he => ?_)
  · obtain ⟨x, hx, rfl⟩ := List.mem_map.mp m
    show done (.var 3 .rd) (fun u x1 => wF T mus pr W n k [u.1] x1.c fun r c => K (some r) ⟨x1.e, c⟩) x ⟨[some (.tup xs, 0), none, none, some (x, 0)], c⟩
    refine done_v rfl rfl fun d1 => ?_
    exact ih x hx _ (hK 0 _ rfl)
  · rw [ones, he]
    exact q
theorem copied_bl {b : Bool} (q : Q (.bl b, 0) c) : wF T mus pr W (n + 1) k [.bl b] c Q := by
  refine wF_mk hp hT hm rfl ?_
  exact q
theorem copied_non (q : Q (.non, 0) c) : wF T mus pr W (n + 1) k [.non] c Q := by
  refine wF_mk hp hT hm rfl ?_
  exact q
theorem copied_str {x : Str} (q : Q (.str x, 0) c) : wF T mus pr W (n + 1) k [.str x] c Q := by
  refine wF_mk hp hT hm rfl ?_
  exact q
/-- a copy is the same tree -/
theorem copied_pl : ∀ (m : Nat) (t : TV), Pl m t → ∀ n, m < n → ∀ Q : TD → Option Nat → Prop, Q (t, 0) c → wF T mus pr W n k [t] c Q
  | m, _, .non, n + 1, _, Q, q => copied_non hp hT hm q
  | m, _, .bl, n + 1, _, Q, q => copied_bl hp hT hm q
  | m, _, .int, n + 1, _, Q, q => copied_int hp hT hm q
  | m, _, .str hx, n + 1, _, Q, q => copied_str hp hT hm q
  | m + 1, _, .lst hl h, n + 1, l, Q, q => copied_lst hp hT hm (fun x hx Q q => copied_pl m x (h x hx) n (by omega) Q q) hl q
  | m + 1, _, .tup hl h, n + 1, l, Q, q => copied_tup hp hT hm (fun x hx Q q => copied_pl m x (h x hx) n (by omega) Q q) hl q
end
end EV

/-! EvSd: the laws' own loosening: lists and tuples exchanged. -/
namespace EV
open PySem
def bLoose (k kd : Nat) : List S := [.iff (.no (.isi (.var 1 .rd) ["list", "tuple"])) [.ret (.var 1 .rd)] [], .set 2 (.lc [3] (.call k [.var 0 .rd, .var 3 .rd]) (.nm 3) .seq [.var 1 .rd] none), .ret (.ite (.cmp .eq (.call kd [.var 0 .rd, .k (.int 2)]) (.k (.int 0))) (.bi .tuple [.var 2 .rd]) (.var 2 .rd))]
mutual
/-- the same but for lists and tuples -/
def Loo : TV → TV → Prop
  | .lst xs, u => ∃ ys, LooL xs ys ∧ (u = .lst ys ∨ u = .tup ys)
  | .tup xs, u => ∃ ys, LooL xs ys ∧ (u = .lst ys ∨ u = .tup ys)
  | t, u => u = t
def LooL : List TV → List TV → Prop
  | [], ys => ys = []
  | x :: xs, ys => ∃ y ys', ys = y :: ys' ∧ Loo x y ∧ LooL xs ys'
end
mutual
def nodes : TV → Nat
  | .lst xs => nodesL xs + 1
  | .tup xs => nodesL xs + 1
  | _ => 0
def nodesL : List TV → Nat
  | [] => 0
  | x :: xs => nodes x + nodesL xs
end
theorem looL_app : ∀ {xs ys : List TV} {x y : TV}, LooL xs ys → Loo x y → LooL (xs ++ [x]) (ys ++ [y])
  | [], ys, x, y, h, g => by
    have h : ys = [] := h
    subst h
    exact ⟨y, [], rfl, g, rfl⟩
  | z :: xs, ys, x, y, ⟨w, ys', e, h1, h2⟩, g => by
    subst e
    exact ⟨w, ys' ++ [y], rfl, h1, looL_app h2 g⟩
section
variable {T : List Fd} {mus : List (List Nat × Bool)} {pr : Nat → Option Pr} {W n k kd : Nat}
variable (hp : pr k = none) (hT : T[k]? = some ⟨2, 4, bLoose k kd⟩) (hm : (mus[k]?).getD ([], false) = ([], false)) (hd : pr kd = some .draw)
include hp hT hm hd
theorem draw_mk {b : Nat} {many : Int} {Q : TD → Option Nat → Prop} (h1 : 0 < many) (h2 : many < 1073741824) (q : ∀ d, 0 ≤ d → d < many → Q (.int d, 9) (some b)) : wF T mus pr W (n + 1) kd [.stm, .int many] (some (b + 1)) Q := by
  show runT T mus pr (ctF T mus pr W n noT) W kd _ _ _
  unfold runT
  rw [hd]
  exact ⟨⟨h1, h2⟩, q⟩
theorem loose_lst {xs : List TV} {c : Nat} (ih : ∀ x ∈ xs, ∀ (c b : Nat) (Q : TD → Option Nat → Prop), c + nodes x ≤ b → (∀ t' b', Loo x t' → c ≤ b' → Q (t', 0) (some b')) → wF T mus pr W (n + 1) k [.stm, x] (some b) Q) (hl : xs.length ≤ sizeLine) {b : Nat} {Q : TD → Option Nat → Prop} (hb : c + nodes (.lst xs) ≤ b) (q : ∀ t' b', Loo (.lst xs) t' → c ≤ b' → Q (t', 0) (some b')) : wF T mus pr W (n + 2) k [.stm, .lst xs] (some b) Q := by
  have hb : c + (nodesL xs + 1) ≤ b := hb
  refine wF_mk hp hT hm rfl ?_
  refine comp_inv (E := [some (.stm, 0), some (.lst xs, 0), none, none]) (fun rest acc c' => ∃ ds rs, xs = ds ++ rs ∧ rest = rs.map .one ∧ LooL ds acc ∧ ∃ b', c' = some b' ∧ c + 1 + nodesL rs ≤ b') (xs.map .one) _ [] 9 (fun t rest acc c' K hi h1 h2 => ?_) (by simpa using hl) rfl ⟨[], xs, rfl, rfl, rfl, b, rfl, by omega⟩ (fun acc d e c' he hi => ?_)
  · obtain ⟨ds, rs, ex, er, hL, b', rfl, hb'⟩ := hi
    cases rs with
    | nil => cases er
    | cons x rs =>
      cases er
      have hb' : c + 1 + (nodes x + nodesL rs) ≤ b' := hb'
      show done (.var 3 .rd) (fun u x1 => wF T mus pr W (n + 1) k [.stm, u.1] x1.c fun r c => K (some r) ⟨x1.e, c⟩) x ⟨[some (.stm, 0), some (.lst xs, 0), none, some (x, 0)], some b'⟩
      refine done_v rfl rfl fun d1 => ?_
      refine ih x (by rw [ex]; simp) (c + 1 + nodesL rs) b' _ (by omega) fun t' b'' ht hb2 => ?_
      exact h1 _ _ _ _ rfl ⟨ds ++ [x], rs, by rw [ex]; simp, rfl, looL_app hL ht, b'', rfl, hb2⟩
  · obtain ⟨ds, rs, ex, er, hL, b', rfl, hb'⟩ := hi
    cases rs with
    | cons _ _ => cases er
    | nil =>
      rw [List.append_nil] at ex
      subst ex
      rw [he]
      obtain ⟨b0, rfl⟩ : ∃ b0, b' = b0 + 1 := ⟨b' - 1, by omega⟩
      have hb' : c + 1 + 0 ≤ b0 + 1 := hb'
      refine draw_mk hp hT hm hd (by decide) (by decide) fun dd _ _ => ?_
      refine br_d (fun z => ?_) fun z => ?_
      · exact q _ _ ⟨acc, hL, .inr rfl⟩ (by omega)
      · exact q _ _ ⟨acc, hL, .inl rfl⟩ (by omega)
theorem loose_tup {xs : List TV} {c : Nat} (ih : ∀ x ∈ xs, ∀ (c b : Nat) (Q : TD → Option Nat → Prop), c + nodes x ≤ b → (∀ t' b', Loo x t' → c ≤ b' → Q (t', 0) (some b')) → wF T mus pr W (n + 1) k [.stm, x] (some b) Q) (hl : xs.length ≤ sizeLine) {b : Nat} {Q : TD → Option Nat → Prop} (hb : c + nodes (.tup xs) ≤ b) (q : ∀ t' b', Loo (.tup xs) t' → c ≤ b' → Q (t', 0) (some b')) : wF T mus pr W (n + 2) k [.stm, .tup xs] (some b) Q := by
  have hb : c + (nodesL xs + 1) ≤ b := hb
  refine wF_mk hp hT hm rfl ?_
  refine comp_inv (E := [some (.stm, 0), some (.tup xs, 0), none, none]) (fun rest acc c' => ∃ ds rs, xs = ds ++ rs ∧ rest = rs.map .one ∧ LooL ds acc ∧ ∃ b', c' = some b' ∧ c + 1 + nodesL rs ≤ b') (xs.map .one) _ [] 9 (fun t rest acc c' K hi h1 h2 => ?_) (by simpa using hl) rfl ⟨[], xs, rfl, rfl, rfl, b, rfl, by omega⟩ (fun acc d e c' he hi => ?_)
  · obtain ⟨ds, rs, ex, er, hL, b', rfl, hb'⟩ := hi
    cases rs with
    | nil => cases er
    | cons x rs =>
      cases er
      have hb' : c + 1 + (nodes x + nodesL rs) ≤ b' := hb'
      show done (.var 3 .rd) (fun u x1 => wF T mus pr W (n + 1) k [.stm, u.1] x1.c fun r c => K (some r) ⟨x1.e, c⟩) x ⟨[some (.stm, 0), some (.tup xs, 0), none, some (x, 0)], some b'⟩
      refine done_v rfl rfl fun d1 => ?_
      refine ih x (by rw [ex]; simp) (c + 1 + nodesL rs) b' _ (by omega) fun t' b'' ht hb2 => ?_
      exact h1 _ _ _ _ rfl ⟨ds ++ [x], rs, by rw [ex]; simp, rfl, looL_app hL ht, b'', rfl, hb2⟩
  · obtain ⟨ds, rs, ex, er, hL, b', rfl, hb'⟩ := hi
    cases rs with
    | cons _ _ => cases er
    | nil =>
      rw [List.append_nil] at ex
      subst ex
      rw [he]
      obtain ⟨b0, rfl⟩ : ∃ b0, b' = b0 + 1 := ⟨b' - 1, by omega⟩
      have hb' : c + 1 + 0 ≤ b0 + 1 := hb'
      refine draw_mk hp hT hm hd (by decide) (by decide) fun dd _ _ => ?_
      refine br_d (fun z => ?_) fun z => ?_
      · exact q _ _ ⟨acc, hL, .inr rfl⟩ (by omega)
      · exact q _ _ ⟨acc, hL, .inl rfl⟩ (by omega)
theorem loose_atm {t : TV} {c b : Nat} {Q : TD → Option Nat → Prop} (ha : t.atm = true) (hk : typT t ≠ none) (hb : c ≤ b) (q : ∀ t' b', Loo t t' → c ≤ b' → Q (t', 0) (some b')) : wF T mus pr W (n + 1) k [.stm, t] (some b) Q := by
  refine wF_mk hp hT hm rfl ?_
  cases t <;> first | (exfalso; exact Bool.false_ne_true ha) | skip
  · exact q _ _ rfl hb
  · exact q _ _ rfl hb
  · exact q _ _ rfl hb
  · exact q _ _ rfl hb
  · exact absurd rfl hk
  · exact absurd rfl hk
  · exact absurd rfl hk
  · exact absurd rfl hk
  · exact absurd rfl hk
/-- a loosened tree is the same but for lists and tuples -/
theorem loose_pl : ∀ (m : Nat) (t : TV), Pl m t → ∀ n, m + 1 < n → ∀ (c b : Nat) (Q : TD → Option Nat → Prop), c + nodes t ≤ b → (∀ t' b', Loo t t' → c ≤ b' → Q (t', 0) (some b')) → wF T mus pr W n k [.stm, t] (some b) Q
  | m, _, .non, n + 1, _, c, b, Q, hb, q => loose_atm hp hT hm hd rfl (by simp [typT]) (by omega) q
  | m, _, .bl, n + 1, _, c, b, Q, hb, q => loose_atm hp hT hm hd rfl (by simp [typT]) (by omega) q
  | m, _, .int, n + 1, _, c, b, Q, hb, q => loose_atm hp hT hm hd rfl (by simp [typT]) (by omega) q
  | m, _, .str hx, n + 1, _, c, b, Q, hb, q => loose_atm hp hT hm hd rfl (by simp [typT]) (by omega) q
  | m + 1, _, .lst hl h, n + 2, l, c, b, Q, hb, q => loose_lst hp hT hm hd (fun x hx c b Q hb q => loose_pl m x (h x hx) (n + 1) (by omega) c b Q hb q) hl hb q
  | m + 1, _, .tup hl h, n + 2, l, c, b, Q, hb, q => loose_tup hp hT hm hd (fun x hx c b Q hb q => loose_pl m x (h x hx) (n + 1) (by omega) c b Q hb q) hl hb q
end
end EV

/-! EvSe: equality and membership of trees. -/
namespace EV
open PySem
mutual
def dT : TV → PyData
  | .non => .none
  | .bl b => .bool b
  | .int i => .int i
  | .str x => .str x
  | .lst xs => .list (dTL xs)
  | .tup xs => .tuple (dTL xs)
  | _ => .none
def dTL : List TV → List PyData
  | [] => []
  | x :: xs => dT x :: dTL xs
end
theorem dTL_map : ∀ xs : List TV, dTL xs = xs.map dT
  | [] => rfl
  | x :: xs => by
    show dT x :: dTL xs = dT x :: xs.map dT
    rw [dTL_map xs]
theorem Pl.up {m : Nat} {t : TV} (h : Pl m t) : ∀ {k : Nat}, m ≤ k → Pl k t := by
  induction h with
  | non => exact fun _ => .non
  | bl => exact fun _ => .bl
  | int => exact fun _ => .int
  | str h => exact fun _ => .str h
  | lst hl h ih => exact fun {k} l => match k, l with | k + 1, l => .lst hl fun x hx => ih x hx (by omega)
  | tup hl h ih => exact fun {k} l => match k, l with | k + 1, l => .tup hl fun x hx => ih x hx (by omega)
theorem mapO_all {α β : Type} {f : α → Option β} {g : α → β} : ∀ {xs : List α}, (∀ x ∈ xs, f x = some (g x)) → mapO f xs = some (xs.map g)
  | [], _ => rfl
  | x :: xs, h => by
    unfold mapO
    rw [h x List.mem_cons_self, mapO_all (fun y hy => h y (List.mem_cons_of_mem _ hy))]
    rfl
theorem canAll {g : TV → PyData} : ∀ {xs : List TV}, (∀ x ∈ xs, (g x).canLay0 = true) → PyData.canLayAll0 (xs.map g) = true
  | [], _ => by simp [PyData.canLayAll0]
  | x :: xs, h => by
    rw [List.map_cons]
    simp only [PyData.canLayAll0]
    rw [h x List.mem_cons_self, canAll (fun y hy => h y (List.mem_cons_of_mem _ hy))]
    rfl
theorem depAll {g : TV → PyData} {m : Nat} : ∀ {xs : List TV}, (∀ x ∈ xs, (g x).depth ≤ m) → PyData.depthAll (xs.map g) ≤ m
  | [], _ => by simp [PyData.depthAll]
  | x :: xs, h => by
    rw [List.map_cons]
    simp only [PyData.depthAll]
    have := h x List.mem_cons_self
    have := depAll (fun y hy => h y (List.mem_cons_of_mem _ hy))
    omega
theorem pl_dat {m : Nat} {t : TV} (h : Pl m t) : ∀ f, m < f → toPyT f t = some (dT t) ∧ (dT t).canLay0 = true ∧ (dT t).depth ≤ m := by
  induction h with
  | non => exact fun f hf => match f, hf with | f + 1, _ => ⟨rfl, by simp [dT, PyData.canLay0], by simp [dT, PyData.depth]⟩
  | bl => exact fun f hf => match f, hf with | f + 1, _ => ⟨rfl, by simp [dT, PyData.canLay0], by simp [dT, PyData.depth]⟩
  | int => exact fun f hf => match f, hf with | f + 1, _ => ⟨rfl, by simp [dT, PyData.canLay0], by simp [dT, PyData.depth]⟩
  | str h => exact fun f hf => match f, hf with | f + 1, _ => ⟨rfl, by simpa [dT] using SeqAt.canLay_of_shaped h, by simp [dT, PyData.depth]⟩
  | lst hl h ih =>
    intro f hf
    match f, hf with
    | f + 1, hf =>
      refine ⟨?_, ?_, ?_⟩
      · show (mapO (toPyT f) _).map PyData.list = _
        rw [mapO_all (g := dT) fun x hx => (ih x hx f (by omega)).1]
        simp only [dT, dTL_map, Option.map_some]
      · simp only [dT, PyData.canLay0, dTL_map]
        exact canAll fun x hx => (ih x hx f (by omega)).2.1
      · simp only [dT, PyData.depth, dTL_map]
        have := depAll fun x hx => (ih x hx f (by omega)).2.2
        omega
  | tup hl h ih =>
    intro f hf
    match f, hf with
    | f + 1, hf =>
      refine ⟨?_, ?_, ?_⟩
      · show (mapO (toPyT f) _).map PyData.tuple = _
        rw [mapO_all (g := dT) fun x hx => (ih x hx f (by omega)).1]
        simp only [dT, dTL_map, Option.map_some]
      · simp only [dT, PyData.canLay0, dTL_map]
        exact canAll fun x hx => (ih x hx f (by omega)).2.1
      · simp only [dT, PyData.depth, dTL_map]
        have := depAll fun x hx => (ih x hx f (by omega)).2.2
        omega
theorem pl_datT {m : Nat} {t : TV} (h : Pl m t) (hm : m ≤ 64) : datT t (dT t) := by
  obtain ⟨h1, h2, h3⟩ := pl_dat h 200 (by omega)
  exact ⟨h1, Bool.and_eq_true_iff.mpr ⟨h2, decide_eq_true (by omega)⟩⟩
/-- equality of trees -/
def eqT (x y : TV) : Bool := PyData.eqv (dT x) (dT y)
theorem wEq_mk {x y : TV} {Q : Bool → Prop} (h : ∃ d e, datT x d ∧ datT y e ∧ Q (PyData.eqv d e)) (hi : ∀ i j, x = .int i → y = .int j → Q (decide (i = j))) : wEq x y Q := by
  unfold wEq
  split
  · rename_i i j
    exact hi i j rfl rfl
  · exact h
theorem wEq_pl {m k : Nat} {x y : TV} {Q : Bool → Prop} (hx : Pl m x) (hy : Pl k y) (hm : m ≤ 64) (hk : k ≤ 64) (q : Q (eqT x y)) : wEq x y Q :=
  wEq_mk ⟨_, _, pl_datT hx hm, pl_datT hy hk, q⟩ fun i j e1 e2 => by
    subst e1 e2
    have : eqT (.int i) (.int j) = decide (i = j) := by
      simp only [eqT, dT, PyData.eqv]
      rfl
    rw [← this]
    exact q
/-- x in a list -/
theorem wIn_pl {m k : Nat} {x : TV} {ys : List TV} {Q : Bool → Prop} (hx : Pl m x) (hy : Pl k (.lst ys)) (hm : m ≤ 64) (hk : k ≤ 64) (q : Q (ys.any fun y => eqT y x)) : wIn x (.lst ys) Q := by
  have h2 := pl_datT hy hk
  have e : dT (.lst ys) = .list (ys.map dT) := by simp only [dT, dTL_map]
  rw [e] at h2
  refine ⟨_, _, h2, pl_datT hx hm, ?_⟩
  have : ((ys.map dT).any fun z => PyData.eqv z (dT x)) = ys.any fun y => eqT y x := by
    rw [List.any_map]
    rfl
  rw [this]
  exact q
/-- no truths in it -/
inductive Nb : TV → Prop
  | non : Nb .non
  | int {i : Int} : Nb (.int i)
  | str {x : Str} : Nb (.str x)
  | lst {xs : List TV} : (∀ x ∈ xs, Nb x) → Nb (.lst xs)
  | tup {xs : List TV} : (∀ x ∈ xs, Nb x) → Nb (.tup xs)
theorem eqvAll_iff : ∀ {xs ys : List TV}, (∀ x ∈ xs, ∀ y, Nb y → (eqT x y = true ↔ x = y)) → (∀ y ∈ ys, Nb y) → (PyData.eqvAll (xs.map dT) (ys.map dT) = true ↔ xs = ys)
  | [], [], _, _ => by simp [PyData.eqvAll]
  | [], y :: ys, _, _ => by simp [PyData.eqvAll]
  | x :: xs, [], _, _ => by simp [PyData.eqvAll]
  | x :: xs, y :: ys, h, g => by
    simp only [List.map_cons, PyData.eqvAll, Bool.and_eq_true, List.cons.injEq]
    rw [eqvAll_iff (fun x hx => h x (List.mem_cons_of_mem _ hx)) (fun y hy => g y (List.mem_cons_of_mem _ hy))]
    have := h x List.mem_cons_self y (g y List.mem_cons_self)
    unfold eqT at this
    rw [this]
theorem eqT_iff {x : TV} (hx : Nb x) : ∀ y, Nb y → (eqT x y = true ↔ x = y) := by
  induction hx with
  | non => intro y hy; cases hy <;> simp [eqT, dT, PyData.eqv]
  | int => intro y hy; cases hy <;> simp [eqT, dT, PyData.eqv]
  | str => intro y hy; cases hy <;> simp [eqT, dT, PyData.eqv]
  | lst h ih =>
    intro y hy
    cases hy with
    | lst g => simp only [eqT, dT, PyData.eqv, dTL_map, TV.lst.injEq]; exact eqvAll_iff ih g
    | _ => simp [eqT, dT, PyData.eqv]
  | tup h ih =>
    intro y hy
    cases hy with
    | tup g => simp only [eqT, dT, PyData.eqv, dTL_map, TV.tup.injEq]; exact eqvAll_iff ih g
    | _ => simp [eqT, dT, PyData.eqv]
theorem eqT_t {x : TV} (hx : Nb x) : eqT x x = true := (eqT_iff hx x hx).mpr rfl
theorem eqT_f {x y : TV} (hx : Nb x) (hy : Nb y) (h : x ≠ y) : eqT x y = false := by
  cases e : eqT x y with
  | false => rfl
  | true => exact absurd ((eqT_iff hx y hy).mp e) h
end EV

/-! EvSf: ladders: rounds, meeting (no program). -/
namespace EV
theorem bez : ∀ (a b : Nat), ∃ u v : Int, u * a + v * b = (Nat.gcd a b : Int) := by
  intro a
  induction a using Nat.strongRecOn with
  | ind a ih =>
    intro b
    by_cases h : a = 0
    · subst h; exact ⟨0, 1, by simp⟩
    · obtain ⟨u, v, e⟩ := ih (b % a) (Nat.mod_lt _ (by omega)) a
      refine ⟨v - u * (b / a : Nat), u, ?_⟩
      rw [Nat.gcd_rec, ← e]
      have : (b : Int) = a * (b / a : Nat) + (b % a : Nat) := by exact_mod_cast (Nat.div_add_mod b a).symm
      generalize (b / a : Nat) = q at *
      generalize (b % a : Nat) = r at *
      rw [this]
      grind
theorem bezI {s t : Int} (hs : 0 < s) (ht : 0 < t) : ∃ u v : Int, u * s + v * t = (Int.gcd s t : Int) := by
  obtain ⟨u, v, e⟩ := bez s.toNat t.toNat
  refine ⟨u, v, ?_⟩
  have h1 : (s.toNat : Int) = s := by omega
  have h2 : (t.toNat : Int) = t := by omega
  rw [h1, h2] at e
  rw [e]
  have : s.natAbs = s.toNat := by omega
  have : t.natAbs = t.toNat := by omega
  simp [Int.gcd, *]
/-- two ladders meet -/
theorem meet_iff {a s b t : Int} (hs : 0 < s) (ht : 0 < t) : (∃ x, s ∣ x - a ∧ t ∣ x - b) ↔ (Int.gcd s t : Int) ∣ b - a := by
  constructor
  · rintro ⟨x, h1, h2⟩
    have g1 : (Int.gcd s t : Int) ∣ s := Int.gcd_dvd_left ..
    have g2 : (Int.gcd s t : Int) ∣ t := Int.gcd_dvd_right ..
    have := Int.dvd_sub (Int.dvd_trans g1 h1) (Int.dvd_trans g2 h2)
    have e : x - a - (x - b) = b - a := by omega
    rwa [e] at this
  · rintro ⟨k, hk⟩
    obtain ⟨u, v, e⟩ := bezI hs ht
    refine ⟨a + u * k * s, ⟨u * k, by grind⟩, ⟨-(v * k), ?_⟩⟩
    rw [← e] at hk
    grind
/-- the least number of a ladder's that another has is met soon -/
theorem meet_soon {a s b t : Int} (hs : 0 < s) (ht : 0 < t) (h : ∃ x, s ∣ x - a ∧ t ∣ x - b) : ∃ k : Nat, (k : Int) < t ∧ t ∣ a + k * s - b := by
  obtain ⟨x, ⟨k, hk⟩, h2⟩ := h
  refine ⟨(k % t).toNat, ?_, ?_⟩
  · have := Int.emod_lt_of_pos k ht
    have := Int.emod_nonneg k (by omega : t ≠ 0)
    omega
  · have := Int.emod_nonneg k (by omega : t ≠ 0)
    rw [Int.toNat_of_nonneg this]
    obtain ⟨m, hm⟩ := h2
    have e : k % t = k - t * (k / t) := by have := Int.mul_ediv_add_emod k t; omega
    refine ⟨m - (k / t) * s, ?_⟩
    rw [e]
    grind
theorem lcm_pos {s t : Int} (hs : 0 < s) (ht : 0 < t) : 0 < (Int.lcm s t : Int) := by
  have := Int.lcm_pos (by omega : s ≠ 0) (by omega : t ≠ 0)
  omega
theorem lcm_eq {s t : Int} (hs : 0 < s) (ht : 0 < t) : s / (Int.gcd s t : Int) * t = (Int.lcm s t : Int) := by
  obtain ⟨u, rfl⟩ := Int.eq_ofNat_of_zero_le (by omega : 0 ≤ s)
  obtain ⟨w, rfl⟩ := Int.eq_ofNat_of_zero_le (by omega : 0 ≤ t)
  simp only [Int.gcd_natCast_natCast, Int.lcm]
  simp only [Int.natAbs_natCast, Nat.lcm]
  rw [← Int.natCast_ediv, ← Int.natCast_mul]
  congr 1
  rw [Nat.mul_comm u w, Nat.mul_div_assoc _ (Nat.gcd_dvd_left u w), Nat.mul_comm]
/-- a set of numbers that share rests with a by all steps: gcd with a lcm -/
theorem gcd_lcm_dvd {a b c M : Nat} (h1 : Nat.gcd a c ∣ M) (h2 : Nat.gcd b c ∣ M) (ha : 0 < a) : Nat.gcd (Nat.lcm a b) c ∣ M := by
  have hg : 0 < Nat.gcd a b := Nat.gcd_pos_of_pos_left _ ha
  refine Nat.dvd_of_mul_dvd_mul_right hg ?_
  rw [← Nat.gcd_mul_right]
  have e : Nat.lcm a b * Nat.gcd a b = a * b := by rw [Nat.mul_comm, Nat.gcd_mul_lcm]
  rw [e]
  have d1 : Nat.gcd (a * b) (c * Nat.gcd a b) ∣ a * M := by
    refine Nat.dvd_trans ?_ (Nat.mul_dvd_mul_left a h2)
    rw [show a * Nat.gcd b c = Nat.gcd (a * b) (a * c) from (Nat.gcd_mul_left ..).symm]
    refine Nat.dvd_gcd (Nat.gcd_dvd_left ..) (Nat.dvd_trans (Nat.gcd_dvd_right ..) ?_)
    rw [Nat.mul_comm a c]
    exact Nat.mul_dvd_mul_left c (Nat.gcd_dvd_left ..)
  have d2 : Nat.gcd (a * b) (c * Nat.gcd a b) ∣ b * M := by
    refine Nat.dvd_trans ?_ (Nat.mul_dvd_mul_left b h1)
    rw [show b * Nat.gcd a c = Nat.gcd (b * a) (b * c) from (Nat.gcd_mul_left ..).symm]
    refine Nat.dvd_gcd (by rw [Nat.mul_comm b a]; exact Nat.gcd_dvd_left ..) (Nat.dvd_trans (Nat.gcd_dvd_right ..) ?_)
    rw [Nat.mul_comm b c]
    exact Nat.mul_dvd_mul_left c (Nat.gcd_dvd_right ..)
  have := Nat.dvd_gcd d1 d2
  rwa [Nat.gcd_mul_right, Nat.mul_comm (Nat.gcd a b) M] at this
theorem gcd_lcm_dvdI {a b c : Int} {M : Int} (h1 : (Int.gcd a c : Int) ∣ M) (h2 : (Int.gcd b c : Int) ∣ M) (ha : 0 < a) : (Int.gcd (Int.lcm a b : Int) c : Int) ∣ M := by
  rw [← Int.dvd_natAbs, Int.natCast_dvd_natCast] at *
  have := gcd_lcm_dvd (a := a.natAbs) (b := b.natAbs) (c := c.natAbs) (M := M.natAbs) h1 h2 (by omega)
  exact this
/-! ### ladders -/
abbrev Ld := Int × Int
def hasP (l : Ld) (x : Int) : Prop := l.2 ∣ x - l.1
instance (l : Ld) (x : Int) : Decidable (hasP l x) := inferInstanceAs (Decidable (_ ∣ _))
def ladOk (ls : List Ld) : Prop := ∀ l ∈ ls, 0 ≤ l.1 ∧ l.1 < l.2
/-- the least number that all steps divide -/
def rnd (ls : List Ld) : Int := ls.foldl (fun L l => (Int.lcm L l.2 : Int)) 1
def rndF (L : Int) (ls : List Ld) : Int := ls.foldl (fun L l => (Int.lcm L l.2 : Int)) L
theorem rndF_cons (L : Int) (l : Ld) (ls : List Ld) : rndF L (l :: ls) = rndF (Int.lcm L l.2 : Int) ls := rfl
theorem rndF_pos : ∀ {ls : List Ld} {L : Int}, ladOk ls → 0 < L → 0 < rndF L ls
  | [], L, _, h => h
  | l :: ls, L, h, hL => by
    rw [rndF_cons]
    exact rndF_pos (ls := ls) (fun m hm => h m (List.mem_cons_of_mem _ hm)) (lcm_pos hL (by have := h l List.mem_cons_self; omega))
theorem rndF_dvd : ∀ {ls : List Ld} {L : Int}, L ∣ rndF L ls
  | [], L => Int.dvd_refl _
  | l :: ls, L => by
    rw [rndF_cons]
    exact Int.dvd_trans (Int.dvd_lcm_left ..) (rndF_dvd (ls := ls))
theorem step_dvd : ∀ {ls : List Ld} {L : Int} {l : Ld}, l ∈ ls → l.2 ∣ rndF L ls
  | m :: ls, L, l, h => by
    rw [rndF_cons]
    rcases List.mem_cons.mp h with rfl | h
    · exact Int.dvd_trans (Int.dvd_lcm_right ..) (rndF_dvd (ls := ls))
    · exact step_dvd (ls := ls) h
theorem rndF_least : ∀ {ls : List Ld} {L M : Int}, L ∣ M → (∀ l ∈ ls, l.2 ∣ M) → rndF L ls ∣ M
  | [], L, M, h, _ => h
  | l :: ls, L, M, h, g => by
    rw [rndF_cons]
    exact rndF_least (ls := ls) (Int.coe_lcm_dvd h (g l List.mem_cons_self)) fun m hm => g m (List.mem_cons_of_mem _ hm)
/-- no two common numbers within a round -/
theorem common_one {ls : List Ld} {x y : Int} (hx : ∀ l ∈ ls, hasP l x) (hy : ∀ l ∈ ls, hasP l y) (x0 : 0 ≤ x) (x1 : x < rnd ls) (y0 : 0 ≤ y) (y1 : y < rnd ls) : x = y := by
  have d : rnd ls ∣ x - y := rndF_least (Int.one_dvd _) fun l hl => by
    have := Int.dvd_sub (hx l hl) (hy l hl)
    have e : x - l.1 - (y - l.1) = x - y := by omega
    rwa [e] at this
  obtain ⟨k, hk⟩ := d
  have : 0 < rnd ls := by omega
  have : k = 0 := by
    rcases Int.lt_trichotomy k 0 with h | h | h
    · have := Int.mul_le_mul_of_nonneg_left (show k ≤ -1 by omega) (show 0 ≤ rnd ls by omega)
      omega
    · exact h
    · have := Int.mul_le_mul_of_nonneg_left (show 1 ≤ k by omega) (show 0 ≤ rnd ls by omega)
      omega
  subst this
  omega
theorem hasP_add {l : Ld} {x M : Int} (h : l.2 ∣ M) : hasP l (x + M) ↔ hasP l x := by
  unfold hasP
  have e : x + M - l.1 = (x - l.1) + M := by omega
  rw [e]
  exact (Int.dvd_add_left h)
theorem hasP_mod {l : Ld} {x M : Int} (h : l.2 ∣ M) : hasP l (x % M) ↔ hasP l x := by
  have e : x = x % M + M * (x / M) := by have := Int.mul_ediv_add_emod x M; omega
  have := (hasP_add (l := l) (x := x % M) (M := M * (x / M)) (Int.dvd_trans h (Int.dvd_mul_right ..))).symm
  rwa [← e] at this
/-- Helly: if any two meet, all do -/
theorem helly : ∀ (ls ds : List Ld) (L x : Int), ladOk ls → (∀ d ∈ ds, 0 < d.2) → 0 < L → (∀ M c, 0 < c → (∀ d ∈ ds, (Int.gcd d.2 c : Int) ∣ M) → (Int.gcd L c : Int) ∣ M) → (∀ d ∈ ds, hasP d x) → (∀ d ∈ ds, d.2 ∣ L) →
    (∀ l ∈ ls, ∀ d ∈ ds, ∃ y, hasP d y ∧ hasP l y) → (ls.Pairwise fun l m => ∃ y, hasP l y ∧ hasP m y) → ∃ y, (∀ d ∈ ds, hasP d y) ∧ ∀ l ∈ ls, hasP l y
  | [], ds, L, x, _, _, _, _, hx, _, _, _ => ⟨x, hx, fun _ m => by cases m⟩
  | l :: ls, ds, L, x, ok, dp, hL, hg, hx, hd, hm, hp => by
    have l2 : 0 < l.2 := by have := ok l List.mem_cons_self; omega
    have : (Int.gcd L l.2 : Int) ∣ l.1 - x := hg _ _ l2 fun d m => by
      have := (meet_iff (dp d m) l2).mp (hm l List.mem_cons_self d m)
      have h2 := Int.dvd_trans (Int.gcd_dvd_left (a := d.2) (b := l.2)) (hx d m)
      have := Int.dvd_sub this h2
      have e : l.1 - d.1 - (x - d.1) = l.1 - x := by omega
      rwa [e] at this
    obtain ⟨y, y1, y2⟩ := (meet_iff hL l2).mpr this
    have hp := List.pairwise_cons.mp hp
    obtain ⟨z, z1, z2⟩ := helly ls (l :: ds) (Int.lcm L l.2) y (fun m hm => ok m (List.mem_cons_of_mem _ hm)) (fun d m => by
        rcases List.mem_cons.mp m with rfl | m
        · exact l2
        · exact dp d m) (lcm_pos hL l2) (fun M c hc h => gcd_lcm_dvdI (hg M c hc fun d m => h d (List.mem_cons_of_mem _ m)) (h l List.mem_cons_self) hL) (fun d m => by
        rcases List.mem_cons.mp m with rfl | m
        · exact y2
        · have := Int.dvd_add (Int.dvd_trans (hd d m) y1) (hx d m)
          have e : y - x + (x - d.1) = y - d.1 := by omega
          rwa [e] at this) (fun d m => by
        rcases List.mem_cons.mp m with rfl | m
        · exact Int.dvd_lcm_right ..
        · exact Int.dvd_trans (hd d m) (Int.dvd_lcm_left ..)) (fun k hk d m => by
        rcases List.mem_cons.mp m with rfl | m
        · exact hp.1 k hk
        · exact hm k (List.mem_cons_of_mem _ hk) d m) hp.2
    exact ⟨z, fun d m => z1 d (List.mem_cons_of_mem _ m), fun k hk => by
      rcases List.mem_cons.mp hk with rfl | hk
      · exact z1 k List.mem_cons_self
      · exact z2 k hk⟩
theorem helly2 {ls : List Ld} (ok : ladOk ls) (hp : ls.Pairwise fun l m => ∃ y, hasP l y ∧ hasP m y) : ∃ y, ∀ l ∈ ls, hasP l y := by
  obtain ⟨y, _, h⟩ := helly ls [] 1 0 ok (fun _ m => by cases m) (by decide) (fun M c _ _ => by simp) (fun _ m => by cases m) (fun _ m => by cases m) (fun _ _ _ m => by cases m) hp
  exact ⟨y, h⟩
end EV

/-! EvSg: ladders as trees. -/
namespace EV
open PySem
theorem gcd_step {a b : Int} (h1 : 0 ≤ a) (h2 : 0 ≤ b) : Int.gcd b (a.fmod b) = Int.gcd a b := by
  rw [Int.fmod_eq_emod_of_nonneg _ h2]
  obtain ⟨u, rfl⟩ := Int.eq_ofNat_of_zero_le h1
  obtain ⟨w, rfl⟩ := Int.eq_ofNat_of_zero_le h2
  rw [← Int.natCast_emod, Int.gcd_natCast_natCast, Int.gcd_natCast_natCast, Nat.gcd_comm w, ← Nat.gcd_rec, Nat.gcd_comm]
theorem log2_lt {i : Int} {k : Nat} (h : i.natAbs < 2 ^ (k + 1)) : i.natAbs.log2 ≤ k := by
  by_cases h0 : i.natAbs = 0
  · rw [h0]; simp
  · have := (Nat.log2_lt h0 (k := k + 1)).mpr h
    omega
theorem fmod_has {l : Ld} {x : Int} (hs : 0 < l.2) : decide ((x - l.1).fmod l.2 = 0) = decide (hasP l x) := by
  rw [Int.fmod_eq_emod_of_nonneg _ (by omega)]
  unfold hasP
  exact decide_eq_decide.mpr Int.dvd_iff_emod_eq_zero.symm
/-- a ladder as a tree -/
def lad (l : Ld) : TV := .tup [.int l.1, .int l.2]
theorem loo_lad {l : Ld} {y : TV} (h : Loo (lad l) y) : y = .lst [.int l.1, .int l.2] ∨ y = .tup [.int l.1, .int l.2] := by
  obtain ⟨ys, ⟨y1, r1, rfl, e1, y2, r2, rfl, e2, e3⟩, h⟩ := h
  have e1 : y1 = .int l.1 := e1
  have e2 : y2 = .int l.2 := e2
  have e3 : r2 = [] := e3
  subst e1 e2 e3
  exact h
theorem loo_two {xs : List TV} {y : TV} (h : Loo (.lst xs) y) : ∃ ys, y = .lst ys ∨ y = .tup ys := by
  obtain ⟨ys, _, h⟩ := h
  exact ⟨ys, h⟩
theorem looL_len : ∀ {xs ys : List TV}, LooL xs ys → ys.length = xs.length
  | [], ys, h => by
    have h : ys = [] := h
    subst h
    rfl
  | x :: xs, _, ⟨y, ys', e, h1, h2⟩ => by
    subst e
    simp [looL_len h2]
/-- an item as a tuple -/
def gl : TTv → Option TV
  | .one (.lst xs) => some (.tup xs)
  | .one t => some t
  | _ => none
theorem looL_lads : ∀ {ls : List Ld} {ys : List TV}, LooL (ls.map lad) ys → (ys.map TTv.one).filterMap gl = ls.map lad ∧ ∀ y ∈ ys, ∃ l ∈ ls, Loo (lad l) y
  | [], ys, h => by
    have h : ys = [] := h
    subst h
    exact ⟨rfl, fun _ m => by cases m⟩
  | l :: ls, _, ⟨y, ys', e, h1, h2⟩ => by
    subst e
    obtain ⟨e1, e2⟩ := looL_lads h2
    refine ⟨?_, ?_⟩
    · rw [List.map_cons, List.filterMap_cons, e1]
      rcases loo_lad h1 with rfl | rfl <;> rfl
    · intro z hz
      rcases List.mem_cons.mp hz with rfl | hz
      · exact ⟨l, List.mem_cons_self, h1⟩
      · obtain ⟨m, hm, h⟩ := e2 z hz
        exact ⟨m, List.mem_cons_of_mem _ hm, h⟩
theorem pl_lad (l : Ld) : Pl 1 (lad l) := .tup (by simp [sizeLine]) fun x hx => by
  rcases List.mem_cons.mp hx with rfl | hx
  · exact .int
  · rcases List.mem_cons.mp hx with rfl | hx
    · exact .int
    · cases hx
theorem pl_lads {ls : List Ld} (h : ls.length ≤ sizeLine) : Pl 2 (.lst (ls.map lad)) := .lst (by simpa using h) fun x hx => by
  obtain ⟨l, _, rfl⟩ := List.mem_map.mp hx
  exact pl_lad l
theorem dat_lst {k : Nat} {ys : List TV} (hy : Pl k (.lst ys)) (hk : k ≤ 64) : datT (.lst ys) (.list (ys.map dT)) := by
  have h2 := pl_datT hy hk
  have e : dT (.lst ys) = .list (ys.map dT) := by simp only [dT, dTL_map]
  rwa [e] at h2
theorem any_dat (ys : List TV) (x : TV) : ((ys.map dT).any fun z => PyData.eqv z (dT x)) = ys.any fun y => eqT y x := by
  rw [List.any_map]
  rfl
theorem no_non (ls : List Ld) : (((ls.map lad).map dT).any fun z => PyData.eqv z (dT .non)) = false := by
  rw [any_dat, List.any_map, List.any_eq_false]
  intro l _
  simp [eqT, lad, dT, PyData.eqv]
theorem nb_lad (l : Ld) : Nb (lad l) := .tup fun x hx => by
  rcases List.mem_cons.mp hx with rfl | hx
  · exact .int
  · rcases List.mem_cons.mp hx with rfl | hx
    · exact .int
    · cases hx
end EV

/-! EvSh: loops by their turn's number; what is picked. -/
namespace EV
open PySem
/-- a for loop, by the number of the turn -/
theorem wFor_idx {f : TTv → TX → KS → Prop} {D : KS} {ts : List TTv} (I : Nat → TX → Prop)
    (step : ∀ k t x D', ts[k]? = some t → I k x → (∀ x', I (k + 1) x' → D'.nx x') → (∀ x', I (k + 1) x' → D'.ct x') → (∀ u c, D.rt u c → D'.rt u c) → (∀ x', D.nx x' → D'.bk x') → f t x D') (fin : ∀ x, I ts.length x → D.nx x) (x : TX) (h : I 0 x) : wFor f D ts x := by
  refine wFor_inv (fun rest x => ∃ k, rest = ts.drop k ∧ k ≤ ts.length ∧ I k x) ?_ ?_ ts x ⟨0, rfl, Nat.zero_le _, h⟩
  · rintro t rest x D' ⟨k, e, hk, i⟩ n1 n2 n3 n4
    have hl : k < ts.length := by
      rcases Nat.lt_or_ge k ts.length with l | l
      · exact l
      · rw [List.drop_eq_nil_of_le l] at e
        cases e
    have e2 := List.drop_eq_getElem_cons hl
    rw [e2] at e
    obtain ⟨rfl, rfl⟩ := List.cons.inj e
    exact step k _ x D' (List.getElem?_eq_getElem hl) i (fun x' i' => n1 x' ⟨k + 1, rfl, hl, i'⟩) (fun x' i' => n2 x' ⟨k + 1, rfl, hl, i'⟩) n3 n4
  · rintro x ⟨k, e, hk, i⟩
    have : ts.length ≤ k := by
      rcases Nat.lt_or_ge k ts.length with l | l
      · rw [List.drop_eq_getElem_cons l] at e
        cases e
      · exact l
    have : k = ts.length := by omega
    exact fin x (this ▸ i)
theorem rangeTT_map : ∀ (n : Nat) (lo : Int), rangeTT lo n = (List.range n).map fun k => .one (.int (lo + (k : Nat)))
  | 0, lo => rfl
  | n + 1, lo => by
    show .one (.int lo) :: rangeTT (lo + 1) n = _
    rw [rangeTT_map n (lo + 1), List.range_succ_eq_map, List.map_cons, List.map_map]
    congr 1
    · simp
    · refine List.map_congr_left fun k _ => ?_
      show TTv.one (.int (lo + 1 + (k : Nat))) = .one (.int (lo + ((k + 1 : Nat) : Int)))
      congr 2
      push_cast
      omega
theorem rangeTT_len (lo : Int) (n : Nat) : (rangeTT lo n).length = n := by rw [rangeTT_map]; simp
theorem rangeTT_get {lo : Int} {n k : Nat} {t : TTv} (h : (rangeTT lo n)[k]? = some t) : k < n ∧ t = .one (.int (lo + k)) := by
  rw [rangeTT_map, List.getElem?_map] at h
  obtain ⟨j, hj, rfl⟩ := Option.map_eq_some_iff.mp h
  obtain ⟨h1, h2⟩ := List.getElem?_eq_some_iff.mp hj
  rw [List.getElem_range] at h2
  subst h2
  exact ⟨by simpa using h1, rfl⟩
theorem rangeTT_mem {lo : Int} {n : Nat} {t : TTv} (h : t ∈ rangeTT lo n) : ∃ k : Nat, k < n ∧ t = .one (.int (lo + k)) := by
  obtain ⟨k, hk⟩ := List.mem_iff_getElem?.mp h
  exact ⟨k, rangeTT_get hk⟩
theorem enumT_len : ∀ (i : Nat) (xs : List TV), (enumT i xs).length = xs.length
  | i, [] => rfl
  | i, x :: xs => by
    show (enumT (i + 1) xs).length + 1 = xs.length + 1
    rw [enumT_len]
theorem enumT_get : ∀ {xs : List TV} {i k : Nat} {t : TTv}, (enumT i xs)[k]? = some t → ∃ x, xs[k]? = some x ∧ t = .two (.int ((i + k : Nat) : Int)) x
  | [], i, k, t, h => by cases k <;> cases h
  | x :: xs, i, 0, t, h => by
    cases h
    exact ⟨x, rfl, rfl⟩
  | x :: xs, i, k + 1, t, h => by
    obtain ⟨y, h1, h2⟩ := enumT_get (xs := xs) (i := i + 1) (k := k) h
    exact ⟨y, h1, by rw [h2]; congr 3; omega⟩
theorem one_get {xs : List TV} {k : Nat} {t : TTv} (h : (xs.map TTv.one)[k]? = some t) : ∃ x, xs[k]? = some x ∧ t = .one x := by
  rw [List.getElem?_map] at h
  obtain ⟨x, hx, rfl⟩ := Option.map_eq_some_iff.mp h
  exact ⟨x, hx, rfl⟩
theorem map_get {α β : Type} {f : α → β} {xs : List α} {k : Nat} {y : β} (h : (xs.map f)[k]? = some y) : ∃ x, xs[k]? = some x ∧ y = f x := by
  rw [List.getElem?_map] at h
  obtain ⟨x, hx, rfl⟩ := Option.map_eq_some_iff.mp h
  exact ⟨x, hx, rfl⟩
theorem get_mem {α : Type} {xs : List α} {k : Nat} {y : α} (h : xs[k]? = some y) : y ∈ xs := List.mem_iff_getElem?.mpr ⟨k, h⟩
theorem get_lt {α : Type} {xs : List α} {k : Nat} {y : α} (h : xs[k]? = some y) : k < xs.length := (List.getElem?_eq_some_iff.mp h).1
theorem atI_of {α β : Type} {f : α → β} {xs : List α} {k : Nat} {y : α} (h : xs[k]? = some y) : L2.atI (xs.map f) (k : Int) = some (f y) := L2.atI_nat (by rw [List.getElem?_map, h]; rfl)
theorem bls_map (p : TTv → Bool) : ∀ ts : List TTv, blsT (ts.filterMap fun t => some (.bl (p t))) = some (ts.map p)
  | [] => rfl
  | t :: ts => by
    rw [List.filterMap_cons]
    show (match blsT (ts.filterMap fun t => some (.bl (p t))) with
      | some is => some (p t :: is)
      | none => none) = _
    rw [bls_map p ts]
    rfl
theorem ints_map : ∀ is : List Int, intsT (is.map .int) = some is
  | [] => rfl
  | i :: is => by
    show (match intsT (is.map TV.int) with
      | some is => some (i :: is)
      | none => none) = _
    rw [ints_map is]
theorem range_side {i j : Int} (h1 : 0 ≤ i) (h2 : i < 1073741824) (h3 : 0 ≤ j) (h4 : j < 1073741824) : (-(2 ^ 62) ≤ i ∧ i < 2 ^ 62) ∧ -(2 ^ 62) ≤ j ∧ j < 2 ^ 62 := by omega
theorem range_side1 {j : Int} (h3 : -1073741824 ≤ j) (h4 : j < 1073741824) : -(2 ^ 62) ≤ j ∧ j < 2 ^ 62 := by omega
theorem pl_ints {is : List Int} (h : is.length ≤ sizeLine) : Pl 1 (.lst (is.map .int)) := .lst (by simpa using h) fun x hx => by
  obtain ⟨i, _, rfl⟩ := List.mem_map.mp hx
  exact .int
end EV

/-! EvSi: pairs of ladders that do not meet (no program). -/
namespace EV
open PySem
theorem flat_none {β : Type} {f : Nat → List β} : ∀ {n : Nat}, (∀ i, i < n → f i = []) → (List.range n).flatMap f = []
  | 0, _ => rfl
  | n + 1, h => by
    rw [List.range_succ, List.flatMap_append, flat_none fun i hi => h i (by omega)]
    simp [h n (by omega)]
theorem flat_head {β : Type} {f : Nat → List β} {k : Nat} {b : β} {bs : List β} (h0 : ∀ i, i < k → f i = []) (h1 : f k = b :: bs) : ∀ {n : Nat}, k < n → ∃ rest, (List.range n).flatMap f = b :: rest
  | 0, h => absurd h (Nat.not_lt_zero _)
  | n + 1, h => by
    rw [List.range_succ, List.flatMap_append]
    by_cases e : k = n
    · subst e
      rw [flat_none h0]
      exact ⟨bs, by simp [h1]⟩
    · obtain ⟨rest, hr⟩ := flat_head h0 h1 (n := n) (by omega)
      rw [hr]
      exact ⟨_, List.cons_append⟩
theorem filt_none {β : Type} {f : Nat → Option β} : ∀ {n : Nat}, (∀ i, i < n → f i = none) → (List.range n).filterMap f = []
  | 0, _ => rfl
  | n + 1, h => by
    rw [List.range_succ, List.filterMap_append, filt_none fun i hi => h i (by omega)]
    simp [h n (by omega)]
theorem filt_head {β : Type} {f : Nat → Option β} {k : Nat} {b : β} (h0 : ∀ i, i < k → f i = none) (h1 : f k = some b) : ∀ {n : Nat}, k < n → ∃ rest, (List.range n).filterMap f = b :: rest
  | 0, h => absurd h (Nat.not_lt_zero _)
  | n + 1, h => by
    rw [List.range_succ, List.filterMap_append]
    by_cases e : k = n
    · subst e
      rw [filt_none h0]
      exact ⟨[], by simp [h1]⟩
    · obtain ⟨rest, hr⟩ := filt_head h0 h1 (n := n) (by omega)
      rw [hr]
      exact ⟨_, List.cons_append⟩
def meetB (l m : Ld) : Bool := decide ((Int.gcd l.2 m.2 : Int) ∣ m.1 - l.1)
theorem meetB_iff {l m : Ld} (hl : 0 < l.2) (hm : 0 < m.2) : meetB l m = true ↔ ∃ x, hasP l x ∧ hasP m x := by
  unfold meetB
  rw [decide_eq_true_iff]
  exact (meet_iff hl hm).symm
theorem meetB_no {l m : Ld} (hl : 0 < l.2) (hm : 0 < m.2) (h : ¬∃ x, hasP l x ∧ hasP m x) : meetB l m = false := by
  cases e : meetB l m with
  | false => rfl
  | true => exact absurd ((meetB_iff hl hm).mp e) h
def ldAt (ls : List Ld) (i : Nat) : Ld := ls.getD i (0, 1)
theorem ldAt_of {ls : List Ld} {i : Nat} {l : Ld} (h : ls[i]? = some l) : ldAt ls i = l := by
  unfold ldAt
  rw [List.getD_eq_getElem?_getD, h]
  rfl
def apF (ls : List Ld) (i k : Nat) : Option Nat := if meetB (ldAt ls i) (ldAt ls (i + 1 + k)) then none else some (i + 1 + k)
def rowA (ls : List Ld) (i : Nat) : List Nat := (List.range (ls.length - (i + 1))).filterMap (apF ls i)
def apartK (ls : List Ld) (k : Nat) : List (Nat × Nat) := (List.range k).flatMap fun i => (rowA ls i).map fun j => (i, j)
def apartL (ls : List Ld) : List (Nat × Nat) := apartK ls ls.length
theorem apartK_succ (ls : List Ld) (k : Nat) : apartK ls (k + 1) = apartK ls k ++ (rowA ls k).map fun j => (k, j) := by
  unfold apartK
  rw [List.range_succ, List.flatMap_append]
  simp
/-- the first pair that does not meet -/
theorem apart_head {ls : List Ld} {i k : Nat} (h0 : ∀ i', i' < i → rowA ls i' = []) (h1 : ∀ k', k' < k → meetB (ldAt ls i) (ldAt ls (i + 1 + k')) = true) (h2 : meetB (ldAt ls i) (ldAt ls (i + 1 + k)) = false) (hk : i + 1 + k < ls.length) : ∃ rest, apartL ls = (i, i + 1 + k) :: rest := by
  obtain ⟨r1, e1⟩ := filt_head (f := apF ls i) (k := k) (b := i + 1 + k) (fun k' hk' => by simp [apF, h1 k' hk']) (by simp [apF, h2]) (n := ls.length - (i + 1)) (by omega)
  have : rowA ls i = (i + 1 + k) :: r1 := e1
  exact flat_head (f := fun i => (rowA ls i).map fun j => (i, j)) (k := i) (fun i' hi' => by simp [h0 i' hi']) (by rw [this]; rfl) (by omega)
theorem row_none {ls : List Ld} {i : Nat} (h : ∀ k', k' < ls.length - (i + 1) → meetB (ldAt ls i) (ldAt ls (i + 1 + k')) = true) : rowA ls i = [] := filt_none fun k' hk' => by simp [apF, h k' hk']
theorem apart_none {ls : List Ld} (h : ∀ i, i < ls.length → rowA ls i = []) : apartL ls = [] := flat_none fun i hi => by simp [h i hi]
theorem filt_nil {β : Type} {f : Nat → Option β} : ∀ {n : Nat}, (List.range n).filterMap f = [] → ∀ i, i < n → f i = none
  | 0, _, i, hi => absurd hi (Nat.not_lt_zero _)
  | n + 1, h, i, hi => by
    rw [List.range_succ, List.filterMap_append, List.append_eq_nil_iff] at h
    by_cases e : i = n
    · subst e
      cases g : f i with
      | none => rfl
      | some b => have := h.2; simp [g] at this
    · exact filt_nil h.1 i (by omega)
theorem flat_nil {β : Type} {f : Nat → List β} : ∀ {n : Nat}, (List.range n).flatMap f = [] → ∀ i, i < n → f i = []
  | 0, _, i, hi => absurd hi (Nat.not_lt_zero _)
  | n + 1, h, i, hi => by
    rw [List.range_succ, List.flatMap_append, List.append_eq_nil_iff] at h
    by_cases e : i = n
    · subst e
      simpa using h.2
    · exact flat_nil h.1 i (by omega)
/-- where any two meet, all do -/
theorem apart_all {ls : List Ld} (ok : ladOk ls) (h : apartL ls = []) : ∃ y, ∀ l ∈ ls, hasP l y := by
  refine helly2 ok (List.pairwise_iff_getElem.mpr fun i j hi hj hij => ?_)
  have h1 := flat_nil (f := fun i => (rowA ls i).map fun j => (i, j)) h i hi
  have h2 : rowA ls i = [] := List.map_eq_nil_iff.mp h1
  have h3 := filt_nil h2 (j - (i + 1)) (by omega)
  have e : i + 1 + (j - (i + 1)) = j := by omega
  unfold apF at h3
  rw [e, ldAt_of (List.getElem?_eq_getElem hi), ldAt_of (List.getElem?_eq_getElem hj)] at h3
  have o1 := ok _ (List.getElem_mem hi)
  have o2 := ok _ (List.getElem_mem hj)
  refine (meetB_iff (by omega) (by omega)).mp ?_
  cases g : meetB ls[i] ls[j] with
  | true => rfl
  | false => rw [g] at h3; cases h3
theorem rnd_take {ls : List Ld} {k : Nat} {l : Ld} (h : ls[k]? = some l) : rnd (ls.take (k + 1)) = (Int.lcm (rnd (ls.take k)) l.2 : Int) := by
  obtain ⟨h1, h2⟩ := List.getElem?_eq_some_iff.mp h
  rw [List.take_succ, h]
  unfold rnd
  rw [List.foldl_append]
  rfl
theorem rnd_dvd {ls : List Ld} {B : Int} (h : rnd ls ∣ B) (k : Nat) : rnd (ls.take k) ∣ B :=
  rndF_least (Int.one_dvd _) fun l hl => Int.dvd_trans (step_dvd (List.mem_of_mem_take hl)) h
/-- one more ladder joined -/
theorem join_step {ds : List Ld} {r r' : Int} (hr : ∀ d ∈ ds, hasP d r) (h1 : hasP (r, rnd ds) r') : ∀ d ∈ ds, hasP d r' := fun d m => by
  have := Int.dvd_add (Int.dvd_trans (step_dvd (L := 1) m) h1) (hr d m)
  have e : r' - r + (r - d.1) = r' - d.1 := by omega
  show d.2 ∣ r' - d.1
  rw [← e]
  exact this
theorem join_has {ds : List Ld} {r z : Int} (hr : ∀ d ∈ ds, hasP d r) (hz : ∀ d ∈ ds, hasP d z) : hasP (r, rnd ds) z :=
  rndF_least (Int.one_dvd _) fun d m => by
    have := Int.dvd_sub (hz d m) (hr d m)
    have e : z - d.1 - (r - d.1) = z - r := by omega
    rwa [e] at this
end EV

/-! EvSj: results of looks; loosened trees; slices; what all of some ladders have. -/
namespace EV
open PySem
theorem low_c (x : TX) (i k : Nat) : (x.low i k).c = x.c := by
  unfold TX.low
  split
  · split <;> rfl
  · rfl
/-- what a look ends in, where only the draws left matter -/
theorem done_ret {p : E} {Q : KE} {t : TV} {x : TX} (q : ∀ d e, Q (t, d) ⟨e, x.c⟩) : done p Q t x := by
  unfold done
  split
  · exact q 9 x.e
  · split
    · rename_i i l _
      have := q 0 (x.low i l).e
      have e : (⟨(x.low i l).e, x.c⟩ : TX) = x.low i l := by rw [← low_c x i l]
      rw [e] at this
      exact this
    · exact q 0 x.e
theorem looL_mem : ∀ {xs ys : List TV} {y : TV}, LooL xs ys → y ∈ ys → ∃ x ∈ xs, Loo x y
  | [], ys, y, h, m => by
    have h : ys = [] := h
    subst h
    cases m
  | x :: xs, _, y, ⟨z, ys', e, h1, h2⟩, m => by
    subst e
    rcases List.mem_cons.mp m with rfl | m
    · exact ⟨x, List.mem_cons_self, h1⟩
    · obtain ⟨w, hw, h⟩ := looL_mem h2 m
      exact ⟨w, List.mem_cons_of_mem _ hw, h⟩
theorem pl_loo {m : Nat} {t : TV} (h : Pl m t) : ∀ u, Loo t u → Pl m u := by
  induction h with
  | non => intro u h; have h : u = .non := h; subst h; exact .non
  | bl => intro u h; have h : u = .bl _ := h; subst h; exact .bl
  | int => intro u h; have h : u = .int _ := h; subst h; exact .int
  | str hs => intro u h; have h : u = .str _ := h; subst h; exact .str hs
  | lst hl h ih =>
    intro u ⟨ys, hL, hu⟩
    have e := looL_len hL
    rcases hu with rfl | rfl
    · exact .lst (by omega) fun y m => by obtain ⟨x, hx, hh⟩ := looL_mem hL m; exact ih x hx y hh
    · exact .tup (by omega) fun y m => by obtain ⟨x, hx, hh⟩ := looL_mem hL m; exact ih x hx y hh
  | tup hl h ih =>
    intro u ⟨ys, hL, hu⟩
    have e := looL_len hL
    rcases hu with rfl | rfl
    · exact .lst (by omega) fun y m => by obtain ⟨x, hx, hh⟩ := looL_mem hL m; exact ih x hx y hh
    · exact .tup (by omega) fun y m => by obtain ⟨x, hx, hh⟩ := looL_mem hL m; exact ih x hx y hh
mutual
theorem loo_refl : ∀ t : TV, Loo t t
  | .non => rfl
  | .bl _ => rfl
  | .int _ => rfl
  | .str _ => rfl
  | .ty _ => rfl
  | .stm => rfl
  | .scr => rfl
  | .unset => rfl
  | .som _ => rfl
  | .fn _ _ _ => rfl
  | .lst xs => ⟨xs, looL_refl xs, .inl rfl⟩
  | .tup xs => ⟨xs, looL_refl xs, .inr rfl⟩
theorem looL_refl : ∀ ts : List TV, LooL ts ts
  | [] => rfl
  | t :: ts => ⟨t, ts, rfl, loo_refl t, looL_refl ts⟩
end
theorem cut_from {xs : List TV} {k : Nat} (h : k ≤ xs.length) : cutT xs (some (k : Int)) none = xs.drop k := by
  unfold cutT
  rw [HT.sIx_nat, HT.sIx_none, Nat.min_eq_left h]
  exact List.take_of_length_le (by simp)
theorem cut_to {xs : List TV} {k : Nat} (h : k ≤ xs.length) : cutT xs none (some (k : Int)) = xs.take k := by
  unfold cutT
  rw [HT.sIx_nat, HT.sIx_none, Nat.min_eq_left h]
  simp
theorem nodes_lads : ∀ ls : List Ld, nodesL (ls.map lad) = ls.length
  | [] => rfl
  | l :: ls => by
    show nodes (lad l) + nodesL (ls.map lad) = ls.length + 1
    rw [nodes_lads ls]
    show 0 + (0 + 0) + 1 + ls.length = _
    omega
def shStr (s : String) : Bool := SeqAt.shaped (.str s)
/-- the least number from 0 on that all have -/
def fcN (ls : List Ld) : Nat := ((List.range (rnd ls).toNat).find? fun (k : Nat) => ls.all fun l => decide (hasP l (k : Int))).getD 0
def fc (ls : List Ld) : Int := (fcN ls : Int)
theorem fc_eq {ls : List Ld} {r : Int} (r0 : 0 ≤ r) (r1 : r < rnd ls) (h : ∀ l ∈ ls, hasP l r) : fc ls = r := by
  unfold fc fcN
  cases e : (List.range (rnd ls).toNat).find? fun (k : Nat) => ls.all fun l => decide (hasP l k) with
  | none =>
    have := List.find?_eq_none.mp e r.toNat (by simp; omega)
    refine absurd ?_ this
    refine List.all_eq_true.mpr fun l m => decide_eq_true ?_
    have e : ((r.toNat : Nat) : Int) = r := by omega
    rw [e]
    exact h l m
  | some k =>
    have h1 := List.find?_some e
    have h2 := List.mem_of_find?_eq_some e
    have h3 : k < (rnd ls).toNat := by simpa using h2
    have h4 := List.all_eq_true.mp h1
    exact common_one (fun l m => of_decide_eq_true (h4 l m)) h (by simp) (by simp; omega) r0 r1
theorem range_one {β : Type} {f : Nat → β} {r : Nat} {p : Nat → Bool} : ∀ {n : Nat}, r < n → (∀ k, k < n → (p k = true ↔ k = r)) → (List.range n).filterMap (fun k => if p k then some (f k) else none) = [f r]
  | 0, h, _ => absurd h (Nat.not_lt_zero _)
  | n + 1, h, hp => by
    rw [List.range_succ, List.filterMap_append]
    by_cases e : r = n
    · subst e
      rw [filt_none fun i hi => by
        have := hp i (by omega)
        have : ¬ p i = true := fun z => by have := this.mp z; omega
        simp [this]]
      have := (hp r (by omega)).mpr rfl
      simp [this]
    · rw [range_one (n := n) (by omega) fun k hk => hp k (by omega)]
      have : ¬ p n = true := fun z => by have := (hp n (by omega)).mp z; omega
      simp [this]
end EV

/-! EvSk: own copies; what is told twice, and spoilt between. -/
namespace EV
open PySem
/-- comp_map where the items are at least so deep their own -/
theorem comp_mapD {own : List Nat} {tg : Tg} {cv : TX → KT → Prop} {ev : TX → KE → Prop} {Q : List TV → Nat → TX → Prop} {E : TEn} {c : Option Nat} (g : TTv → Option TV) (D : Nat) : ∀ (ts : List TTv) (x : TX) (acc : List TV) (d : Nat),
    (∀ t ∈ ts, ∀ K : Option TD → TX → Prop, (∀ d e, D ≤ d → wipeT e own = E → K ((g t).map fun v => (v, d)) ⟨e, c⟩) → wBind tg t E fun e2 => cv ⟨e2, c⟩ fun b x3 => br b (ev x3 fun v x4 => K (some v) x4) (K none x3)) →
    acc.length + ts.length ≤ sizeLine → wipeT x.e own = E → x.c = c → D ≤ d → (∀ d e, D ≤ d → wipeT e own = E → Q (acc ++ ts.filterMap g) d ⟨e, c⟩) → wComp (turnTA tg own cv ev) Q ts x acc d
  | [], x, acc, d, h, hl, hx, hc, hd, q => by
    have := q d x.e hd hx
    rw [List.filterMap_nil, List.append_nil, ← hc] at this
    exact this
  | t :: ts, x, acc, d, h, hl, hx, hc, hd, q => by
    have key : ∀ K : Option TD → TX → Prop, (∀ d e, D ≤ d → wipeT e own = E → K ((g t).map fun v => (v, d)) ⟨e, c⟩) → turnTA tg own cv ev t x K := fun K hK => by
      unfold turnTA
      rw [hx, hc]
      exact h t List.mem_cons_self K hK
    show turnTA tg own cv ev t x _
    refine key _ fun d' e hd' he => ?_
    cases hg : g t with
    | none =>
      refine comp_mapD g D ts ⟨e, c⟩ acc d (fun t m => h t (List.mem_cons_of_mem _ m)) (by simp at hl; omega) he rfl hd fun d e hd he => ?_
      have := q d e hd he
      rw [List.filterMap_cons, hg] at this
      exact this
    | some v =>
      refine ⟨by simp at hl; omega, comp_mapD g D ts ⟨e, c⟩ (acc ++ [v]) _ (fun t m => h t (List.mem_cons_of_mem _ m)) (by simp at hl ⊢; omega) he rfl (by show D ≤ min d d'; omega) fun d e hd he => ?_⟩
      have := q d e hd he
      rw [List.filterMap_cons, hg] at this
      rw [List.append_assoc]
      exact this
/-- a name's value taken; how deep it stays the slot's own is not asked any more -/
theorem done_own {i d : Nat} {m : Mo} {Q : KE} {t : TV} {x : TX} (hr : root (.var i m) = some (i, 0)) (hs : slot x.e i = some (t, d)) (q : ∀ d1 d2, Q (t, d1) (x.put i (some (t, d2)))) : done (.var i m) Q t x := by
  have same : x.put i (some (t, d)) = x := by
    unfold slot at hs
    have hi : i < x.e.length := by
      by_cases hi : i < x.e.length
      · exact hi
      · rw [List.getElem?_eq_none (by omega)] at hs
        cases hs
    rw [List.getElem?_eq_getElem hi] at hs
    unfold TX.put
    have hs : x.e[i] = some (t, d) := hs
    rw [← hs, List.set_getElem_self]
  unfold done
  cases t.atm with
  | true =>
    have := q 9 d
    rw [same] at this
    exact this
  | false =>
    rw [hr]
    dsimp only
    unfold TX.low
    rw [hs]
    dsimp only
    split
    · have := q 0 d
      rw [same] at this
      exact this
    · exact q 0 0
theorem hgtL_le {m : Nat} : ∀ {xs : List TV}, (∀ x ∈ xs, hgt x ≤ m) → hgtL xs ≤ m
  | [], _ => Nat.zero_le _
  | x :: xs, h => by
    show max (hgt x) (hgtL xs) ≤ m
    have := h x List.mem_cons_self
    have := hgtL_le (xs := xs) fun y hy => h y (List.mem_cons_of_mem _ hy)
    omega
theorem hgt_pl : ∀ {m : Nat} {t : TV}, Pl m t → hgt t ≤ m
  | _, _, .non => Nat.zero_le _
  | _, _, .bl => Nat.zero_le _
  | _, _, .int => Nat.zero_le _
  | _, _, .str _ => Nat.zero_le _
  | _, _, .lst _ h => Nat.succ_le_succ (hgtL_le fun x hx => hgt_pl (h x hx))
  | _, _, .tup _ h => Nat.succ_le_succ (hgtL_le fun x hx => hgt_pl (h x hx))
theorem spoilL_len : ∀ xs : List TV, (spoilL xs).length = xs.length
  | [] => rfl
  | x :: xs => by
    show (spoilT x :: spoilL xs).length = _
    rw [List.length_cons, spoilL_len xs, List.length_cons]
theorem spoilL_mem : ∀ {xs : List TV} {y : TV}, y ∈ spoilL xs → ∃ x ∈ xs, y = spoilT x
  | x :: xs, y, m => by
    rcases List.mem_cons.mp (show y ∈ spoilT x :: spoilL xs from m) with e | m
    · exact ⟨x, List.mem_cons_self, e⟩
    · obtain ⟨z, hz, e⟩ := spoilL_mem m
      exact ⟨z, List.mem_cons_of_mem _ hz, e⟩
theorem roomL_mem : ∀ {xs : List TV}, roomL xs → ∀ x ∈ xs, room x
  | x :: xs, ⟨h1, h2⟩, y, m => by
    rcases List.mem_cons.mp m with e | m
    · rw [e]
      exact h1
    · exact roomL_mem h2 y m
theorem roomL_of : ∀ {xs : List TV}, (∀ x ∈ xs, room x) → roomL xs
  | [], _ => trivial
  | x :: xs, h => ⟨h x List.mem_cons_self, roomL_of fun y hy => h y (List.mem_cons_of_mem _ hy)⟩
theorem sh_late : SeqAt.shaped (.str "late") = true := by decide +kernel
theorem pl_spoil : ∀ {m : Nat} {t : TV}, Pl m t → room t → Pl m (spoilT t)
  | _, _, .non, _ => .non
  | _, _, .bl, _ => .bl
  | _, _, .int, _ => .int
  | _, _, .str h, _ => .str h
  | _, _, .lst (xs := xs) hl h, ⟨r1, r2⟩ => .lst (by rw [List.length_append, spoilL_len, List.length_singleton]; exact r1) fun y hy => by
    rcases List.mem_append.mp hy with hy | hy
    · obtain ⟨x, hx, rfl⟩ := spoilL_mem hy
      exact pl_spoil (h x hx) (roomL_mem r2 x hx)
    · rw [List.mem_singleton.mp hy]
      exact .str sh_late
  | _, _, .tup (xs := xs) hl h, r2 => .tup (by rw [spoilL_len]; exact hl) fun y hy => by
    obtain ⟨x, hx, rfl⟩ := spoilL_mem hy
    exact pl_spoil (h x hx) (roomL_mem r2 x hx)
theorem room_ints {is : List Int} (h : is.length < sizeLine) : room (.lst (is.map .int)) := ⟨by simpa using h, roomL_of fun x hx => by
  obtain ⟨i, _, rfl⟩ := List.mem_map.mp hx
  trivial⟩
def bCopiedO (k : Nat) : List S := [.iff (.isi (.var 0 .rd) ["dict"]) [.ret (.bi .dict [.lc [1] (.tup [.var 1 .rd, .call k [.ix (.var 0 .rd) (.var 1 .rd)]]) (.nm 1) .seq [.var 0 .rd] none])] [], .set 2 (.ite (.isi (.var 0 .rd) ["list", "tuple"]) (.lc [3] (.call k [.var 3 .rd]) (.nm 3) .seq [.var 0 .rd] none) (.var 0 .rd)), .ret (.ite (.isi (.var 0 .rd) ["tuple"]) (.bi .tuple [.var 2 .mv]) (.var 2 .mv))]
section
variable {T : List Fd} {mus : List (List Nat × Bool)} {pr : Nat → Option Pr} {W n k : Nat} {c : Option Nat} {Q : TD → Option Nat → Prop}
section
variable (hp : pr k = none) (hT : T[k]? = some ⟨1, 4, bCopiedO k⟩) (hm : (mus[k]?).getD ([], false) = ([2], true))
include hp hT hm
theorem copO_lst {xs : List TV} (ih : ∀ x ∈ xs, ∀ Q : TD → Option Nat → Prop, (∀ d, 9 ≤ d → Q (x, d) c) → wF T mus pr W n k [x] c Q) (hl : xs.length ≤ sizeLine) (q : ∀ d, 9 ≤ d → Q (.lst xs, d) c) : wF T mus pr W (n + 1) k [.lst xs] c Q := by
  refine wF_mk hp hT hm rfl ?_
  refine comp_mapD (E := [some (.lst xs, 0), none, none, none]) (c := c) oneV 9 (xs.map .one) _ [] 9 (fun t m K hK => ?_) (by simpa using hl) rfl rfl (Nat.le_refl _) (fun d e hd he => ?_)
  · obtain ⟨x, hx, rfl⟩ := List.mem_map.mp m
    show done (.var 3 .rd) (fun u x1 => wF T mus pr W n k [u.1] x1.c fun r c => K (some r) ⟨x1.e, c⟩) x ⟨[some (.lst xs, 0), none, none, some (x, 0)], c⟩
    refine done_v rfl rfl fun d1 => ?_
    exact ih x hx _ fun d hd => hK d _ hd rfl
  · rw [ones, he]
    exact q (d + 1) (by omega)
theorem copO_tup {xs : List TV} (ih : ∀ x ∈ xs, ∀ Q : TD → Option Nat → Prop, (∀ d, 9 ≤ d → Q (x, d) c) → wF T mus pr W n k [x] c Q) (hl : xs.length ≤ sizeLine) (q : ∀ d, 9 ≤ d → Q (.tup xs, d) c) : wF T mus pr W (n + 1) k [.tup xs] c Q := by
  refine wF_mk hp hT hm rfl ?_
  refine comp_mapD (E := [some (.tup xs, 0), none, none, none]) (c := c) oneV 9 (xs.map .one) _ [] 9 (fun t m K hK => ?_) (by simpa using hl) rfl rfl (Nat.le_refl _) (fun d e hd he => ?_)
  · obtain ⟨x, hx, rfl⟩ := List.mem_map.mp m
    show done (.var 3 .rd) (fun u x1 => wF T mus pr W n k [u.1] x1.c fun r c => K (some r) ⟨x1.e, c⟩) x ⟨[some (.tup xs, 0), none, none, some (x, 0)], c⟩
    refine done_v rfl rfl fun d1 => ?_
    exact ih x hx _ fun d hd => hK d _ hd rfl
  · rw [ones, he]
    exact q (d + 1) (by omega)
theorem copO_int {i : Int} (q : ∀ d, 9 ≤ d → Q (.int i, d) c) : wF T mus pr W (n + 1) k [.int i] c Q := by
  refine wF_mk hp hT hm rfl ?_
  exact q 9 (by omega)
theorem copO_bl {i : Bool} (q : ∀ d, 9 ≤ d → Q (.bl i, d) c) : wF T mus pr W (n + 1) k [.bl i] c Q := by
  refine wF_mk hp hT hm rfl ?_
  exact q 9 (by omega)
theorem copO_str {i : Str} (q : ∀ d, 9 ≤ d → Q (.str i, d) c) : wF T mus pr W (n + 1) k [.str i] c Q := by
  refine wF_mk hp hT hm rfl ?_
  exact q 9 (by omega)
theorem copO_non (q : ∀ d, 9 ≤ d → Q (.non, d) c) : wF T mus pr W (n + 1) k [.non] c Q := by
  refine wF_mk hp hT hm rfl ?_
  exact q 9 (by omega)
theorem copO_pl : ∀ (m : Nat) (t : TV), Pl m t → ∀ n, m < n → ∀ Q : TD → Option Nat → Prop, (∀ d, 9 ≤ d → Q (t, d) c) → wF T mus pr W n k [t] c Q
  | m, _, .non, n + 1, _, Q, q => copO_non hp hT hm q
  | m, _, .bl, n + 1, _, Q, q => copO_bl hp hT hm q
  | m, _, .int, n + 1, _, Q, q => copO_int hp hT hm q
  | m, _, .str hx, n + 1, _, Q, q => copO_str hp hT hm q
  | m + 1, _, .lst hl h, n + 1, l, Q, q => copO_lst hp hT hm (fun x hx Q q => copO_pl m x (h x hx) n (by omega) Q q) hl q
  | m + 1, _, .tup hl h, n + 1, l, Q, q => copO_tup hp hT hm (fun x hx Q q => copO_pl m x (h x hx) n (by omega) Q q) hl q
end
/-! ### steps, one by one -/
section
variable {CT : CTs} {i k d : Nat} {ps es : List E} {x : TX} {t : TV} {Q : List TD → TX → Prop}
theorem wEs_v (hs : slot x.e i = some (t, 0)) (q : ∀ d, wEs CT ps x fun us x2 => Q ((t, d) :: us) x2) : wEs CT (.var i .rd :: ps) x Q := by
  show (match slot x.e i with
    | some (t, _) => done (.var i .rd) (fun u x1 => wEs CT ps x1 fun us x2 => Q (u :: us) x2) t x
    | none => False)
  rw [hs]
  exact done_v rfl hs q
theorem wEs_own (hs : slot x.e i = some (t, d)) (q : ∀ d1 d2, wEs CT ps (x.put i (some (t, d2))) fun us x2 => Q ((t, d1) :: us) x2) : wEs CT (.var i .rd :: ps) x Q := by
  show (match slot x.e i with
    | some (t, _) => done (.var i .rd) (fun u x1 => wEs CT ps x1 fun us x2 => Q (u :: us) x2) t x
    | none => False)
  rw [hs]
  exact done_own rfl hs q
theorem wEs_nil (q : Q [] x) : wEs CT [] x Q := q
theorem wEs_call (q : wEs CT es x fun us x1 => CT.call k (us.map (·.1)) x1.c fun r c => wEs CT ps ⟨x1.e, c⟩ fun us x2 => Q (r :: us) x2) : wEs CT (.call k es :: ps) x Q := q
theorem wEs_app {n : Nat} {e : En} {ts : List TV} (hs : slot x.e i = some (.fn n e ts, d)) (q : CT.app n e ts x.c fun r c => wEs CT ps ⟨x.e, c⟩ fun us x2 => Q (r :: us) x2) : wEs CT (.app i :: ps) x Q := by
  show (match slot x.e i with
    | some (.fn n e ts, _) => CT.app n e ts x.c fun r c => wEs CT ps ⟨x.e, c⟩ fun us x2 => Q (r :: us) x2
    | _ => False)
  rw [hs]
  exact q
theorem wEs_lst (q : wEs CT es x fun us x1 => us.length ≤ sizeLine ∧ wEs CT ps x1 fun vs x2 => Q ((.lst (us.map (·.1)), dmin us + 1) :: vs) x2) : wEs CT (.lst es :: ps) x Q := q
end
def bTwice (ks kc kp : Nat) : List S := [.par [3, 4] [.app 1, .call kc [.var 0 .rd]], .iff (.no (.call ks [.var 3 .rd, .var 0 .rd])) [.ret (.k (.bl false))] [], .spo kp 3, .spo kp 4, .ret (.call ks [.lst [.var 3 .rd, .app 2, .app 1], .lst [.var 4 .rd, .var 0 .rd, .var 0 .rd]])]
/-- told twice: each telling is the due, the stream's place told by R; over any calls -/
theorem twice_wp {CT : CTs} {ks kc kp u W : Nat} {e : En} {te : List TV} {due : TV} {R : Option Nat → Prop} {Q : TD → Option Nat → Prop} {c : Option Nat} {D : Nat}
    (ha : ∀ c (K : TD → Option Nat → Prop), (∀ d, hgt due ≤ d → K (due, d) c) → CT.app (u + 0) e te c K)
    (hb : ∀ K : TD → Option Nat → Prop, (∀ d c', hgt due ≤ d → R c' → K (due, d) c') → CT.app (u + 1) e te c K)
    (hcop : ∀ c (K : TD → Option Nat → Prop), (∀ d, 9 ≤ d → K (due, d) c) → CT.call kc [due] c K)
    (hsame : ∀ c (K : TD → Option Nat → Prop), K (.bl true, 0) c → CT.call ks [due, due] c K)
    (hsame3 : ∀ c (K : TD → Option Nat → Prop), K (.bl true, 0) c → CT.call ks [.lst [spoilT due, due, due], .lst [spoilT due, due, due]] c K)
    (hsp : CT.spo kp due) (h9 : hgt due ≤ 9) (hr : room due) (q : ∀ c', R c' → Q (.bl true, 0) c') :
    wSs CT W [3, 4] (bTwice ks kc kp) ⟨[some (due, 0), some (.fn (u + 0) e te, 0), some (.fn (u + 1) e te, 0), none, none], c⟩ (kst false Q) := by
  have s1 : ∀ (d d2 : Nat), hgt due ≤ d → 9 ≤ d2 → wSs CT W [3, 4] (bTwice ks kc kp).tail ⟨[some (due, 0), some (.fn (u + 0) e te, 0), some (.fn (u + 1) e te, 0), some (due, d), some (due, d2)], c⟩ (kst false Q) := fun d d2 hd1 hd2 => by
    have s2 : wSs CT W [3, 4] (bTwice ks kc kp).tail.tail ⟨[some (due, 0), some (.fn (u + 0) e te, 0), some (.fn (u + 1) e te, 0), some (due, d), some (due, d2)], c⟩ (kst false Q) := by
      refine ⟨⟨hsp, hd1, hr⟩, ?_⟩
      refine ⟨⟨hsp, by omega, hr⟩, ?_⟩
      show wEs CT [.lst [.var 3 .rd, .app 2, .app 1], .lst [.var 4 .rd, .var 0 .rd, .var 0 .rd]] ⟨[some (due, 0), some (.fn (u + 0) e te, 0), some (.fn (u + 1) e te, 0), some (spoilT due, d), some (spoilT due, d2)], c⟩ fun us x1 => CT.call ks (us.map (·.1)) x1.c fun r c => Q (r.1, 0) c
      refine wEs_lst (wEs_own (d := d) rfl fun d5 d6 => wEs_app (d := 0) rfl ?_)
      refine hb _ fun d7 c' hd7 hR => ?_
      refine wEs_app (d := 0) rfl ?_
      refine ha c' _ fun d8 hd8 => ?_
      refine wEs_nil ⟨by simp [sizeLine], ?_⟩
      refine wEs_lst (wEs_own (d := d2) rfl fun d9 d10 => wEs_v rfl fun d11 => wEs_v rfl fun d12 => wEs_nil ⟨by simp [sizeLine], wEs_nil ?_⟩)
      exact hsame3 c' _ (q c' hR)
    show wEs CT [.var 3 .rd, .var 0 .rd] ⟨lowE [some (due, 0), some (.fn (u + 0) e te, 0), some (.fn (u + 1) e te, 0), some (due, d), some (due, d2)], c⟩ fun us x1 => CT.call ks (us.map (·.1)) x1.c fun r c => wTru r.1 fun b => br (!b) (wSs CT W [3, 4] [.ret (.k (.bl false))] ⟨[some (due, 0), some (.fn (u + 0) e te, 0), some (.fn (u + 1) e te, 0), some (due, d), some (due, d2)], c⟩ ⟨fun x1 => wSs CT W [3, 4] (bTwice ks kc kp).tail.tail x1 (kst false Q), (kst false Q).rt, (kst false Q).bk, (kst false Q).ct⟩) (wSs CT W [3, 4] (bTwice ks kc kp).tail.tail ⟨[some (due, 0), some (.fn (u + 0) e te, 0), some (.fn (u + 1) e te, 0), some (due, d), some (due, d2)], c⟩ (kst false Q))
    refine wEs_v rfl fun d3 => wEs_v rfl fun d4 => wEs_nil ?_
    exact hsame c _ s2
  show wEs CT [.app 1, .call kc [.var 0 .rd]] ⟨[some (due, 0), some (.fn (u + 0) e te, 0), some (.fn (u + 1) e te, 0), none, none], c⟩ fun us x1 => match setManyD [3, 4] x1.e [3, 4] us with
    | some e => wSs CT W [3, 4] (bTwice ks kc kp).tail ⟨e, x1.c⟩ (kst false Q)
    | none => False
  refine wEs_app (d := 0) rfl ?_
  refine ha c _ fun d hd1 => ?_
  refine wEs_call (wEs_v rfl fun d1 => wEs_nil ?_)
  refine hcop c _ fun d2 hd2 => ?_
  exact s1 d d2 hd1 hd2
theorem twice_pl {kt ks kc kp N u : Nat} {e : En} {te : List TV} {l1 l2 : E} {due : TV} {m : Nat} {R : Option Nat → Prop} (ht1 : pr kt = none) (ht2 : T[kt]? = some ⟨3, 5, bTwice ks kc kp⟩) (ht3 : (mus[kt]?).getD ([], false) = ([3, 4], false))
    (hs1 : pr ks = none) (hs2 : T[ks]? = some ⟨2, 4, bSame ks⟩) (hs3 : (mus[ks]?).getD ([], false) = ([], false)) (hc1 : pr kc = none) (hc2 : T[kc]? = some ⟨1, 4, bCopiedO kc⟩) (hc3 : (mus[kc]?).getD ([], false) = ([2], true)) (hq : pr kp = some .spoil)
    (hd : Pl m due) (h9 : m ≤ 9) (hN : m + 1 ≤ N) (hr : room due)
    (h1 : ∀ c (Q : KE), (∀ d x', hgt due ≤ d → x'.c = c → Q (due, d) x') → (wP (ctF T mus pr W N noT) l1).e ⟨teOf te, c⟩ Q)
    (h2 : ∀ Q : KE, (∀ d x', hgt due ≤ d → R x'.c → Q (due, d) x') → (wP (ctF T mus pr W N noT) l2).e ⟨teOf te, c⟩ Q)
    (q : ∀ c', R c' → Q (.bl true, 0) c') : (ctF T mus pr W (N + 2) noT).cl [l1, l2] u e te kt [due, .fn (u + 0) e te, .fn (u + 1) e te] c Q := by
  refine ⟨ht1, ?_⟩
  have sp : Pl m (spoilT due) := pl_spoil hd hr
  have hh := hgt_pl hd
  unfold runT
  rw [ht1]
  dsimp only
  rw [ht2, ht3]
  refine ⟨rfl, ?_⟩
  refine twice_wp (D := 0) (R := R) (fun c K hK => ?_) (fun K hK => ?_) (fun c K hK => ?_) (fun c K hK => ?_) (fun c K hK => ?_) ⟨hq, by omega⟩ (by omega) hr q
  · refine ⟨0, _, rfl, rfl, rfl, ?_⟩
    refine h1 c _ fun d x' hd1 hx => ?_
    rw [hx]
    exact hK d hd1
  · refine ⟨1, _, rfl, rfl, rfl, ?_⟩
    exact h2 _ fun d x' hd1 hx => hK d _ hd1 hx
  · exact copO_pl hc1 hc2 hc3 m due hd (N + 1) (by omega) _ hK
  · exact same_pl hs1 hs2 hs3 m due hd (N + 1) (by omega) _ hK
  · refine same_pl hs1 hs2 hs3 (m + 1) (.lst [spoilT due, due, due]) (.lst (by simp [sizeLine]) fun x hx => ?_) (N + 1) (by omega) _ hK
    simp only [List.mem_cons, List.not_mem_nil, or_false] at hx
    rcases hx with rfl | rfl | rfl
    · exact sp
    · exact hd
    · exact hd
end
end EV

/-! EvSl: more on rounds. -/
namespace EV
open PySem
theorem lcm_mul {a b : Int} (ha : 0 < a) (hb : 0 < b) : (a * b).fdiv (Int.gcd a b) = Int.lcm a b := by
  have hg : 0 < (Int.gcd a b : Int) := by have := Int.gcd_pos_of_ne_zero_left b (by omega : a ≠ 0); omega
  rw [Int.fdiv_eq_ediv_of_nonneg _ (by omega), ← lcm_eq ha hb]
  obtain ⟨k, hk⟩ : (Int.gcd a b : Int) ∣ a := Int.gcd_dvd_left ..
  have e : a / (Int.gcd a b : Int) = k := Int.ediv_eq_of_eq_mul_right (by omega) hk
  rw [e]
  have e2 : a * b = (Int.gcd a b : Int) * (k * b) := by
    conv => lhs; rw [hk]
    rw [Int.mul_assoc]
  exact Int.ediv_eq_of_eq_mul_right (by omega) e2
end EV

/-! EvSm: how often a number is had. -/
namespace EV
open PySem
theorem fmod_iff {l : Ld} {x : Int} (hs : 0 < l.2) : (x - l.1).fmod l.2 = 0 ↔ hasP l x := decide_eq_decide.mp (fmod_has hs)
instance (l : Ld) (x : Int) : Decidable (hasP l x) := inferInstanceAs (Decidable (l.2 ∣ x - l.1))
/-- how many have x -/
def hcount (ls : List Ld) (x : Int) : Nat := (ls.filter fun l => decide (hasP l x)).length
def gO (x : Int) : TTv → Option TV
  | .one (.tup [.int a, .int s]) => if (x - a).fmod s = 0 then some (.int a) else none
  | _ => none
theorem gO_len (x : Int) : ∀ {ls : List Ld}, ladOk ls → (((ls.map lad).map TTv.one).filterMap (gO x)).length = hcount ls x
  | [], _ => rfl
  | l :: ls, ok => by
    have ih := gO_len x (ls := ls) fun m h => ok m (List.mem_cons_of_mem _ h)
    have o := ok l List.mem_cons_self
    have iff := fmod_iff (l := l) (x := x) (by omega)
    show ((TTv.one (lad l) :: ((ls.map lad).map TTv.one)).filterMap (gO x)).length = ((l :: ls).filter fun l => decide (hasP l x)).length
    by_cases z : hasP l x
    · have e : gO x (.one (lad l)) = some (.int l.1) := if_pos (iff.mpr z)
      rw [List.filterMap_cons, e, List.filter_cons_of_pos (by simpa using z), List.length_cons, List.length_cons, ih]
      rfl
    · have e : gO x (.one (lad l)) = none := if_neg fun h => z (iff.mp h)
      rw [List.filterMap_cons, e, List.filter_cons_of_neg (by simpa using z), ih]
      rfl
/-- the counts on a round -/
def cnts (ls : List Ld) : List Int := (List.range (rnd ls).toNat).map fun k => (hcount ls (k : Nat) : Int)
def gInt (f : Int → Int) : TTv → Option TV
  | .one (.int x) => some (.int (f x))
  | _ => none
theorem gInt_range (f : Int → Int) (n : Nat) : (rangeTT 0 n).filterMap (gInt f) = ((List.range n).map fun k => f (k : Nat)).map .int := by
  rw [rangeTT_map, List.filterMap_map, List.map_map]
  have : (gInt f ∘ fun (k : Nat) => TTv.one (.int (0 + (k : Nat)))) = fun (k : Nat) => some (TV.int (f (k : Nat))) := funext fun k => by
    show some (TV.int (f (0 + (k : Nat)))) = _
    rw [Int.zero_add]
  rw [this]
  generalize List.range n = r
  induction r with
  | nil => rfl
  | cons k r ih => rw [List.filterMap_cons, List.map_cons, ← ih]; rfl
/-- the divisors, from 1 -/
def divL (w : Nat) : List Nat := ((List.range w).map (· + 1)).filter fun p => decide (w % p = 0)
def gDiv (w : Nat) : TTv → Option TV
  | .one (.int x) => if (w : Int).fmod x = 0 then some (.int x) else none
  | _ => none
theorem gDiv_map (w : Nat) : (rangeTT 1 w).filterMap (gDiv w) = ((divL w).map fun (p : Nat) => (p : Int)).map .int := by
  rw [rangeTT_map, List.filterMap_map]
  unfold divL
  generalize List.range w = r
  induction r with
  | nil => rfl
  | cons k r ih =>
    have h : ((w : Int).fmod (1 + (k : Nat)) = 0) ↔ w % (k + 1) = 0 := by
      have e : (1 + (k : Nat) : Int) = ((k + 1 : Nat) : Int) := by omega
      rw [Int.fmod_eq_emod_of_nonneg _ (by omega), e, ← Int.natCast_emod]
      omega
    rw [List.filterMap_cons, List.map_cons]
    have e : (gDiv w ∘ fun (k : Nat) => TTv.one (.int (1 + (k : Nat)))) k = if (w : Int).fmod (1 + (k : Nat)) = 0 then some (.int (1 + (k : Nat))) else none := rfl
    rw [e]
    by_cases z : w % (k + 1) = 0
    · rw [if_pos (h.mpr z), List.filter_cons_of_pos (by simpa using z), List.map_cons, List.map_cons, ← ih]
      have : (1 + (k : Nat) : Int) = ((k + 1 : Nat) : Int) := by omega
      rw [this]
    · rw [if_neg fun y => z (h.mp y), List.filter_cons_of_neg (by simpa using z), ← ih]
end EV

/-! EvSn: the least period of a list. -/
namespace EV
open PySem
def isPer (cs : List Int) (p : Nat) : Bool := decide (cs = (List.replicate (cs.length / p) (cs.take p)).flatten)
def perL (cs : List Int) : Option Nat := (divL cs.length).find? (isPer cs)
theorem divL_mem {w p : Nat} (h : p ∈ divL w) : 0 < p ∧ p ≤ w ∧ w % p = 0 := by
  unfold divL at h
  obtain ⟨h1, h2⟩ := List.mem_filter.mp h
  obtain ⟨k, hk, rfl⟩ := List.mem_map.mp h1
  have := List.mem_range.mp hk
  exact ⟨by omega, by omega, of_decide_eq_true h2⟩
theorem divL_of {w p : Nat} (h0 : 0 < p) (h1 : p ≤ w) (h2 : w % p = 0) : p ∈ divL w :=
  List.mem_filter.mpr ⟨List.mem_map.mpr ⟨p - 1, List.mem_range.mpr (by omega), by omega⟩, decide_eq_true h2⟩
theorem divL_len (w : Nat) : (divL w).length ≤ w := by
  have := List.length_filter_le (fun p => decide (w % p = 0)) ((List.range w).map (· + 1))
  unfold divL
  simpa using this
theorem find_first {α : Type} {f : α → Bool} : ∀ {xs : List α} {k : Nat} {p : α}, xs[k]? = some p → (∀ i p', i < k → xs[i]? = some p' → f p' = false) → f p = true → xs.find? f = some p
  | x :: xs, 0, p, e, _, h => by
    cases e
    exact List.find?_cons_of_pos h
  | x :: xs, k + 1, p, e, h0, h => by
    rw [List.find?_cons_of_neg (by rw [h0 0 x (by omega) rfl]; simp)]
    exact find_first (k := k) e (fun i p' hi hp => h0 (i + 1) p' (by omega) hp) h
theorem isPer_self {cs : List Int} (h : 0 < cs.length) : isPer cs cs.length = true := by
  unfold isPer
  rw [Nat.div_self h, List.take_length]
  simp
theorem per_some {cs : List Int} (h : 0 < cs.length) (h0 : ∀ i p, i < (divL cs.length).length → (divL cs.length)[i]? = some p → isPer cs p = false) : False := by
  have m := divL_of h (Nat.le_refl _) (Nat.mod_self _)
  obtain ⟨i, e⟩ := List.mem_iff_getElem?.mp m
  have := h0 i _ (List.getElem?_eq_some_iff.mp e).1 e
  rw [isPer_self h] at this
  cases this
theorem rep_ints (n : Nat) (xs : List Int) : (List.replicate n (xs.map TV.int)).flatten = ((List.replicate n xs).flatten).map TV.int := by
  rw [List.map_flatten, List.map_replicate]
theorem eqT_ints (xs ys : List Int) : eqT (.lst (xs.map .int)) (.lst (ys.map .int)) = decide (xs = ys) := by
  have nb : ∀ zs : List Int, Nb (.lst (zs.map .int)) := fun zs => .lst fun x hx => by
    obtain ⟨i, _, rfl⟩ := List.mem_map.mp hx
    exact .int
  have h := eqT_iff (nb xs) _ (nb ys)
  have inj : ∀ {a b : List Int}, a.map TV.int = b.map TV.int → a = b := fun {a} => by
    induction a with
    | nil => intro b h; cases b with
      | nil => rfl
      | cons => cases h
    | cons x a ih => intro b h; cases b with
      | nil => cases h
      | cons y b =>
        rw [List.map_cons, List.map_cons] at h
        obtain ⟨h1, h2⟩ := List.cons.inj h
        cases h1
        rw [ih h2]
  by_cases z : xs = ys
  · subst z
    rw [h.mpr rfl, decide_eq_true rfl]
  · rw [decide_eq_false z]
    cases e : eqT (.lst (xs.map .int)) (.lst (ys.map .int)) with
    | false => rfl
    | true => exact absurd (inj (TV.lst.inj (h.mp e))) z
end EV

/-! EvSo: binomials. -/
namespace EV
open PySem
/-- Pascal's -/
def binom : Nat → Nat → Nat
  | _, 0 => 1
  | 0, _ + 1 => 0
  | n + 1, k + 1 => binom n k + binom n (k + 1)
theorem binom_zero (n : Nat) : binom n 0 = 1 := by cases n <;> rfl
theorem binom_big : ∀ {n k : Nat}, n < k → binom n k = 0
  | 0, k + 1, _ => rfl
  | n + 1, k + 1, h => by
    show binom n k + binom n (k + 1) = 0
    rw [binom_big (by omega), binom_big (by omega)]
theorem binom_step : ∀ n k : Nat, binom n (k + 1) * (k + 1) = binom n k * (n - k)
  | 0, 0 => rfl
  | 0, k + 1 => by
    show 0 * _ = 0 * _
    omega
  | n + 1, 0 => by
    have h : binom n 1 * 1 = binom n 0 * n := binom_step n 0
    show (binom n 0 + binom n 1) * 1 = 1 * (n + 1)
    rw [binom_zero] at h ⊢
    omega
  | n + 1, k + 1 => by
    have h1 := binom_step n k
    have h2 := binom_step n (k + 1)
    show (binom n (k + 1) + binom n (k + 2)) * (k + 2) = (binom n k + binom n (k + 1)) * (n + 1 - (k + 1))
    rw [show n + 1 - (k + 1) = n - k by omega]
    by_cases hk : n < k + 1
    · have e1 : binom n (k + 1) = 0 := binom_big hk
      have e2 : binom n (k + 2) = 0 := binom_big (by omega)
      rw [e1, e2]
      rw [e1] at h1
      rw [Nat.add_zero]
      omega
    · have e : n - k = n - (k + 1) + 1 := by omega
      have a1 : binom n (k + 1) * (k + 2) = binom n (k + 1) * (k + 1) + binom n (k + 1) := by rw [show k + 2 = (k + 1) + 1 from rfl, Nat.mul_succ]
      have a2 : binom n (k + 1) * (n - k) = binom n (k + 1) * (n - (k + 1)) + binom n (k + 1) := by rw [e, Nat.mul_succ]
      rw [Nat.add_mul, Nat.add_mul]
      have h2' : binom n (k + 2) * (k + 2) = binom n (k + 1) * (n - (k + 1)) := h2
      omega
theorem binom_le : ∀ n k : Nat, binom n k ≤ 2 ^ n
  | n, 0 => by rw [binom_zero]; exact Nat.one_le_two_pow
  | 0, k + 1 => Nat.zero_le _
  | n + 1, k + 1 => by
    show binom n k + binom n (k + 1) ≤ 2 ^ (n + 1)
    have := binom_le n k
    have := binom_le n (k + 1)
    omega
end EV

/-! EvSp: periods by wrapped looks; lots and binomials. -/
namespace EV
open PySem
/-! ### the period -/
def csAt (cs : List Int) (i : Int) : Int := (L2.atI cs i).getD 0
def pB (cs : List Int) (p : Nat) : Bool := (List.range cs.length).all fun (i : Nat) => decide (csAt cs (i : Int) = csAt cs ((i : Int) - (p : Int)))
theorem csAt_nat {cs : List Int} {i : Nat} (h : i < cs.length) : csAt cs (i : Int) = cs[i] := by
  unfold csAt
  rw [L2.atI_nat (List.getElem?_eq_getElem h)]
  rfl
theorem atI_neg {α : Type} {cs : List α} {i : Int} {k : Nat} (h0 : i < 0) (hk : (k : Int) = i + cs.length) (h : k < cs.length) : L2.atI cs i = some cs[k] := by
  unfold L2.atI L2.ixN
  rw [if_neg (by omega), if_pos (by omega)]
  have : (i + (cs.length : Nat)).toNat = k := by omega
  simp only [Option.bind_some, this]
  exact List.getElem?_eq_getElem h
theorem csAt_neg {cs : List Int} {i : Int} {k : Nat} (h0 : i < 0) (hk : (k : Int) = i + cs.length) (h : k < cs.length) : csAt cs i = cs[k] := by
  unfold csAt
  rw [atI_neg h0 hk h]
  rfl
theorem rep_get {α : Type} {xs : List α} : ∀ {m i : Nat}, i < m * xs.length → ((List.replicate m xs).flatten)[i]? = xs[i % xs.length]?
  | 0, i, h => by omega
  | m + 1, i, h => by
    rw [List.replicate_succ, List.flatten_cons]
    by_cases z : i < xs.length
    · rw [List.getElem?_append_left z, Nat.mod_eq_of_lt z]
    · have h' : i - xs.length < m * xs.length := by rw [Nat.succ_mul] at h; omega
      have e : i % xs.length = (i - xs.length) % xs.length := Nat.mod_eq_sub_mod (by omega)
      rw [List.getElem?_append_right (by omega), rep_get h', e]
theorem isPer_iff {cs : List Int} {p : Nat} (h0 : 0 < p) (h1 : p ≤ cs.length) (h2 : cs.length % p = 0) : isPer cs p = true ↔ ∀ i, (h : i < cs.length) → cs[i] = cs[i % p]'(Nat.lt_of_lt_of_le (Nat.mod_lt _ h0) h1) := by
  have hm : cs.length / p * p = cs.length := Nat.div_mul_cancel (Nat.dvd_of_mod_eq_zero h2)
  have hl : (cs.take p).length = p := by rw [List.length_take]; omega
  have hg : ∀ i, i < cs.length → ((List.replicate (cs.length / p) (cs.take p)).flatten)[i]? = cs[i % p]? := fun i h => by
    rw [rep_get (by rw [hl, hm]; exact h), hl, List.getElem?_take_of_lt (Nat.mod_lt _ h0)]
  have hlen : ((List.replicate (cs.length / p) (cs.take p)).flatten).length = cs.length := by
    rw [List.length_flatten, List.map_replicate, List.sum_replicate_nat, hl, hm]
  unfold isPer
  rw [decide_eq_true_iff]
  constructor
  · intro e i h
    have a := hg i h
    rw [← e, List.getElem?_eq_getElem h, List.getElem?_eq_getElem (Nat.lt_of_lt_of_le (Nat.mod_lt _ h0) h1)] at a
    exact Option.some.inj a
  · intro e
    refine List.ext_getElem? fun i => ?_
    by_cases h : i < cs.length
    · rw [hg i h, List.getElem?_eq_getElem h, List.getElem?_eq_getElem (Nat.lt_of_lt_of_le (Nat.mod_lt _ h0) h1), e i h]
    · rw [List.getElem?_eq_none (by omega), List.getElem?_eq_none (by omega)]
theorem pB_iff {cs : List Int} {p : Nat} (h0 : 0 < p) (h1 : p ≤ cs.length) : pB cs p = true ↔ ∀ i, (h : i < cs.length) → cs[i] = cs[if p ≤ i then i - p else i + cs.length - p]'(by split <;> omega) := by
  unfold pB
  rw [List.all_eq_true]
  constructor
  · intro a i h
    have := of_decide_eq_true (a i (List.mem_range.mpr h))
    rw [csAt_nat h] at this
    by_cases z : p ≤ i
    · have e : (i : Int) - (p : Int) = ((i - p : Nat) : Int) := by omega
      rw [e, csAt_nat (by omega)] at this
      simp only [if_pos z]
      exact this
    · rw [csAt_neg (k := i + cs.length - p) (by omega) (by omega) (by omega)] at this
      simp only [if_neg z]
      exact this
  · intro a i m
    have h := List.mem_range.mp m
    have := a i h
    refine decide_eq_true ?_
    rw [csAt_nat h]
    by_cases z : p ≤ i
    · have e : (i : Int) - (p : Int) = ((i - p : Nat) : Int) := by omega
      rw [e, csAt_nat (by omega)]
      simp only [if_pos z] at this
      exact this
    · rw [csAt_neg (k := i + cs.length - p) (by omega) (by omega) (by omega)]
      simp only [if_neg z] at this
      exact this
theorem pB_per {cs : List Int} {p : Nat} (h0 : 0 < p) (h1 : p ≤ cs.length) (h2 : cs.length % p = 0) : pB cs p = isPer cs p := by
  rw [Bool.eq_iff_iff, pB_iff h0 h1, isPer_iff h0 h1 h2]
  constructor
  · intro a i
    induction i using Nat.strongRecOn with
    | ind i ih =>
      intro h
      by_cases z : p ≤ i
      · have e := a i h
        simp only [if_pos z] at e
        rw [e, ih (i - p) (by omega) (by omega)]
        have : (i - p) % p = i % p := (Nat.mod_eq_sub_mod z).symm
        simp only [this]
      · have : i % p = i := Nat.mod_eq_of_lt (by omega)
        simp only [this]
  · intro a i h
    rw [a i h]
    by_cases z : p ≤ i
    · simp only [if_pos z]
      rw [a (i - p) (by omega)]
      have : (i - p) % p = i % p := (Nat.mod_eq_sub_mod z).symm
      simp only [this]
    · simp only [if_neg z]
      rw [a (i + cs.length - p) (by omega)]
      obtain ⟨m, hm⟩ := Nat.dvd_of_mod_eq_zero h2
      have : (i + cs.length - p) % p = i % p := by
        cases m with
        | zero => rw [Nat.mul_zero] at hm; omega
        | succ m =>
          rw [Nat.mul_succ] at hm
          have : i + cs.length - p = i + p * m := by omega
          rw [this, Nat.add_mul_mod_self_left]
      simp only [this]
theorem filter_find {α : Type} {f : α → Bool} : ∀ {xs : List α}, xs.find? f = (xs.filter f)[0]?
  | [] => rfl
  | x :: xs => by
    cases h : f x with
    | true => rw [List.find?_cons_of_pos h, List.filter_cons_of_pos h]; rfl
    | false => rw [List.find?_cons_of_neg (by simp [h]), List.filter_cons_of_neg (by simp [h])]; exact filter_find
theorem perL_eq (cs : List Int) : perL cs = ((divL cs.length).filter (pB cs))[0]? := by
  unfold perL
  rw [filter_find]
  congr 1
  refine List.filter_congr fun p m => ?_
  obtain ⟨p0, p1, p2⟩ := divL_mem m
  exact (pB_per p0 p1 p2).symm
theorem perL_some {cs : List Int} (h : 0 < cs.length) : ∃ p, perL cs = some p ∧ 0 < p ∧ p ≤ cs.length := by
  cases e : perL cs with
  | none =>
    have := List.find?_eq_none.mp e cs.length (divL_of h (Nat.le_refl _) (Nat.mod_self _))
    rw [isPer_self h] at this
    exact absurd rfl this
  | some p =>
    obtain ⟨p0, p1, _⟩ := divL_mem (List.mem_of_find?_eq_some e)
    exact ⟨p, rfl, p0, p1⟩
end EV

/-! EvSq: shares: sums over lots are sums of binomials. -/
namespace EV
open PySem
/-- how often each size of a lot comes -/
def sizesL (ls : List Ld) : List Int := (List.range (ls.length + 1)).map fun (k : Nat) => ((cnts ls).count (k : Int) : Int)
theorem sizes_len (ls : List Ld) : (sizesL ls).length = ls.length + 1 := by simp [sizesL]
def shF (k : Nat) : Nat → List Int → List Int
  | _, [] => []
  | i, z :: zs => z * (binom i k : Nat) :: shF k (i + 1) zs
def gSh (k : Nat) : TTv → Option TV
  | .two (.int i) (.int h) => some (.int (h * (binom i.toNat k : Nat)))
  | _ => none
theorem gSh_map (k : Nat) : ∀ (zs : List Int) (i : Nat), (enumT i (zs.map .int)).filterMap (gSh k) = (shF k i zs).map .int
  | [], _ => rfl
  | z :: zs, i => by
    show (TTv.two (.int (i : Nat)) (.int z) :: enumT (i + 1) (zs.map .int)).filterMap (gSh k) = _
    rw [List.filterMap_cons, gSh_map k zs (i + 1)]
    rfl
def sharesL (ls : List Ld) : List Int := (List.range (ls.length + 1)).map fun k => (shF k 0 (sizesL ls)).sum
/-! ### sums -/
def sumR (w : Nat) (f : Nat → Int) : Int := ((List.range w).map f).sum
theorem sumR_succ (w : Nat) (f : Nat → Int) : sumR (w + 1) f = sumR w f + f w := by
  unfold sumR
  rw [List.range_succ, List.map_append, List.sum_append]
  simp
theorem sumR_congr {f g : Nat → Int} : ∀ {w : Nat}, (∀ x, x < w → f x = g x) → sumR w f = sumR w g
  | 0, _ => rfl
  | w + 1, h => by
    rw [sumR_succ, sumR_succ, sumR_congr fun x hx => h x (by omega), h w (by omega)]
theorem sumR_add (f g : Nat → Int) : ∀ w : Nat, sumR w (fun x => f x + g x) = sumR w f + sumR w g
  | 0 => rfl
  | w + 1 => by
    rw [sumR_succ, sumR_succ, sumR_succ, sumR_add f g w]
    omega
theorem sumR_zero : ∀ w : Nat, sumR w (fun _ => 0) = 0
  | 0 => rfl
  | w + 1 => by rw [sumR_succ, sumR_zero w]; rfl
theorem sumR_mul (f : Nat → Int) (a : Int) : ∀ w : Nat, sumR w (fun x => f x * a) = sumR w f * a
  | 0 => by show (0 : Int) = 0 * a; omega
  | w + 1 => by rw [sumR_succ, sumR_succ, sumR_mul f a w, Int.add_mul]
theorem sumR_swap (f : Nat → Nat → Int) (w : Nat) : ∀ n : Nat, sumR n (fun k => sumR w fun x => f k x) = sumR w fun x => sumR n fun k => f k x
  | 0 => (sumR_zero w).symm
  | n + 1 => by
    rw [sumR_succ, sumR_swap f w n, ← sumR_add]
    exact sumR_congr fun x _ => (sumR_succ n _).symm
theorem sumR_one {f : Nat → Int} {z : Nat} : ∀ {w : Nat}, z < w → sumR w (fun x => if z = x then f x else 0) = f z
  | w + 1, h => by
    rw [sumR_succ]
    by_cases e : z = w
    · subst e
      rw [if_pos rfl, sumR_congr (g := fun _ => 0) fun x hx => if_neg (by omega), sumR_zero]
      omega
    · rw [if_neg e, sumR_one (by omega)]
      omega
/-! ### lots -/
def shareV (w : Nat) (lot : List Ld) : Nat := ((List.range w).filter fun (x : Nat) => lot.all fun l => decide (hasP l (x : Int))).length
def lotsStep (lots : List (List Ld)) (l : Ld) : List (List Ld) := lots ++ lots.map fun lot => lot ++ [l]
def nLots (P : Ld → Bool) (k : Nat) (lots : List (List Ld)) : Nat := lots.countP fun lot => decide (lot.length = k) && lot.all P
theorem nLots_app (P : Ld → Bool) (l : Ld) (k : Nat) (lots : List (List Ld)) : nLots P (k + 1) (lots.map fun lot => lot ++ [l]) = if P l then nLots P k lots else 0 := by
  unfold nLots
  induction lots with
  | nil => split <;> rfl
  | cons lot lots ih =>
    rw [List.map_cons, List.countP_cons, List.countP_cons, ih]
    have e : (decide ((lot ++ [l]).length = k + 1) && (lot ++ [l]).all P) = ((decide (lot.length = k) && lot.all P) && P l) := by
      rw [List.length_append, List.all_append]
      simp [Bool.and_assoc]
    rw [e]
    cases P l with
    | true => rw [Bool.and_true]; rfl
    | false => rw [Bool.and_false]; rfl
theorem nLots_app0 (P : Ld → Bool) (l : Ld) (lots : List (List Ld)) : nLots P 0 (lots.map fun lot => lot ++ [l]) = 0 := by
  unfold nLots
  rw [List.countP_eq_zero]
  intro lot m
  obtain ⟨x, _, rfl⟩ := List.mem_map.mp m
  simp
theorem lots_binom (P : Ld → Bool) : ∀ (ls : List Ld) (lots : List (List Ld)) (j : Nat), (∀ k, nLots P k lots = binom j k) → ∀ k, nLots P k (ls.foldl lotsStep lots) = binom (j + ls.countP P) k
  | [], lots, j, h, k => h k
  | l :: ls, lots, j, h, k => by
    rw [List.foldl_cons, List.countP_cons]
    have step : ∀ k, nLots P k (lotsStep lots l) = binom (j + if P l then 1 else 0) k := fun k => by
      have ea : nLots P k (lotsStep lots l) = nLots P k lots + nLots P k (lots.map fun lot => lot ++ [l]) := by
        unfold nLots lotsStep
        rw [List.countP_append]
      rw [ea, h k]
      cases k with
      | zero => rw [nLots_app0, binom_zero, binom_zero]
      | succ k =>
        rw [nLots_app, h k]
        cases P l with
        | true =>
          show binom j (k + 1) + binom j k = binom j k + binom j (k + 1)
          omega
        | false => rfl
    rw [lots_binom P ls _ _ step k]
    congr 1
    omega
def lotsL (ls : List Ld) : List (List Ld) := ls.foldl lotsStep [[]]
theorem lotsL_binom (P : Ld → Bool) (ls : List Ld) (k : Nat) : nLots P k (lotsL ls) = binom (ls.countP P) k := by
  have := lots_binom P ls [[]] 0 (fun k => by
    cases k with
    | zero => rfl
    | succ k => rfl) k
  rw [Nat.zero_add] at this
  exact this
def sumS (w k : Nat) (lots : List (List Ld)) : Int := ((lots.filter fun lot => decide (lot.length = k)).map fun lot => (shareV w lot : Int)).sum
theorem shareV_sum (w : Nat) (lot : List Ld) : (shareV w lot : Int) = sumR w fun x => if (lot.all fun l => decide (hasP l (x : Int))) then 1 else 0 := by
  unfold shareV sumR
  generalize List.range w = r
  induction r with
  | nil => rfl
  | cons x r ih =>
    rw [List.map_cons, List.sum_cons, ← ih]
    cases h : lot.all fun l => decide (hasP l (x : Int)) with
    | true =>
      rw [List.filter_cons_of_pos (p := fun (x : Nat) => lot.all fun l => decide (hasP l (x : Int))) h, List.length_cons, if_pos rfl]
      omega
    | false =>
      rw [List.filter_cons_of_neg (p := fun (x : Nat) => lot.all fun l => decide (hasP l (x : Int))) (by rw [h]; simp), if_neg (by simp)]
      omega
theorem sumS_lots (w k : Nat) (lots : List (List Ld)) : sumS w k lots = sumR w fun x => (nLots (fun l => decide (hasP l (x : Int))) k lots : Int) := by
  unfold sumS nLots
  induction lots with
  | nil => exact (sumR_zero w).symm
  | cons lot lots ih =>
    have e : ∀ x : Nat, ((List.countP (fun lot => decide (lot.length = k) && lot.all fun l => decide (hasP l (x : Int))) (lot :: lots) : Nat) : Int) = ((List.countP (fun lot => decide (lot.length = k) && lot.all fun l => decide (hasP l (x : Int))) lots : Nat) : Int) + if (decide (lot.length = k) && lot.all fun l => decide (hasP l (x : Int))) then 1 else 0 := fun x => by
      rw [List.countP_cons]
      split <;> simp
    rw [sumR_congr fun x _ => e x, sumR_add, ← ih]
    by_cases z : lot.length = k
    · rw [List.filter_cons_of_pos (by simpa using z), List.map_cons, List.sum_cons, shareV_sum]
      have : decide (lot.length = k) = true := decide_eq_true z
      simp only [this, Bool.true_and]
      omega
    · rw [List.filter_cons_of_neg (by simpa using z)]
      have : decide (lot.length = k) = false := decide_eq_false z
      simp only [this, Bool.false_and, Bool.false_eq_true, if_false]
      rw [sumR_zero]
      omega
theorem sumS_binom (w k : Nat) (ls : List Ld) : sumS w k (lotsL ls) = sumR w fun x => (binom (hcount ls x) k : Nat) := by
  rw [sumS_lots]
  refine sumR_congr fun x _ => ?_
  rw [lotsL_binom, List.countP_eq_length_filter]
  rfl
/-! ### regrouping -/
theorem shF_range (k : Nat) (f : Nat → Int) : ∀ n a : Nat, shF k a ((List.range' a n).map f) = (List.range' a n).map fun i => f i * (binom i k : Nat)
  | 0, _ => rfl
  | n + 1, a => by
    rw [List.range'_succ, List.map_cons, List.map_cons]
    show f a * (binom a k : Nat) :: shF k (a + 1) ((List.range' (a + 1) n).map f) = _
    rw [shF_range k f n (a + 1)]
theorem regroup (g : Nat → Int) (N : Nat) : ∀ cs : List Nat, (∀ z ∈ cs, z < N) → sumR N (fun i => ((cs.map fun (z : Nat) => (z : Int)).count (i : Int) : Int) * g i) = (cs.map g).sum
  | [], _ => by
    rw [sumR_congr (g := fun _ => 0) fun x _ => by simp, sumR_zero]
    rfl
  | z :: cs, h => by
    have ih := regroup g N cs fun y m => h y (List.mem_cons_of_mem _ m)
    have hz := h z List.mem_cons_self
    rw [List.map_cons (f := g), List.sum_cons, ← ih, ← sumR_one (f := g) hz, Int.add_comm, ← sumR_add]
    refine sumR_congr fun x _ => ?_
    rw [List.map_cons, List.count_cons]
    by_cases e : z = x
    · subst e
      simp [Int.add_mul]
    · have : ¬ ((z : Int) == (x : Int)) = true := by simpa using fun y => e (by omega)
      rw [if_neg e, if_neg this]
      simp
theorem hcount_le (ls : List Ld) (x : Int) : hcount ls x ≤ ls.length := List.length_filter_le _ _
theorem shares_eq (ls : List Ld) (k : Nat) : (shF k 0 (sizesL ls)).sum = sumR (rnd ls).toNat fun x => (binom (hcount ls x) k : Nat) := by
  unfold sizesL
  rw [List.range_eq_range', shF_range, ← List.range_eq_range']
  have e : cnts ls = ((List.range (rnd ls).toNat).map fun (x : Nat) => hcount ls (x : Int)).map fun (z : Nat) => (z : Int) := by
    unfold cnts
    rw [List.map_map]
    rfl
  have := regroup (fun i => (binom i k : Nat)) (ls.length + 1) ((List.range (rnd ls).toNat).map fun (x : Nat) => hcount ls (x : Int)) fun z m => by
    obtain ⟨x, _, rfl⟩ := List.mem_map.mp m
    have := hcount_le ls x
    omega
  rw [← e] at this
  rw [List.map_map] at this
  exact this
/-! ### in turn -/
def sgn (k : Nat) : Int := 1 - 2 * ((k : Int).fmod 2)
theorem sgn_succ (k : Nat) : sgn (k + 1) = - sgn k := by
  unfold sgn
  rw [Int.fmod_eq_emod_of_nonneg _ (by omega), Int.fmod_eq_emod_of_nonneg _ (by omega)]
  omega
theorem alt_part (i : Nat) : ∀ n : Nat, sumR (n + 1) (fun k => ((binom (i + 1) k : Nat) : Int) * sgn k) = ((binom i n : Nat) : Int) * sgn n
  | 0 => by
    rw [sumR_succ, binom_zero, binom_zero]
    show (0 : Int) + _ = _
    omega
  | n + 1 => by
    rw [sumR_succ, alt_part i n, sgn_succ]
    show _ + ((binom i n + binom i (n + 1) : Nat) : Int) * _ = _
    rw [Int.natCast_add, Int.add_mul, Int.mul_neg, Int.mul_neg]
    omega
theorem alt_binom {i n : Nat} (h : i ≤ n) : sumR (n + 1) (fun k => ((binom i k : Nat) : Int) * sgn k) = if i = 0 then 1 else 0 := by
  cases i with
  | zero =>
    rw [if_pos rfl]
    have := sumR_one (f := fun k => sgn k) (z := 0) (w := n + 1) (by omega)
    rw [show (1 : Int) = sgn 0 from rfl, ← this]
    refine sumR_congr fun x _ => ?_
    cases x with
    | zero => rfl
    | succ x =>
      rw [if_neg (by omega)]
      show ((0 : Nat) : Int) * _ = 0
      simp
  | succ i =>
    rw [if_neg (by omega), alt_part, binom_big (by omega)]
    simp
theorem count_sum (w : Nat) (f : Nat → Nat) : (((List.range w).map fun (x : Nat) => (f x : Int)).count 0 : Int) = sumR w fun x => if f x = 0 then 1 else 0 := by
  unfold sumR
  generalize List.range w = r
  induction r with
  | nil => rfl
  | cons x r ih =>
    rw [List.map_cons, List.count_cons, List.map_cons, List.sum_cons, ← ih]
    by_cases z : f x = 0
    · simp [z]
      omega
    · have : ¬ ((f x : Int) == 0) = true := by simpa using fun y => z (by omega)
      rw [if_neg this, if_neg z]
      simp
/-- the noughts by shares in turn -/
theorem noughts (ls : List Ld) : sumR (ls.length + 1) (fun k => (shF k 0 (sizesL ls)).sum * sgn k) = ((cnts ls).count 0 : Int) := by
  have e1 : cnts ls = (List.range (rnd ls).toNat).map fun (x : Nat) => ((fun y : Nat => hcount ls (y : Int)) x : Int) := rfl
  rw [e1, count_sum]
  rw [sumR_congr (g := fun k => sumR (rnd ls).toNat fun x => ((binom (hcount ls x) k : Nat) : Int) * sgn k) fun k _ => by rw [shares_eq, ← sumR_mul]]
  rw [sumR_swap]
  exact sumR_congr fun x _ => alt_binom (hcount_le ls x)
end EV

/-! EvSr: turns of the law on periods. -/
namespace EV
open PySem
theorem csAt_map {cs : List Int} {j : Int} (h0 : -(cs.length : Int) ≤ j) (h1 : j < cs.length) : L2.atI (cs.map TV.int) j = some (.int (csAt cs j)) := by
  by_cases z : j < 0
  · have hk : ((j + cs.length).toNat : Int) = j + cs.length := by omega
    have hl : (j + cs.length).toNat < cs.length := by omega
    rw [csAt_neg z hk hl, atI_neg (cs := cs.map TV.int) (k := (j + cs.length).toNat) z (by rw [List.length_map]; omega) (by rw [List.length_map]; omega), List.getElem_map]
  · obtain ⟨k, rfl⟩ : ∃ k : Nat, j = k := ⟨j.toNat, by omega⟩
    have hl : k < cs.length := by omega
    rw [csAt_nat hl]
    exact atI_of (List.getElem?_eq_getElem hl)
def wPer (cs : List Int) (p : Nat) : TTv → Bool
  | .one (.int i) => decide (csAt cs i = csAt cs (i - (p : Int)))
  | _ => false
theorem wPer_all (cs : List Int) (p : Nat) : ((rangeTT 0 cs.length).map (wPer cs p)).all id = pB cs p := by
  unfold pB
  rw [rangeTT_map, List.map_map, List.all_map]
  refine congrArg (fun f => (List.range cs.length).all f) (funext fun k => ?_)
  show decide (csAt cs (0 + (k : Nat)) = csAt cs (0 + (k : Nat) - (p : Int))) = _
  rw [Int.zero_add]
def gPer (cs : List Int) : TTv → Option TV
  | .one (.int x) => if (cs.length : Int).fmod x = 0 ∧ pB cs x.toNat = true then some (.int x) else none
  | _ => none
theorem gPer_map (cs : List Int) : (rangeTT 1 cs.length).filterMap (gPer cs) = (((divL cs.length).filter (pB cs)).map fun (p : Nat) => (p : Int)).map .int := by
  rw [rangeTT_map, List.filterMap_map]
  unfold divL
  generalize List.range cs.length = r
  induction r with
  | nil => rfl
  | cons k r ih =>
    have h : ((cs.length : Int).fmod (1 + (k : Nat)) = 0) ↔ cs.length % (k + 1) = 0 := by
      have e : (1 + (k : Nat) : Int) = ((k + 1 : Nat) : Int) := by omega
      rw [Int.fmod_eq_emod_of_nonneg _ (by omega), e, ← Int.natCast_emod]
      omega
    rw [List.filterMap_cons, List.map_cons]
    have ek : (1 + (k : Nat) : Int).toNat = k + 1 := by omega
    have e : (gPer cs ∘ fun (k : Nat) => TTv.one (.int (1 + (k : Nat)))) k = if (cs.length : Int).fmod (1 + (k : Nat)) = 0 ∧ pB cs (1 + (k : Nat) : Int).toNat = true then some (.int (1 + (k : Nat))) else none := rfl
    rw [e, ek]
    by_cases z : cs.length % (k + 1) = 0
    · rw [List.filter_cons_of_pos (p := fun p => decide (cs.length % p = 0)) (by simpa using z)]
      cases hb : pB cs (k + 1) with
      | true =>
        rw [if_pos ⟨h.mpr z, rfl⟩, List.filter_cons_of_pos hb, List.map_cons, List.map_cons, ← ih]
        have : (1 + (k : Nat) : Int) = ((k + 1 : Nat) : Int) := by omega
        rw [this]
      | false =>
        rw [if_neg fun y => by simp at y, List.filter_cons_of_neg (by rw [hb]; simp), ← ih]
    · rw [if_neg fun y => z (h.mp y.1), List.filter_cons_of_neg (p := fun p => decide (cs.length % p = 0)) (by simpa using z), ← ih]
def gEq (s : Int) : TTv → Option TV
  | .one (.int z) => if z = s then some (.int z) else none
  | _ => none
theorem gEq_len (s : Int) : ∀ cs : List Int, (((cs.map TV.int).map TTv.one).filterMap (gEq s)).length = cs.count s
  | [] => rfl
  | z :: cs => by
    rw [List.map_cons, List.map_cons, List.filterMap_cons, List.count_cons, ← gEq_len s cs]
    have e : gEq s (.one (.int z)) = if z = s then some (.int z) else none := rfl
    rw [e]
    by_cases y : z = s
    · rw [if_pos y, if_pos (by simpa using y)]
      rfl
    · rw [if_neg y, if_neg (by simpa using y)]
      rfl
end EV

/-! EvSs: comprehensions over lists of any kind. -/
namespace EV
open PySem
theorem comp_acc {α β : Type} {own : List Nat} {tg : Tg} {cv : TX → KT → Prop} {ev : TX → KE → Prop} {Q : List TV → Nat → TX → Prop} {E : TEn} {c : Option Nat} (ea : α → TTv) (eb : β → TV) (g : α → Option β) : ∀ (xs : List α) (x : TX) (acc : List TV) (d : Nat),
    (∀ a ∈ xs, ∀ K : Option TD → TX → Prop, (∀ b d e, g a = some b → wipeT e own = E → K (some (eb b, d)) ⟨e, c⟩) → (∀ e, g a = none → wipeT e own = E → K none ⟨e, c⟩) → wBind tg (ea a) E fun e2 => cv ⟨e2, c⟩ fun b x3 => br b (ev x3 fun v x4 => K (some v) x4) (K none x3)) →
    acc.length + xs.length ≤ sizeLine → wipeT x.e own = E → x.c = c → (∀ d e, wipeT e own = E → Q (acc ++ (xs.filterMap g).map eb) d ⟨e, c⟩) → wComp (turnTA tg own cv ev) Q (xs.map ea) x acc d
  | [], x, acc, d, h, hl, hx, hc, q => by
    have := q d x.e hx
    rw [List.filterMap_nil, List.map_nil, List.append_nil, ← hc] at this
    exact this
  | t :: ts, x, acc, d, h, hl, hx, hc, q => by
    have key : ∀ K : Option TD → TX → Prop, (∀ b d e, g t = some b → wipeT e own = E → K (some (eb b, d)) ⟨e, c⟩) → (∀ e, g t = none → wipeT e own = E → K none ⟨e, c⟩) → turnTA tg own cv ev (ea t) x K := fun K h1 h2 => by
      unfold turnTA
      rw [hx, hc]
      exact h t List.mem_cons_self K h1 h2
    show turnTA tg own cv ev (ea t) x _
    refine key _ (fun b d' e hg he => ?_) fun e hg he => ?_
    · refine ⟨by simp at hl; omega, comp_acc ea eb g ts ⟨e, c⟩ (acc ++ [eb b]) _ (fun t m => h t (List.mem_cons_of_mem _ m)) (by simp at hl ⊢; omega) he rfl fun d e he => ?_⟩
      have := q d e he
      rw [List.filterMap_cons, hg] at this
      rw [List.append_assoc]
      exact this
    · refine comp_acc ea eb g ts ⟨e, c⟩ acc d (fun t m => h t (List.mem_cons_of_mem _ m)) (by simp at hl; omega) he rfl fun d e he => ?_
      have := q d e he
      rw [List.filterMap_cons, hg] at this
      exact this
/-- [elt for .. in xs if ..]: of a the item g a, or none -/
theorem comp_fil {α β : Type} {own : List Nat} {tg : Tg} {cv : TX → KT → Prop} {ev : TX → KE → Prop} {Q : List TV → Nat → TX → Prop} {E : TEn} {c : Option Nat} {x : TX} {ts : List TTv} {d : Nat} (ea : α → TTv) (eb : β → TV) (g : α → Option β) (xs : List α) (ht : ts = xs.map ea)
    (h : ∀ a ∈ xs, ∀ K : Option TD → TX → Prop, (∀ b d e, g a = some b → wipeT e own = E → K (some (eb b, d)) ⟨e, c⟩) → (∀ e, g a = none → wipeT e own = E → K none ⟨e, c⟩) → wBind tg (ea a) E fun e2 => cv ⟨e2, c⟩ fun b x3 => br b (ev x3 fun v x4 => K (some v) x4) (K none x3))
    (hl : xs.length ≤ sizeLine) (hx : wipeT x.e own = E) (hc : x.c = c) (q : ∀ d e, wipeT e own = E → Q ((xs.filterMap g).map eb) d ⟨e, c⟩) : wComp (turnTA tg own cv ev) Q ts x [] d := by
  rw [ht]
  exact comp_acc ea eb g xs x [] d h (by simpa using hl) hx hc q
/-- [elt for .. in xs if p] -/
theorem comp_if {α β : Type} {own : List Nat} {tg : Tg} {cv : TX → KT → Prop} {ev : TX → KE → Prop} {Q : List TV → Nat → TX → Prop} {E : TEn} {c : Option Nat} {x : TX} {ts : List TTv} {d : Nat} (ea : α → TTv) (eb : β → TV) (p : α → Bool) (g : α → β) (xs : List α) (ht : ts = xs.map ea)
    (h : ∀ a ∈ xs, ∀ K : Option TD → TX → Prop, (∀ d e, p a = true → wipeT e own = E → K (some (eb (g a), d)) ⟨e, c⟩) → (∀ e, p a = false → wipeT e own = E → K none ⟨e, c⟩) → wBind tg (ea a) E fun e2 => cv ⟨e2, c⟩ fun b x3 => br b (ev x3 fun v x4 => K (some v) x4) (K none x3))
    (hl : xs.length ≤ sizeLine) (hx : wipeT x.e own = E) (hc : x.c = c) (q : ∀ d e, wipeT e own = E → Q (((xs.filter p).map g).map eb) d ⟨e, c⟩) : wComp (turnTA tg own cv ev) Q ts x [] d := by
  refine comp_fil (E := E) (c := c) ea eb (fun a => if p a then some (g a) else none) xs ht (fun a m K k1 k0 => ?_) hl hx hc fun d e he => ?_
  · refine h a m K (fun d e hp he => ?_) fun e hp he => k0 e (by simp only [hp]; rfl) he
    exact k1 (g a) d e (by simp only [hp, if_true]) he
  · have e1 : xs.filterMap (fun a => if p a then some (g a) else none) = (xs.filter p).map g := by
      clear ht h hl q
      induction xs with
      | nil => rfl
      | cons a xs ih =>
        rw [List.filterMap_cons]
        cases hp : p a with
        | true => simp only [if_true]; rw [List.filter_cons_of_pos hp, List.map_cons, ih]
        | false => rw [List.filter_cons_of_neg (by simp [hp])]; simpa using ih
    rw [e1]
    exact q d e he
/-- [elt for .. in xs] -/
theorem comp_all {α β : Type} {own : List Nat} {tg : Tg} {cv : TX → KT → Prop} {ev : TX → KE → Prop} {Q : List TV → Nat → TX → Prop} {E : TEn} {c : Option Nat} {x : TX} {ts : List TTv} {d : Nat} (ea : α → TTv) (eb : β → TV) (g : α → β) (xs : List α) (ht : ts = xs.map ea)
    (h : ∀ a ∈ xs, ∀ K : Option TD → TX → Prop, (∀ d e, wipeT e own = E → K (some (eb (g a), d)) ⟨e, c⟩) → wBind tg (ea a) E fun e2 => cv ⟨e2, c⟩ fun b x3 => br b (ev x3 fun v x4 => K (some v) x4) (K none x3))
    (hl : xs.length ≤ sizeLine) (hx : wipeT x.e own = E) (hc : x.c = c) (q : ∀ d e, wipeT e own = E → Q ((xs.map g).map eb) d ⟨e, c⟩) : wComp (turnTA tg own cv ev) Q ts x [] d := by
  refine comp_fil (E := E) (c := c) ea eb (fun a => some (g a)) xs ht (fun a m K k1 k0 => ?_) hl hx hc fun d e he => ?_
  · exact h a m K fun d e he => k1 (g a) d e rfl he
  · rw [show xs.filterMap (fun a => some (g a)) = xs.map g from congrFun List.filterMap_eq_map' xs]
    exact q d e he
theorem bls_tv : ∀ bs : List Bool, blsT (bs.map TV.bl) = some bs
  | [] => rfl
  | b :: bs => by
    show (match blsT (bs.map TV.bl) with
      | some is => some (b :: is)
      | none => none) = _
    rw [bls_tv bs]
theorem ints_tv : ∀ bs : List Int, intsT (bs.map TV.int) = some bs
  | [] => rfl
  | b :: bs => by
    show (match intsT (bs.map TV.int) with
      | some is => some (b :: is)
      | none => none) = _
    rw [ints_tv bs]
theorem range0 (n : Nat) : rangeTT 0 n = (List.range n).map fun (k : Nat) => TTv.one (.int (k : Nat)) := by
  rw [rangeTT_map]
  refine List.map_congr_left fun k _ => ?_
  rw [Int.zero_add]
/-- of a typed list -/
theorem ones_map {α : Type} (f : α → TV) (xs : List α) : (xs.map f).map TTv.one = xs.map fun a => .one (f a) := by rw [List.map_map]; rfl
/-- Pl, decided -/
def plB : Nat → TV → Bool
  | _, .non => true
  | _, .bl _ => true
  | _, .int _ => true
  | _, .str x => SeqAt.shaped (.str x)
  | n + 1, .lst xs => decide (xs.length ≤ sizeLine) && xs.all (plB n)
  | n + 1, .tup xs => decide (xs.length ≤ sizeLine) && xs.all (plB n)
  | _, _ => false
theorem pl_of : ∀ {n : Nat} {t : TV}, plB n t = true → Pl n t
  | _, .non, _ => .non
  | _, .bl _, _ => .bl
  | _, .int _, _ => .int
  | 0, .str x, h => .str (by unfold plB at h; exact h)
  | n + 1, .str x, h => .str (by unfold plB at h; exact h)
  | n + 1, .lst xs, h => by
    unfold plB at h
    rw [Bool.and_eq_true, List.all_eq_true] at h
    exact .lst (of_decide_eq_true h.1) fun x hx => pl_of (h.2 x hx)
  | n + 1, .tup xs, h => by
    unfold plB at h
    rw [Bool.and_eq_true, List.all_eq_true] at h
    exact .tup (of_decide_eq_true h.1) fun x hx => pl_of (h.2 x hx)
  | 0, .lst xs, h => by unfold plB at h; cases h
  | 0, .tup xs, h => by unfold plB at h; cases h
  | 0, .ty _, h => by unfold plB at h; cases h
  | n + 1, .ty _, h => by unfold plB at h; cases h
  | 0, .stm, h => by unfold plB at h; cases h
  | n + 1, .stm, h => by unfold plB at h; cases h
  | 0, .scr, h => by unfold plB at h; cases h
  | n + 1, .scr, h => by unfold plB at h; cases h
  | 0, .unset, h => by unfold plB at h; cases h
  | n + 1, .unset, h => by unfold plB at h; cases h
  | 0, .som _, h => by unfold plB at h; cases h
  | n + 1, .som _, h => by unfold plB at h; cases h
  | 0, .fn _ _ _, h => by unfold plB at h; cases h
  | n + 1, .fn _ _ _, h => by unfold plB at h; cases h
theorem cut_mid {xs : List TV} {i j : Nat} : cutT xs (some (i : Int)) (some (j : Int)) = (xs.drop (min i xs.length)).take (min j xs.length - min i xs.length) := by
  unfold cutT
  rw [HT.sIx_nat, HT.sIx_nat]
end EV

/-! EvSt: comprehensions with a least depth; of two clauses; tests over lists. -/
namespace EV
open PySem
/-- a comprehension; the items are at least D deep their own -/
theorem comp_accD {α β : Type} {own : List Nat} {tg : Tg} {cv : TX → KT → Prop} {ev : TX → KE → Prop} {Q : List TV → Nat → TX → Prop} {E : TEn} {c : Option Nat} (D : Nat) (ea : α → TTv) (eb : β → TV) (g : α → Option β) : ∀ (xs : List α) (x : TX) (acc : List TV) (d : Nat), D ≤ d →
    (∀ a ∈ xs, ∀ K : Option TD → TX → Prop, (∀ b d e, g a = some b → D ≤ d → wipeT e own = E → K (some (eb b, d)) ⟨e, c⟩) → (∀ e, g a = none → wipeT e own = E → K none ⟨e, c⟩) → wBind tg (ea a) E fun e2 => cv ⟨e2, c⟩ fun b x3 => br b (ev x3 fun v x4 => K (some v) x4) (K none x3)) →
    acc.length + (xs.filterMap g).length ≤ sizeLine → wipeT x.e own = E → x.c = c → (∀ d e, D ≤ d → wipeT e own = E → Q (acc ++ (xs.filterMap g).map eb) d ⟨e, c⟩) → wComp (turnTA tg own cv ev) Q (xs.map ea) x acc d
  | [], x, acc, d, hd, h, hl, hx, hc, q => by
    have := q d x.e hd hx
    rw [List.filterMap_nil, List.map_nil, List.append_nil, ← hc] at this
    exact this
  | t :: ts, x, acc, d, hd, h, hl, hx, hc, q => by
    have key : ∀ K : Option TD → TX → Prop, (∀ b d e, g t = some b → D ≤ d → wipeT e own = E → K (some (eb b, d)) ⟨e, c⟩) → (∀ e, g t = none → wipeT e own = E → K none ⟨e, c⟩) → turnTA tg own cv ev (ea t) x K := fun K h1 h2 => by
      unfold turnTA
      rw [hx, hc]
      exact h t List.mem_cons_self K h1 h2
    show turnTA tg own cv ev (ea t) x _
    refine key _ (fun b d' e hg hd' he => ?_) fun e hg he => ?_
    · rw [List.filterMap_cons, hg] at hl
      refine ⟨by simp at hl; omega, comp_accD D ea eb g ts ⟨e, c⟩ (acc ++ [eb b]) _ (by show D ≤ min d d'; omega) (fun t m => h t (List.mem_cons_of_mem _ m)) (by simp at hl ⊢; omega) he rfl fun d e hd he => ?_⟩
      have := q d e hd he
      rw [List.filterMap_cons, hg] at this
      rw [List.append_assoc]
      exact this
    · rw [List.filterMap_cons, hg] at hl
      refine comp_accD D ea eb g ts ⟨e, c⟩ acc d hd (fun t m => h t (List.mem_cons_of_mem _ m)) hl he rfl fun d e hd he => ?_
      have := q d e hd he
      rw [List.filterMap_cons, hg] at this
      exact this
theorem filt_if {α β : Type} (p : α → Bool) (g : α → β) (xs : List α) : xs.filterMap (fun a => if p a then some (g a) else none) = (xs.filter p).map g := by
  induction xs with
  | nil => rfl
  | cons a xs ih =>
    rw [List.filterMap_cons]
    cases hp : p a with
    | true => simp only [if_true]; rw [List.filter_cons_of_pos hp, List.map_cons, ih]
    | false => rw [List.filter_cons_of_neg (by simp [hp])]; simpa using ih
/-- the inner one of two clauses, or one alone: [g .. for .. in xs if p ..] behind acc -/
theorem comp_ifD {α β : Type} {own : List Nat} {tg : Tg} {cv : TX → KT → Prop} {ev : TX → KE → Prop} {Q : List TV → Nat → TX → Prop} {E : TEn} {c : Option Nat} {x : TX} {ts : List TTv} {acc : List TV} {d : Nat} (D : Nat) (ea : α → TTv) (eb : β → TV) (p : α → Bool) (g : α → β) (xs : List α) (ht : ts = xs.map ea) (hd : D ≤ d)
    (h : ∀ a ∈ xs, ∀ K : Option TD → TX → Prop, (∀ d e, p a = true → D ≤ d → wipeT e own = E → K (some (eb (g a), d)) ⟨e, c⟩) → (∀ e, p a = false → wipeT e own = E → K none ⟨e, c⟩) → wBind tg (ea a) E fun e2 => cv ⟨e2, c⟩ fun b x3 => br b (ev x3 fun v x4 => K (some v) x4) (K none x3))
    (hl : acc.length + (xs.filter p).length ≤ sizeLine) (hx : wipeT x.e own = E) (hc : x.c = c) (q : ∀ d e, D ≤ d → wipeT e own = E → Q (acc ++ ((xs.filter p).map g).map eb) d ⟨e, c⟩) : wComp (turnTA tg own cv ev) Q ts x acc d := by
  rw [ht]
  refine comp_accD (E := E) (c := c) D ea eb (fun a => if p a then some (g a) else none) xs x acc d hd (fun a m K k1 k0 => ?_) (by rw [filt_if, List.length_map]; exact hl) hx hc fun d e hd he => ?_
  · refine h a m K (fun d e hp hd he => ?_) fun e hp he => k0 e (by simp only [hp]; rfl) he
    exact k1 (g a) d e (by simp only [hp, if_true]) hd he
  · rw [filt_if]
    exact q d e hd he
/-- two clauses: of a the items g a -/
theorem comp2_acc {α γ : Type} {own own1 : List Nat} {tgt tgt1 : Tg} {cv cv1 : TX → KT → Prop} {sk1 : Sk} {evs1 : TX → (List TD → TX → Prop) → Prop} {ev : TX → KE → Prop} {Q : List TV → Nat → TX → Prop} {E : TEn} {c : Option Nat} (D : Nat) (ea : α → TTv) (ec : γ → TV) (g : α → List γ) : ∀ (xs : List α) (x : TX) (acc : List TV) (d : Nat), D ≤ d →
    (∀ a ∈ xs, ∀ (acc : List TV) (d : Nat) (K : List TV → Nat → TX → Prop), D ≤ d → acc.length + (g a).length ≤ sizeLine → (∀ d e, D ≤ d → wipeT e own = E → K (acc ++ (g a).map ec) d ⟨e, c⟩) → wBind tgt (ea a) E fun e2 => cv ⟨e2, c⟩ fun b x3 => br b (evs1 x3 fun ys x4 => wSrc sk1 (ys.map (·.1)) fun ts => wComp (turnTA tgt1 own1 cv1 ev) K ts x4 acc d) (K acc d x3)) →
    acc.length + (xs.flatMap g).length ≤ sizeLine → wipeT x.e own = E → x.c = c → (∀ d e, D ≤ d → wipeT e own = E → Q (acc ++ (xs.flatMap g).map ec) d ⟨e, c⟩) → wComp2 (turnTB tgt own own1 cv sk1 evs1 tgt1 cv1 ev) Q (xs.map ea) x acc d
  | [], x, acc, d, hd, h, hl, hx, hc, q => by
    have := q d x.e hd hx
    rw [List.flatMap_nil, List.map_nil, List.append_nil, ← hc] at this
    exact this
  | t :: ts, x, acc, d, hd, h, hl, hx, hc, q => by
    rw [List.flatMap_cons, List.length_append] at hl
    have key : ∀ K : List TV → Nat → TX → Prop, (∀ d e, D ≤ d → wipeT e own = E → K (acc ++ (g t).map ec) d ⟨e, c⟩) → turnTB tgt own own1 cv sk1 evs1 tgt1 cv1 ev (ea t) x acc d K := fun K h1 => by
      unfold turnTB
      rw [hx, hc]
      exact h t List.mem_cons_self acc d K hd (by omega) h1
    show turnTB tgt own own1 cv sk1 evs1 tgt1 cv1 ev (ea t) x acc d _
    refine key _ fun d' e hd' he => ?_
    refine comp2_acc D ea ec g ts ⟨e, c⟩ (acc ++ (g t).map ec) d' hd' (fun t m => h t (List.mem_cons_of_mem _ m)) (by rw [List.length_append, List.length_map]; omega) he rfl fun d e hd he => ?_
    have := q d e hd he
    rw [List.flatMap_cons, List.map_append] at this
    rw [List.append_assoc]
    exact this
theorem comp2_ty {α γ : Type} {own own1 : List Nat} {tgt tgt1 : Tg} {cv cv1 : TX → KT → Prop} {sk1 : Sk} {evs1 : TX → (List TD → TX → Prop) → Prop} {ev : TX → KE → Prop} {Q : List TV → Nat → TX → Prop} {E : TEn} {c : Option Nat} {x : TX} {ts : List TTv} {d : Nat} (D : Nat) (ea : α → TTv) (ec : γ → TV) (g : α → List γ) (xs : List α) (ht : ts = xs.map ea) (hd : D ≤ d)
    (h : ∀ a ∈ xs, ∀ (acc : List TV) (d : Nat) (K : List TV → Nat → TX → Prop), D ≤ d → acc.length + (g a).length ≤ sizeLine → (∀ d e, D ≤ d → wipeT e own = E → K (acc ++ (g a).map ec) d ⟨e, c⟩) → wBind tgt (ea a) E fun e2 => cv ⟨e2, c⟩ fun b x3 => br b (evs1 x3 fun ys x4 => wSrc sk1 (ys.map (·.1)) fun ts => wComp (turnTA tgt1 own1 cv1 ev) K ts x4 acc d) (K acc d x3))
    (hl : (xs.flatMap g).length ≤ sizeLine) (hx : wipeT x.e own = E) (hc : x.c = c) (q : ∀ d e, D ≤ d → wipeT e own = E → Q ((xs.flatMap g).map ec) d ⟨e, c⟩) : wComp2 (turnTB tgt own own1 cv sk1 evs1 tgt1 cv1 ev) Q ts x [] d := by
  rw [ht]
  exact comp2_acc D ea ec g xs x [] d hd h (by simpa using hl) hx hc q
theorem range_from (lo n : Nat) : rangeTT (lo : Int) n = (List.range n).map fun (k : Nat) => TTv.one (.int ((lo + k : Nat) : Int)) := by
  rw [rangeTT_map]
  exact List.map_congr_left fun k _ => by rw [Int.natCast_add]
theorem range_fromR (lo n : Nat) : rangeTT (lo : Int) n = (List.range n).map fun (k : Nat) => TTv.one (.int ((k + lo : Nat) : Int)) := by
  rw [range_from]
  exact List.map_congr_left fun k _ => by rw [Nat.add_comm]
theorem cut_take {xs : List TV} {k : Nat} : cutT xs none (some (k : Int)) = xs.take k := by
  unfold cutT
  rw [HT.sIx_nat]
  show (xs.drop 0).take (min k xs.length - 0) = _
  rw [List.drop_zero, Nat.sub_zero]
  by_cases h : k ≤ xs.length
  · rw [Nat.min_eq_left h]
  · rw [Nat.min_eq_right (by omega), List.take_of_length_le (Nat.le_refl _), List.take_of_length_le (by omega)]
theorem atI_last {α : Type} {pre : List α} {y : α} : L2.atI (pre ++ [y]) (-1) = some y := by
  rw [atI_neg (k := pre.length) (by omega) (by rw [List.length_append]; simp; omega) (by simp)]
  simp
/-! ### tests -/
theorem bls_lst : ∀ ls : List (List TV), blsT (ls.map TV.lst) = some (ls.map fun l => !l.isEmpty)
  | [] => rfl
  | a :: xs => by
    show (match blsT (xs.map TV.lst) with
      | some is => some ((!a.isEmpty) :: is)
      | none => none) = _
    rw [bls_lst xs]
    rfl
theorem eqv_nil (xs : List TV) : PyData.eqv (dT (.lst xs)) (dT (.lst [])) = xs.isEmpty := by
  cases xs <;> simp [dT, dTL, PyData.eqv, PyData.eqvAll]
theorem pl_nil : Pl 1 (.lst []) := .lst (by simp [sizeLine]) fun x hx => by cases hx
theorem dat_nil : datT (.lst []) (dT (.lst [])) := pl_datT pl_nil (by decide)
theorem eqT_int (a b : Int) : eqT (.int a) (.int b) = decide (a = b) := by
  simp only [eqT, dT, PyData.eqv]
  rfl
theorem in_dat (x : Int) {is : List Int} (hl : is.length ≤ sizeLine) : ∃ ds, datT (.lst (is.map .int)) (.list ds) ∧ datT (.int x) (.int x) ∧ (ds.any fun z => PyData.eqv z (.int x)) = decide (x ∈ is) := by
  have h2 := pl_datT (pl_ints hl) (by decide)
  have e : dT (.lst (is.map TV.int)) = .list ((is.map TV.int).map dT) := by simp only [dT, dTL_map]
  rw [e] at h2
  refine ⟨_, h2, pl_datT (m := 0) .int (by decide), ?_⟩
  rw [List.map_map, List.any_map, Bool.eq_iff_iff, List.any_eq_true, decide_eq_true_iff]
  constructor
  · rintro ⟨y, hy, e⟩
    have e : eqT (.int y) (.int x) = true := e
    rw [eqT_int, decide_eq_true_iff] at e
    rw [← e]
    exact hy
  · intro h
    exact ⟨x, h, by show eqT (.int x) (.int x) = true; rw [eqT_int]; exact decide_eq_true rfl⟩
/-- of lists: which of them are not empty -/
theorem bls_ne {α : Type} (f : α → List TV) : ∀ xs : List α, blsT (xs.map fun a => .lst (f a)) = some (xs.map fun a => !(f a).isEmpty)
  | [] => rfl
  | a :: xs => by
    show (match blsT (xs.map fun a => .lst (f a)) with
      | some is => some ((!(f a).isEmpty) :: is)
      | none => none) = _
    rw [bls_ne f xs]
    rfl
theorem sub_flatMap {α β : Type} {f g : α → List β} : ∀ {xs ys : List α}, xs.Sublist ys → (∀ a, (f a).Sublist (g a)) → (xs.flatMap f).Sublist (ys.flatMap g)
  | _, _, .slnil, _ => List.Sublist.refl _
  | _, _, .cons a s, h => by
    rw [List.flatMap_cons]
    exact (sub_flatMap s h).trans (List.sublist_append_right _ _)
  | _, _, .cons₂ a s, h => by
    rw [List.flatMap_cons, List.flatMap_cons]
    exact (h a).append (sub_flatMap s h)
end EV

/-! EvSu: told twice, the tellings may draw; comprehensions with a least depth, more forms; mixing. -/
namespace EV
open PySem
section
variable {T : List Fd} {mus : List (List Nat × Bool)} {pr : Nat → Option Pr} {W n k : Nat} {c : Option Nat} {Q : TD → Option Nat → Prop}
/-- told twice: each telling is the due, the stream's place told by R; over any calls -/
theorem twice2_wp {CT : CTs} {ks kc kp u W : Nat} {e : En} {te : List TV} {due : TV} {B : Nat → Option Nat → Prop} {Q : TD → Option Nat → Prop} {c : Option Nat}
    (h0 : B 0 c) (ha : ∀ i c (K : TD → Option Nat → Prop), i ≤ 2 → B i c → (∀ d c', hgt due ≤ d → B (i + 1) c' → K (due, d) c') → CT.app (u + 0) e te c K)
    (hb : ∀ c (K : TD → Option Nat → Prop), B 1 c → (∀ d c', hgt due ≤ d → B 2 c' → K (due, d) c') → CT.app (u + 1) e te c K)
    (hcop : ∀ c (K : TD → Option Nat → Prop), (∀ d, 9 ≤ d → K (due, d) c) → CT.call kc [due] c K)
    (hsame : ∀ c (K : TD → Option Nat → Prop), K (.bl true, 0) c → CT.call ks [due, due] c K)
    (hsame3 : ∀ c (K : TD → Option Nat → Prop), K (.bl true, 0) c → CT.call ks [.lst [spoilT due, due, due], .lst [spoilT due, due, due]] c K)
    (hsp : CT.spo kp due) (h9 : hgt due ≤ 9) (hr : room due) (q : ∀ c', B 3 c' → Q (.bl true, 0) c') :
    wSs CT W [3, 4] (bTwice ks kc kp) ⟨[some (due, 0), some (.fn (u + 0) e te, 0), some (.fn (u + 1) e te, 0), none, none], c⟩ (kst false Q) := by
  have s1 : ∀ (c : Option Nat) (d d2 : Nat), B 1 c → hgt due ≤ d → 9 ≤ d2 → wSs CT W [3, 4] (bTwice ks kc kp).tail ⟨[some (due, 0), some (.fn (u + 0) e te, 0), some (.fn (u + 1) e te, 0), some (due, d), some (due, d2)], c⟩ (kst false Q) := fun c d d2 hB hd1 hd2 => by
    have s2 : wSs CT W [3, 4] (bTwice ks kc kp).tail.tail ⟨[some (due, 0), some (.fn (u + 0) e te, 0), some (.fn (u + 1) e te, 0), some (due, d), some (due, d2)], c⟩ (kst false Q) := by
      refine ⟨⟨hsp, hd1, hr⟩, ?_⟩
      refine ⟨⟨hsp, by omega, hr⟩, ?_⟩
      show wEs CT [.lst [.var 3 .rd, .app 2, .app 1], .lst [.var 4 .rd, .var 0 .rd, .var 0 .rd]] ⟨[some (due, 0), some (.fn (u + 0) e te, 0), some (.fn (u + 1) e te, 0), some (spoilT due, d), some (spoilT due, d2)], c⟩ fun us x1 => CT.call ks (us.map (·.1)) x1.c fun r c => Q (r.1, 0) c
      refine wEs_lst (wEs_own (d := d) rfl fun d5 d6 => wEs_app (d := 0) rfl ?_)
      refine hb c _ hB fun d7 c' hd7 hR => ?_
      refine wEs_app (d := 0) rfl ?_
      refine ha 2 c' _ (by decide) hR fun d8 c3 hd8 hR3 => ?_
      refine wEs_nil ⟨by simp [sizeLine], ?_⟩
      refine wEs_lst (wEs_own (d := d2) rfl fun d9 d10 => wEs_v rfl fun d11 => wEs_v rfl fun d12 => wEs_nil ⟨by simp [sizeLine], wEs_nil ?_⟩)
      exact hsame3 c3 _ (q c3 hR3)
    show wEs CT [.var 3 .rd, .var 0 .rd] ⟨lowE [some (due, 0), some (.fn (u + 0) e te, 0), some (.fn (u + 1) e te, 0), some (due, d), some (due, d2)], c⟩ fun us x1 => CT.call ks (us.map (·.1)) x1.c fun r c => wTru r.1 fun b => br (!b) (wSs CT W [3, 4] [.ret (.k (.bl false))] ⟨[some (due, 0), some (.fn (u + 0) e te, 0), some (.fn (u + 1) e te, 0), some (due, d), some (due, d2)], c⟩ ⟨fun x1 => wSs CT W [3, 4] (bTwice ks kc kp).tail.tail x1 (kst false Q), (kst false Q).rt, (kst false Q).bk, (kst false Q).ct⟩) (wSs CT W [3, 4] (bTwice ks kc kp).tail.tail ⟨[some (due, 0), some (.fn (u + 0) e te, 0), some (.fn (u + 1) e te, 0), some (due, d), some (due, d2)], c⟩ (kst false Q))
    refine wEs_v rfl fun d3 => wEs_v rfl fun d4 => wEs_nil ?_
    exact hsame c _ s2
  show wEs CT [.app 1, .call kc [.var 0 .rd]] ⟨[some (due, 0), some (.fn (u + 0) e te, 0), some (.fn (u + 1) e te, 0), none, none], c⟩ fun us x1 => match setManyD [3, 4] x1.e [3, 4] us with
    | some e => wSs CT W [3, 4] (bTwice ks kc kp).tail ⟨e, x1.c⟩ (kst false Q)
    | none => False
  refine wEs_app (d := 0) rfl ?_
  refine ha 0 c _ (by decide) h0 fun d c1 hd1 hB1 => ?_
  refine wEs_call (wEs_v rfl fun d1 => wEs_nil ?_)
  refine hcop c1 _ fun d2 hd2 => ?_
  exact s1 c1 d d2 hB1 hd1 hd2
theorem twice2_pl {kt ks kc kp N u : Nat} {e : En} {te : List TV} {l1 l2 : E} {due : TV} {m : Nat} {B : Nat → Option Nat → Prop} (ht1 : pr kt = none) (ht2 : T[kt]? = some ⟨3, 5, bTwice ks kc kp⟩) (ht3 : (mus[kt]?).getD ([], false) = ([3, 4], false))
    (hs1 : pr ks = none) (hs2 : T[ks]? = some ⟨2, 4, bSame ks⟩) (hs3 : (mus[ks]?).getD ([], false) = ([], false)) (hc1 : pr kc = none) (hc2 : T[kc]? = some ⟨1, 4, bCopiedO kc⟩) (hc3 : (mus[kc]?).getD ([], false) = ([2], true)) (hq : pr kp = some .spoil)
    (hd : Pl m due) (h9 : m ≤ 9) (hN : m + 1 ≤ N) (hr : room due)
    (h0 : B 0 c) (h1 : ∀ i c (Q : KE), i ≤ 2 → B i c → (∀ d x', hgt due ≤ d → B (i + 1) x'.c → Q (due, d) x') → (wP (ctF T mus pr W N noT) l1).e ⟨teOf te, c⟩ Q)
    (h2 : ∀ c (Q : KE), B 1 c → (∀ d x', hgt due ≤ d → B 2 x'.c → Q (due, d) x') → (wP (ctF T mus pr W N noT) l2).e ⟨teOf te, c⟩ Q)
    (q : ∀ c', B 3 c' → Q (.bl true, 0) c') : (ctF T mus pr W (N + 2) noT).cl [l1, l2] u e te kt [due, .fn (u + 0) e te, .fn (u + 1) e te] c Q := by
  refine ⟨ht1, ?_⟩
  have sp : Pl m (spoilT due) := pl_spoil hd hr
  have hh := hgt_pl hd
  unfold runT
  rw [ht1]
  dsimp only
  rw [ht2, ht3]
  refine ⟨rfl, ?_⟩
  refine twice2_wp (B := B) h0 (fun i c K hi hB hK => ?_) (fun c K hB hK => ?_) (fun c K hK => ?_) (fun c K hK => ?_) (fun c K hK => ?_) ⟨hq, by omega⟩ (by omega) hr q
  · refine ⟨0, _, rfl, rfl, rfl, ?_⟩
    exact h1 i c _ hi hB fun d x' hd1 hx => hK d _ hd1 hx
  · refine ⟨1, _, rfl, rfl, rfl, ?_⟩
    exact h2 c _ hB fun d x' hd1 hx => hK d _ hd1 hx
  · exact copO_pl hc1 hc2 hc3 m due hd (N + 1) (by omega) _ hK
  · exact same_pl hs1 hs2 hs3 m due hd (N + 1) (by omega) _ hK
  · refine same_pl hs1 hs2 hs3 (m + 1) (.lst [spoilT due, due, due]) (.lst (by simp [sizeLine]) fun x hx => ?_) (N + 1) (by omega) _ hK
    simp only [List.mem_cons, List.not_mem_nil, or_false] at hx
    rcases hx with rfl | rfl | rfl
    · exact sp
    · exact hd
    · exact hd
end
theorem comp_allD {α β : Type} {own : List Nat} {tg : Tg} {cv : TX → KT → Prop} {ev : TX → KE → Prop} {Q : List TV → Nat → TX → Prop} {E : TEn} {c : Option Nat} {x : TX} {ts : List TTv} {d : Nat} (D : Nat) (ea : α → TTv) (eb : β → TV) (g : α → β) (xs : List α) (ht : ts = xs.map ea) (hd : D ≤ d)
    (h : ∀ a ∈ xs, ∀ K : Option TD → TX → Prop, (∀ d e, D ≤ d → wipeT e own = E → K (some (eb (g a), d)) ⟨e, c⟩) → wBind tg (ea a) E fun e2 => cv ⟨e2, c⟩ fun b x3 => br b (ev x3 fun v x4 => K (some v) x4) (K none x3))
    (hl : xs.length ≤ sizeLine) (hx : wipeT x.e own = E) (hc : x.c = c) (q : ∀ d e, D ≤ d → wipeT e own = E → Q ((xs.map g).map eb) d ⟨e, c⟩) : wComp (turnTA tg own cv ev) Q ts x [] d := by
  rw [ht]
  have e : xs.filterMap (fun a => some (g a)) = xs.map g := congrFun List.filterMap_eq_map' xs
  refine comp_accD (E := E) (c := c) D ea eb (fun a => some (g a)) xs x [] d hd (fun a m K k1 k0 => ?_) (by rw [e]; simpa using hl) hx hc fun d e' hd he => ?_
  · exact h a m K fun d e hd he => k1 (g a) d e rfl hd he
  · rw [e]
    exact q d e' hd he
theorem stepTT_get : ∀ {n : Nat} {lo c : Int} {i : Nat} {t : TTv}, (stepTT lo c n)[i]? = some t → i < n ∧ t = .one (.int (lo + (i : Nat) * c))
  | 0, _, _, _, _, e => by simp [stepTT] at e
  | n + 1, lo, c, 0, t, e => by
    simp [stepTT] at e
    rw [← e]
    simp
  | n + 1, lo, c, i + 1, t, e => by
    obtain ⟨h1, h2⟩ := stepTT_get (n := n) (lo := lo + c) (c := c) (i := i) (t := t) (by simpa [stepTT] using e)
    rw [h2]
    refine ⟨by omega, ?_⟩
    congr 2
    push_cast
    rw [Int.add_mul]
    omega
end EV

namespace EV
open PySem
/-! ### the pairs that meet, the best number, the sets that meet pairwise -/
def pairsL (ls : List Ld) : List (Nat × Nat) := (List.range ls.length).flatMap fun i => ((List.range ls.length).filter fun j => decide (i < j) && meetB (ldAt ls i) (ldAt ls j)).map fun j => (i, j)
def rowP (ls : List Ld) (i : Nat) : List (Nat × Nat) := ((List.range (ls.length - (i + 1))).filter fun k => meetB (ldAt ls i) (ldAt ls (k + (i + 1)))).map fun k => (i, k + (i + 1))
theorem row_pairs {ls : List Ld} {i : Nat} (h : i < ls.length) : (((List.range ls.length).filter fun j => decide (i < j) && meetB (ldAt ls i) (ldAt ls j)).map fun j => (i, j)) = rowP ls i := by
  obtain ⟨m, hm⟩ : ∃ m, ls.length = (i + 1) + m := ⟨ls.length - (i + 1), by omega⟩
  unfold rowP
  rw [hm, List.range_add, List.filter_append]
  have e1 : (List.range (i + 1)).filter (fun j => decide (i < j) && meetB (ldAt ls i) (ldAt ls j)) = [] := by
    refine List.filter_eq_nil_iff.mpr fun j hj => ?_
    have := List.mem_range.mp hj
    have : ¬ i < j := by omega
    simp [this]
  have e0 : i + 1 + m - (i + 1) = m := by omega
  rw [e1, List.nil_append, List.filter_map, List.map_map, e0]
  have e2 : ((fun j => decide (i < j) && meetB (ldAt ls i) (ldAt ls j)) ∘ fun x => i + 1 + x) = fun k => meetB (ldAt ls i) (ldAt ls (k + (i + 1))) := by
    funext k
    have : i < k + (i + 1) := by omega
    simp only [Function.comp_def, Nat.add_comm (i + 1) k, this, decide_true, Bool.true_and]
  rw [e2]
  refine List.map_congr_left fun k _ => ?_
  simp only [Function.comp_def, Nat.add_comm (i + 1) k]
theorem pairs_rows (ls : List Ld) : pairsL ls = (List.range ls.length).flatMap (rowP ls) := by
  unfold pairsL
  rw [List.flatMap_def, List.flatMap_def]
  congr 1
  exact List.map_congr_left fun i hi => row_pairs (List.mem_range.mp hi)
theorem mem_pairs {ls : List Ld} {i j : Nat} : (i, j) ∈ pairsL ls ↔ i < j ∧ j < ls.length ∧ meetB (ldAt ls i) (ldAt ls j) = true := by
  unfold pairsL
  simp only [List.mem_flatMap, List.mem_map, List.mem_filter, List.mem_range, Bool.and_eq_true, decide_eq_true_eq, Prod.mk.injEq]
  constructor
  · rintro ⟨a, ha, b, ⟨hb, hab, hm⟩, rfl, rfl⟩
    exact ⟨hab, hb, hm⟩
  · rintro ⟨h1, h2, h3⟩
    exact ⟨i, by omega, j, ⟨h2, h1, h3⟩, rfl, rfl⟩
def bestK (f : Nat → Nat) : Nat → Int × Nat
  | 0 => (-1, 0)
  | k + 1 => if (bestK f k).1 < f k then (f k, k) else bestK f k
theorem bestK_ok (f : Nat → Nat) : ∀ k, 0 < k → (∀ i, i < k → (f i : Int) ≤ (bestK f k).1) ∧ (bestK f k).2 < k ∧ (f (bestK f k).2 : Int) = (bestK f k).1 ∧ ∀ i, i < (bestK f k).2 → (f i : Int) < (bestK f k).1
  | 0, h => absurd h (Nat.lt_irrefl 0)
  | 1, _ => by
    have e : bestK f 1 = ((f 0 : Int), 0) := by
      show (if (-1 : Int) < f 0 then ((f 0 : Int), 0) else (-1, 0)) = _
      rw [if_pos (by omega)]
    rw [e]
    refine ⟨fun i hi => ?_, Nat.zero_lt_one, rfl, fun i hi => absurd hi (Nat.not_lt_zero _)⟩
    have : i = 0 := by omega
    subst this
    exact Int.le_refl _
  | k + 2, _ => by
    obtain ⟨h1, h2, h3, h4⟩ := bestK_ok f (k + 1) (by omega)
    by_cases e : (bestK f (k + 1)).1 < f (k + 1)
    · have e2 : bestK f (k + 2) = ((f (k + 1) : Int), k + 1) := if_pos e
      rw [e2]
      refine ⟨fun i hi => ?_, by simp, rfl, fun i hi => ?_⟩
      · by_cases e3 : i = k + 1
        · subst e3
          exact Int.le_refl _
        · have := h1 i (by omega)
          show (f i : Int) ≤ f (k + 1)
          omega
      · have := h1 i hi
        show (f i : Int) < f (k + 1)
        omega
    · have e2 : bestK f (k + 2) = bestK f (k + 1) := if_neg e
      rw [e2]
      refine ⟨fun i hi => ?_, by omega, h3, h4⟩
      by_cases e3 : i = k + 1
      · subst e3
        omega
      · exact h1 i (by omega)
theorem fold_maxI : ∀ (is : List Int) (i : Int), (is.foldl (fun a b => if a < b then b else a) i) ∈ i :: is ∧ ∀ x ∈ i :: is, x ≤ is.foldl (fun a b => if a < b then b else a) i
  | [], i => ⟨List.mem_cons_self, fun x m => by rw [List.mem_singleton.mp m]; exact Int.le_refl _⟩
  | j :: is, i => by
    obtain ⟨h1, h2⟩ := fold_maxI is (if i < j then j else i)
    have hi : i ≤ (if i < j then j else i) := by split <;> omega
    have hj : j ≤ (if i < j then j else i) := by split <;> omega
    refine ⟨?_, fun x m => ?_⟩
    · show List.foldl _ (if i < j then j else i) is ∈ _
      rcases List.mem_cons.mp h1 with h | h
      · rw [h]
        split
        · exact List.mem_cons_of_mem _ List.mem_cons_self
        · exact List.mem_cons_self
      · exact List.mem_cons_of_mem _ (List.mem_cons_of_mem _ h)
    · show x ≤ List.foldl _ (if i < j then j else i) is
      have h0 := h2 _ List.mem_cons_self
      rcases List.mem_cons.mp m with rfl | m
      · omega
      · rcases List.mem_cons.mp m with rfl | m
        · omega
        · exact h2 _ (List.mem_cons_of_mem _ m)
theorem max_is {is : List Int} {m : Int} (hm : m ∈ is) (h : ∀ x ∈ is, x ≤ m) : ∃ i js, is = i :: js ∧ js.foldl (fun a b => if a < b then b else a) i = m := by
  cases is with
  | nil => cases hm
  | cons i js =>
    obtain ⟨h1, h2⟩ := fold_maxI js i
    exact ⟨i, js, rfl, Int.le_antisymm (h _ h1) (h2 _ hm)⟩
theorem idx_is {is : List Int} {m : Int} {j : Nat} (hj : is[j]? = some m) (h : ∀ i x, i < j → is[i]? = some x → x ≠ m) : (((is.map TV.int).map dT).findIdx? fun z => PyData.eqv z (dT (.int m))) = some j := by
  have hjl := get_lt hj
  have hmj : is[j] = m := by
    rw [List.getElem?_eq_getElem hjl] at hj
    exact Option.some.inj hj
  have key : ∀ a : Int, PyData.eqv (dT (.int a)) (dT (.int m)) = decide (a = m) := fun a => eqT_int a m
  rw [List.findIdx?_eq_some_iff_getElem]
  refine ⟨by simpa using hjl, ?_, fun i hi => ?_⟩
  · rw [List.getElem_map, List.getElem_map, key, hmj]
    simp
  · rw [List.getElem_map, List.getElem_map, key]
    have hil : i < is.length := by omega
    have := h i is[i] hi (List.getElem?_eq_getElem hil)
    simp [this]
def hasAt (ls : List Ld) (x : Int) (i : Nat) : Bool := decide (hasP (ldAt ls i) x)
def lotsC (ls : List Ld) : Nat → List (List Nat)
  | 0 => [[]]
  | k + 1 => lotsC ls k ++ ((lotsC ls k).filter fun lot => lot.all fun i => decide ((i, k) ∈ pairsL ls)).map fun lot => lot ++ [k]
theorem hcount_at (ls : List Ld) (x : Int) : hcount ls x = ((List.range ls.length).filter (hasAt ls x)).length := by
  have e : ls = (List.range ls.length).map (ldAt ls) := by
    refine List.ext_getElem (by simp) fun i h1 h2 => ?_
    rw [List.getElem_map, List.getElem_range]
    exact (ldAt_of (List.getElem?_eq_getElem h1)).symm
  have e2 : hcount ls x = (((List.range ls.length).map (ldAt ls)).filter fun l => decide (hasP l x)).length := by
    rw [← e]
    rfl
  rw [e2, List.filter_map, List.length_map]
  rfl
theorem lots_le {ls : List Ld} {x : Int} : ∀ k, ∀ lot ∈ lotsC ls k, (∀ i ∈ lot, hasAt ls x i = true) → lot.length ≤ ((List.range k).filter (hasAt ls x)).length
  | 0, lot, m, _ => by rw [List.mem_singleton.mp m]; exact Nat.zero_le _
  | k + 1, lot, m, h => by
    rw [List.range_succ, List.filter_append, List.length_append]
    rcases List.mem_append.mp m with m | m
    · have := lots_le k lot m h
      omega
    · obtain ⟨l0, m0, rfl⟩ := List.mem_map.mp m
      have := lots_le k l0 ((List.mem_filter.mp m0).1) fun i hi => h i (List.mem_append_left _ hi)
      have hk : hasAt ls x k = true := h k (by simp)
      have e : [k].filter (hasAt ls x) = [k] := by simp [hk]
      rw [List.length_append, e]
      simp
      omega
theorem lots_pw {ls : List Ld} : ∀ k, ∀ lot ∈ lotsC ls k, lot.Pairwise fun i j => (i, j) ∈ pairsL ls
  | 0, lot, m => by rw [List.mem_singleton.mp m]; exact List.Pairwise.nil
  | k + 1, lot, m => by
    rcases List.mem_append.mp m with m | m
    · exact lots_pw k lot m
    · obtain ⟨l0, m0, rfl⟩ := List.mem_map.mp m
      obtain ⟨m1, m2⟩ := List.mem_filter.mp m0
      refine List.pairwise_append.mpr ⟨lots_pw k l0 m1, List.pairwise_singleton _ _, fun a ha b hb => ?_⟩
      rw [List.mem_singleton.mp hb]
      exact of_decide_eq_true (List.all_eq_true.mp m2 a ha)
theorem lots_lt {ls : List Ld} : ∀ k, ∀ lot ∈ lotsC ls k, ∀ i ∈ lot, i < k
  | 0, lot, m, i, hi => by rw [List.mem_singleton.mp m] at hi; cases hi
  | k + 1, lot, m, i, hi => by
    rcases List.mem_append.mp m with m | m
    · have := lots_lt k lot m i hi
      omega
    · obtain ⟨l0, m0, rfl⟩ := List.mem_map.mp m
      rcases List.mem_append.mp hi with hi | hi
      · have := lots_lt k l0 ((List.mem_filter.mp m0).1) i hi
        omega
      · rw [List.mem_singleton.mp hi]
        omega
theorem lots_has {ls : List Ld} (ok : ladOk ls) (x : Int) : ∀ k, k ≤ ls.length → (List.range k).filter (hasAt ls x) ∈ lotsC ls k
  | 0, _ => List.mem_singleton.mpr rfl
  | k + 1, h => by
    have ih := lots_has ok x k (by omega)
    rw [List.range_succ, List.filter_append]
    cases hk : hasAt ls x k with
    | false =>
      have e : [k].filter (hasAt ls x) = [] := by simp [hk]
      rw [e, List.append_nil]
      exact List.mem_append_left _ ih
    | true =>
      have e : [k].filter (hasAt ls x) = [k] := by simp [hk]
      rw [e]
      refine List.mem_append_right _ (List.mem_map.mpr ⟨_, List.mem_filter.mpr ⟨ih, ?_⟩, rfl⟩)
      refine List.all_eq_true.mpr fun i hi => ?_
      obtain ⟨hi1, hi2⟩ := List.mem_filter.mp hi
      have hi1 := List.mem_range.mp hi1
      refine decide_eq_true (mem_pairs.mpr ⟨hi1, by omega, ?_⟩)
      have g : ∀ j, j < ls.length → 0 < (ldAt ls j).2 := fun j hj => by
        have hg := List.getElem?_eq_getElem hj
        rw [ldAt_of hg]
        have := ok _ (get_mem hg)
        omega
      exact (meetB_iff (g i (by omega)) (g k (by omega))).mpr ⟨x, of_decide_eq_true hi2, of_decide_eq_true hk⟩
theorem lots_count (ls : List Ld) : ∀ k, (lotsC ls k).length ≤ 2 ^ k
  | 0 => Nat.le_refl _
  | k + 1 => by
    have := lots_count ls k
    have h2 := List.length_filter_le (fun lot => lot.all fun i => decide ((i, k) ∈ pairsL ls)) (lotsC ls k)
    show (lotsC ls k ++ _).length ≤ _
    rw [List.length_append, List.length_map, Nat.pow_succ]
    omega
/-- the longest lot is as long as the best count -/
theorem lots_best {ls : List Ld} (ok : ladOk ls) {w : Nat} (hw : rnd ls = (w : Nat)) : ((bestK (fun x => hcount ls (x : Nat)) w).1 ∈ (lotsC ls ls.length).map fun lot => (lot.length : Int)) ∧ ∀ z ∈ (lotsC ls ls.length).map fun lot => (lot.length : Int), z ≤ (bestK (fun x => hcount ls (x : Nat)) w).1 := by
  have hp : 0 < rnd ls := rndF_pos ok (by decide)
  obtain ⟨b1, b2, b3, b4⟩ := bestK_ok (fun x => hcount ls (x : Nat)) w (by omega)
  refine ⟨?_, fun z hz => ?_⟩
  · refine List.mem_map.mpr ⟨_, lots_has ok ((bestK (fun x => hcount ls (x : Nat)) w).2 : Nat) ls.length (Nat.le_refl _), ?_⟩
    rw [← hcount_at]
    exact b3
  · obtain ⟨lot, hm, rfl⟩ := List.mem_map.mp hz
    have hlt := lots_lt ls.length lot hm
    have g : ∀ j, j < ls.length → ldAt ls j ∈ ls := fun j hj => by
      have hg := List.getElem?_eq_getElem hj
      rw [ldAt_of hg]
      exact get_mem hg
    have ok2 : ladOk (lot.map (ldAt ls)) := fun l hl => by
      obtain ⟨j, hj, rfl⟩ := List.mem_map.mp hl
      exact ok _ (g j (hlt j hj))
    obtain ⟨y, hy⟩ := helly2 ok2 (by
      rw [List.pairwise_map]
      refine (lots_pw ls.length lot hm).imp_of_mem fun {a b} ha hb hab => ?_
      have o1 := ok _ (g a (hlt a ha))
      have o2 := ok _ (g b (hlt b hb))
      exact (meetB_iff (by omega) (by omega)).mp (mem_pairs.mp hab).2.2)
    have h0 := Int.emod_nonneg y (by omega : rnd ls ≠ 0)
    have h1 := Int.emod_lt_of_pos y hp
    obtain ⟨x, hx⟩ : ∃ x : Nat, y % rnd ls = (x : Int) := ⟨(y % rnd ls).toNat, by omega⟩
    have hle := lots_le (x := (x : Int)) ls.length lot hm fun j hj => by
      refine decide_eq_true ?_
      rw [← hx, hasP_mod (show (ldAt ls j).2 ∣ rnd ls from step_dvd (L := 1) (g j (hlt j hj)))]
      exact hy _ (List.mem_map_of_mem hj)
    rw [← hcount_at] at hle
    have := b1 x (by omega)
    show (lot.length : Int) ≤ _
    have h3 : ((hcount ls (x : Nat) : Nat) : Int) ≤ (bestK (fun x => hcount ls (x : Nat)) w).1 := this
    omega
end EV

namespace K42
open PySem EV
/-! the table of the defs, by gen.py -/
-- 0: is_list(thing) slots thing
def b0 : List S := [.ret (.isi (.var 0 .rd) ["list", "tuple"])]
-- 1: is_whole(thing) slots thing
def b1 : List S := [.ret (.an (.isi (.var 0 .rd) ["int"]) (.no (.isi (.var 0 .rd) ["bool"])))]
-- 2: is_row(thing, many) slots thing many
def b2 : List S := [.ret (.an (.call 0 [.var 0 .rd]) (.cmp .eq (.bi .len [.var 0 .rd]) (.var 1 .rd)))]
-- 3: kept_rounded(thing) slots thing one
def b3 : List S := [.iff (.orr (.no (.call 2 [.var 0 .rd, .k (.int 3)])) (.no (.bi .all [.lc [1] (.call 1 [.var 1 .rd]) (.nm 1) .seq [.var 0 .rd] none]))) [.ret (.k .non)] [], .ret (.ite (.cmp2 .le .le (.k (.int 1)) (.ix (.var 0 .rd) (.k (.int 2))) (.ix (.var 0 .rd) (.k (.int 0)))) (.bi .tuple [.var 0 .rd]) (.k .non))]
-- 4: share_of_two(one, other) slots one other
def b4 : List S := [.whl (.var 1 .rd) [.par [0, 1] [.var 1 .rd, .bin .mod (.var 0 .rd) (.var 1 .rd)]], .ret (.var 0 .rd)]
-- 5: settled_by(row) slots row share
def b5 : List S := [.set 1 (.call 4 [.ix (.var 0 .rd) (.k (.int 0)), .ix (.var 0 .rd) (.k (.int 2))]), .ret (.tup [.bin .fdiv (.ix (.var 0 .rd) (.k (.int 0))) (.var 1 .rd), .bin .mod (.bin .fdiv (.ix (.var 0 .rd) (.k (.int 1))) (.var 1 .rd)) (.bin .fdiv (.ix (.var 0 .rd) (.k (.int 0))) (.var 1 .rd)), .bin .fdiv (.ix (.var 0 .rd) (.k (.int 2))) (.var 1 .rd)])]
-- 6: has_by(row, number) slots row number a b c
def b6 : List S := [.asg (.tp [2, 3, 4]) (.call 5 [.var 0 .rd]), .ret (.cmp .lt (.bin .mod (.bin .sub (.var 3 .rd) (.bin .mul (.var 4 .rd) (.var 1 .rd))) (.var 2 .rd)) (.var 4 .rd))]
-- 7: fraenkel_rows(many) slots many whole k
def b7 : List S := [.iff (.orr (.no (.call 1 [.var 0 .rd])) (.no (.cmp2 .le .le (.k (.int 1)) (.var 0 .rd) (.k (.int 5))))) [.bad] [], .set 1 (.bin .shl (.k (.int 1)) (.var 0 .rd)), .ret (.lc [2] (.call 5 [.tup [.bin .sub (.var 1 .rd) (.k (.int 1)), .bin .sub (.bin .shr (.var 1 .rd) (.var 2 .rd)) (.bin .shr (.var 1 .rd) (.k (.int 1))), .bin .shr (.var 1 .rd) (.var 2 .rd)]]) (.nm 2) .range [.k (.int 1), .bin .add (.var 0 .rd) (.k (.int 1))] none)]
-- 8: parts_or_number(rows) slots rows kept row size step number
def b8 : List S := [.iff (.no (.call 0 [.var 0 .rd])) [.bad] [], .set 1 (.lc [2] (.call 3 [.var 2 .rd]) (.nm 2) .seq [.var 0 .rd] none), .iff (.cmp .isin (.k .non) (.var 1 .rd)) [.bad] [], .set 3 (.k (.int 1)), .for_ (.nm 2) .seq [.var 1 .rd] [.set 4 (.ix (.call 5 [.var 2 .rd]) (.k (.int 0))), .set 3 (.bin .mul (.bin .fdiv (.var 3 .rd) (.call 4 [.var 3 .rd, .var 4 .rd])) (.var 4 .rd))], .for_ (.nm 5) .range [.var 3 .rd] [.iff (.cmp .ne (.bi .len [.lc [2] (.var 2 .rd) (.nm 2) .seq [.var 1 .rd] (some (.call 6 [.var 2 .rd, .var 5 .rd]))]) (.k (.int 1))) [.ret (.tup [.k (.str "number"), .var 5 .rd])] []], .ret (.tup [.k (.str "parts")])]
-- 9: _law_stream(script) slots script
def b9 : List S := [.ret (.lst [.bi .list [.var 0 .rd], .k (.int 0), .k (.int 0), .k (.int 17)])]
-- 10: _law_draw(stream, many) slots stream many cell digit mixed
def b10 : List S := [.sub (.var 0 .rd) (.k (.int 2)) (.bin .add (.ix (.var 0 .rd) (.k (.int 2))) (.k (.int 1))), .whl (.an (.cmp .eq (.ix (.var 0 .rd) (.k (.int 1))) (.k (.int 0))) (.cmp .ne (.ix (.var 0 .rd) (.k (.int 0))) (.lst []))) [.set 2 (.bi .abs [.mt .pop (.ix (.var 0 .rd) (.k (.int 0))) [.k (.int 0)]]), .sub (.var 0 .rd) (.k (.int 3)) (.bin .mod (.bi .int [.bin .add (.bin .add (.bin .mul (.ix (.var 0 .rd) (.k (.int 3))) (.k (.int 8191))) (.var 2 .rd)) (.k (.int 3))]) (.k (.int 2147483647))), .sub (.var 0 .rd) (.k (.int 1)) (.ite (.cmp .ge (.var 2 .rd) (.bin .pow (.k (.int 10)) (.k (.int 18)))) (.var 2 .rd) (.k (.int 0)))], .iff (.cmp .gt (.ix (.var 0 .rd) (.k (.int 1))) (.k (.int 0))) [.set 3 (.bin .mod (.bi .int [.ix (.var 0 .rd) (.k (.int 1))]) (.var 1 .rd)), .sub (.var 0 .rd) (.k (.int 1)) (.bin .fdiv (.ix (.var 0 .rd) (.k (.int 1))) (.var 1 .rd)), .ret (.var 3 .rd)] [], .set 4 (.bin .mod (.bi .int [.bin .pow (.bin .add (.bin .add (.ix (.var 0 .rd) (.k (.int 3))) (.bin .mul (.k (.int 7919)) (.ix (.var 0 .rd) (.k (.int 2))))) (.k (.int 104729))) (.k (.int 5))]) (.k (.int 2147483629))), .ret (.bin .mod (.bin .mod (.bi .int [.bin .pow (.bin .add (.bin .add (.bin .mul (.var 4 .rd) (.k (.int 48271))) (.bin .mul (.k (.int 30011)) (.ix (.var 0 .rd) (.k (.int 2))))) (.k (.int 29))) (.k (.int 3))]) (.k (.int 1000000007))) (.var 1 .rd))]
-- 11: _law_same(found, due) slots found due mine theirs
def b11 : List S := [.iff (.isi (.var 1 .rd) ["list", "tuple"]) [.iff (.orr (.cmp .ne (.isi (.var 0 .rd) ["list"]) (.isi (.var 1 .rd) ["list"])) (.cmp .ne (.isi (.var 0 .rd) ["tuple"]) (.isi (.var 1 .rd) ["tuple"]))) [.ret (.k (.bl false))] [], .ret (.an (.cmp .eq (.bi .len [.var 0 .rd]) (.bi .len [.var 1 .rd])) (.bi .all [.lc [2, 3] (.call 11 [.var 2 .rd, .var 3 .rd]) (.tp [2, 3]) .zip [.var 0 .rd, .var 1 .rd] none]))] [], .iff (.isi (.var 1 .rd) ["dict"]) [.ret (.an (.isi (.var 0 .rd) ["dict"]) (.call 11 [.bi .list [.bad], .bi .list [.bad]]))] [], .iff (.orr (.isi (.var 1 .rd) ["bool"]) (.isi (.var 0 .rd) ["bool"])) [.ret (.an (.isi (.var 1 .rd) ["bool"]) (.an (.isi (.var 0 .rd) ["bool"]) (.cmp .eq (.var 0 .rd) (.var 1 .rd))))] [], .iff (.orr (.cmp .is (.var 1 .rd) (.k .non)) (.cmp .is (.var 0 .rd) (.k .non))) [.ret (.an (.cmp .is (.var 1 .rd) (.k .non)) (.cmp .is (.var 0 .rd) (.k .non)))] [], .iff (.orr (.cmp .ne (.isi (.var 1 .rd) ["int"]) (.isi (.var 0 .rd) ["int"])) (.cmp .ne (.isi (.var 1 .rd) ["str"]) (.isi (.var 0 .rd) ["str"]))) [.ret (.k (.bl false))] [], .ret (.an (.no (.isi (.var 0 .rd) ["list", "tuple", "dict"])) (.cmp .eq (.var 0 .rd) (.var 1 .rd)))]
-- 12: _law_spoilt(thing) slots thing part
def b12 : List S := [.iff (.isi (.var 0 .rd) ["list", "tuple"]) [.for_ (.nm 1) .seq [.var 0 .rd] [.spo 12 1]] [], .iff (.isi (.var 0 .rd) ["list"]) [.ex (.mt .append (.var 0 .rd) [.k (.str "late")])] []]
-- 13: _law_copied(thing) slots thing key some one
def b13 : List S := [.iff (.isi (.var 0 .rd) ["dict"]) [.ret (.bi .dict [.lc [1] (.tup [.var 1 .rd, .call 13 [.ix (.var 0 .rd) (.var 1 .rd)]]) (.nm 1) .seq [.var 0 .rd] none])] [], .set 2 (.ite (.isi (.var 0 .rd) ["list", "tuple"]) (.lc [3] (.call 13 [.var 3 .rd]) (.nm 3) .seq [.var 0 .rd] none) (.var 0 .rd)), .ret (.ite (.isi (.var 0 .rd) ["tuple"]) (.bi .tuple [.var 2 .mv]) (.var 2 .mv))]
-- 14: _law_twice(due, first, other) slots due first other found spoilt
def b14 : List S := [.par [3, 4] [.app 1, .call 13 [.var 0 .rd]], .iff (.no (.call 11 [.var 3 .rd, .var 0 .rd])) [.ret (.k (.bl false))] [], .spo 12 3, .spo 12 4, .ret (.call 11 [.lst [.var 3 .rd, .app 2, .app 1], .lst [.var 4 .rd, .var 0 .rd, .var 0 .rd]])]
-- 15: _law_unlike(things) slots things found one
def b15 : List S := [.set 1 (.lst []), .for_ (.nm 2) .seq [.bi .sorted [.var 0 .rd]] [.ex (.mt .extend (.var 1 .rd) [.ite (.orr (.cmp .eq (.var 1 .rd) (.lst [])) (.cmp .ne (.ix (.var 1 .rd) (.neg (.k (.int 1)))) (.var 2 .rd))) (.lst [.var 2 .rd]) (.lst [])])], .ret (.var 1 .rd)]
-- 16: _law_t_share(one, other) slots one other
def b16 : List S := [.whl (.cmp .ne (.var 1 .rd) (.k (.int 0))) [.par [0, 1] [.var 1 .rd, .bin .mod (.bi .int [.var 0 .rd]) (.var 1 .rd)]], .ret (.var 0 .rd)]
-- 17: _law_t_rests(rounded) slots rounded a b c n
def b17 : List S := [.asg (.tp [1, 2, 3]) (.var 0 .rd), .ret (.bi .sorted [.call 15 [.lc [4] (.bin .mod (.bi .int [.bin .fdiv (.bin .add (.bin .mul (.var 1 .rd) (.var 4 .rd)) (.var 2 .rd)) (.var 3 .rd)]) (.var 1 .rd)) (.nm 4) .range [.var 3 .rd] none]])]
-- 18: _law_t_plain(rounded) slots rounded a b c share
def b18 : List S := [.asg (.tp [1, 2, 3]) (.var 0 .rd), .set 4 (.call 16 [.var 1 .rd, .var 3 .rd]), .ret (.tup [.bin .fdiv (.var 1 .rd) (.var 4 .rd), .bin .mod (.bi .int [.bin .fdiv (.var 2 .rd) (.var 4 .rd)]) (.bin .fdiv (.var 1 .rd) (.var 4 .rd)), .bin .fdiv (.var 3 .rd) (.var 4 .rd)])]
-- 19: law(script) slots script stream many halves whole due k had row a b c
def b19 : List S := [.set 1 (.call 9 [.var 0 .rd]), .set 2 (.bin .add (.k (.int 1)) (.call 10 [.var 1 .rd, .k (.int 5)])), .set 3 (.lst [.k (.int 1)]), .whl (.cmp .le (.bi .len [.var 3 .rd]) (.var 2 .rd)) [.ex (.mt .append (.var 3 .rd) [.bin .mul (.k (.int 2)) (.ix (.var 3 .rd) (.neg (.k (.int 1))))])], .set 4 (.bin .sub (.ix (.var 3 .rd) (.var 2 .rd)) (.k (.int 1))), .set 5 (.lc [6] (.call 18 [.tup [.var 4 .rd, .bin .sub (.ix (.var 3 .rd) (.bin .sub (.var 2 .rd) (.var 6 .rd))) (.ix (.var 3 .rd) (.bin .sub (.var 2 .rd) (.k (.int 1)))), .ix (.var 3 .rd) (.bin .sub (.var 2 .rd) (.var 6 .rd))]]) (.nm 6) .range [.k (.int 1), .bin .add (.var 2 .rd) (.k (.int 1))] none), .iff (.no (.calll 14 [.var 5 .rd] [.call 7 [.var 2 .rd], .callk 7 [] [.var 2 .rd] [0]])) [.ret (.k (.bl false))] [], .set 7 (.lst []), .for_ (.nm 8) .seq [.var 5 .rd] [.set 7 (.bin .add (.var 7 .rd) (.call 17 [.var 8 .rd]))], .iff (.orr (.cmp .ne (.bi .sorted [.var 7 .rd]) (.lrg1 (.var 4 .rd))) (.orr (.cmp .ne (.call 8 [.call 13 [.var 5 .rd]]) (.tup [.k (.str "parts")])) (.cmp .ne (.bi .len [.call 15 [.lc [9, 10, 11] (.var 11 .rd) (.tp [9, 10, 11]) .seq [.var 5 .rd] none]]) (.var 2 .rd)))) [.ret (.k (.bl false))] [], .ret (.call 11 [.lst [.call 7 [.k (.int 1)], .call 7 [.k (.int 2)], .call 7 [.k (.int 3)]], .lst [.lst [.tup [.k (.int 1), .k (.int 0), .k (.int 1)]], .lst [.tup [.k (.int 3), .k (.int 0), .k (.int 2)], .tup [.k (.int 3), .k (.int 2), .k (.int 1)]], .lst [.tup [.k (.int 7), .k (.int 0), .k (.int 4)], .tup [.k (.int 7), .k (.int 5), .k (.int 2)], .tup [.k (.int 7), .k (.int 4), .k (.int 1)]]]])]
def T : List Fd := [⟨1, 1, b0⟩, ⟨1, 1, b1⟩, ⟨2, 2, b2⟩, ⟨1, 2, b3⟩, ⟨2, 2, b4⟩, ⟨1, 2, b5⟩, ⟨2, 5, b6⟩, ⟨1, 3, b7⟩, ⟨1, 6, b8⟩, ⟨1, 1, b9⟩, ⟨2, 5, b10⟩, ⟨2, 4, b11⟩, ⟨1, 2, b12⟩, ⟨1, 4, b13⟩, ⟨3, 5, b14⟩, ⟨1, 3, b15⟩, ⟨2, 2, b16⟩, ⟨1, 5, b17⟩, ⟨1, 5, b18⟩, ⟨1, 12, b19⟩]
def mus : List (List Nat × Bool) := [([], false), ([], false), ([], false), ([], false), ([], false), ([], true), ([], false), ([], true), ([], false), ([], false), ([0], false), ([], false), ([0, 1], false), ([2], true), ([3, 4], false), ([1], false), ([], false), ([], false), ([], false), ([3], false)]
def pr : Nat → Option Pr := fun k => if k = 9 then some .stream else if k = 10 then some .draw else if k = 12 then some .spoil else none
end K42
namespace K42
open PySem EV
variable {W n : Nat} {c : Option Nat} {Q : TD → Option Nat → Prop}

theorem is_list_l {xs} (q : Q (.bl true, 0) c) : wF T mus pr W (n+1) 0 [.lst xs] c Q := ⟨rfl, q⟩
theorem is_list_t {xs} (q : Q (.bl true, 0) c) : wF T mus pr W (n+1) 0 [.tup xs] c Q := ⟨rfl, q⟩
theorem is_whole {i : Int} (q : Q (.bl true, 0) c) : wF T mus pr W (n+1) 1 [.int i] c Q := ⟨rfl, q⟩
theorem is_row_t {a b : TV} (q : Q (.bl true, 0) c) : wF T mus pr W (n+2) 2 [.tup [a, b], .int 2] c Q := ⟨rfl, is_list_t q⟩
theorem is_row_l {a b : TV} (q : Q (.bl true, 0) c) : wF T mus pr W (n+2) 2 [.lst [a, b], .int 2] c Q := ⟨rfl, is_list_l q⟩

theorem draw_ok {many : Int} {b : Nat} (h1 : 0 < many) (h2 : many < 1073741824) (q : ∀ d, 0 ≤ d → d < many → Q (.int d, 9) (some b)) : wF T mus pr W (n+1) 10 [.stm, .int many] (some (b+1)) Q := ⟨⟨h1, h2⟩, q⟩
theorem same_ok {t : TV} (m : Nat) (h : Pl m t) (q : Q (.bl true, 0) c) : wF T mus pr W (n+m+1) 11 [t, t] c Q := same_pl rfl rfl rfl m t h _ (by omega) Q q


theorem copied_ok {t : TV} (m : Nat) (h : Pl m t) (q : ∀ d, 9 ≤ d → Q (t, d) c) : wF T mus pr W (n+m+1) 13 [t] c Q := copO_pl rfl rfl rfl m t h _ (by omega) Q q


theorem share_ok {a b : Int} (ha : 0 ≤ a) (hb : 0 ≤ b) (hW : b.toNat < W) (q : Q (.int (Int.gcd a b), 0) c) : wF T mus pr W (n+1) 16 [.int a, .int b] c Q := by
  refine ⟨rfl, ?_⟩
  refine wWhl_inv (fun m x => ∃ a' b' : Int, 0 ≤ a' ∧ 0 ≤ b' ∧ m = b'.toNat ∧ Int.gcd a' b' = Int.gcd a b ∧ x = ⟨[some (.int a', 0), some (.int b', 0)], c⟩) ?_ W b.toNat _ hW ⟨a, b, ha, hb, rfl, rfl, rfl⟩
  rintro m x D' ⟨a', b', h1, h2, rfl, h3, rfl⟩ k1 k2 k3 k4
  refine br_i (fun z => ?_) (fun z => ?_)
  · have hz : b' ≠ 0 := by simpa using z
    have hb' : 0 < b' := by omega
    refine ⟨hz, ?_⟩
    have f1 := Int.fmod_nonneg_of_pos a' hb'
    have f2 := Int.fmod_lt_of_pos a' hb'
    exact k1 (a'.fmod b').toNat _ (by omega) ⟨b', a'.fmod b', h2, f1, rfl, by rw [← h3, gcd_step h1 h2], rfl⟩
  · have hz : b' = 0 := by simpa using z
    subst hz
    have : (a' : Int) = Int.gcd a b := by rw [← h3, Int.gcd_zero_right]; omega
    show Q (.int a', 0) c
    rw [this]
    exact q
def wholes : List Int := [4, 6, 8, 12, 18, 24, 30, 36, 60, 120]
def stepsL (w : Int) : List Int := (List.range 30).filterMap fun k => if w.fmod (1 + (k : Nat)) = 0 then some (1 + (k : Nat)) else none
def gS (w : Int) : TTv → Option TV
  | .one (.int s) => if w.fmod s = 0 then some (.int s) else none
  | _ => none
theorem gS_map (w : Int) : (rangeTT 1 30).filterMap (gS w) = (stepsL w).map .int := by
  rw [rangeTT_map, List.filterMap_map]
  unfold stepsL
  rw [List.map_filterMap]
  refine congrArg (fun f => (List.range 30).filterMap f) (funext fun k => ?_)
  show gS w (.one (.int (1 + (k : Nat)))) = _
  unfold gS
  dsimp only
  split <;> rfl
theorem wholes_ok : ∀ w ∈ wholes, 2 ≤ (stepsL w).length ∧ (stepsL w).length ≤ 30 ∧ (∀ s ∈ stepsL w, 0 < s ∧ s ∣ w) ∧ 0 < w ∧ w ≤ 120 := by decide +kernel
def gI (i : TV) : Int := match i with
  | .int i => i
  | _ => 0
abbrev R3 := Int × Int × Int
def r3T (r : R3) : TV := .tup [.int r.1, .int r.2.1, .int r.2.2]
def gR (r : R3) : Int := (Int.gcd r.1 r.2.2 : Int)
def setl (r : R3) : R3 := (r.1.fdiv (gR r), (r.2.1.fdiv (gR r)).fmod (r.1.fdiv (gR r)), r.2.2.fdiv (gR r))
def hasR (r : R3) (x : Int) : Bool := decide (((setl r).2.1 - (setl r).2.2 * x).fmod (setl r).1 < (setl r).2.2)
def okR (r : R3) : Prop := 0 < r.1 ∧ r.1 < 1048576 ∧ 0 < r.2.2 ∧ r.2.2 ≤ r.1 ∧ -1048576 < r.2.1 ∧ r.2.1 < 1048576
theorem setl_ok {r : R3} (h : okR r) : 0 < gR r ∧ gR r ≤ r.2.2 ∧ 0 < (setl r).1 ∧ (setl r).1 ≤ r.1 ∧ 0 < (setl r).2.2 ∧ (setl r).2.2 ≤ (setl r).1 ∧ 0 ≤ (setl r).2.1 ∧ (setl r).2.1 < (setl r).1 := by
  obtain ⟨a0, a1, c0, c1, b0, b1⟩ := h
  have hg : 0 < gR r := by have := Int.gcd_pos_of_ne_zero_left r.2.2 (by omega : r.1 ≠ 0); unfold gR; omega
  have d1 : gR r ∣ r.1 := Int.gcd_dvd_left ..
  have d2 : gR r ∣ r.2.2 := Int.gcd_dvd_right ..
  have e1 : (setl r).1 = r.1 / gR r := Int.fdiv_eq_ediv_of_nonneg _ (by omega)
  have e2 : (setl r).2.2 = r.2.2 / gR r := Int.fdiv_eq_ediv_of_nonneg _ (by omega)
  have p1 : 0 < (setl r).1 := by rw [e1]; exact Int.ediv_pos_of_pos_of_dvd a0 (by omega) d1
  refine ⟨hg, Int.le_of_dvd c0 d2, p1, ?_, ?_, ?_, ?_, ?_⟩
  · rw [e1]; exact Int.ediv_le_self _ (by omega)
  · rw [e2]; exact Int.ediv_pos_of_pos_of_dvd c0 (by omega) d2
  · rw [e1, e2]; exact Int.ediv_le_ediv hg c1
  · exact Int.fmod_nonneg_of_pos _ p1
  · exact Int.fmod_lt_of_pos _ p1
theorem share2_ok {a b : Int} (ha : 0 ≤ a) (hb : 0 ≤ b) (hW : b.toNat < W) (q : Q (.int (Int.gcd a b), 0) c) : wF T mus pr W (n+1) 4 [.int a, .int b] c Q := by
  refine ⟨rfl, ?_⟩
  refine wWhl_inv (fun m x => ∃ a' b' : Int, 0 ≤ a' ∧ 0 ≤ b' ∧ m = b'.toNat ∧ Int.gcd a' b' = Int.gcd a b ∧ x = ⟨[some (.int a', 0), some (.int b', 0)], c⟩) ?_ W b.toNat _ hW ⟨a, b, ha, hb, rfl, rfl, rfl⟩
  rintro m x D' ⟨a', b', h1, h2, rfl, h3, rfl⟩ k1 k2 k3 k4
  refine br_i (fun z => ?_) (fun z => ?_)
  · have hz : b' ≠ 0 := by simpa using z
    have hb' : 0 < b' := by omega
    refine ⟨hz, ?_⟩
    have f1 := Int.fmod_nonneg_of_pos a' hb'
    have f2 := Int.fmod_lt_of_pos a' hb'
    exact k1 (a'.fmod b').toNat _ (by omega) ⟨b', a'.fmod b', h2, f1, rfl, by rw [← h3, gcd_step h1 h2], rfl⟩
  · have hz : b' = 0 := by simpa using z
    subst hz
    have : (a' : Int) = Int.gcd a b := by rw [← h3, Int.gcd_zero_right]; omega
    show Q (.int a', 0) c
    rw [this]
    exact q
theorem settled_by_ok {r : R3} (h : okR r) (hW : 1073741825 < W) (q : ∀ d, 1 ≤ d → Q (r3T (setl r), d) c) : wF T mus pr W (n+2) 5 [r3T r] c Q := by
  obtain ⟨g0, g1, s0, s1, s2, s3, s4, s5⟩ := setl_ok h
  obtain ⟨a0, a1, c0, c1, b0, b1⟩ := h
  refine ⟨rfl, ?_⟩
  refine ⟨_, rfl, _, rfl, ?_⟩
  refine share2_ok (by omega) (by omega) (by omega) ?_
  have hg : (Int.gcd r.1 r.2.2 : Int) = gR r := rfl
  rw [hg]
  refine ⟨_, rfl, ⟨by omega, .inl (by omega)⟩, ?_⟩
  refine ⟨_, rfl, ⟨by omega, .inl (by omega)⟩, ?_⟩
  refine ⟨_, rfl, ⟨by omega, .inl (by omega)⟩, ?_⟩
  refine ⟨by show (setl r).1 ≠ 0; omega, ?_⟩
  refine ⟨_, rfl, ⟨by omega, .inl (by omega)⟩, ?_⟩
  refine ⟨by simp [sizeLine], ?_⟩
  exact q _ (by simp [dmin])
theorem has_by_ok {r : R3} (h : okR r) {x : Int} (x0 : 0 ≤ x) (x1 : x < 1048576) (hW : 1073741825 < W) (q : Q (.bl (hasR r x), 0) c) : wF T mus pr W (n+3) 6 [r3T r, .int x] c Q := by
  obtain ⟨g0, g1, s0, s1, s2, s3, s4, s5⟩ := setl_ok h
  refine ⟨rfl, ?_⟩
  refine settled_by_ok h hW fun d hd => ?_
  have l1 := log2_lt (k := 29) (i := (setl r).2.2) (by have := h.2.1; omega)
  have l2 := log2_lt (k := 29) (i := x) (by omega)
  refine ⟨by omega, ?_⟩
  refine ⟨by omega, ?_⟩
  exact q
theorem t_plain_ok {r : R3} (h : okR r) (hW : 1073741825 < W) (q : Q (r3T (setl r), 0) c) : wF T mus pr W (n+2) 18 [r3T r] c Q := by
  obtain ⟨g0, g1, s0, s1, s2, s3, s4, s5⟩ := setl_ok h
  obtain ⟨a0, a1, c0, c1, b0, b1⟩ := h
  refine ⟨rfl, ?_⟩
  refine share_ok (by omega) (by omega) (by omega) ?_
  have hg : (Int.gcd r.1 r.2.2 : Int) = gR r := rfl
  rw [hg]
  refine ⟨⟨by omega, .inl (by omega)⟩, ?_⟩
  refine ⟨⟨by omega, .inl (by omega)⟩, ?_⟩
  refine ⟨⟨by omega, .inl (by omega)⟩, ?_⟩
  refine ⟨by show (setl r).1 ≠ 0; omega, ?_⟩
  refine ⟨⟨by omega, .inl (by omega)⟩, ?_⟩
  refine ⟨by simp [sizeLine], ?_⟩
  exact q


def unlS (acc : List Int) (x : Int) : List Int := if acc.getLast? = some x then acc else acc ++ [x]
def unl (is : List Int) : List Int := (sortI is).foldl unlS []
theorem unl_len : ∀ (is acc : List Int), (is.foldl unlS acc).length ≤ acc.length + is.length
  | [], acc => Nat.le_refl _
  | x :: is, acc => by
    have := unl_len is (unlS acc x)
    have h2 : (unlS acc x).length ≤ acc.length + 1 := by
      unfold unlS
      split
      · omega
      · rw [List.length_append]
        exact Nat.le_refl _
    show (is.foldl unlS (unlS acc x)).length ≤ _
    rw [List.length_cons]
    omega
theorem insI_len (x : Int) : ∀ xs : List Int, (insI x xs).length = xs.length + 1
  | [] => rfl
  | y :: ys => by
    unfold insI
    split
    · rfl
    · rw [List.length_cons, insI_len x ys, List.length_cons]
theorem sortI_len : ∀ xs : List Int, (sortI xs).length = xs.length
  | [] => rfl
  | x :: xs => by
    show (insI x (sortI xs)).length = _
    rw [insI_len, sortI_len xs]
    rfl
theorem unlike_ok {is : List Int} (hl : is.length ≤ 10000) (q : Q (.lst ((unl is).map .int), 0) c) : wF T mus pr W (n+1) 15 [.lst (is.map .int)] c Q := by
  refine ⟨rfl, ?_⟩
  refine ⟨by simp [sizeLine], ?_⟩
  refine ⟨is, ints_tv _, ?_⟩
  refine wFor_idx (fun k x => ∃ (a2 : Option TD) (d : Nat), x = ⟨[some (.lst (is.map .int), 0), some (.lst ((((sortI is).take k).foldl unlS []).map .int), d + 1), a2], c⟩) ?_ ?_ _ ⟨none, 9, rfl⟩
  · rintro k t x D' ht ⟨a2, d, rfl⟩ n1 n2 n3 n4
    obtain ⟨u, hu, rfl⟩ := one_get ht
    obtain ⟨z, hz, rfl⟩ := map_get hu
    have hal := unl_len ((sortI is).take k) []
    have htl := List.length_take_le k (sortI is)
    have hsl := sortI_len is
    have hst : ((sortI is).take (k + 1)).foldl unlS [] = unlS (((sortI is).take k).foldl unlS []) z := by
      rw [List.take_succ, hz, List.foldl_append]
      rfl
    try rw [hst] at n1
    generalize ((sortI is).take k).foldl unlS [] = acc at hal n1
    have hk := get_lt hz
    have ha : acc.length ≤ 10000 := by
      rw [List.length_nil, Nat.zero_add] at hal
      omega
    refine ⟨by simp [sizeLine], _, _, pl_datT (pl_ints (is := acc) (by simp [sizeLine]; omega)) (by decide), dat_nil, ?_⟩
    rw [eqv_nil]
    rcases List.eq_nil_or_concat acc with rfl | ⟨pre, y, rfl⟩
    · refine ⟨by simp [sizeLine], ?_⟩
      refine ⟨by simp [sizeLine], ?_⟩
      dsimp only
      exact n1 _ ⟨some (.int z, 0), _, rfl⟩
    · refine br_f (by simp) ?_
      refine ⟨.int y, ?_, ?_⟩
      · rw [List.concat_eq_append, List.map_append]
        exact atI_last
      · rw [List.concat_eq_append] at n1 ha ⊢
        have hlast : (pre ++ [y]).getLast? = some y := List.getLast?_concat ..
        refine br_i (fun w => ?_) (fun w => ?_)
        · have w : y ≠ z := by simpa using w
          have e : unlS (pre ++ [y]) z = pre ++ [y] ++ [z] := by
            unfold unlS
            rw [hlast, if_neg (by simpa using w)]
          rw [e] at n1
          refine ⟨by simp [sizeLine], ?_⟩
          refine ⟨by simp [sizeLine] at ha ⊢; omega, ?_⟩
          dsimp only
          refine n1 _ ⟨some (.int z, 0), min d (10 - 1), ?_⟩
          rw [List.map_append (l₁ := pre ++ [y])]
          rfl
        · have w : y = z := by simpa using w
          have e : unlS (pre ++ [y]) z = pre ++ [y] := by
            unfold unlS
            rw [hlast, if_pos (by rw [w])]
          rw [e] at n1
          refine ⟨by simp [sizeLine], ?_⟩
          refine ⟨by simp [sizeLine] at ha ⊢; omega, ?_⟩
          dsimp only
          refine n1 _ ⟨some (.int z, 0), min d (10 - 1), ?_⟩
          rw [List.map_nil, List.append_nil]
          rfl
  · rintro x ⟨a2, d, rfl⟩
    rw [List.length_map, List.length_map, List.take_length]
    exact q


def restsL (r : R3) : List Int := sortI (unl ((List.range r.2.2.toNat).map fun (k : Nat) => ((r.1 * k + r.2.1).fdiv r.2.2).fmod r.1))
theorem t_rests_ok {r : R3} (h : okR r) (hc : r.2.2 ≤ 10000) (q : Q (.lst ((restsL r).map .int), 0) c) : wF T mus pr W (n+2) 17 [r3T r] c Q := by
  obtain ⟨a0, a1, c0, c1, b0, b1⟩ := h
  refine ⟨rfl, ?_⟩
  refine ⟨range_side1 (by omega) (by omega), ?_⟩
  refine comp_all (E := [some (r3T r, 0), some (.int r.1, 0), some (.int r.2.1, 0), some (.int r.2.2, 0), none]) (c := c) (β := Int) _ .int (fun (k : Nat) => ((r.1 * k + r.2.1).fdiv r.2.2).fmod r.1) (List.range r.2.2.toNat) (range0 _) (fun k mm K hK => ?_) (by simp [sizeLine]; omega) rfl rfl (fun d e he => ?_)
  · have hk := List.mem_range.mp mm
    have l1 := log2_lt (k := 29) (i := r.1) (by omega)
    have l2 := log2_lt (k := 29) (i := (k : Int)) (by omega)
    refine ⟨by omega, ?_⟩
    refine ⟨⟨by omega, .inl (by omega)⟩, ?_⟩
    refine ⟨by omega, ?_⟩
    exact hK _ _ rfl
  refine unlike_ok (by simp; omega) ?_
  refine ⟨_, ints_tv _, ?_⟩
  exact q
theorem is_row3 {a b e : TV} (q : Q (.bl true, 0) c) : wF T mus pr W (n+2) 2 [.tup [a, b, e], .int 3] c Q := ⟨rfl, is_list_t q⟩
theorem kept_rounded_ok {r : R3} (h : okR r) (q : Q (r3T r, 0) c) : wF T mus pr W (n+3) 3 [r3T r] c Q := by
  obtain ⟨a0, a1, c0, c1, b0, b1⟩ := h
  refine ⟨rfl, ?_⟩
  refine is_row3 ?_
  refine comp_all (E := [some (r3T r, 0), none]) (c := c) (β := Bool) (fun i : Int => TTv.one (.int i)) .bl (fun _ => true) [r.1, r.2.1, r.2.2] rfl (fun i mi K hK => ?_) (by simp [sizeLine]) rfl rfl (fun d e he => ?_)
  · refine is_whole ?_
    exact hK _ _ rfl
  rw [he]
  refine ⟨_, bls_tv [true, true, true], ?_⟩
  refine ⟨_, rfl, ?_⟩
  refine br_t (decide_eq_true (by omega)) ?_
  refine ⟨_, rfl, ?_⟩
  refine br_t (decide_eq_true (by omega)) ?_
  exact q
theorem pl_r3 (r : R3) : Pl 1 (r3T r) := pl_of (by unfold r3T; rfl)
theorem pl_r3s {rs : List R3} (h : rs.length ≤ sizeLine) : Pl 2 (.lst (rs.map r3T)) := .lst (by simpa using h) fun x hx => by
  obtain ⟨p, _, rfl⟩ := List.mem_map.mp hx
  exact pl_r3 p
theorem no_non3 (rs : List R3) : (((rs.map r3T).map dT).any fun z => PyData.eqv z (dT .non)) = false := by
  rw [any_dat, List.any_map, List.any_eq_false]
  intro r _
  simp [eqT, r3T, dT, PyData.eqv]
def stp (rs : List R3) : List Ld := rs.map fun r => (0, (setl r).1)
theorem stp_ok {rs : List R3} (h : ∀ r ∈ rs, okR r) : ladOk (stp rs) := fun l hl => by
  obtain ⟨r, hr, rfl⟩ := List.mem_map.mp hl
  exact ⟨Int.le_refl _, (setl_ok (h r hr)).2.2.1⟩
theorem parts_ok {rs : List R3} (h : ∀ r ∈ rs, okR r) (hl : rs.length ≤ 20) {w : Nat} (hw : rnd (stp rs) = (w : Nat)) (hw2 : w ≤ 100000) (hc : ∀ x : Nat, x < w → (rs.filter fun r => hasR r (x : Int)).length = 1) (hW : 1073741825 < W) (q : Q (.tup [.str "parts"], 0) c) : wF T mus pr W (n+4) 8 [.lst (rs.map r3T)] c Q := by
  have ok := stp_ok h
  have hp : 0 < rnd (stp rs) := rndF_pos ok (by decide)
  refine ⟨rfl, ?_⟩
  refine is_list_l ?_
  refine comp_all (E := [some (.lst (rs.map r3T), 0), none, none, none, none, none]) (c := c) (β := R3) _ r3T id rs (ones_map _ _) (fun r m K hK => ?_) (by simp [sizeLine]; omega) rfl rfl (fun d e he => ?_)
  · refine kept_rounded_ok (h r m) ?_
    exact hK _ _ rfl
  rw [he, List.map_id]
  refine ⟨_, _, dat_lst (pl_r3s (by simp [sizeLine]; omega)) (by decide), pl_datT (m := 0) .non (by decide), ?_⟩
  refine br_f (no_non3 rs) ?_
  refine wFor_idx (fun k x => ∃ (a2 a4 : Option TD), x = ⟨[some (.lst (rs.map r3T), 0), some (.lst (rs.map r3T), 0), a2, some (.int (rnd ((stp rs).take k)), 0), a4, none], c⟩) ?_ ?_ _ ⟨none, none, rfl⟩
  · rintro k t x D' ht ⟨a2, a4, rfl⟩ n1 n2 n3 n4
    obtain ⟨u, hu, rfl⟩ := one_get ht
    obtain ⟨r, hk, rfl⟩ := map_get hu
    have hr := h r (get_mem hk)
    obtain ⟨g0, g1, s0, s1, s2, s3, s4, s5⟩ := setl_ok hr
    have hk2 : (stp rs)[k]? = some (0, (setl r).1) := by unfold stp; rw [List.getElem?_map, hk]; rfl
    have h1 := Int.le_of_dvd hp (rnd_dvd (Int.dvd_refl _) k)
    have hpk : 0 < rnd ((stp rs).take k) := rndF_pos (fun l m => ok l (List.mem_of_mem_take m)) (by decide)
    have hg : 0 < (Int.gcd (rnd ((stp rs).take k)) (setl r).1 : Int) := by have := Int.gcd_pos_of_ne_zero_left (setl r).1 (by omega : rnd ((stp rs).take k) ≠ 0); omega
    have hgl : (Int.gcd (rnd ((stp rs).take k)) (setl r).1 : Int) ≤ rnd ((stp rs).take k) := Int.le_of_dvd hpk (Int.gcd_dvd_left ..)
    have hq : (rnd ((stp rs).take k)).fdiv (Int.gcd (rnd ((stp rs).take k)) (setl r).1) = rnd ((stp rs).take k) / (Int.gcd (rnd ((stp rs).take k)) (setl r).1) := Int.fdiv_eq_ediv_of_nonneg _ (by omega)
    have hb := hr.2.1
    refine settled_by_ok hr hW fun d hd => ?_
    refine ⟨_, rfl, ?_⟩
    refine share2_ok (by omega) (by omega) (by omega) ?_
    refine ⟨⟨by omega, .inl (by omega)⟩, ?_⟩
    refine ⟨?_, ?_⟩
    · have h1 : ((rnd ((stp rs).take k)).fdiv (Int.gcd (rnd ((stp rs).take k)) (setl r).1)).natAbs.log2 ≤ 29 := log2_lt (by
        have : rnd ((stp rs).take k) / (Int.gcd (rnd ((stp rs).take k)) (setl r).1 : Int) ≤ rnd ((stp rs).take k) := Int.ediv_le_self _ (by omega)
        have : 0 ≤ rnd ((stp rs).take k) / (Int.gcd (rnd ((stp rs).take k)) (setl r).1 : Int) := Int.ediv_nonneg (by omega) (by omega)
        rw [hq]; omega)
      have h2 : (setl r).1.natAbs.log2 ≤ 29 := log2_lt (by omega)
      omega
    refine n1 _ ⟨some (r3T r, 0), some (.int (setl r).1, 0), ?_⟩
    rw [rnd_take hk2, ← lcm_eq hpk s0, ← hq]
    rfl
  · rintro x ⟨a2, a4, rfl⟩
    have hlen : (stp rs).take ((rs.map r3T).map TTv.one).length = stp rs := by
      rw [List.length_map, List.length_map]
      unfold stp
      rw [← List.length_map (fun r : R3 => ((0 : Int), (setl r).1)), List.take_length]
    rw [hlen, hw]
    refine ⟨range_side1 (by omega) (by omega), ?_⟩
    rw [Int.toNat_natCast]
    refine wFor_idx (fun k x => ∃ (a2 a5 : Option TD), x = ⟨[some (.lst (rs.map r3T), 0), some (.lst (rs.map r3T), 0), a2, some (.int (w : Nat), 0), a4, a5], c⟩) ?_ ?_ _ ⟨a2, none, rfl⟩
    · rintro k t x D' ht ⟨a2, a5, rfl⟩ n1 n2 n3 n4
      obtain ⟨hk, rfl⟩ := rangeTT_get ht
      rw [Int.zero_add]
      refine comp_if (E := [some (.lst (rs.map r3T), 0), some (.lst (rs.map r3T), 0), none, some (.int (w : Nat), 0), a4, some (.int (k : Nat), 0)]) (c := c) (β := R3) _ r3T (fun r => hasR r (k : Nat)) id rs (ones_map _ _) (fun r m K k1 k0 => ?_) (by simp [sizeLine]; omega) rfl rfl (fun d e he => ?_)
      · refine has_by_ok (h r m) (by omega) (by omega) hW ?_
        refine br_i (fun y => ?_) (fun y => ?_)
        · exact k1 _ _ y rfl
        · exact k0 _ y rfl
      · rw [he, List.map_id]
        refine br_f ?_ ?_
        · have := hc k hk
          rw [List.length_map, this]
          rfl
        · exact n1 _ ⟨a2, some (.int (k : Nat), 0), rfl⟩
    · rintro x ⟨a2, a5, rfl⟩
      refine ⟨by simp [sizeLine], ?_⟩
      exact q


def raw (m j : Nat) : R3 := ((2 : Int) ^ m - 1, 2 ^ (m - (1 + j)) - 2 ^ (m - 1), 2 ^ (m - (1 + j)))
def frL (m : Nat) : List R3 := (List.range m).map fun j => setl (raw m j)
theorem raw_all : ∀ m, m < 6 → ∀ j, j < m → (0 < (raw m j).1 ∧ (raw m j).1 < 1048576 ∧ 0 < (raw m j).2.2 ∧ (raw m j).2.2 ≤ (raw m j).1 ∧ -1048576 < (raw m j).2.1 ∧ (raw m j).2.1 < 1048576) ∧ (1 * 2 ^ m - 1, (1 * 2 ^ m) / 2 ^ (1 + j) - (1 * 2 ^ m) / 2 ^ 1, (1 * 2 ^ m) / 2 ^ (1 + j)) = raw m j := by decide +kernel
theorem raw_ok {m j : Nat} (h : m < 6) (hj : j < m) : okR (raw m j) := (raw_all m h j hj).1
theorem fraenkel_rows_ok {m : Nat} (m1 : 1 ≤ m) (m5 : m ≤ 5) (hW : 1073741825 < W) (q : ∀ d, 2 ≤ d → Q (.lst ((frL m).map r3T), d) c) : wF T mus pr W (n+3) 7 [.int m] c Q := by
  refine ⟨rfl, ?_⟩
  refine is_whole ?_
  refine br_t (decide_eq_true (by omega)) ?_
  refine br_f (b := !decide ((m : Int) ≤ 5)) (by rw [decide_eq_true (by omega : (m : Int) ≤ 5)]; rfl) ?_
  refine ⟨⟨by omega, by omega, by decide⟩, ?_⟩
  refine ⟨range_side (by omega) (by omega) (by omega) (by omega), ?_⟩
  have eN : ((m : Int) + 1 - 1).toNat = m := by omega
  rw [eN]
  refine comp_allD (E := [some (.int m, 0), some (.int (1 * 2 ^ (m : Int).toNat), 0), none]) (c := c) (β := R3) 1 _ r3T (fun j => setl (raw m j)) (List.range m) (range_from 1 m) (by decide) (fun j mj K hK => ?_) (by simp [sizeLine]; omega) rfl rfl (fun d e hd he => ?_)
  · have hj := List.mem_range.mp mj
    have e2 := (raw_all m (by omega) j hj).2
    refine ⟨by omega, ?_⟩
    refine ⟨by omega, ?_⟩
    refine ⟨by omega, ?_⟩
    refine ⟨by simp [sizeLine], ?_⟩
    have key := settled_by_ok (n := n) (W := W) (c := c) (Q := fun u c => K (some u) ⟨[some (.int m, 0), some (.int (1 * 2 ^ (m : Int).toNat), 0), some (.int ((1 + j : Nat) : Int), 0)], c⟩) (raw_ok (by omega) hj) hW fun d hd => hK d _ hd rfl
    rw [← e2] at key
    exact key
  · exact q _ (by omega)


def halL (i : Nat) : List Int := (List.range (i + 1)).map fun j => (2 : Int) ^ j
theorem halL_succ (i : Nat) : halL (i + 1) = halL i ++ [2 * 2 ^ i] := by
  unfold halL
  rw [List.range_succ, List.map_append, List.map_singleton]
  congr 2
  rw [Int.pow_succ, Int.mul_comm]
theorem halL_last (i : Nat) : ∃ pre, halL i = pre ++ [(2 : Int) ^ i] := ⟨_, by unfold halL; rw [List.range_succ, List.map_append, List.map_singleton]⟩
theorem halL_get {m i : Nat} (h : i ≤ m) : (halL m)[i]? = some ((2 : Int) ^ i) := by
  unfold halL
  rw [List.getElem?_map, List.getElem?_range (by omega)]
  rfl
theorem pow_small {i : Nat} (h : i ≤ 5) : (1 : Int) ≤ 2 ^ i ∧ (2 : Int) ^ i ≤ 32 := by
  have : ∀ i : Nat, i < 6 → (1 : Int) ≤ 2 ^ i ∧ (2 : Int) ^ i ≤ 32 := by decide +kernel
  exact this i (by omega)


theorem fr_all : ∀ m, m < 6 → (∀ r ∈ frL m, (0 < r.1 ∧ r.1 < 1048576 ∧ 0 < r.2.2 ∧ r.2.2 ≤ r.1 ∧ -1048576 < r.2.1 ∧ r.2.1 < 1048576) ∧ r.2.2 ≤ 10000) ∧ (∀ k, k < 6 → (((frL m).take k).flatMap restsL).length ≤ 100) ∧ ((0 < m → sortI ((frL m).flatMap restsL) = (List.range (2 ^ m - 1)).map fun k => ((0 : Int) + (k : Nat))) ∧ (unl ((frL m).map fun r => r.2.2)).length = m) := by decide +kernel
theorem fr_parts : ∀ m, m < 6 → 0 < m → rnd (stp (frL m)) = ((2 ^ m - 1 : Nat) : Int) ∧ ∀ x, x < 2 ^ m - 1 → ((frL m).filter fun r => hasR r ((x : Nat) : Int)).length = 1 := by decide +kernel
theorem room_r3 : ∀ rs : List R3, roomL (rs.map r3T)
  | [] => trivial
  | r :: rs => ⟨⟨trivial, trivial, trivial, trivial⟩, room_r3 rs⟩
def lrest : List S := b19.drop 6
theorem fin_ok {m d : Nat} (m1 : 1 ≤ m) (m5 : m ≤ 5) (hW : 1073741825 < W) :
    wSs (ctF T mus pr W (n+9) noT) W [3] lrest ⟨[some (.scr, 0), some (.stm, 0), some (.int (m : Nat), 0), some (.lst ((halL m).map .int), d + 1), some (.int ((2 : Int) ^ m - 1), 0), some (.lst ((frL m).map r3T), 0), none, none, none, none, none, none], some 999999999⟩ (kst false fun u _ => u.1 = .bl true) := by
  obtain ⟨f1, f2, f3, f4⟩ := fr_all m (by omega)
  have f3 := f3 (by omega)
  obtain ⟨f5, f6⟩ := fr_parts m (by omega) (by omega)
  obtain ⟨p1, p2⟩ := pow_small (i := m) (by omega)
  have fl : (frL m).length = m := by unfold frL; rw [List.length_map, List.length_range]
  have pl : Pl 2 (.lst ((frL m).map r3T)) := pl_r3s (by rw [fl]; simp [sizeLine]; omega)
  refine fun u e => twice_pl (N := n + 7) (m := 2) (R := fun c' => c' = some 999999999) rfl rfl rfl rfl rfl rfl rfl rfl rfl rfl pl (by decide) (by omega) ⟨by simp [sizeLine]; omega, room_r3 _⟩ (fun c Q hQ => ?_) (fun Q hQ => ?_) ?_
  · refine fraenkel_rows_ok m1 m5 hW fun d hd => ?_
    exact hQ d _ (Nat.le_trans (hgt_pl pl) hd) rfl
  · refine fraenkel_rows_ok m1 m5 hW fun d hd => ?_
    exact hQ d _ (Nat.le_trans (hgt_pl pl) hd) rfl
  rintro c' rfl
  refine ⟨by simp [sizeLine], ?_⟩
  refine wFor_idx (fun k x => ∃ (a8 : Option TD), x = ⟨[some (.scr, 0), some (.stm, 0), some (.int (m : Nat), 0), some (.lst ((halL m).map .int), d + 1), some (.int ((2 : Int) ^ m - 1), 0), some (.lst ((frL m).map r3T), 0), none, some (.lst ((((frL m).take k).flatMap restsL).map .int), 0), a8, none, none, none], some 999999999⟩) ?_ ?_ _ ⟨none, rfl⟩
  · rintro k t x D' ht ⟨a8, rfl⟩ n1 n2 n3 n4
    obtain ⟨u, hu, rfl⟩ := one_get ht
    obtain ⟨r, hk, rfl⟩ := map_get hu
    have hkl := get_lt hk
    obtain ⟨o1, o2⟩ := f1 r (get_mem hk)
    have hst : ((frL m).take (k + 1)).flatMap restsL = ((frL m).take k).flatMap restsL ++ restsL r := by
      rw [List.take_succ, hk, List.flatMap_append]
      simp
    have g1 := f2 (k + 1) (by omega)
    refine t_rests_ok o1 o2 ?_
    refine ⟨?_, ?_⟩
    · rw [hst, List.length_append] at g1
      rw [List.length_map, List.length_map]
      simp only [sizeLine]
      omega
    dsimp only
    refine n1 _ ⟨some (r3T r, 0), ?_⟩
    rw [hst, List.map_append]
    rfl
  · rintro x ⟨a8, rfl⟩
    have g2 := f2 m (by omega)
    have ht : (frL m).take ((List.map TTv.one (List.map r3T (frL m))).length) = frL m := by
      rw [List.length_map, List.length_map, List.take_length]
    have ht2 : (frL m).take m = frL m := List.take_of_length_le (by omega)
    rw [ht]
    rw [ht2] at g2
    refine ⟨_, ints_tv _, ?_⟩
    obtain ⟨t1, t2⟩ := (show ∀ m : Nat, m < 6 → ((2 : Int) ^ m - 1).toNat = 2 ^ m - 1 ∧ 2 ^ m ≤ 32 by decide +kernel) m (by omega)
    refine ⟨⟨by omega, by omega⟩, ?_⟩
    have e1 : rgT 0 ((2 : Int) ^ m - 1).toNat = (((List.range (2 ^ m - 1)).map fun k => ((0 : Int) + (k : Nat)))).map TV.int := by
      rw [t1, List.map_map]
      rfl
    rw [e1, f3]
    refine ⟨_, _, pl_datT (pl_ints (by simp [sizeLine]; omega)) (by decide), pl_datT (pl_ints (by simp [sizeLine]; omega)) (by decide), ?_⟩
    refine br_f ?_ ?_
    · show (!(eqT _ _)) = false
      rw [eqT_ints]
      simp
    refine copied_ok 2 pl fun d2 hd2 => ?_
    refine parts_ok (fun r hr => (f1 r hr).1) (by omega) f5 (by omega) f6 hW ?_
    refine ⟨by simp [sizeLine], ?_⟩
    have plP : Pl 1 (.tup [.str "parts"]) := pl_of (by decide +kernel)
    have eP : PyData.eqv (dT (.tup [.str "parts"])) (dT (.tup [.str "parts"])) = true := eqT_t (.tup fun x hx => by rw [List.mem_singleton.mp hx]; exact .str)
    obtain ⟨dd, hdd, hee⟩ : ∃ dd, datT (.tup [.str "parts"]) dd ∧ PyData.eqv dd dd = true := ⟨_, pl_datT plP (by decide), eP⟩
    refine ⟨dd, dd, hdd, hdd, ?_⟩
    rw [hee]
    refine comp_all (E := [some (.scr, 0), some (.stm, 0), some (.int (m : Nat), 0), some (.lst ((halL m).map .int), d + 1), some (.int ((2 : Int) ^ m - 1), 0), some (.lst ((frL m).map r3T), 0), none, some (.lst (((frL m).flatMap restsL).map .int), 0), a8, none, none, none]) (c := some 999999999) (β := Int) _ .int (fun r => r.2.2) (frL m) (ones_map r3T _) (fun r mr K hK => ?_) (by simp [sizeLine]; omega) rfl rfl (fun d3 e he => ?_)
    · exact hK _ _ rfl
    rw [he]
    refine unlike_ok (is := (frL m).map fun r => r.2.2) (by rw [List.length_map]; omega) ?_
    refine br_f ?_ ?_
    · show (!(decide (((((unl ((frL m).map fun r => r.2.2)).map TV.int).length : Nat) : Int) = (m : Int)))) = false
      rw [List.length_map, f4]
      simp
    have v1 : (frL 1).map r3T = [r3T (1, 0, 1)] := congrArg (List.map r3T) (show frL 1 = [(1, 0, 1)] by decide +kernel)
    have v2 : (frL 2).map r3T = [r3T (3, 0, 2), r3T (3, 2, 1)] := congrArg (List.map r3T) (show frL 2 = [(3, 0, 2), (3, 2, 1)] by decide +kernel)
    have v3 : (frL 3).map r3T = [r3T (7, 0, 4), r3T (7, 5, 2), r3T (7, 4, 1)] := congrArg (List.map r3T) (show frL 3 = [(7, 0, 4), (7, 5, 2), (7, 4, 1)] by decide +kernel)
    refine fraenkel_rows_ok (m := 1) (by decide) (by decide) hW fun d4 _ => ?_
    rw [v1]
    refine fraenkel_rows_ok (m := 2) (by decide) (by decide) hW fun d5 _ => ?_
    rw [v2]
    refine fraenkel_rows_ok (m := 3) (by decide) (by decide) hW fun d6 _ => ?_
    rw [v3]
    refine ⟨by simp [sizeLine], ?_⟩
    iterate 10 (refine ⟨by simp [sizeLine], ?_⟩)
    refine same_ok (t := .lst [.lst [r3T (1, 0, 1)], .lst [r3T (3, 0, 2), r3T (3, 2, 1)], .lst [r3T (7, 0, 4), r3T (7, 5, 2), r3T (7, 4, 1)]]) 3 (pl_of (by decide +kernel)) ?_
    rfl


theorem law_ok (hW : 1073741825 < W) : wF T mus pr W (n+10) 19 [.scr] none fun u _ => u.1 = .bl true := by
  refine ⟨rfl, ?_⟩
  refine ⟨⟨by decide, by decide⟩, fun a a0 a1 => ?_⟩
  refine ⟨by simp [sizeLine], ?_⟩
  obtain ⟨m, hm⟩ : ∃ m : Nat, 1 + a = (m : Int) := ⟨(1 + a).toNat, by omega⟩
  have m1 : 1 ≤ m := by omega
  have m5 : m ≤ 5 := by omega
  rw [hm]
  refine wWhl_inv (fun mm x => ∃ i d : Nat, i ≤ m ∧ mm = m - i ∧ x = ⟨[some (.scr, 0), some (.stm, 0), some (.int (m : Nat), 0), some (.lst ((halL i).map .int), d + 1), none, none, none, none, none, none, none, none], some 999999999⟩) ?_ W m _ (by omega) ⟨0, 9, by omega, rfl, rfl⟩
  rintro mm x D' ⟨i, d, i1, rfl, rfl⟩ k1 k2 k3 k4
  have hlen : (((halL i).map TV.int).length : Int) = (i : Int) + 1 := by unfold halL; simp
  refine br_i (fun z => ?_) (fun z => ?_)
  · have z := of_decide_eq_true z
    rw [hlen] at z
    obtain ⟨pre, hpre⟩ := halL_last i
    obtain ⟨p1, p2⟩ := pow_small (i := i) (by omega)
    have l2 := log2_lt (k := 29) (i := (2 : Int) ^ i) (by omega)
    have l1 : (2 : Int).natAbs.log2 ≤ 29 := by decide +kernel
    refine ⟨.int (2 ^ i), ?_, ?_⟩
    · rw [hpre, List.map_append]
      exact atI_last
    refine ⟨by omega, ?_⟩
    refine ⟨by simp [halL, sizeLine]; omega, ?_⟩
    refine k1 _ _ (by omega) ⟨i + 1, min d 9, by omega, rfl, ?_⟩
    rw [halL_succ, List.map_append]
    rfl
  · have z := of_decide_eq_false z
    rw [hlen] at z
    have e : i = m := by omega
    subst e
    refine ⟨_, atI_of (halL_get (Nat.le_refl i)), ?_⟩
    refine ⟨range_side (by omega) (by omega) (by omega) (by omega), ?_⟩
    have eN : ((i : Int) + 1 - 1).toNat = i := by omega
    rw [eN]
    refine comp_all (E := [some (.scr, 0), some (.stm, 0), some (.int (i : Nat), 0), some (.lst ((halL i).map .int), d + 1), some (.int ((2 : Int) ^ i - 1), 0), none, none, none, none, none, none, none]) (c := some 999999999) (β := R3) _ r3T (fun j => setl (raw i j)) (List.range i) (range_from 1 i) (fun j mj K hK => ?_) (by simp [sizeLine]; omega) rfl rfl (fun d2 e he => ?_)
    · have hj := List.mem_range.mp mj
      have h1 : (i : Int) - ((1 + j : Nat) : Int) = ((i - (1 + j) : Nat) : Int) := by omega
      have h2 : (i : Int) - 1 = ((i - 1 : Nat) : Int) := by omega
      refine ⟨.int (2 ^ (i - (1 + j))), by rw [h1]; exact atI_of (halL_get (by omega)), ?_⟩
      refine ⟨.int (2 ^ (i - 1)), by rw [h2]; exact atI_of (halL_get (by omega)), ?_⟩
      refine ⟨.int (2 ^ (i - (1 + j))), by rw [h1]; exact atI_of (halL_get (by omega)), ?_⟩
      refine ⟨by simp [sizeLine], ?_⟩
      refine t_plain_ok (r := raw i j) (raw_ok (by omega) hj) hW ?_
      exact hK _ _ rfl
    · rw [he]
      dsimp only
      exact fin_ok m1 m5 hW

end K42
namespace K42
open PySem EV
theorem pr_s : ∀ k, pr k = some .stream → T[k]? = some ⟨1, 1, bStream⟩ := by
  intro k h
  unfold pr at h
  split at h
  · rename_i z
    subst z
    rfl
  · split at h
    · cases h
    · first
      | (split at h <;> cases h; done)
      | cases h
theorem pr_d : ∀ k, pr k = some .draw → T[k]? = some ⟨2, 5, bDraw⟩ := by
  intro k h
  unfold pr at h
  split at h
  · cases h
  · split at h
    · rename_i z
      subst z
      rfl
    · first
      | (split at h <;> cases h; done)
      | cases h
theorem pr_p : ∀ k, pr k = some .spoil → T[k]? = some ⟨1, 2, bSpoil k⟩ := by
  intro k h
  unfold pr at h
  split at h
  · cases h
  · split at h
    · cases h
    · first
      | (cases h; done)
      | (split at h
         · rename_i z
           subst z
           rfl
         · cases h)
end K42
namespace K42
open PySem PySem.Spec PyProof.Rows L2 EV
def tp (i : Nat) : Stmt := PySem.Challenge.pw_stepcovers_k42_whole_fraenkels_rows.main.body.getD i (.Pass ⟨0, 0, 0, 0⟩)
def d0 : Dn := ⟨"is_list", ["thing"], [], 0⟩
def d1 : Dn := ⟨"is_whole", ["thing"], [], 0⟩
def d2 : Dn := ⟨"is_row", ["thing", "many"], [], 0⟩
def d3 : Dn := ⟨"kept_rounded", ["thing"], [], 0⟩
def d4 : Dn := ⟨"share_of_two", ["one", "other"], [], 0⟩
def d5 : Dn := ⟨"settled_by", ["row"], [], 0⟩
def d6 : Dn := ⟨"has_by", ["row", "number"], [], 0⟩
def d7 : Dn := ⟨"fraenkel_rows", ["many"], [(0, ["many"], [0])], 0⟩
def d8 : Dn := ⟨"parts_or_number", ["rows"], [], 0⟩
def d9 : Dn := ⟨"_law_stream", ["script"], [], 0⟩
def d10 : Dn := ⟨"_law_draw", ["stream", "many"], [], 0⟩
def d11 : Dn := ⟨"_law_same", ["found", "due"], [], 0⟩
def d12 : Dn := ⟨"_law_spoilt", ["thing"], [], 0⟩
def d13 : Dn := ⟨"_law_copied", ["thing"], [], 0⟩
def d14 : Dn := ⟨"_law_twice", ["due", "first", "other"], [], 1⟩
def d15 : Dn := ⟨"_law_unlike", ["things"], [], 0⟩
def d16 : Dn := ⟨"_law_t_share", ["one", "other"], [], 0⟩
def d17 : Dn := ⟨"_law_t_rests", ["rounded"], [], 0⟩
def d18 : Dn := ⟨"_law_t_plain", ["rounded"], [], 0⟩
def d19 : Dn := ⟨"law", ["script"], [], 2⟩
def Ds : List Dn := [d0, d1, d2, d3, d4, d5, d6, d7, d8, d9, d10, d11, d12, d13, d14, d15, d16, d17, d18, d19]
def tb : List (Addr × Str) := [(188, d19.nm ++ ".<locals>." ++ "<lambda>")]
theorem c0 : chkSs Ds ["thing"] d0.mode (defScope (tp 1)) b0 (defBody (tp 1)) = true := by decide +kernel
theorem s0 : FnScope ["thing"] d0.ps (defScope (tp 1)) := ⟨rfl, rfl, rfl, by decide +kernel, rfl, by decide +kernel, by decide +kernel⟩
theorem c1 : chkSs Ds ["thing"] d1.mode (defScope (tp 2)) b1 (defBody (tp 2)) = true := by decide +kernel
theorem s1 : FnScope ["thing"] d1.ps (defScope (tp 2)) := ⟨rfl, rfl, rfl, by decide +kernel, rfl, by decide +kernel, by decide +kernel⟩
theorem c2 : chkSs Ds ["thing", "many"] d2.mode (defScope (tp 3)) b2 (defBody (tp 3)) = true := by decide +kernel
theorem s2 : FnScope ["thing", "many"] d2.ps (defScope (tp 3)) := ⟨rfl, rfl, rfl, by decide +kernel, rfl, by decide +kernel, by decide +kernel⟩
theorem c3 : chkSs Ds ["thing", "one"] d3.mode (defScope (tp 9)) b3 (defBody (tp 9)) = true := by decide +kernel
theorem s3 : FnScope ["thing", "one"] d3.ps (defScope (tp 9)) := ⟨rfl, rfl, rfl, by decide +kernel, rfl, by decide +kernel, by decide +kernel⟩
theorem c4 : chkSs Ds ["one", "other"] d4.mode (defScope (tp 10)) b4 (defBody (tp 10)) = true := by decide +kernel
theorem s4 : FnScope ["one", "other"] d4.ps (defScope (tp 10)) := ⟨rfl, rfl, rfl, by decide +kernel, rfl, by decide +kernel, by decide +kernel⟩
theorem c5 : chkSs Ds ["row", "share"] d5.mode (defScope (tp 11)) b5 (defBody (tp 11)) = true := by decide +kernel
theorem s5 : FnScope ["row", "share"] d5.ps (defScope (tp 11)) := ⟨rfl, rfl, rfl, by decide +kernel, rfl, by decide +kernel, by decide +kernel⟩
theorem c6 : chkSs Ds ["row", "number", "a", "b", "c"] d6.mode (defScope (tp 12)) b6 (defBody (tp 12)) = true := by decide +kernel
theorem s6 : FnScope ["row", "number", "a", "b", "c"] d6.ps (defScope (tp 12)) := ⟨rfl, rfl, rfl, by decide +kernel, rfl, by decide +kernel, by decide +kernel⟩
theorem c7 : chkSs Ds ["many", "whole", "k"] d7.mode (defScope (tp 13)) b7 (defBody (tp 13)) = true := by decide +kernel
theorem s7 : FnScope ["many", "whole", "k"] d7.ps (defScope (tp 13)) := ⟨rfl, rfl, rfl, by decide +kernel, rfl, by decide +kernel, by decide +kernel⟩
theorem c8 : chkSs Ds ["rows", "kept", "row", "size", "step", "number"] d8.mode (defScope (tp 15)) b8 (defBody (tp 15)) = true := by decide +kernel
theorem s8 : FnScope ["rows", "kept", "row", "size", "step", "number"] d8.ps (defScope (tp 15)) := ⟨rfl, rfl, rfl, by decide +kernel, rfl, by decide +kernel, by decide +kernel⟩
theorem c9 : chkSs Ds ["script"] d9.mode (defScope (tp 17)) b9 (defBody (tp 17)) = true := by decide +kernel
theorem s9 : FnScope ["script"] d9.ps (defScope (tp 17)) := ⟨rfl, rfl, rfl, by decide +kernel, rfl, by decide +kernel, by decide +kernel⟩
theorem c10 : chkSs Ds ["stream", "many", "cell", "digit", "mixed"] d10.mode (defScope (tp 18)) b10 (defBody (tp 18)) = true := by decide +kernel
theorem s10 : FnScope ["stream", "many", "cell", "digit", "mixed"] d10.ps (defScope (tp 18)) := ⟨rfl, rfl, rfl, by decide +kernel, rfl, by decide +kernel, by decide +kernel⟩
theorem c11 : chkSs Ds ["found", "due", "mine", "theirs"] d11.mode (defScope (tp 19)) b11 (defBody (tp 19)) = true := by decide +kernel
theorem s11 : FnScope ["found", "due", "mine", "theirs"] d11.ps (defScope (tp 19)) := ⟨rfl, rfl, rfl, by decide +kernel, rfl, by decide +kernel, by decide +kernel⟩
theorem c12 : chkSs Ds ["thing", "part"] d12.mode (defScope (tp 20)) b12 (defBody (tp 20)) = true := by decide +kernel
theorem s12 : FnScope ["thing", "part"] d12.ps (defScope (tp 20)) := ⟨rfl, rfl, rfl, by decide +kernel, rfl, by decide +kernel, by decide +kernel⟩
theorem c13 : chkSs Ds ["thing", "key", "some", "one"] d13.mode (defScope (tp 21)) b13 (defBody (tp 21)) = true := by decide +kernel
theorem s13 : FnScope ["thing", "key", "some", "one"] d13.ps (defScope (tp 21)) := ⟨rfl, rfl, rfl, by decide +kernel, rfl, by decide +kernel, by decide +kernel⟩
theorem c14 : chkSs Ds ["due", "first", "other", "found", "spoilt"] d14.mode (defScope (tp 22)) b14 (defBody (tp 22)) = true := by decide +kernel
theorem s14 : FnScope ["due", "first", "other", "found", "spoilt"] d14.ps (defScope (tp 22)) := ⟨rfl, rfl, rfl, by decide +kernel, rfl, by decide +kernel, by decide +kernel⟩
theorem c15 : chkSs Ds ["things", "found", "one"] d15.mode (defScope (tp 23)) b15 (defBody (tp 23)) = true := by decide +kernel
theorem s15 : FnScope ["things", "found", "one"] d15.ps (defScope (tp 23)) := ⟨rfl, rfl, rfl, by decide +kernel, rfl, by decide +kernel, by decide +kernel⟩
theorem c16 : chkSs Ds ["one", "other"] d16.mode (defScope (tp 24)) b16 (defBody (tp 24)) = true := by decide +kernel
theorem s16 : FnScope ["one", "other"] d16.ps (defScope (tp 24)) := ⟨rfl, rfl, rfl, by decide +kernel, rfl, by decide +kernel, by decide +kernel⟩
theorem c17 : chkSs Ds ["rounded", "a", "b", "c", "n"] d17.mode (defScope (tp 25)) b17 (defBody (tp 25)) = true := by decide +kernel
theorem s17 : FnScope ["rounded", "a", "b", "c", "n"] d17.ps (defScope (tp 25)) := ⟨rfl, rfl, rfl, by decide +kernel, rfl, by decide +kernel, by decide +kernel⟩
theorem c18 : chkSs Ds ["rounded", "a", "b", "c", "share"] d18.mode (defScope (tp 26)) b18 (defBody (tp 26)) = true := by decide +kernel
theorem s18 : FnScope ["rounded", "a", "b", "c", "share"] d18.ps (defScope (tp 26)) := ⟨rfl, rfl, rfl, by decide +kernel, rfl, by decide +kernel, by decide +kernel⟩
theorem c19 : chkSs Ds ["script", "stream", "many", "halves", "whole", "due", "k", "had", "row", "a", "b", "c"] d19.mode (defScope (tp 27)) b19 (defBody (tp 27)) = true := by decide +kernel
theorem s19 : FnScope ["script", "stream", "many", "halves", "whole", "due", "k", "had", "row", "a", "b", "c"] d19.ps (defScope (tp 27)) := ⟨rfl, rfl, rfl, by decide +kernel, rfl, by decide +kernel, by decide +kernel⟩
theorem e0 {K : PySem.W.Frag} {h : Heap} {mg : Str → Option Value} (X : K.In h) (Gn : h.Ns mainGlobals mg) {cs : List (Addr × Addr)} {cdv : Value} {f : Addr} {oc : Value} {od an : Option Addr} {osl : Array (Option Value)} {kV doc pm ct : Value}
    (a : PySem.W.nsIn K mainGlobals "is_list" = some (some (.ref f))) (l : K.lookup f = some ⟨oc, od, .func (PySem.W.fnOf "is_list" "is_list" (defArgs (tp 1)) (defBody (tp 1)) (defScope (tp 1)) .none kV doc pm an (cdv) ct), osl⟩) (c : PySem.W.codeIn K (cdv) "is_list" = true) (k : PySem.W.keepIn K (.ref f) = true) :
    DefOk K mg tb cs Ds d0 ⟨1, 1, b0⟩ :=
  EV.def_mk X Gn (d := d0) (N := ["thing"]) a l c k s0 c0 rfl rfl (fun us hl => match us, hl with | [_], _ => rfl) (fun np ks pm m => nomatch m) (fun z => absurd z (by decide))
theorem e1 {K : PySem.W.Frag} {h : Heap} {mg : Str → Option Value} (X : K.In h) (Gn : h.Ns mainGlobals mg) {cs : List (Addr × Addr)} {cdv : Value} {f : Addr} {oc : Value} {od an : Option Addr} {osl : Array (Option Value)} {kV doc pm ct : Value}
    (a : PySem.W.nsIn K mainGlobals "is_whole" = some (some (.ref f))) (l : K.lookup f = some ⟨oc, od, .func (PySem.W.fnOf "is_whole" "is_whole" (defArgs (tp 2)) (defBody (tp 2)) (defScope (tp 2)) .none kV doc pm an (cdv) ct), osl⟩) (c : PySem.W.codeIn K (cdv) "is_whole" = true) (k : PySem.W.keepIn K (.ref f) = true) :
    DefOk K mg tb cs Ds d1 ⟨1, 1, b1⟩ :=
  EV.def_mk X Gn (d := d1) (N := ["thing"]) a l c k s1 c1 rfl rfl (fun us hl => match us, hl with | [_], _ => rfl) (fun np ks pm m => nomatch m) (fun z => absurd z (by decide))
theorem e2 {K : PySem.W.Frag} {h : Heap} {mg : Str → Option Value} (X : K.In h) (Gn : h.Ns mainGlobals mg) {cs : List (Addr × Addr)} {cdv : Value} {f : Addr} {oc : Value} {od an : Option Addr} {osl : Array (Option Value)} {kV doc pm ct : Value}
    (a : PySem.W.nsIn K mainGlobals "is_row" = some (some (.ref f))) (l : K.lookup f = some ⟨oc, od, .func (PySem.W.fnOf "is_row" "is_row" (defArgs (tp 3)) (defBody (tp 3)) (defScope (tp 3)) .none kV doc pm an (cdv) ct), osl⟩) (c : PySem.W.codeIn K (cdv) "is_row" = true) (k : PySem.W.keepIn K (.ref f) = true) :
    DefOk K mg tb cs Ds d2 ⟨2, 2, b2⟩ :=
  EV.def_mk X Gn (d := d2) (N := ["thing", "many"]) a l c k s2 c2 rfl rfl (fun us hl => match us, hl with | [_, _], _ => rfl) (fun np ks pm m => nomatch m) (fun z => absurd z (by decide))
theorem e3 {K : PySem.W.Frag} {h : Heap} {mg : Str → Option Value} (X : K.In h) (Gn : h.Ns mainGlobals mg) {cs : List (Addr × Addr)} {cdv : Value} {f : Addr} {oc : Value} {od an : Option Addr} {osl : Array (Option Value)} {kV doc pm ct : Value}
    (a : PySem.W.nsIn K mainGlobals "kept_rounded" = some (some (.ref f))) (l : K.lookup f = some ⟨oc, od, .func (PySem.W.fnOf "kept_rounded" "kept_rounded" (defArgs (tp 9)) (defBody (tp 9)) (defScope (tp 9)) .none kV doc pm an (cdv) ct), osl⟩) (c : PySem.W.codeIn K (cdv) "kept_rounded" = true) (k : PySem.W.keepIn K (.ref f) = true) :
    DefOk K mg tb cs Ds d3 ⟨1, 2, b3⟩ :=
  EV.def_mk X Gn (d := d3) (N := ["thing", "one"]) a l c k s3 c3 rfl rfl (fun us hl => match us, hl with | [_], _ => rfl) (fun np ks pm m => nomatch m) (fun z => absurd z (by decide))
theorem e4 {K : PySem.W.Frag} {h : Heap} {mg : Str → Option Value} (X : K.In h) (Gn : h.Ns mainGlobals mg) {cs : List (Addr × Addr)} {cdv : Value} {f : Addr} {oc : Value} {od an : Option Addr} {osl : Array (Option Value)} {kV doc pm ct : Value}
    (a : PySem.W.nsIn K mainGlobals "share_of_two" = some (some (.ref f))) (l : K.lookup f = some ⟨oc, od, .func (PySem.W.fnOf "share_of_two" "share_of_two" (defArgs (tp 10)) (defBody (tp 10)) (defScope (tp 10)) .none kV doc pm an (cdv) ct), osl⟩) (c : PySem.W.codeIn K (cdv) "share_of_two" = true) (k : PySem.W.keepIn K (.ref f) = true) :
    DefOk K mg tb cs Ds d4 ⟨2, 2, b4⟩ :=
  EV.def_mk X Gn (d := d4) (N := ["one", "other"]) a l c k s4 c4 rfl rfl (fun us hl => match us, hl with | [_, _], _ => rfl) (fun np ks pm m => nomatch m) (fun z => absurd z (by decide))
theorem e5 {K : PySem.W.Frag} {h : Heap} {mg : Str → Option Value} (X : K.In h) (Gn : h.Ns mainGlobals mg) {cs : List (Addr × Addr)} {cdv : Value} {f : Addr} {oc : Value} {od an : Option Addr} {osl : Array (Option Value)} {kV doc pm ct : Value}
    (a : PySem.W.nsIn K mainGlobals "settled_by" = some (some (.ref f))) (l : K.lookup f = some ⟨oc, od, .func (PySem.W.fnOf "settled_by" "settled_by" (defArgs (tp 11)) (defBody (tp 11)) (defScope (tp 11)) .none kV doc pm an (cdv) ct), osl⟩) (c : PySem.W.codeIn K (cdv) "settled_by" = true) (k : PySem.W.keepIn K (.ref f) = true) :
    DefOk K mg tb cs Ds d5 ⟨1, 2, b5⟩ :=
  EV.def_mk X Gn (d := d5) (N := ["row", "share"]) a l c k s5 c5 rfl rfl (fun us hl => match us, hl with | [_], _ => rfl) (fun np ks pm m => nomatch m) (fun z => absurd z (by decide))
theorem e6 {K : PySem.W.Frag} {h : Heap} {mg : Str → Option Value} (X : K.In h) (Gn : h.Ns mainGlobals mg) {cs : List (Addr × Addr)} {cdv : Value} {f : Addr} {oc : Value} {od an : Option Addr} {osl : Array (Option Value)} {kV doc pm ct : Value}
    (a : PySem.W.nsIn K mainGlobals "has_by" = some (some (.ref f))) (l : K.lookup f = some ⟨oc, od, .func (PySem.W.fnOf "has_by" "has_by" (defArgs (tp 12)) (defBody (tp 12)) (defScope (tp 12)) .none kV doc pm an (cdv) ct), osl⟩) (c : PySem.W.codeIn K (cdv) "has_by" = true) (k : PySem.W.keepIn K (.ref f) = true) :
    DefOk K mg tb cs Ds d6 ⟨2, 5, b6⟩ :=
  EV.def_mk X Gn (d := d6) (N := ["row", "number", "a", "b", "c"]) a l c k s6 c6 rfl rfl (fun us hl => match us, hl with | [_, _], _ => rfl) (fun np ks pm m => nomatch m) (fun z => absurd z (by decide))
theorem e7 {K : PySem.W.Frag} {h : Heap} {mg : Str → Option Value} (X : K.In h) (Gn : h.Ns mainGlobals mg) {cs : List (Addr × Addr)} {cdv : Value} {f : Addr} {oc : Value} {od an : Option Addr} {osl : Array (Option Value)} {kV doc pm ct : Value}
    (a : PySem.W.nsIn K mainGlobals "fraenkel_rows" = some (some (.ref f))) (l : K.lookup f = some ⟨oc, od, .func (PySem.W.fnOf "fraenkel_rows" "fraenkel_rows" (defArgs (tp 13)) (defBody (tp 13)) (defScope (tp 13)) .none kV doc pm an (cdv) ct), osl⟩) (c : PySem.W.codeIn K (cdv) "fraenkel_rows" = true) (k : PySem.W.keepIn K (.ref f) = true) :
    DefOk K mg tb cs Ds d7 ⟨1, 3, b7⟩ :=
  EV.def_mk X Gn (d := d7) (N := ["many", "whole", "k"]) a l c k s7 c7 rfl rfl (fun us hl => match us, hl with | [_], _ => rfl) (by
    intro np ks pm m us ws l1 l2
    simp only [d7, List.mem_cons, List.not_mem_nil, or_false, Prod.mk.injEq] at m
    obtain ⟨rfl, rfl, rfl⟩ := m
    exact match us, ws, l1, l2 with | [], [_], _, _ => rfl) (fun z => absurd z (by decide))
theorem e8 {K : PySem.W.Frag} {h : Heap} {mg : Str → Option Value} (X : K.In h) (Gn : h.Ns mainGlobals mg) {cs : List (Addr × Addr)} {cdv : Value} {f : Addr} {oc : Value} {od an : Option Addr} {osl : Array (Option Value)} {kV doc pm ct : Value}
    (a : PySem.W.nsIn K mainGlobals "parts_or_number" = some (some (.ref f))) (l : K.lookup f = some ⟨oc, od, .func (PySem.W.fnOf "parts_or_number" "parts_or_number" (defArgs (tp 15)) (defBody (tp 15)) (defScope (tp 15)) .none kV doc pm an (cdv) ct), osl⟩) (c : PySem.W.codeIn K (cdv) "parts_or_number" = true) (k : PySem.W.keepIn K (.ref f) = true) :
    DefOk K mg tb cs Ds d8 ⟨1, 6, b8⟩ :=
  EV.def_mk X Gn (d := d8) (N := ["rows", "kept", "row", "size", "step", "number"]) a l c k s8 c8 rfl rfl (fun us hl => match us, hl with | [_], _ => rfl) (fun np ks pm m => nomatch m) (fun z => absurd z (by decide))
theorem e9 {K : PySem.W.Frag} {h : Heap} {mg : Str → Option Value} (X : K.In h) (Gn : h.Ns mainGlobals mg) {cs : List (Addr × Addr)} {cdv : Value} {f : Addr} {oc : Value} {od an : Option Addr} {osl : Array (Option Value)} {kV doc pm ct : Value}
    (a : PySem.W.nsIn K mainGlobals "_law_stream" = some (some (.ref f))) (l : K.lookup f = some ⟨oc, od, .func (PySem.W.fnOf "_law_stream" "_law_stream" (defArgs (tp 17)) (defBody (tp 17)) (defScope (tp 17)) .none kV doc pm an (cdv) ct), osl⟩) (c : PySem.W.codeIn K (cdv) "_law_stream" = true) (k : PySem.W.keepIn K (.ref f) = true) :
    DefOk K mg tb cs Ds d9 ⟨1, 1, b9⟩ :=
  EV.def_mk X Gn (d := d9) (N := ["script"]) a l c k s9 c9 rfl rfl (fun us hl => match us, hl with | [_], _ => rfl) (fun np ks pm m => nomatch m) (fun z => absurd z (by decide))
theorem e10 {K : PySem.W.Frag} {h : Heap} {mg : Str → Option Value} (X : K.In h) (Gn : h.Ns mainGlobals mg) {cs : List (Addr × Addr)} {cdv : Value} {f : Addr} {oc : Value} {od an : Option Addr} {osl : Array (Option Value)} {kV doc pm ct : Value}
    (a : PySem.W.nsIn K mainGlobals "_law_draw" = some (some (.ref f))) (l : K.lookup f = some ⟨oc, od, .func (PySem.W.fnOf "_law_draw" "_law_draw" (defArgs (tp 18)) (defBody (tp 18)) (defScope (tp 18)) .none kV doc pm an (cdv) ct), osl⟩) (c : PySem.W.codeIn K (cdv) "_law_draw" = true) (k : PySem.W.keepIn K (.ref f) = true) :
    DefOk K mg tb cs Ds d10 ⟨2, 5, b10⟩ :=
  EV.def_mk X Gn (d := d10) (N := ["stream", "many", "cell", "digit", "mixed"]) a l c k s10 c10 rfl rfl (fun us hl => match us, hl with | [_, _], _ => rfl) (fun np ks pm m => nomatch m) (fun z => absurd z (by decide))
theorem e11 {K : PySem.W.Frag} {h : Heap} {mg : Str → Option Value} (X : K.In h) (Gn : h.Ns mainGlobals mg) {cs : List (Addr × Addr)} {cdv : Value} {f : Addr} {oc : Value} {od an : Option Addr} {osl : Array (Option Value)} {kV doc pm ct : Value}
    (a : PySem.W.nsIn K mainGlobals "_law_same" = some (some (.ref f))) (l : K.lookup f = some ⟨oc, od, .func (PySem.W.fnOf "_law_same" "_law_same" (defArgs (tp 19)) (defBody (tp 19)) (defScope (tp 19)) .none kV doc pm an (cdv) ct), osl⟩) (c : PySem.W.codeIn K (cdv) "_law_same" = true) (k : PySem.W.keepIn K (.ref f) = true) :
    DefOk K mg tb cs Ds d11 ⟨2, 4, b11⟩ :=
  EV.def_mk X Gn (d := d11) (N := ["found", "due", "mine", "theirs"]) a l c k s11 c11 rfl rfl (fun us hl => match us, hl with | [_, _], _ => rfl) (fun np ks pm m => nomatch m) (fun z => absurd z (by decide))
theorem e12 {K : PySem.W.Frag} {h : Heap} {mg : Str → Option Value} (X : K.In h) (Gn : h.Ns mainGlobals mg) {cs : List (Addr × Addr)} {cdv : Value} {f : Addr} {oc : Value} {od an : Option Addr} {osl : Array (Option Value)} {kV doc pm ct : Value}
    (a : PySem.W.nsIn K mainGlobals "_law_spoilt" = some (some (.ref f))) (l : K.lookup f = some ⟨oc, od, .func (PySem.W.fnOf "_law_spoilt" "_law_spoilt" (defArgs (tp 20)) (defBody (tp 20)) (defScope (tp 20)) .none kV doc pm an (cdv) ct), osl⟩) (c : PySem.W.codeIn K (cdv) "_law_spoilt" = true) (k : PySem.W.keepIn K (.ref f) = true) :
    DefOk K mg tb cs Ds d12 ⟨1, 2, b12⟩ :=
  EV.def_mk X Gn (d := d12) (N := ["thing", "part"]) a l c k s12 c12 rfl rfl (fun us hl => match us, hl with | [_], _ => rfl) (fun np ks pm m => nomatch m) (fun z => absurd z (by decide))
theorem e13 {K : PySem.W.Frag} {h : Heap} {mg : Str → Option Value} (X : K.In h) (Gn : h.Ns mainGlobals mg) {cs : List (Addr × Addr)} {cdv : Value} {f : Addr} {oc : Value} {od an : Option Addr} {osl : Array (Option Value)} {kV doc pm ct : Value}
    (a : PySem.W.nsIn K mainGlobals "_law_copied" = some (some (.ref f))) (l : K.lookup f = some ⟨oc, od, .func (PySem.W.fnOf "_law_copied" "_law_copied" (defArgs (tp 21)) (defBody (tp 21)) (defScope (tp 21)) .none kV doc pm an (cdv) ct), osl⟩) (c : PySem.W.codeIn K (cdv) "_law_copied" = true) (k : PySem.W.keepIn K (.ref f) = true) :
    DefOk K mg tb cs Ds d13 ⟨1, 4, b13⟩ :=
  EV.def_mk X Gn (d := d13) (N := ["thing", "key", "some", "one"]) a l c k s13 c13 rfl rfl (fun us hl => match us, hl with | [_], _ => rfl) (fun np ks pm m => nomatch m) (fun z => absurd z (by decide))
theorem e14 {K : PySem.W.Frag} {h : Heap} {mg : Str → Option Value} (X : K.In h) (Gn : h.Ns mainGlobals mg) {cs : List (Addr × Addr)} {cdv : Value} {f : Addr} {oc : Value} {od an : Option Addr} {osl : Array (Option Value)} {kV doc pm ct : Value}
    (a : PySem.W.nsIn K mainGlobals "_law_twice" = some (some (.ref f))) (l : K.lookup f = some ⟨oc, od, .func (PySem.W.fnOf "_law_twice" "_law_twice" (defArgs (tp 22)) (defBody (tp 22)) (defScope (tp 22)) .none kV doc pm an (cdv) ct), osl⟩) (c : PySem.W.codeIn K (cdv) "_law_twice" = true) (k : PySem.W.keepIn K (.ref f) = true) :
    DefOk K mg tb cs Ds d14 ⟨3, 5, b14⟩ :=
  EV.def_mk X Gn (d := d14) (N := ["due", "first", "other", "found", "spoilt"]) a l c k s14 c14 rfl rfl (fun us hl => match us, hl with | [_, _, _], _ => rfl) (fun np ks pm m => nomatch m) (fun z => absurd z (by decide))
theorem e15 {K : PySem.W.Frag} {h : Heap} {mg : Str → Option Value} (X : K.In h) (Gn : h.Ns mainGlobals mg) {cs : List (Addr × Addr)} {cdv : Value} {f : Addr} {oc : Value} {od an : Option Addr} {osl : Array (Option Value)} {kV doc pm ct : Value}
    (a : PySem.W.nsIn K mainGlobals "_law_unlike" = some (some (.ref f))) (l : K.lookup f = some ⟨oc, od, .func (PySem.W.fnOf "_law_unlike" "_law_unlike" (defArgs (tp 23)) (defBody (tp 23)) (defScope (tp 23)) .none kV doc pm an (cdv) ct), osl⟩) (c : PySem.W.codeIn K (cdv) "_law_unlike" = true) (k : PySem.W.keepIn K (.ref f) = true) :
    DefOk K mg tb cs Ds d15 ⟨1, 3, b15⟩ :=
  EV.def_mk X Gn (d := d15) (N := ["things", "found", "one"]) a l c k s15 c15 rfl rfl (fun us hl => match us, hl with | [_], _ => rfl) (fun np ks pm m => nomatch m) (fun z => absurd z (by decide))
theorem e16 {K : PySem.W.Frag} {h : Heap} {mg : Str → Option Value} (X : K.In h) (Gn : h.Ns mainGlobals mg) {cs : List (Addr × Addr)} {cdv : Value} {f : Addr} {oc : Value} {od an : Option Addr} {osl : Array (Option Value)} {kV doc pm ct : Value}
    (a : PySem.W.nsIn K mainGlobals "_law_t_share" = some (some (.ref f))) (l : K.lookup f = some ⟨oc, od, .func (PySem.W.fnOf "_law_t_share" "_law_t_share" (defArgs (tp 24)) (defBody (tp 24)) (defScope (tp 24)) .none kV doc pm an (cdv) ct), osl⟩) (c : PySem.W.codeIn K (cdv) "_law_t_share" = true) (k : PySem.W.keepIn K (.ref f) = true) :
    DefOk K mg tb cs Ds d16 ⟨2, 2, b16⟩ :=
  EV.def_mk X Gn (d := d16) (N := ["one", "other"]) a l c k s16 c16 rfl rfl (fun us hl => match us, hl with | [_, _], _ => rfl) (fun np ks pm m => nomatch m) (fun z => absurd z (by decide))
theorem e17 {K : PySem.W.Frag} {h : Heap} {mg : Str → Option Value} (X : K.In h) (Gn : h.Ns mainGlobals mg) {cs : List (Addr × Addr)} {cdv : Value} {f : Addr} {oc : Value} {od an : Option Addr} {osl : Array (Option Value)} {kV doc pm ct : Value}
    (a : PySem.W.nsIn K mainGlobals "_law_t_rests" = some (some (.ref f))) (l : K.lookup f = some ⟨oc, od, .func (PySem.W.fnOf "_law_t_rests" "_law_t_rests" (defArgs (tp 25)) (defBody (tp 25)) (defScope (tp 25)) .none kV doc pm an (cdv) ct), osl⟩) (c : PySem.W.codeIn K (cdv) "_law_t_rests" = true) (k : PySem.W.keepIn K (.ref f) = true) :
    DefOk K mg tb cs Ds d17 ⟨1, 5, b17⟩ :=
  EV.def_mk X Gn (d := d17) (N := ["rounded", "a", "b", "c", "n"]) a l c k s17 c17 rfl rfl (fun us hl => match us, hl with | [_], _ => rfl) (fun np ks pm m => nomatch m) (fun z => absurd z (by decide))
theorem e18 {K : PySem.W.Frag} {h : Heap} {mg : Str → Option Value} (X : K.In h) (Gn : h.Ns mainGlobals mg) {cs : List (Addr × Addr)} {cdv : Value} {f : Addr} {oc : Value} {od an : Option Addr} {osl : Array (Option Value)} {kV doc pm ct : Value}
    (a : PySem.W.nsIn K mainGlobals "_law_t_plain" = some (some (.ref f))) (l : K.lookup f = some ⟨oc, od, .func (PySem.W.fnOf "_law_t_plain" "_law_t_plain" (defArgs (tp 26)) (defBody (tp 26)) (defScope (tp 26)) .none kV doc pm an (cdv) ct), osl⟩) (c : PySem.W.codeIn K (cdv) "_law_t_plain" = true) (k : PySem.W.keepIn K (.ref f) = true) :
    DefOk K mg tb cs Ds d18 ⟨1, 5, b18⟩ :=
  EV.def_mk X Gn (d := d18) (N := ["rounded", "a", "b", "c", "share"]) a l c k s18 c18 rfl rfl (fun us hl => match us, hl with | [_], _ => rfl) (fun np ks pm m => nomatch m) (fun z => absurd z (by decide))
theorem e19 {K : PySem.W.Frag} {h : Heap} {mg : Str → Option Value} (X : K.In h) (Gn : h.Ns mainGlobals mg) {cs : List (Addr × Addr)} {cc : Addr} {f : Addr} {oc : Value} {od an : Option Addr} {osl : Array (Option Value)} {kV doc pm ct : Value}
    (a : PySem.W.nsIn K mainGlobals "law" = some (some (.ref f))) (l : K.lookup f = some ⟨oc, od, .func (PySem.W.fnOf "law" "law" (defArgs (tp 27)) (defBody (tp 27)) (defScope (tp 27)) .none kV doc pm an (.ref cc) ct), osl⟩) (c : PySem.W.codeIn K (.ref cc) "law" = true) (k : PySem.W.keepIn K (.ref f) = true) (m : (cc, 188) ∈ cs) :
    DefOk K mg tb cs Ds d19 ⟨1, 12, b19⟩ :=
  EV.def_mk X Gn (d := d19) (N := ["script", "stream", "many", "halves", "whole", "due", "k", "had", "row", "a", "b", "c"]) a l c k s19 c19 rfl rfl (fun us hl => match us, hl with | [_], _ => rfl) (fun np ks pm m => nomatch m) (fun _ => ⟨cc, 188, rfl, m, by simp [tb], by
    intro t m e
    simp only [tb, List.mem_cons, List.not_mem_nil, or_false] at m
    rcases m with rfl
    all_goals first | rfl | exact absurd e (by decide)⟩)
theorem all_mk {lw : PySem.W.OpenLaw} {w : World} {K : PySem.W.Frag} {h : Heap} {mg : Str → Option Value} {fa : Addr} (X : K.In h) (Gn : h.Ns mainGlobals mg) (hfa : mg "law" = some (.ref fa))
    {cdv0 : Value} {f0 : Addr} {oc0 : Value} {od0 an0 : Option Addr} {osl0 : Array (Option Value)} {kV0 doc0 pm0 ct0 : Value} (a0 : PySem.W.nsIn K mainGlobals "is_list" = some (some (.ref f0))) (l0 : K.lookup f0 = some ⟨oc0, od0, .func (PySem.W.fnOf "is_list" "is_list" (defArgs (tp 1)) (defBody (tp 1)) (defScope (tp 1)) .none kV0 doc0 pm0 an0 (cdv0) ct0), osl0⟩) (c0 : PySem.W.codeIn K (cdv0) "is_list" = true) (k0 : PySem.W.keepIn K (.ref f0) = true)
    {cdv1 : Value} {f1 : Addr} {oc1 : Value} {od1 an1 : Option Addr} {osl1 : Array (Option Value)} {kV1 doc1 pm1 ct1 : Value} (a1 : PySem.W.nsIn K mainGlobals "is_whole" = some (some (.ref f1))) (l1 : K.lookup f1 = some ⟨oc1, od1, .func (PySem.W.fnOf "is_whole" "is_whole" (defArgs (tp 2)) (defBody (tp 2)) (defScope (tp 2)) .none kV1 doc1 pm1 an1 (cdv1) ct1), osl1⟩) (c1 : PySem.W.codeIn K (cdv1) "is_whole" = true) (k1 : PySem.W.keepIn K (.ref f1) = true)
    {cdv2 : Value} {f2 : Addr} {oc2 : Value} {od2 an2 : Option Addr} {osl2 : Array (Option Value)} {kV2 doc2 pm2 ct2 : Value} (a2 : PySem.W.nsIn K mainGlobals "is_row" = some (some (.ref f2))) (l2 : K.lookup f2 = some ⟨oc2, od2, .func (PySem.W.fnOf "is_row" "is_row" (defArgs (tp 3)) (defBody (tp 3)) (defScope (tp 3)) .none kV2 doc2 pm2 an2 (cdv2) ct2), osl2⟩) (c2 : PySem.W.codeIn K (cdv2) "is_row" = true) (k2 : PySem.W.keepIn K (.ref f2) = true)
    {cdv3 : Value} {f3 : Addr} {oc3 : Value} {od3 an3 : Option Addr} {osl3 : Array (Option Value)} {kV3 doc3 pm3 ct3 : Value} (a3 : PySem.W.nsIn K mainGlobals "kept_rounded" = some (some (.ref f3))) (l3 : K.lookup f3 = some ⟨oc3, od3, .func (PySem.W.fnOf "kept_rounded" "kept_rounded" (defArgs (tp 9)) (defBody (tp 9)) (defScope (tp 9)) .none kV3 doc3 pm3 an3 (cdv3) ct3), osl3⟩) (c3 : PySem.W.codeIn K (cdv3) "kept_rounded" = true) (k3 : PySem.W.keepIn K (.ref f3) = true)
    {cdv4 : Value} {f4 : Addr} {oc4 : Value} {od4 an4 : Option Addr} {osl4 : Array (Option Value)} {kV4 doc4 pm4 ct4 : Value} (a4 : PySem.W.nsIn K mainGlobals "share_of_two" = some (some (.ref f4))) (l4 : K.lookup f4 = some ⟨oc4, od4, .func (PySem.W.fnOf "share_of_two" "share_of_two" (defArgs (tp 10)) (defBody (tp 10)) (defScope (tp 10)) .none kV4 doc4 pm4 an4 (cdv4) ct4), osl4⟩) (c4 : PySem.W.codeIn K (cdv4) "share_of_two" = true) (k4 : PySem.W.keepIn K (.ref f4) = true)
    {cdv5 : Value} {f5 : Addr} {oc5 : Value} {od5 an5 : Option Addr} {osl5 : Array (Option Value)} {kV5 doc5 pm5 ct5 : Value} (a5 : PySem.W.nsIn K mainGlobals "settled_by" = some (some (.ref f5))) (l5 : K.lookup f5 = some ⟨oc5, od5, .func (PySem.W.fnOf "settled_by" "settled_by" (defArgs (tp 11)) (defBody (tp 11)) (defScope (tp 11)) .none kV5 doc5 pm5 an5 (cdv5) ct5), osl5⟩) (c5 : PySem.W.codeIn K (cdv5) "settled_by" = true) (k5 : PySem.W.keepIn K (.ref f5) = true)
    {cdv6 : Value} {f6 : Addr} {oc6 : Value} {od6 an6 : Option Addr} {osl6 : Array (Option Value)} {kV6 doc6 pm6 ct6 : Value} (a6 : PySem.W.nsIn K mainGlobals "has_by" = some (some (.ref f6))) (l6 : K.lookup f6 = some ⟨oc6, od6, .func (PySem.W.fnOf "has_by" "has_by" (defArgs (tp 12)) (defBody (tp 12)) (defScope (tp 12)) .none kV6 doc6 pm6 an6 (cdv6) ct6), osl6⟩) (c6 : PySem.W.codeIn K (cdv6) "has_by" = true) (k6 : PySem.W.keepIn K (.ref f6) = true)
    {cdv7 : Value} {f7 : Addr} {oc7 : Value} {od7 an7 : Option Addr} {osl7 : Array (Option Value)} {kV7 doc7 pm7 ct7 : Value} (a7 : PySem.W.nsIn K mainGlobals "fraenkel_rows" = some (some (.ref f7))) (l7 : K.lookup f7 = some ⟨oc7, od7, .func (PySem.W.fnOf "fraenkel_rows" "fraenkel_rows" (defArgs (tp 13)) (defBody (tp 13)) (defScope (tp 13)) .none kV7 doc7 pm7 an7 (cdv7) ct7), osl7⟩) (c7 : PySem.W.codeIn K (cdv7) "fraenkel_rows" = true) (k7 : PySem.W.keepIn K (.ref f7) = true)
    {cdv8 : Value} {f8 : Addr} {oc8 : Value} {od8 an8 : Option Addr} {osl8 : Array (Option Value)} {kV8 doc8 pm8 ct8 : Value} (a8 : PySem.W.nsIn K mainGlobals "parts_or_number" = some (some (.ref f8))) (l8 : K.lookup f8 = some ⟨oc8, od8, .func (PySem.W.fnOf "parts_or_number" "parts_or_number" (defArgs (tp 15)) (defBody (tp 15)) (defScope (tp 15)) .none kV8 doc8 pm8 an8 (cdv8) ct8), osl8⟩) (c8 : PySem.W.codeIn K (cdv8) "parts_or_number" = true) (k8 : PySem.W.keepIn K (.ref f8) = true)
    {cdv9 : Value} {f9 : Addr} {oc9 : Value} {od9 an9 : Option Addr} {osl9 : Array (Option Value)} {kV9 doc9 pm9 ct9 : Value} (a9 : PySem.W.nsIn K mainGlobals "_law_stream" = some (some (.ref f9))) (l9 : K.lookup f9 = some ⟨oc9, od9, .func (PySem.W.fnOf "_law_stream" "_law_stream" (defArgs (tp 17)) (defBody (tp 17)) (defScope (tp 17)) .none kV9 doc9 pm9 an9 (cdv9) ct9), osl9⟩) (c9 : PySem.W.codeIn K (cdv9) "_law_stream" = true) (k9 : PySem.W.keepIn K (.ref f9) = true)
    {cdv10 : Value} {f10 : Addr} {oc10 : Value} {od10 an10 : Option Addr} {osl10 : Array (Option Value)} {kV10 doc10 pm10 ct10 : Value} (a10 : PySem.W.nsIn K mainGlobals "_law_draw" = some (some (.ref f10))) (l10 : K.lookup f10 = some ⟨oc10, od10, .func (PySem.W.fnOf "_law_draw" "_law_draw" (defArgs (tp 18)) (defBody (tp 18)) (defScope (tp 18)) .none kV10 doc10 pm10 an10 (cdv10) ct10), osl10⟩) (c10 : PySem.W.codeIn K (cdv10) "_law_draw" = true) (k10 : PySem.W.keepIn K (.ref f10) = true)
    {cdv11 : Value} {f11 : Addr} {oc11 : Value} {od11 an11 : Option Addr} {osl11 : Array (Option Value)} {kV11 doc11 pm11 ct11 : Value} (a11 : PySem.W.nsIn K mainGlobals "_law_same" = some (some (.ref f11))) (l11 : K.lookup f11 = some ⟨oc11, od11, .func (PySem.W.fnOf "_law_same" "_law_same" (defArgs (tp 19)) (defBody (tp 19)) (defScope (tp 19)) .none kV11 doc11 pm11 an11 (cdv11) ct11), osl11⟩) (c11 : PySem.W.codeIn K (cdv11) "_law_same" = true) (k11 : PySem.W.keepIn K (.ref f11) = true)
    {cdv12 : Value} {f12 : Addr} {oc12 : Value} {od12 an12 : Option Addr} {osl12 : Array (Option Value)} {kV12 doc12 pm12 ct12 : Value} (a12 : PySem.W.nsIn K mainGlobals "_law_spoilt" = some (some (.ref f12))) (l12 : K.lookup f12 = some ⟨oc12, od12, .func (PySem.W.fnOf "_law_spoilt" "_law_spoilt" (defArgs (tp 20)) (defBody (tp 20)) (defScope (tp 20)) .none kV12 doc12 pm12 an12 (cdv12) ct12), osl12⟩) (c12 : PySem.W.codeIn K (cdv12) "_law_spoilt" = true) (k12 : PySem.W.keepIn K (.ref f12) = true)
    {cdv13 : Value} {f13 : Addr} {oc13 : Value} {od13 an13 : Option Addr} {osl13 : Array (Option Value)} {kV13 doc13 pm13 ct13 : Value} (a13 : PySem.W.nsIn K mainGlobals "_law_copied" = some (some (.ref f13))) (l13 : K.lookup f13 = some ⟨oc13, od13, .func (PySem.W.fnOf "_law_copied" "_law_copied" (defArgs (tp 21)) (defBody (tp 21)) (defScope (tp 21)) .none kV13 doc13 pm13 an13 (cdv13) ct13), osl13⟩) (c13 : PySem.W.codeIn K (cdv13) "_law_copied" = true) (k13 : PySem.W.keepIn K (.ref f13) = true)
    {cdv14 : Value} {f14 : Addr} {oc14 : Value} {od14 an14 : Option Addr} {osl14 : Array (Option Value)} {kV14 doc14 pm14 ct14 : Value} (a14 : PySem.W.nsIn K mainGlobals "_law_twice" = some (some (.ref f14))) (l14 : K.lookup f14 = some ⟨oc14, od14, .func (PySem.W.fnOf "_law_twice" "_law_twice" (defArgs (tp 22)) (defBody (tp 22)) (defScope (tp 22)) .none kV14 doc14 pm14 an14 (cdv14) ct14), osl14⟩) (c14 : PySem.W.codeIn K (cdv14) "_law_twice" = true) (k14 : PySem.W.keepIn K (.ref f14) = true)
    {cdv15 : Value} {f15 : Addr} {oc15 : Value} {od15 an15 : Option Addr} {osl15 : Array (Option Value)} {kV15 doc15 pm15 ct15 : Value} (a15 : PySem.W.nsIn K mainGlobals "_law_unlike" = some (some (.ref f15))) (l15 : K.lookup f15 = some ⟨oc15, od15, .func (PySem.W.fnOf "_law_unlike" "_law_unlike" (defArgs (tp 23)) (defBody (tp 23)) (defScope (tp 23)) .none kV15 doc15 pm15 an15 (cdv15) ct15), osl15⟩) (c15 : PySem.W.codeIn K (cdv15) "_law_unlike" = true) (k15 : PySem.W.keepIn K (.ref f15) = true)
    {cdv16 : Value} {f16 : Addr} {oc16 : Value} {od16 an16 : Option Addr} {osl16 : Array (Option Value)} {kV16 doc16 pm16 ct16 : Value} (a16 : PySem.W.nsIn K mainGlobals "_law_t_share" = some (some (.ref f16))) (l16 : K.lookup f16 = some ⟨oc16, od16, .func (PySem.W.fnOf "_law_t_share" "_law_t_share" (defArgs (tp 24)) (defBody (tp 24)) (defScope (tp 24)) .none kV16 doc16 pm16 an16 (cdv16) ct16), osl16⟩) (c16 : PySem.W.codeIn K (cdv16) "_law_t_share" = true) (k16 : PySem.W.keepIn K (.ref f16) = true)
    {cdv17 : Value} {f17 : Addr} {oc17 : Value} {od17 an17 : Option Addr} {osl17 : Array (Option Value)} {kV17 doc17 pm17 ct17 : Value} (a17 : PySem.W.nsIn K mainGlobals "_law_t_rests" = some (some (.ref f17))) (l17 : K.lookup f17 = some ⟨oc17, od17, .func (PySem.W.fnOf "_law_t_rests" "_law_t_rests" (defArgs (tp 25)) (defBody (tp 25)) (defScope (tp 25)) .none kV17 doc17 pm17 an17 (cdv17) ct17), osl17⟩) (c17 : PySem.W.codeIn K (cdv17) "_law_t_rests" = true) (k17 : PySem.W.keepIn K (.ref f17) = true)
    {cdv18 : Value} {f18 : Addr} {oc18 : Value} {od18 an18 : Option Addr} {osl18 : Array (Option Value)} {kV18 doc18 pm18 ct18 : Value} (a18 : PySem.W.nsIn K mainGlobals "_law_t_plain" = some (some (.ref f18))) (l18 : K.lookup f18 = some ⟨oc18, od18, .func (PySem.W.fnOf "_law_t_plain" "_law_t_plain" (defArgs (tp 26)) (defBody (tp 26)) (defScope (tp 26)) .none kV18 doc18 pm18 an18 (cdv18) ct18), osl18⟩) (c18 : PySem.W.codeIn K (cdv18) "_law_t_plain" = true) (k18 : PySem.W.keepIn K (.ref f18) = true)
    {cc19 : Addr} {f19 : Addr} {oc19 : Value} {od19 an19 : Option Addr} {osl19 : Array (Option Value)} {kV19 doc19 pm19 ct19 : Value} (a19 : PySem.W.nsIn K mainGlobals "law" = some (some (.ref f19))) (l19 : K.lookup f19 = some ⟨oc19, od19, .func (PySem.W.fnOf "law" "law" (defArgs (tp 27)) (defBody (tp 27)) (defScope (tp 27)) .none kV19 doc19 pm19 an19 (.ref cc19) ct19), osl19⟩) (c19 : PySem.W.codeIn K (.ref cc19) "law" = true) (k19 : PySem.W.keepIn K (.ref f19) = true)
    (z0 : PySem.W.nsIn K mainGlobals "len" = some none)
    (z1 : PySem.W.nsIn K mainGlobals "abs" = some none)
    (z2 : PySem.W.nsIn K mainGlobals "int" = some none)
    (z3 : PySem.W.nsIn K mainGlobals "list" = some none)
    (z4 : PySem.W.nsIn K mainGlobals "tuple" = some none)
    (z5 : PySem.W.nsIn K mainGlobals "sorted" = some none)
    (z6 : PySem.W.nsIn K mainGlobals "sum" = some none)
    (z7 : PySem.W.nsIn K mainGlobals "min" = some none)
    (z8 : PySem.W.nsIn K mainGlobals "max" = some none)
    (z9 : PySem.W.nsIn K mainGlobals "all" = some none)
    (z10 : PySem.W.nsIn K mainGlobals "any" = some none)
    (z11 : PySem.W.nsIn K mainGlobals "dict" = some none)
    (z12 : PySem.W.nsIn K mainGlobals "str" = some none)
    (z13 : PySem.W.nsIn K mainGlobals "isinstance" = some none)
    (z14 : PySem.W.nsIn K mainGlobals "range" = some none)
    (z15 : PySem.W.nsIn K mainGlobals "enumerate" = some none)
    (z16 : PySem.W.nsIn K mainGlobals "zip" = some none)
    (z17 : PySem.W.nsIn K mainGlobals "bool" = some none)
    (t19 : h.get? 188 = some { cls := .none, data := .fields #[] }) (n19 : K.lookup 188 = none) (h19 : PySem.W.codeHdIn K cc19 188 = true)
    : LamX.LawAtS lw w K CX0 40 63 "script" mg fa h := by
  have hB : ∀ x ∈ bltN, mg (Str.ofString x) = none := by
    intro x m
    simp only [bltN, List.mem_cons, List.not_mem_nil, or_false] at m
    rcases m with rfl | rfl | rfl | rfl | rfl | rfl | rfl | rfl | rfl | rfl | rfl | rfl | rfl | rfl | rfl | rfl | rfl | rfl
    · exact PySem.W.mg_none_of X Gn z0
    · exact PySem.W.mg_none_of X Gn z1
    · exact PySem.W.mg_none_of X Gn z2
    · exact PySem.W.mg_none_of X Gn z3
    · exact PySem.W.mg_none_of X Gn z4
    · exact PySem.W.mg_none_of X Gn z5
    · exact PySem.W.mg_none_of X Gn z6
    · exact PySem.W.mg_none_of X Gn z7
    · exact PySem.W.mg_none_of X Gn z8
    · exact PySem.W.mg_none_of X Gn z9
    · exact PySem.W.mg_none_of X Gn z10
    · exact PySem.W.mg_none_of X Gn z11
    · exact PySem.W.mg_none_of X Gn z12
    · exact PySem.W.mg_none_of X Gn z13
    · exact PySem.W.mg_none_of X Gn z14
    · exact PySem.W.mg_none_of X Gn z15
    · exact PySem.W.mg_none_of X Gn z16
    · exact PySem.W.mg_none_of X Gn z17
  have hD : ∀ (k : Nat) (d : Dn), Ds[k]? = some d → ∃ t, T[k]? = some t ∧ DefOk K mg tb [(cc19, 188)] Ds d t := by
    intro k d e
    match k, e with
    | 0, e => cases e; exact ⟨_, rfl, e0 X Gn a0 l0 c0 k0⟩
    | 1, e => cases e; exact ⟨_, rfl, e1 X Gn a1 l1 c1 k1⟩
    | 2, e => cases e; exact ⟨_, rfl, e2 X Gn a2 l2 c2 k2⟩
    | 3, e => cases e; exact ⟨_, rfl, e3 X Gn a3 l3 c3 k3⟩
    | 4, e => cases e; exact ⟨_, rfl, e4 X Gn a4 l4 c4 k4⟩
    | 5, e => cases e; exact ⟨_, rfl, e5 X Gn a5 l5 c5 k5⟩
    | 6, e => cases e; exact ⟨_, rfl, e6 X Gn a6 l6 c6 k6⟩
    | 7, e => cases e; exact ⟨_, rfl, e7 X Gn a7 l7 c7 k7⟩
    | 8, e => cases e; exact ⟨_, rfl, e8 X Gn a8 l8 c8 k8⟩
    | 9, e => cases e; exact ⟨_, rfl, e9 X Gn a9 l9 c9 k9⟩
    | 10, e => cases e; exact ⟨_, rfl, e10 X Gn a10 l10 c10 k10⟩
    | 11, e => cases e; exact ⟨_, rfl, e11 X Gn a11 l11 c11 k11⟩
    | 12, e => cases e; exact ⟨_, rfl, e12 X Gn a12 l12 c12 k12⟩
    | 13, e => cases e; exact ⟨_, rfl, e13 X Gn a13 l13 c13 k13⟩
    | 14, e => cases e; exact ⟨_, rfl, e14 X Gn a14 l14 c14 k14⟩
    | 15, e => cases e; exact ⟨_, rfl, e15 X Gn a15 l15 c15 k15⟩
    | 16, e => cases e; exact ⟨_, rfl, e16 X Gn a16 l16 c16 k16⟩
    | 17, e => cases e; exact ⟨_, rfl, e17 X Gn a17 l17 c17 k17⟩
    | 18, e => cases e; exact ⟨_, rfl, e18 X Gn a18 l18 c18 k18⟩
    | 19, e => cases e; exact ⟨_, rfl, e19 X Gn a19 l19 c19 k19 (by simp)⟩
    | k + 20, e => cases e
  obtain ⟨fd, q1, q2⟩ := EV.law_ok (P := lw.prog) (w := w) (T := T) (D := Ds) (cs := [(cc19, 188)]) (tb := tb) (W := 2000000000) (m := 63) (n := 40) (k := 19) (d := d19) (by
    intro t m
    simp only [tb, List.mem_cons, List.not_mem_nil, or_false] at m
    rcases m with rfl
    · exact ⟨(cc19, 188), by simp, rfl⟩) hB hD rfl rfl hfa (fun ns hl => EV.tree_law (mus := mus) (pr := pr) (by decide) pr_s pr_d pr_p hl (law_ok (n := 30) (by decide)))
  exact ⟨fd, [(cc19, 188)], EV.spL 63 [(cc19, 188)] K, (by
    intro p m
    simp only [List.mem_cons, List.not_mem_nil, or_false] at m
    rcases m with rfl
    · exact t19), (by
    intro p m
    simp only [List.mem_cons, List.not_mem_nil, or_false] at m
    rcases m with rfl
    · exact n19), (by
    intro p m
    simp only [List.mem_cons, List.not_mem_nil, or_false] at m
    rcases m with rfl
    · exact PySem.W.codeHd_of_K X h19), q1, fun H a ns hl _ hT hS => ⟨a, ns, rfl, hl, hT, hS, fun _ => rfl⟩, fun base _ _ hb => q2 base hb⟩
end K42
open PySem PySem.W PyProof.Rows
set_option maxHeartbeats 0 in
theorem PySem.Challenge.cw_stepcovers_k42_whole_fraenkels_rows_holds : PySem.Challenge.rw_stepcovers_k42_whole_fraenkels_rows.Holds := by
  w_on; o_law; k_head; (case hw => w_witness2)
  k_fill
  refine LamX.walk_ofTs (l := PySem.Challenge.rw_stepcovers_k42_whole_fraenkels_rows) (n := 63) (k := 40) (x := "script") (CX := fun _ => L2.CX0) rfl (by decide) rfl ⟨rfl, by decide, by decide⟩ (fun w h Y => PySem.W.km_in_of Y) ?F (fun _ _ _ _ _ h => h)
  case F =>
    intro w mg fa h Y KX Gn hmg
    have hT8 := PySem.W.km_tabs_of Y
    refine' K42.all_mk KX Gn hmg ?a0 ?l0 ?c0 ?k0 ?a1 ?l1 ?c1 ?k1 ?a2 ?l2 ?c2 ?k2 ?a3 ?l3 ?c3 ?k3 ?a4 ?l4 ?c4 ?k4 ?a5 ?l5 ?c5 ?k5 ?a6 ?l6 ?c6 ?k6 ?a7 ?l7 ?c7 ?k7 ?a8 ?l8 ?c8 ?k8 ?a9 ?l9 ?c9 ?k9 ?a10 ?l10 ?c10 ?k10 ?a11 ?l11 ?c11 ?k11 ?a12 ?l12 ?c12 ?k12 ?a13 ?l13 ?c13 ?k13 ?a14 ?l14 ?c14 ?k14 ?a15 ?l15 ?c15 ?k15 ?a16 ?l16 ?c16 ?k16 ?a17 ?l17 ?c17 ?k17 ?a18 ?l18 ?c18 ?k18 ?a19 ?l19 ?c19 ?k19 ?z0 ?z1 ?z2 ?z3 ?z4 ?z5 ?z6 ?z7 ?z8 ?z9 ?z10 ?z11 ?z12 ?z13 ?z14 ?z15 ?z16 ?z17 (hT8 188 (by simp)) ?n19 ?h19
    (case a0 => k_is); (case l0 => k_is); (case c0 => k_is); (case k0 => k_is)
    (case a1 => k_is); (case l1 => k_is); (case c1 => k_is); (case k1 => k_is)
    (case a2 => k_is); (case l2 => k_is); (case c2 => k_is); (case k2 => k_is)
    (case a3 => k_is); (case l3 => k_is); (case c3 => k_is); (case k3 => k_is)
    (case a4 => k_is); (case l4 => k_is); (case c4 => k_is); (case k4 => k_is)
    (case a5 => k_is); (case l5 => k_is); (case c5 => k_is); (case k5 => k_is)
    (case a6 => k_is); (case l6 => k_is); (case c6 => k_is); (case k6 => k_is)
    (case a7 => k_is); (case l7 => k_is); (case c7 => k_is); (case k7 => k_is)
    (case a8 => k_is); (case l8 => k_is); (case c8 => k_is); (case k8 => k_is)
    (case a9 => k_is); (case l9 => k_is); (case c9 => k_is); (case k9 => k_is)
    (case a10 => k_is); (case l10 => k_is); (case c10 => k_is); (case k10 => k_is)
    (case a11 => k_is); (case l11 => k_is); (case c11 => k_is); (case k11 => k_is)
    (case a12 => k_is); (case l12 => k_is); (case c12 => k_is); (case k12 => k_is)
    (case a13 => k_is); (case l13 => k_is); (case c13 => k_is); (case k13 => k_is)
    (case a14 => k_is); (case l14 => k_is); (case c14 => k_is); (case k14 => k_is)
    (case a15 => k_is); (case l15 => k_is); (case c15 => k_is); (case k15 => k_is)
    (case a16 => k_is); (case l16 => k_is); (case c16 => k_is); (case k16 => k_is)
    (case a17 => k_is); (case l17 => k_is); (case c17 => k_is); (case k17 => k_is)
    (case a18 => k_is); (case l18 => k_is); (case c18 => k_is); (case k18 => k_is)
    (case a19 => k_is); (case l19 => k_is); (case c19 => k_is); (case k19 => k_is)
    (case z0 => k_is); (case z1 => k_is); (case z2 => k_is); (case z3 => k_is); (case z4 => k_is); (case z5 => k_is); (case z6 => k_is); (case z7 => k_is); (case z8 => k_is); (case z9 => k_is); (case z10 => k_is); (case z11 => k_is); (case z12 => k_is); (case z13 => k_is); (case z14 => k_is); (case z15 => k_is); (case z16 => k_is); (case z17 => k_is)
    (case n19 => kernel_rfl); (case h19 => kernel_rfl)
