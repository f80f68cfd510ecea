import PyProof.Rows.All
import Wide.All
import OpenK.AllK
import Wide.FinOn
import HandS.ForMost
import HandS.Deep
import HandS.Wide
import HandS.Style
import HandS.Strs
import HandS.Conv
import KE.SortData
import KE.DataMinMax
import PyProof.Rows.InDataRows
import HandS.Dict
import HandS.TupAny
import KE.DataCmp
import HandS.TupLen
import HandS.SortKw
import HandS.IsInst
import HandS.DictComp
import HandS.Words
import HandS.Ends
import HandS.Evl
import PySem.Challenge.RW_baseworker_k91_whole_jobs_and_nests
set_option Elab.async false
set_option linter.all false
set_option maxRecDepth 100000
set_option autoImplicit false
section
set_option linter.all false
set_option maxRecDepth 100000
set_option autoImplicit false
/-! Dv1: a small language of expressions and statements over PyData, its evaluator, the check that a text is the program's own tree. -/
namespace Dv
open PySem PySem.Spec PyProof.Rows L2
abbrev D := PyData
abbrev St := L2.St
def lim : Nat := 1000000
theorem lim_le : lim ≤ sizeLine := by rw [sizeLine_eq]; decide

/-- what a name of a def holds: nothing, a value, a list of its own that it changes -/
inductive Slot where
  | un
  | v (d : D)
  | l (xs : List D)
  /-- a dict of its own: keys ints and texts, or (true) tuples of them -/
  | d (t : Bool) (kvs : List (D × D))
/-- the state that defs share: the pool of draws -/
structure GS where
  pool : Option (List Int × Int)
abbrev Fn := List D → GS → Option (D × GS)

inductive Bf where
  | len | list | tuple | sorted | max | min | sum | abs | int | all | any | srtSet | lenSet | max2 | min2
  deriving DecidableEq
inductive Ty where
  | bool | int | str | tuple | list | dict
  deriving DecidableEq
inductive Tg where
  | n (i : Nat) | nil | cons (a r : Tg)
mutual
inductive E where
  | var (i : Nat)
  | int (k : Int)
  | bool (b : Bool)
  | non
  | str (s : Str)
  | tup (es : Es)
  | lst (es : Es)
  | bin (op : Operator) (a b : E)
  | neg (a : E)
  | not (a : E)
  | and (a b : E)
  | or (a b : E)
  | ife (c a b : E)
  | cmp (op : CmpOp) (a b : E)
  | isN (neg : Bool) (a : E)
  | isB (neg b : Bool) (a : E)
  | chn (o1 o2 : CmpOp) (a b c : E)
  | idx (a b : E)
  | slc (a lo hi : E)
  | no
  | call (k : Nat) (args : Es)
  | bfn (f : Bf) (args : Es)
  | bfr (tup : Bool) (r : E)
  | isi (t : Ty) (a : E)
  | lc (el : E) (tg : Tg) (src cd : E)
  | lc2 (el : E) (tg : Tg) (src cd : E) (tg2 : Tg) (src2 cd2 : E)
  | rng (a b : E)
  | dcp (k v : E) (tg : Tg) (src cd : E)
  | maxd (a : E) (k : Int)
  | get (a k z : E)
inductive Es where
  | nil | cons (e : E) (r : Es)
end
inductive S where
  | asg (tg : Tg) (e : E)
  | par (i j : Nat) (a b : E)
  | own (i : Nat) (e : E)
  | aug (i : Nat) (op : Operator) (e : E)
  | app (i : Nat) (e : E)
  | ext (i : Nat) (e : E)
  | pop0 (j i : Nat)
  | popL (j i : Nat)
  | iff (c : E) (a b : S)
  | for_ (tg : Tg) (src : E) (body : S)
  | whl (n : Nat) (c : E) (body : S)
  | ret (e : E)
  | retN
  | brk | cnt | pass | stuck
  | frz (i : Nat)
  | ownD (i : Nat) (t : Bool)
  | put (i : Nat) (k e : E)
  | nil | seq (a b : S)

/-! ### the operations -/
def lenOk {α : Type} (n : Nat) (x : α) : Option α := if n ≤ lim then some x else none
theorem lenOk_some {α : Type} {n : Nat} {x y : α} (h : lenOk n x = some y) : n ≤ lim ∧ x = y := by
  unfold lenOk at h
  split at h
  · exact ⟨by assumption, Option.some.inj h⟩
  · cases h
theorem lenOk_of {α : Type} {n : Nat} {x : α} (h : n ≤ lim) : lenOk n x = some x := if_pos h
def mulOk (i j : Int) : Bool := decide (i.natAbs < 2 ^ 64) || decide (j.natAbs < 2 ^ 64) || decide (i.natAbs.log2 + j.natAbs.log2 < 1000000)
def powOk (i j : Int) : Bool := decide (0 ≤ j) && decide (j ≤ 1000000) && decide (i.natAbs < 2 ^ 64)
def binD : Operator → D → D → Option D
  | .Add, .int i, .int j => some (.int (i + j))
  | .Add, .tuple xs, .tuple ys => lenOk (xs.length + ys.length) (.tuple (xs ++ ys))
  | .Add, .list xs, .list ys => lenOk (xs.length + ys.length) (.list (xs ++ ys))
  | .Sub, .int i, .int j => some (.int (i - j))
  | .Mult, .int i, .int j => if mulOk i j = true then some (.int (i * j)) else none
  | .FloorDiv, .int i, .int j => if 0 < j ∧ j.natAbs.log2 < 9000 then some (.int (i / j)) else none
  | .Mod, .int i, .int j => if 0 < j then some (.int (i % j)) else none
  | .RShift, .int i, .int j => if 0 ≤ j then some (.int (i / 2 ^ j.toNat)) else none
  | .LShift, .int i, .int j => if powOk i j = true then some (.int (i * 2 ^ j.toNat)) else none
  | .Pow, .int i, .int j => if powOk i j = true then some (.int (i ^ j.toNat)) else none
  | .BitAnd, .int i, .int j => some (.int (Builtin.bitAnd i j))
  | _, _, _ => none
/-! dicts: `.dict kvs` with ints and texts as keys; those with tuples of them begin with a mark; the pool and the script bear marks of their own -/
def keyD : Key → D
  | .inl i => .int i
  | .inr x => .str x
def keyOf : D → Option Key
  | .int i => some (.inl i)
  | .str x => some (.inr x)
  | _ => none
def keysOf : List D → Option (List Key)
  | [] => some []
  | x :: r => (keyOf x).bind fun k => (keysOf r).map (k :: ·)
def tkOf : D → Option (List Key)
  | .tuple xs => keysOf xs
  | _ => none
def poolD : D := .dict [(.dict [], .none)]
def scrD (ds : List D) : D := .dict [(.dict [], .list ds)]
def mkD (t : Bool) (kvs : List (D × D)) : D := if t = true then .dict ((.list [], .none) :: kvs) else .dict kvs
def dkD : D → Option (List (D × D))
  | .dict kvs => if kvs.all (fun p => (keyOf p.1).isSome) = true then some kvs else none
  | _ => none
def dtD : D → Option (List (D × D))
  | .dict ((.list [], .none) :: kvs) => if kvs.all (fun p => (tkOf p.1).isSome) = true then some kvs else none
  | _ => none
def lookK (kvs : List (D × D)) (k : Key) : Option D := (kvs.find? fun p => decide (keyOf p.1 = some k)).map (·.2)
def lookT (kvs : List (D × D)) (k : List Key) : Option D := (kvs.find? fun p => decide (tkOf p.1 = some k)).map (·.2)
def putDK (kvs : List (D × D)) (k : Key) (d : D) : List (D × D) := if (lookK kvs k).isSome = true then kvs.map fun p => if keyOf p.1 = some k then (p.1, d) else p else kvs ++ [(keyD k, d)]
def putDT (kvs : List (D × D)) (k : List Key) (d : D) : List (D × D) := if (lookT kvs k).isSome = true then kvs.map fun p => if tkOf p.1 = some k then (p.1, d) else p else kvs ++ [(.tuple (k.map keyD), d)]
/-- d's value at a key; none: neither a dict nor a key of its kind -/
def lookD (d k : D) : Option (Option D) := match dkD d, keyOf k with
  | some kvs, some k => some (lookK kvs k)
  | _, _ => match dtD d, tkOf k with
    | some kvs, some k => some (lookT kvs k)
    | _, _ => none
def seqOf : D → Option (List D)
  | .list xs => some xs
  | .tuple xs => some xs
  | _ => none
/-- the script too -/
def seqX : D → Option (List D)
  | .dict [(.dict [], .list ds)] => some ds
  | d => seqOf d
/-- what a walk over it gives -/
def itOf (d : D) : Option (List D) := match seqOf d with
  | some xs => some xs
  | none => match dkD d with
    | some kvs => some (kvs.map (·.1))
    | none => (dtD d).map fun kvs => kvs.map (·.1)
def lenD (d : D) : Option Nat := match seqX d with
  | some xs => some xs.length
  | none => match dkD d with
    | some kvs => some kvs.length
    | none => (dtD d).map fun kvs => kvs.length
def shp (d : D) : Bool := SeqAt.shaped d
def eqD (x y : D) : Option Bool := if shp x = true ∧ shp y = true then some (PyData.eqv x y) else none
def inD (x y : D) : Option Bool := match seqOf y with
  | some ds => if shp x = true ∧ shp y = true then some (ds.any fun z => PyData.eqv z x) else none
  | none => (lookD y x).map Option.isSome
def ltOk (x y : D) : Bool := PySem.W.alike x y && shp x && shp y && (match x, y with | .tuple _, .tuple _ => true | .list _, .list _ => true | _, _ => false)
def ltD (x y : D) : Option Bool := match x, y with
  | .int i, .int j => some (decide (i < j))
  | x, y => if ltOk x y = true then some (PySem.W.dataLt x y) else none
def leD (x y : D) : Option Bool := match x, y with
  | .int i, .int j => some (decide (i ≤ j))
  | x, y => if ltOk x y = true then some (!PySem.W.dataLt y x) else none
def gtD (x y : D) : Option Bool := match x, y with
  | .int i, .int j => some (decide (j < i))
  | x, y => if ltOk x y = true then some (PySem.W.dataLt y x) else none
def geD (x y : D) : Option Bool := match x, y with
  | .int i, .int j => some (decide (j ≤ i))
  | x, y => if ltOk x y = true then some (!PySem.W.dataLt x y) else none
def cmpD : CmpOp → D → D → Option Bool
  | .Eq, x, y => eqD x y
  | .NotEq, x, y => (eqD x y).map (!·)
  | .Lt, x, y => ltD x y
  | .LtE, x, y => leD x y
  | .Gt, x, y => gtD x y
  | .GtE, x, y => geD x y
  | .In, x, y => inD x y
  | .NotIn, x, y => (inD x y).map (!·)
  | _, _, _ => none
def idxD (x y : D) : Option D := match seqX x with
  | some xs => (match y with
    | .int i => atI xs i
    | _ => none)
  | none => (lookD x y).bind id
/-- xs[lo:hi] -/
def slcD (x : D) (lo hi : Option Int) : Option D := match x with
  | .list xs => some (.list ((xs.drop (HT.sIx xs.length 0 lo)).take (HT.sIx xs.length xs.length hi - HT.sIx xs.length 0 lo)))
  | .tuple xs => some (.tuple ((xs.drop (HT.sIx xs.length 0 lo)).take (HT.sIx xs.length xs.length hi - HT.sIx xs.length 0 lo)))
  | _ => none
def optI (no : Bool) (d : D) : Option (Option Int) := if no = true then some none else match d with
  | .int i => some (some i)
  | _ => none
def intsOf : List D → Option (List Int)
  | [] => some []
  | .int i :: r => (intsOf r).map (i :: ·)
  | _ :: _ => none
def boolsOf : List D → Option (List Bool)
  | [] => some []
  | .bool i :: r => (boolsOf r).map (i :: ·)
  | _ :: _ => none
def sortOk (ds : List D) : Bool := (ds.all fun x => ds.all fun y => PySem.W.alike x y) && (ds.all fun x => match x with | .none => false | _ => true) && ds.all shp
def maxDs : List D → Option D
  | [] => none
  | x :: r => if sortOk (x :: r) = true then some (PySem.W.maxD x r) else none
def minDs : List D → Option D
  | [] => none
  | x :: r => if sortOk (x :: r) = true then some (PySem.W.minD x r) else none
def sortD (ds : List D) : Option (List D) := if sortOk ds = true ∧ ds.length ≤ lim then some (ds.mergeSort (PySem.W.dataLe false id)) else none
/-- the different ones of some ints, ascending -/
def insU (x : Int) : List Int → List Int
  | [] => [x]
  | y :: r => if x < y then x :: y :: r else if x = y then y :: r else y :: insU x r
def sortU (ns : List Int) : List Int := ns.foldr insU []
def bfD : Bf → List D → Option D
  | .len, [x] => (lenD x).map fun (m : Nat) => PyData.int (m : Int)
  | .list, [x] => (seqOf x).map .list
  | .tuple, [x] => (seqOf x).map .tuple
  | .sorted, [.list xs] => do let ys ← sortD xs; pure (.list ys)
  | .max, [x] => (seqOf x).bind maxDs
  | .min, [x] => (seqOf x).bind minDs
  | .sum, [.list xs] => (intsOf xs).map fun ns => .int ns.sum
  | .abs, [.int i] => some (.int (if i < 0 then -i else i))
  | .int, [.int i] => some (.int i)
  | .int, [.bool b] => some (.int (if b then 1 else 0))
  | .all, [.list xs] => (boolsOf xs).map fun bs => .bool (bs.all id)
  | .any, [.list xs] => (boolsOf xs).map fun bs => .bool (bs.any id)
  | .max2, [.int i, .int j] => some (.int (if j > i then j else i))
  | .min2, [.int i, .int j] => some (.int (if j < i then j else i))
  | _, _ => none
def tyD : Ty → D → Option Bool
  | .bool, .bool _ => some true
  | .int, .int _ => some true
  | .int, .bool _ => some true
  | .str, .str _ => some true
  | .tuple, .tuple _ => some true
  | .list, .list _ => some true
  | _, .dict _ => none
  | _, _ => some false

/-! ### targets -/
def Tg.ixs : Tg → List Nat
  | .n i => [i]
  | .nil => []
  | .cons a r => a.ixs ++ r.ixs
def Tg.isT : Tg → Bool
  | .n _ => false
  | _ => true
def wipeS (ρ : List Slot) : List Nat → List Slot
  | [] => ρ
  | i :: r => (wipeS ρ r).set i .un
mutual
def Tg.asg : Tg → D → List Slot → Option (List Slot)
  | .n i, d, ρ => some (ρ.set i (.v d))
  | .nil, .tuple [], ρ => some ρ
  | .cons a r, .tuple (x :: xs), ρ => (Tg.asg a x ρ).bind fun ρ' => Tg.asgs r xs ρ'
  | _, _, _ => none
def Tg.asgs : Tg → List D → List Slot → Option (List Slot)
  | .nil, [], ρ => some ρ
  | .cons a r, x :: xs, ρ => (Tg.asg a x ρ).bind fun ρ' => Tg.asgs r xs ρ'
  | _, _, _ => none
end

/-! ### expressions -/
/-- a list comprehension's items, from the left -/
def compL {α : Type} (f : D → α → Option (Option D × α)) : List D → α → Option (List D × α)
  | [], g => some ([], g)
  | x :: xs, g => do
    let (y, g1) ← f x g
    let (ys, g2) ← compL f xs g1
    pure (match y with | some y => y :: ys | none => ys, g2)
def rngL (i j : Int) : List D := (List.range (j - i).toNat).map fun (k : Nat) => PyData.int (i + k)
def rngOk (i : Int) : Bool := decide (-(2 ^ 62) ≤ i) && decide (i < 2 ^ 62)
def rngD (no : Bool) : D → D → Option D
  | x, .int j => if no = true then (if rngOk j = true then some (.list (rngL 0 j)) else none) else match x with
    | .int i => if rngOk i = true ∧ rngOk j = true then some (.list (rngL i j)) else none
    | _ => none
  | _, _ => none
/-- a clause's test: none is yes -/
def tstD (no : Bool) (d : D) : Option Bool := if no = true then some true else match d with
  | .bool b => some b
  | _ => none
def condE : E → Bool
  | .no => true
  | _ => false
def maxDef (k : Int) : List D → Option D
  | [] => some (.int k)
  | x :: r => maxDs (x :: r)
/-- the pairs that a dict comprehension makes -/
def putsD : List (D × D) → List D → Option (List (D × D))
  | kvs, [] => some kvs
  | kvs, .tuple [k, d] :: r => (keyOf k).bind fun k => putsD (putDK kvs k d) r
  | _, _ => none
def isNoneD : D → Bool
  | .none => true
  | _ => false
def asB : Option (D × GS) → Option (D × GS)
  | some (.bool c, g) => some (.bool c, g)
  | _ => none
theorem asB_some {r : Option (D × GS)} {d : D} {g : GS} (h : asB r = some (d, g)) : ∃ c, r = some (.bool c, g) ∧ d = .bool c := by
  unfold asB at h
  split at h
  · cases h; exact ⟨_, rfl, rfl⟩
  · cases h
/-- a dict of its own, by name -/
def odv : E → List Slot → Option D
  | .var i, ρ => match ρ[i]? with
    | some (.d t kvs) => some (mkD t kvs)
    | _ => none
  | _, _ => none
def orD (o : Option D) (g : GS) (r : Option (D × GS)) : Option (D × GS) := match o with
  | some d => some (d, g)
  | none => r
mutual
def ev (Φ : List Fn) (pk : Bool) : E → List Slot → GS → Option (D × GS)
  | .var i, ρ, g => match ρ[i]? with
    | some (.v d) => some (d, g)
    | some (.l xs) => if pk = true then some (.list xs, g) else none
    | _ => none
  | .int k, _, g => some (.int k, g)
  | .bool b, _, g => some (.bool b, g)
  | .non, _, g => some (.none, g)
  | .str s, _, g => some (.str s, g)
  | .tup es, ρ, g => do let (xs, g) ← evs Φ false es ρ g; lenOk xs.length (.tuple xs, g)
  | .lst es, ρ, g => do let (xs, g) ← evs Φ false es ρ g; lenOk xs.length (.list xs, g)
  | .bin op a b, ρ, g => do let (x, g) ← ev Φ true a ρ g; let (y, g) ← ev Φ true b ρ g; let z ← binD op x y; pure (z, g)
  | .neg a, ρ, g => do let (x, g) ← ev Φ true a ρ g; match x with | .int i => pure (.int (-i), g) | _ => none
  | .not a, ρ, g => do let (x, g) ← ev Φ true a ρ g; match x with | .bool b => pure (.bool !b, g) | _ => none
  | .and a b, ρ, g => do let (x, g) ← ev Φ true a ρ g; match x with | .bool true => asB (ev Φ true b ρ g) | .bool false => pure (.bool false, g) | _ => none
  | .or a b, ρ, g => do let (x, g) ← ev Φ true a ρ g; match x with | .bool true => pure (.bool true, g) | .bool false => asB (ev Φ true b ρ g) | _ => none
  | .ife c a b, ρ, g => do let (x, g) ← ev Φ true c ρ g; match x with | .bool true => ev Φ false a ρ g | .bool false => ev Φ false b ρ g | _ => none
  | .cmp op a b, ρ, g => do let (x, g) ← ev Φ true a ρ g; let (y, g) ← orD (odv b ρ) g (ev Φ true b ρ g); let z ← cmpD op x y; pure (.bool z, g)
  | .isN n a, ρ, g => do let (x, g) ← ev Φ true a ρ g; pure (.bool (n != isNoneD x), g)
  | .isB n b a, ρ, g => do let (x, g) ← ev Φ true a ρ g; match x with | .bool c => pure (.bool (n != (c == b)), g) | _ => none
  | .chn o1 o2 a b c, ρ, g => do
    let (x, g) ← ev Φ true a ρ g
    let (y, g) ← ev Φ true b ρ g
    let z ← cmpD o1 x y
    match z with
    | true => do let (u, g) ← ev Φ true c ρ g; let w ← cmpD o2 y u; pure (.bool w, g)
    | false => pure (.bool false, g)
  | .idx a b, ρ, g => do let (x, g) ← orD (odv a ρ) g (ev Φ true a ρ g); let (y, g) ← ev Φ true b ρ g; let z ← idxD x y; pure (z, g)
  | .slc a lo hi, ρ, g => do
    let (x, g) ← ev Φ true a ρ g
    let (l, g) ← ev Φ true lo ρ g
    let (h, g) ← ev Φ true hi ρ g
    let lo' ← optI (condE lo) l
    let hi' ← optI (condE hi) h
    let z ← slcD x lo' hi'
    pure (z, g)
  | .no, _, g => some (.none, g)
  | .call k es, ρ, g => do let (xs, g) ← evs Φ false es ρ g; let f ← Φ[k]?; f xs g
  | .bfn f es, ρ, g => do let (xs, g) ← evs Φ true es ρ g; let z ← bfD f xs; pure (z, g)
  | .bfr t r, ρ, g => do let (z, g) ← ev Φ true r ρ g; let xs ← seqOf z; lenOk xs.length (if t = true then .tuple xs else .list xs, g)
  | .isi t a, ρ, g => do let (x, g) ← ev Φ true a ρ g; let b ← tyD t x; pure (.bool b, g)
  | .lc el tg src cd, ρ, g => do
    let (x, g) ← ev Φ true src ρ g; let xs ← itOf x
    let (ys, g) ← compL (fun d g => do
      let ρ' ← tg.asg d (wipeS ρ tg.ixs)
      let (c, g) ← ev Φ true cd ρ' g; let c ← tstD (condE cd) c
      if c = true then do let (y, g) ← ev Φ false el ρ' g; pure (some y, g) else pure (none, g)) xs g
    lenOk ys.length (.list ys, g)
  | .lc2 el tg src cd tg2 src2 cd2, ρ, g => do
    let (x, g) ← ev Φ true src ρ g; let xs ← itOf x
    let (yss, g) ← compL (fun d g => do
      let ρ' ← tg.asg d (wipeS ρ (tg.ixs ++ tg2.ixs))
      let (c, g) ← ev Φ true cd ρ' g; let c ← tstD (condE cd) c
      if c = true then do
        let (x2, g) ← ev Φ true src2 ρ' g; let xs2 ← itOf x2
        let (ys, g) ← compL (fun d g => do
          let ρ2 ← tg2.asg d (wipeS ρ' tg2.ixs)
          let (c, g) ← ev Φ true cd2 ρ2 g; let c ← tstD (condE cd2) c
          if c = true then do let (y, g) ← ev Φ false el ρ2 g; pure (some y, g) else pure (none, g)) xs2 g
        pure (some (.list ys), g)
      else pure (none, g)) xs g
    let ys := (yss.filterMap seqOf).flatten
    lenOk ys.length (.list ys, g)
  | .rng a b, ρ, g => do let (x, g) ← ev Φ true a ρ g; let (y, g) ← ev Φ true b ρ g; let z ← rngD (condE a) x y; pure (z, g)
  | .dcp k v tg src cd, ρ, g => do
    let (x, g) ← ev Φ true src ρ g; let xs ← itOf x
    let (ys, g) ← compL (fun d g => do
      let ρ' ← tg.asg d (wipeS ρ tg.ixs)
      let (c, g) ← ev Φ true cd ρ' g; let c ← tstD (condE cd) c
      if c = true then do let (y, g) ← ev Φ false k ρ' g; let (z, g) ← ev Φ false v ρ' g; pure (some (.tuple [y, z]), g) else pure (none, g)) xs g
    let kvs ← putsD [] ys
    lenOk ys.length (.dict kvs, g)
  | .maxd a k, ρ, g => do let (x, g) ← ev Φ true a ρ g; let xs ← seqOf x; let z ← maxDef k xs; pure (z, g)
  | .get a k z, ρ, g => do let (x, g) ← orD (odv a ρ) g (ev Φ true a ρ g); let (y, g) ← ev Φ true k ρ g; let (u, g) ← ev Φ false z ρ g; let o ← lookD x y; pure (o.getD u, g)
def evs (Φ : List Fn) (pk : Bool) : Es → List Slot → GS → Option (List D × GS)
  | .nil, _, g => some ([], g)
  | .cons e r, ρ, g => do let (x, g) ← ev Φ pk e ρ g; let (xs, g) ← evs Φ pk r ρ g; pure (x :: xs, g)
end

/-! ### statements -/
inductive Fl where
  | nx (ρ : List Slot) | rt (d : D) | bk (ρ : List Slot) | ct (ρ : List Slot)
abbrev Ro := Option (Fl × GS)
def forL (f : D → List Slot → GS → Ro) : List D → List Slot → GS → Ro
  | [], ρ, g => some (.nx ρ, g)
  | x :: xs, ρ, g => match f x ρ g with
    | some (.nx ρ, g) => forL f xs ρ g
    | some (.ct ρ, g) => forL f xs ρ g
    | some (.bk ρ, g) => some (.nx ρ, g)
    | some (.rt d, g) => some (.rt d, g)
    | none => none
def whlL (c : List Slot → GS → Option (D × GS)) (f : List Slot → GS → Ro) : Nat → List Slot → GS → Ro
  | 0, _, _ => none
  | n + 1, ρ, g => match c ρ g with
    | some (.bool true, g) => match f ρ g with
      | some (.nx ρ, g) => whlL c f n ρ g
      | some (.ct ρ, g) => whlL c f n ρ g
      | some (.bk ρ, g) => some (.nx ρ, g)
      | some (.rt d, g) => some (.rt d, g)
      | none => none
    | some (.bool false, g) => some (.nx ρ, g)
    | _ => none
def augD : Operator → D → D → Option D
  | .Add, .int i, .int j => some (.int (i + j))
  | .Sub, .int i, .int j => some (.int (i - j))
  | _, _, _ => none
def ex (Φ : List Fn) : S → List Slot → GS → Ro
  | .asg tg e, ρ, g => do let (d, g) ← ev Φ false e ρ g; let ρ' ← tg.asg d ρ; pure (.nx ρ', g)
  | .par i j a b, ρ, g => do let (x, g) ← ev Φ false a ρ g; let (y, g) ← ev Φ false b ρ g; pure (.nx ((ρ.set i (.v x)).set j (.v y)), g)
  | .own i e, ρ, g => do let (d, g) ← ev Φ false e ρ g; match d with | .list xs => pure (.nx (ρ.set i (.l xs)), g) | _ => none
  | .aug i op e, ρ, g => match ρ[i]? with
    | some (.v x) => do let (y, g) ← ev Φ true e ρ g; let z ← augD op x y; pure (.nx (ρ.set i (.v z)), g)
    | _ => none
  | .app i e, ρ, g => match ρ[i]? with
    | some (.l xs) => do let (d, g) ← ev Φ false e ρ g; lenOk (xs.length + 1) (.nx (ρ.set i (.l (xs ++ [d]))), g)
    | _ => none
  | .ext i e, ρ, g => match ρ[i]? with
    | some (.l xs) => do let (d, g) ← ev Φ true e ρ g; match d with | .list ys => lenOk (xs.length + ys.length) (.nx (ρ.set i (.l (xs ++ ys))), g) | _ => none
    | _ => none
  | .pop0 j i, ρ, g => match ρ[i]? with
    | some (.l (x :: xs)) => if i = j then none else some (.nx ((ρ.set i (.l xs)).set j (.v x)), g)
    | _ => none
  | .popL j i, ρ, g => match ρ[i]? with
    | some (.l xs) => if i = j then none else match xs.getLast? with
      | some x => some (.nx ((ρ.set i (.l xs.dropLast)).set j (.v x)), g)
      | none => none
    | _ => none
  | .iff c a b, ρ, g => do let (x, g) ← ev Φ true c ρ g; match x with | .bool true => ex Φ a ρ g | .bool false => ex Φ b ρ g | _ => none
  | .for_ tg src body, ρ, g => do
    let (x, g) ← ev Φ false src ρ g
    let xs ← itOf x
    forL (fun d ρ g => do let ρ' ← tg.asg d ρ; ex Φ body ρ' g) xs ρ g
  | .whl n c body, ρ, g => whlL (fun ρ g => ev Φ true c ρ g) (fun ρ g => ex Φ body ρ g) n ρ g
  | .ret e, ρ, g => do let (d, g) ← ev Φ true e ρ g; pure (.rt d, g)
  | .retN, _, g => some (.rt .none, g)
  | .brk, ρ, g => some (.bk ρ, g)
  | .cnt, ρ, g => some (.ct ρ, g)
  | .pass, ρ, g => some (.nx ρ, g)
  | .stuck, _, _ => none
  | .frz i, ρ, g => match ρ[i]? with
    | some (.l xs) => some (.nx (ρ.set i (.v (.list xs))), g)
    | some (.d t kvs) => some (.nx (ρ.set i (.v (mkD t kvs))), g)
    | _ => none
  | .ownD i t, ρ, g => some (.nx (ρ.set i (.d t [])), g)
  | .put i k e, ρ, g => do
    let (d, g) ← ev Φ false e ρ g
    let (y, g) ← ev Φ false k ρ g
    match ρ[i]? with
    | some (.d false kvs) => do let z ← keyOf y; lenOk (kvs.length + 1) (.nx (ρ.set i (.d false (putDK kvs z d))), g)
    | some (.d true kvs) => do let z ← tkOf y; lenOk (kvs.length + 1) (.nx (ρ.set i (.d true (putDT kvs z d))), g)
    | _ => none
  | .nil, ρ, g => some (.nx ρ, g)
  | .seq a b, ρ, g => match ex Φ a ρ g with
    | some (.nx ρ, g) => ex Φ b ρ g
    | r => r
/-- a def of p parameters and n names -/
def runFn (Φ : List Fn) (p n : Nat) (body : S) : Fn := fun ds g =>
  if ds.length = p then match ex Φ body (ds.map .v ++ List.replicate (n - p) .un) g with
    | some (.rt d, g) => some (d, g)
    | some (.nx _, g) => some (.none, g)
    | _ => none
  else none

/-! ### a text is the program's own tree -/
structure Ck where
  N : List Str
  sc : Scope
  raw : Option Scope
  fs : List Str
def visB (sc : Scope) (x : Str) : Bool := match sc.names.lookup x with
  | some .local => true | some .cell => true | some .free => true | _ => false
def locB (sc : Scope) (x : Str) : Bool := match sc.names.lookup x with
  | some .local => true | some .cell => true | _ => false
def glB (sc : Scope) (x : Str) : Bool := match sc.names.lookup x with
  | some .globalImplicit => true | _ => false
def okN (x : Str) : Bool := !(x == ("__debug__" : Str)) && !(x == ("__classdict__" : Str))
def Ck.blk (c : Ck) (scope : Scope) : Ck := { c with sc := relS scope c.sc, raw := some scope }
def Ck.fnB (c : Ck) (x : Str) : Bool := match c.raw with
  | none => true
  | some s => decide (s.names.lookup x = some .cell) || decide (c.sc.names.lookup x = some .local)
def ownOf (c : Ck) (is : List Nat) : List (Str × Nat) := is.map fun i => (c.N.getD i (Str.ofString ""), i)
mutual
def tgB (c : Ck) : Tg → Expr → Bool
  | .n i, .Name x _ => decide (c.N[i]? = some x) && locB c.sc x && c.fnB x
  | .nil, .Tuple [] _ _ => true
  | .cons a r, .Tuple (x :: xs) _ _ => tgB c a x && tgsB c r xs
  | _, _ => false
def tgsB (c : Ck) : Tg → List Expr → Bool
  | .nil, [] => true
  | .cons a r, x :: xs => tgB c a x && tgsB c r xs
  | _, _ => false
end
def Bf.nm : Bf → Str
  | .len => "len" | .list => "list" | .tuple => "tuple" | .sorted => "sorted" | .max => "max" | .min => "min" | .sum => "sum" | .abs => "abs"
  | .int => "int" | .all => "all" | .any => "any" | .max2 => "max" | .min2 => "min" | .srtSet => "sorted" | .lenSet => "len"
def Ty.nm : Ty → Str
  | .bool => "bool" | .int => "int" | .str => "str" | .tuple => "tuple" | .list => "list" | .dict => "dict"
def E.isIfe : E → Bool
  | .ife .. => true
  | _ => false
def E.isRng : E → Bool
  | .rng .. => true
  | _ => false
def E.v : E → Bool
  | .rng .. => false
  | .no => false
  | _ => true
def eqC : Const → Const → Bool := fun a b => decide (a = b)
def isNm (x : Str) : Expr → Bool
  | .Name y _ => decide (x = y)
  | _ => false
def bfPlain : Bf → Bool
  | .srtSet => false
  | .lenSet => false
  | _ => true
mutual
def chk (c : Ck) : E → Expr → Bool
  | .var i, x => match x with
    | .Name x _ => decide (c.N[i]? = some x) && visB c.sc x && okN x
    | _ => false
  | .int k, x => match x with
    | .Constant (.int i) _ _ => decide (k = i)
    | _ => false
  | .bool b, x => match x with
    | .Constant (.bool i) _ _ => decide (b = i)
    | _ => false
  | .non, x => match x with
    | .Constant .none _ _ => true
    | _ => false
  | .str s, x => match x with
    | .Constant (.str t) _ _ => decide (s = t)
    | _ => false
  | .tup es, x => match x with
    | .Tuple xs _ _ => chks c es xs
    | _ => false
  | .lst es, x => match x with
    | .List xs _ => chks c es xs
    | _ => false
  | .bin op a b, x => match x with
    | .BinOp x op' y _ => decide (op = op') && a.v && chk c a x && b.v && chk c b y
    | _ => false
  | .neg a, x => match x with
    | .UnaryOp .USub x _ => a.v && chk c a x
    | _ => false
  | .not a, x => match x with
    | .UnaryOp .Not x _ => !a.isIfe && a.v && chk c a x
    | _ => false
  | .and a b, x => match x with
    | .BoolOp .And (x :: y :: r) pos => !a.isIfe && !b.isIfe && a.v && chk c a x && b.v && chk c b (match r with | [] => y | _ :: _ => .BoolOp .And (y :: r) pos)
    | _ => false
  | .or a b, x => match x with
    | .BoolOp .Or (x :: y :: r) pos => !a.isIfe && !b.isIfe && a.v && chk c a x && b.v && chk c b (match r with | [] => y | _ :: _ => .BoolOp .Or (y :: r) pos)
    | _ => false
  | .ife t a b, x => match x with
    | .IfExp x y z _ => !t.isIfe && t.v && chk c t x && a.v && chk c a y && b.v && chk c b z
    | _ => false
  | .cmp op a b, x => match x with
    | .Compare x [op'] [y] _ => decide (op = op') && a.v && chk c a x && b.v && chk c b y
    | _ => false
  | .isN n a, x => match x with
    | .Compare x [op] [.Constant .none _ _] _ => decide (op = if n then .IsNot else .Is) && a.v && chk c a x
    | _ => false
  | .isB n b a, x => match x with
    | .Compare x [op] [.Constant (.bool b') _ _] _ => decide (op = if n then .IsNot else .Is) && decide (b = b') && a.v && chk c a x
    | _ => false
  | .chn o1 o2 a b d, x => match x with
    | .Compare x [o1', o2'] [y, z] _ => decide (o1 = o1') && decide (o2 = o2') && a.v && chk c a x && b.v && chk c b y && d.v && chk c d z
    | _ => false
  | .idx a b, x => match x with
    | .Subscript x y _ => a.v && chk c a x && b.v && chk c b y
    | _ => false
  | .slc a lo hi, x => match x with
    | .Subscript x (.Slice l h none _) _ => a.v && chk c a x && (match l with
      | none => condE lo
      | some l => lo.v && chk c lo l) && (match h with
      | none => condE hi
      | some h => hi.v && chk c hi h)
    | _ => false
  | .no, _ => false
  | .call k es, x => match x with
    | .Call (.Name x _) xs [] _ => decide (c.fs[k]? = some x) && glB c.sc x && okN x && chks c es xs
    | _ => false
  | .bfn f es, x => match x with
    | .Call (.Name x _) (y :: ys) [] _ => bfPlain f && decide (x = f.nm) && glB c.sc x && chks c es (y :: ys)
    | _ => false
  | .bfr tup r, x => match x with
    | .Call (.Name x _) [y] [] _ => decide (x = if tup = true then "tuple" else "list") && glB c.sc x && r.isRng && chk c r y
    | _ => false
  | .isi t a, x => match x with
    | .Call (.Name x _) [y, .Name z _] [] _ => decide (x = "isinstance") && decide (z = t.nm) && glB c.sc x && glB c.sc z && a.v && chk c a y
    | _ => false
  | .lc el tg src cd, x => match x with
    | .ListComp x [⟨t, i, ifs, a⟩] scope _ => decide (a = 0) && blkC c.N c.sc scope (ownOf c tg.ixs) && tgB (c.blk scope) tg t && chk c src i && el.v && chk (c.blk scope) el x &&
      (match ifs with
      | [] => condE cd
      | [y] => !cd.isIfe && cd.v && chk (c.blk scope) cd y
      | _ => false)
    | _ => false
  | .lc2 el tg src cd tg2 src2 cd2, x => match x with
    | .ListComp x [⟨t, i, ifs, a⟩, ⟨t2, i2, ifs2, a2⟩] scope _ => decide (a = 0) && decide (a2 = 0) && blkC c.N c.sc scope (ownOf c (tg.ixs ++ tg2.ixs)) &&
      tgB (c.blk scope) tg t && tgB (c.blk scope) tg2 t2 && chk c src i && chk (c.blk scope) src2 i2 && el.v && chk (c.blk scope) el x &&
      (match ifs with
      | [] => condE cd
      | [y] => !cd.isIfe && cd.v && chk (c.blk scope) cd y
      | _ => false) && (match ifs2 with
      | [] => condE cd2
      | [y] => !cd2.isIfe && cd2.v && chk (c.blk scope) cd2 y
      | _ => false)
    | _ => false
  | .rng a b, x => match x with
    | .Call (.Name x _) [y] [] _ => decide (x = "range") && glB c.sc x && condE a && b.v && chk c b y
    | .Call (.Name x _) [y, z] [] _ => decide (x = "range") && glB c.sc x && a.v && chk c a y && b.v && chk c b z
    | _ => false
  | .dcp k v tg src cd, x => match x with
    | .DictComp x y [⟨t, i, ifs, a⟩] scope _ => decide (a = 0) && blkC c.N c.sc scope (ownOf c tg.ixs) && tgB (c.blk scope) tg t && chk c src i && k.v && chk (c.blk scope) k x && v.v && chk (c.blk scope) v y &&
      (match ifs with
      | [] => condE cd
      | [y] => !cd.isIfe && cd.v && chk (c.blk scope) cd y
      | _ => false)
    | _ => false
  | .maxd a k, x => match x with
    | .Call (.Name x _) [y] [⟨some n, .Constant (.int i) _ _, _⟩] _ => decide (x = "max") && decide (n = "default") && decide (k = i) && glB c.sc x && a.v && chk c a y
    | _ => false
  | .get a k z, x => match x with
    | .Call (.Attribute o m ap) [y, w] [] cp => decide (m = "get") && (ap.endLine == cp.line) && a.v && chk c a o && k.v && chk c k y && z.v && chk c z w && (match o with
      | .Name _ _ => true
      | _ => false)
    | _ => false
def chks (c : Ck) : Es → List Expr → Bool
  | .nil, xs => xs.isEmpty
  | .cons e r, xs => match xs with
    | x :: xs => e.v && chk c e x && chks c r xs
    | [] => false
end

/-! ### a body is the program's own -/
def noComp : Expr → Bool
  | .ListComp _ _ _ _ => false
  | .SetComp _ _ _ _ => false
  | .DictComp _ _ _ _ _ => false
  | _ => true
def noTup : Expr → Bool
  | .Tuple _ _ _ => false
  | _ => true
def nmB (c : Ck) (i : Nat) (x : Str) : Bool := decide (c.N[i]? = some x) && locB c.sc x && c.fnB x
def lclB (sc : Scope) (x : Str) : Bool := match sc.names.lookup x with
  | some .local => true
  | _ => false
/-- does name = value of one line store before the block's names go? -/
def swB (sc : Scope) (y : Str) (py : Pos) (scope : Scope) (p : Pos) : Bool := lclB sc y && (py.line == p.line) && !(scope.names.any fun (n, k) => n == y && (k == .local || k == .cell))
def E.fresh : E → Bool
  | .lst _ => true
  | .lc _ _ _ _ => true
  | .lc2 _ _ _ _ _ _ _ => true
  | _ => false
/-- name = value -/
def setB (c : Ck) (i : Nat) (x : Str) (e : E) (v : Expr) : Bool := nmB c i x && e.v && chk c e v
def noSlcB : Expr → Bool
  | .Slice _ _ _ _ => false
  | _ => true
def isDoc : Expr → Bool
  | .Constant (.str _) _ _ => true
  | _ => false
def oneB : List Expr → Bool
  | [_] => true
  | _ => false
def S.isFrz : S → Bool
  | .frz _ => true
  | _ => false
def S.one : S → Bool
  | .seq _ _ => false
  | .nil => false
  | .frz _ => false
  | _ => true
def chkB (c : Ck) : S → List Stmt → Bool
  | .asg tg e, xs => match xs with
    | [.Assign [t] v _] => (match tg with
      | .n i => (match t with
        | .Name x _ => setB c i x e v
        | _ => false)
      | tg => (match t with
        | .Tuple ts k p => tgB c tg (.Tuple ts k p) && noTup v && noComp v && e.v && chk c e v
        | _ => false))
    | _ => false
  | .par i j a b, xs => match xs with
    | [.Assign [.Tuple [.Name x px, .Name y py] _ _] (.Tuple [u, v] _ _) _] => nmB c i x && nmB c j y && lclB c.sc x && lclB c.sc y && (px.line == py.line) && (!(x == y)) && !(i == j) && !([u, v].all (foldedForSure 8)) && !([u, v].all (constantsAlone 8)) && a.v && chk c a u && b.v && chk c b v
    | _ => false
  | .own i e, xs => match xs with
    | [.Assign [.Name x _] v _] => e.fresh && setB c i x e v
    | _ => false
  | .aug i op e, xs => match xs with
    | [.AugAssign (.Name x _) op' v _] => decide (op = op') && (decide (op = .Add) || decide (op = .Sub)) && nmB c i x && e.v && chk c e v
    | _ => false
  | .app i e, xs => match xs with
    | [.Expr (.Call (.Attribute (.Name x _) m ap) [v] [] cp) _] => decide (m = "append") && decide (c.N[i]? = some x) && visB c.sc x && okN x && (ap.endLine == cp.line) && e.v && chk c e v
    | _ => false
  | .ext i e, xs => match xs with
    | [.Expr (.Call (.Attribute (.Name x _) m ap) [v] [] cp) _] => decide (m = "extend") && decide (c.N[i]? = some x) && visB c.sc x && okN x && (ap.endLine == cp.line) && e.v && chk c e v
    | _ => false
  | .pop0 j i, xs => match xs with
    | [.Assign [.Name y _] (.Call (.Attribute (.Name x _) m ap) [.Constant (.int k) _ _] [] cp) _] => decide (m = "pop") && decide (k = 0) && nmB c j y && decide (c.N[i]? = some x) && visB c.sc x && okN x && (ap.endLine == cp.line)
    | _ => false
  | .popL j i, xs => match xs with
    | [.Assign [.Name y _] (.Call (.Attribute (.Name x _) m ap) [] [] cp) _] => decide (m = "pop") && nmB c j y && decide (c.N[i]? = some x) && visB c.sc x && okN x && (ap.endLine == cp.line)
    | _ => false
  | .iff e a b, xs => match xs with
    | [.If x y z _] => (!e.isIfe) && e.v && chk c e x && chkB c a y && chkB c b z
    | _ => false
  | .for_ tg src body, xs => match xs with
    | [.For t i b [] _] => tgB c tg t && chk c src i && chkB c body b
    | _ => false
  | .whl _ e body, xs => match xs with
    | [.While x b [] _] => (!e.isIfe) && e.v && chk c e x && chkB c body b
    | _ => false
  | .ret e, xs => match xs with
    | [.Return (some x) _] => e.v && chk c e x
    | _ => false
  | .retN, xs => match xs with
    | [.Return none _] => true
    | _ => false
  | .brk, xs => match xs with
    | [.Break _] => true
    | _ => false
  | .cnt, xs => match xs with
    | [.Continue _] => true
    | _ => false
  | .pass, xs => match xs with
    | [.Pass _] => true
    | [.Expr x _] => isDoc x
    | _ => false
  | .stuck, _ => true
  | .frz _, _ => false
  | .ownD i _, xs => match xs with
    | [.Assign [.Name x _] (.Dict [] [] _) _] => nmB c i x
    | _ => false
  | .put i k e, xs => match xs with
    | [.Assign [.Subscript (.Name x _) y _] v _] => decide (c.N[i]? = some x) && visB c.sc x && okN x && noComp v && noSlcB y && k.v && chk c k y && e.v && chk c e v
    | _ => false
  | .nil, xs => xs.isEmpty
  | .seq a b, xs => match xs with
    | x :: r => if a.isFrz = true then chkB c b xs else a.one && chkB c a [x] && chkB c b r
    | [] => a.isFrz && chkB c b []
end Dv
end
section
set_option linter.all false
set_option maxRecDepth 100000
set_option autoImplicit false
/-! Dv2: how data stand in the heap, what a step keeps. -/
namespace Dv
open PySem PySem.Spec PyProof.Rows L2

/-- own: the objects that some def changes; ls: those of them that names hold; wr: those that a call may change; pl: the pool, its rows, its counter -/
structure Gh where
  own : List Addr
  ls : List Addr
  wr : List Addr
  pl : Option (Addr × Addr × Addr)
/-- a tracked tuple -/
def TupN (K : PySem.W.Frag) (G : Gh) (H : Hp) (a : Addr) (xs : List V) : Prop := H a = some (.tup xs) ∧ a ∉ G.own
theorem TupN.sq {K : PySem.W.Frag} {G : Gh} {H : Hp} {a : Addr} {xs : List V} (h : TupN K G H a xs) : SqT K H a xs := .inl (.inl h.1)
/-- the script -/
def ScrN (K : PySem.W.Frag) (G : Gh) (H : Hp) (a : Addr) (xs : List V) : Prop := (Rd H a (.lst xs) ∧ a ∉ G.own) ∨
  ∃ (o : Obj) (its : Array Value) (n : Nat), K.lookup a = some o ∧ o.cls = .type "list" ∧ o.dict = none ∧ o.data = .seq its n ∧ its.size ≤ sizeLine ∧ Vals xs its.toList
theorem ScrN.sq {K : PySem.W.Frag} {G : Gh} {H : Hp} {a : Addr} {xs : List V} (h : ScrN K G H a xs) : SqL K H a xs := by
  rcases h with h | h
  · exact .inl h.1
  · exact .inr h
mutual
inductive Dr (K : PySem.W.Frag) (G : Gh) (H : Hp) : V → D → Prop
  | non : Dr K G H .non .none
  | bl (b : Bool) : Dr K G H (.bl b) (.bool b)
  | int (i : Int) : Dr K G H (.int i) (.int i)
  | str (x : Str) : Dr K G H (.str x) (.str x)
  | lst {a : Addr} {xs : List V} {ds : List D} : H a = some (.lst xs) → a ∉ G.own → DrA K G H xs ds → Dr K G H (.ref a) (.list ds)
  | tup {a : Addr} {xs : List V} {ds : List D} : TupN K G H a xs → DrA K G H xs ds → Dr K G H (.ref a) (.tuple ds)
  | dk {a : Addr} {od : Obj} {ks : List (Key × V)} {kvs : List (D × D)} : H a = some (.frz od (.dK ks)) → a ∉ G.own → DrK K G H ks kvs → Dr K G H (.ref a) (.dict kvs)
  | dt {a : Addr} {od : Obj} {ks : List (List Key × V)} {kvs : List (D × D)} : H a = some (.frz od (.dT ks)) → a ∉ G.own → DrT K G H ks kvs → Dr K G H (.ref a) (.dict ((.list [], .none) :: kvs))
  | pool {p r c : Addr} : G.pl = some (p, r, c) → Dr K G H (.ref p) (.dict [(.dict [], .none)])
  | scr {a : Addr} {xs : List V} {ds : List D} : ScrN K G H a xs → DrA K G H xs ds → Dr K G H (.ref a) (.dict [(.dict [], .list ds)])
inductive DrA (K : PySem.W.Frag) (G : Gh) (H : Hp) : List V → List D → Prop
  | nil : DrA K G H [] []
  | cons {v : V} {vs : List V} {d : D} {ds : List D} : Dr K G H v d → DrA K G H vs ds → DrA K G H (v :: vs) (d :: ds)
inductive DrK (K : PySem.W.Frag) (G : Gh) (H : Hp) : List (Key × V) → List (D × D) → Prop
  | nil : DrK K G H [] []
  | cons {k : Key} {v : V} {e d : D} {ks : List (Key × V)} {kvs : List (D × D)} : e = keyD k → Dr K G H v d → DrK K G H ks kvs → DrK K G H ((k, v) :: ks) ((e, d) :: kvs)
inductive DrT (K : PySem.W.Frag) (G : Gh) (H : Hp) : List (List Key × V) → List (D × D) → Prop
  | nil : DrT K G H [] []
  | cons {k : List Key} {v : V} {e d : D} {ks : List (List Key × V)} {kvs : List (D × D)} : e = .tuple (k.map keyD) → Dr K G H v d → DrT K G H ks kvs → DrT K G H ((k, v) :: ks) ((e, d) :: kvs)
end
def nt : HO → Bool
  | .tup _ => false
  | _ => true
/-- something that is no tuple stands there -/
def Hs (H : Hp) (a : Addr) : Prop := ∃ o, H a = some o ∧ nt o = true
section
variable {K : PySem.W.Frag} {G G' : Gh} {H H' : Hp}
theorem DrA.length : ∀ {vs : List V} {ds : List D}, DrA K G H vs ds → vs.length = ds.length
  | _, _, .nil => rfl
  | _, _, .cons _ t => by rw [List.length_cons, List.length_cons, DrA.length t]
theorem DrA.append : ∀ {vs ws : List V} {ds es : List D}, DrA K G H vs ds → DrA K G H ws es → DrA K G H (vs ++ ws) (ds ++ es)
  | _, _, _, _, .nil, h => h
  | _, _, _, _, .cons a t, h => .cons a (DrA.append t h)
theorem DrA.get : ∀ {vs : List V} {ds : List D} {i : Nat} {d : D}, DrA K G H vs ds → ds[i]? = some d → ∃ v, vs[i]? = some v ∧ Dr K G H v d
  | _, _, _, _, .nil, e => by simp at e
  | _, _, 0, _, .cons a t, e => by simp at e; subst e; exact ⟨_, rfl, a⟩
  | _, _, i + 1, d, .cons a t, e => by
    obtain ⟨v, h1, h2⟩ := DrA.get (i := i) (d := d) t (by simpa using e)
    exact ⟨v, by simpa using h1, h2⟩
theorem DrA.getV : ∀ {vs : List V} {ds : List D} {i : Nat} {v : V}, DrA K G H vs ds → vs[i]? = some v → ∃ d, ds[i]? = some d ∧ Dr K G H v d
  | _, _, _, _, .nil, e => by simp at e
  | _, _, 0, _, .cons a t, e => by simp at e; subst e; exact ⟨_, rfl, a⟩
  | _, _, i + 1, v, .cons a t, e => by
    obtain ⟨d, h1, h2⟩ := DrA.getV (i := i) (v := v) t (by simpa using e)
    exact ⟨d, by simpa using h1, h2⟩
theorem DrA.take : ∀ {vs : List V} {ds : List D} (n : Nat), DrA K G H vs ds → DrA K G H (vs.take n) (ds.take n)
  | _, _, 0, _ => .nil
  | _, _, _ + 1, .nil => .nil
  | _, _, n + 1, .cons a t => .cons a (DrA.take n t)
theorem DrA.drop : ∀ {vs : List V} {ds : List D} (n : Nat), DrA K G H vs ds → DrA K G H (vs.drop n) (ds.drop n)
  | _, _, 0, h => h
  | _, _, _ + 1, .nil => .nil
  | _, _, n + 1, .cons _ t => DrA.drop n t
theorem DrA.ints : ∀ {vs : List V} {ds : List D} {ns : List Int}, DrA K G H vs ds → intsOf ds = some ns → vs = ns.map V.int
  | _, _, ns, .nil, e => by simp [intsOf] at e; subst e; rfl
  | _, _, ns, .cons (d := d) a t, e => by
    cases d <;> simp [intsOf] at e
    obtain ⟨ms, e1, e2⟩ := e
    subst e2
    cases a
    rw [DrA.ints t e1]
    rfl
theorem DrA.bools : ∀ {vs : List V} {ds : List D} {ns : List Bool}, DrA K G H vs ds → boolsOf ds = some ns → vs = ns.map V.bl
  | _, _, ns, .nil, e => by simp [boolsOf] at e; subst e; rfl
  | _, _, ns, .cons (d := d) a t, e => by
    cases d <;> simp [boolsOf] at e
    obtain ⟨ms, e1, e2⟩ := e
    subst e2
    cases a
    rw [DrA.bools t e1]
    rfl
theorem DrA.ofInts : ∀ ns : List Int, DrA K G H (ns.map V.int) (ns.map PyData.int)
  | [] => .nil
  | n :: r => .cons (.int n) (DrA.ofInts r)


mutual
theorem Dr.mono (k : ∀ a o, H a = some o → a ∉ G.own → H' a = some o ∧ a ∉ G'.own) (hp : G'.pl = G.pl) : ∀ {v : V} {d : D}, Dr K G H v d → Dr K G' H' v d
  | _, _, .non => .non
  | _, _, .bl b => .bl b
  | _, _, .int i => .int i
  | _, _, .str x => .str x
  | _, _, .lst h1 h2 h3 => .lst (k _ _ h1 h2).1 (k _ _ h1 h2).2 (DrA.mono k hp h3)
  | _, _, .tup h1 h3 => .tup (k _ _ h1.1 h1.2) (DrA.mono k hp h3)
  | _, _, .dk h1 h2 h3 => .dk (k _ _ h1 h2).1 (k _ _ h1 h2).2 (DrK.mono k hp h3)
  | _, _, .dt h1 h2 h3 => .dt (k _ _ h1 h2).1 (k _ _ h1 h2).2 (DrT.mono k hp h3)
  | _, _, .pool h => .pool (hp.trans h)
  | _, _, .scr h1 h3 => by
    refine .scr ?_ (DrA.mono k hp h3)
    rcases h1 with ⟨h1 | ⟨o, h1⟩, h2⟩ | h1
    · exact .inl ⟨.inl (k _ _ h1 h2).1, (k _ _ h1 h2).2⟩
    · exact .inl ⟨.inr ⟨o, (k _ _ h1 h2).1⟩, (k _ _ h1 h2).2⟩
    · exact .inr h1
theorem DrA.mono (k : ∀ a o, H a = some o → a ∉ G.own → H' a = some o ∧ a ∉ G'.own) (hp : G'.pl = G.pl) : ∀ {vs : List V} {ds : List D}, DrA K G H vs ds → DrA K G' H' vs ds
  | _, _, .nil => .nil
  | _, _, .cons h t => .cons (Dr.mono k hp h) (DrA.mono k hp t)
theorem DrK.mono (k : ∀ a o, H a = some o → a ∉ G.own → H' a = some o ∧ a ∉ G'.own) (hp : G'.pl = G.pl) : ∀ {vs : List (Key × V)} {ds : List (D × D)}, DrK K G H vs ds → DrK K G' H' vs ds
  | _, _, .nil => .nil
  | _, _, .cons e h t => .cons e (Dr.mono k hp h) (DrK.mono k hp t)
theorem DrT.mono (k : ∀ a o, H a = some o → a ∉ G.own → H' a = some o ∧ a ∉ G'.own) (hp : G'.pl = G.pl) : ∀ {vs : List (List Key × V)} {ds : List (D × D)}, DrT K G H vs ds → DrT K G' H' vs ds
  | _, _, .nil => .nil
  | _, _, .cons e h t => .cons e (Dr.mono k hp h) (DrT.mono k hp t)
end

/-- what a call (an expression) may do -/
def Stp (G : Gh) (H H' : Hp) : Prop := ∀ a o, H a = some o → a ∉ G.wr → H' a = some o
theorem Stp.refl : Stp G H H := fun _ _ h _ => h
theorem Stp.trans {H1 : Hp} (a : Stp G H H1) (b : Stp G H1 H') : Stp G H H' := fun c o h n => b c o (a c o h n) n
theorem Stp.upd {a : Addr} {o : HO} (h : H a = none) : Stp G H (upd H a o) := fun c u e _ => by rw [upd_ne (ne_of_none e h)]; exact e
structure GOk (G : Gh) (H : Hp) : Prop where
  dom : ∀ a ∈ G.own, Hs H a
  wo : ∀ a ∈ G.wr, a ∈ G.own
  lo : ∀ a ∈ G.ls, a ∈ G.own
theorem Dr.stp (o : ∀ a ∈ G.wr, a ∈ G.own) (st : Stp G H H') {v : V} {d : D} (h : Dr K G H v d) : Dr K G H' v d :=
  h.mono (fun a u e n => ⟨st a u e fun z => n (o a z), n⟩) rfl
theorem DrA.stp (o : ∀ a ∈ G.wr, a ∈ G.own) (st : Stp G H H') {v : List V} {d : List D} (h : DrA K G H v d) : DrA K G H' v d :=
  h.mono (fun a u e n => ⟨st a u e fun z => n (o a z), n⟩) rfl
/-- the pool stands -/
def GsOk (K : PySem.W.Frag) (G : Gh) (H : Hp) (g : GS) : Prop := match g.pool with
  | none => G.pl = none
  | some (rows, at_) => ∃ p r c, G.pl = some (p, r, c) ∧ H p = some (.lst [.ref r, .ref c]) ∧ H r = some (.lst (rows.map V.int)) ∧ H c = some (.lst [.int at_]) ∧ p ∈ G.own ∧ r ∈ G.own ∧ c ∈ G.own ∧
      c ∈ G.wr ∧ p ∉ G.wr ∧ r ∉ G.wr
theorem GsOk.keep {g : GS} (h : GsOk K G H g) (k : ∀ a o, H a = some o → a ∈ G.own → H' a = some o) : GsOk K G H' g := by
  obtain ⟨pl⟩ := g
  cases pl with
  | none => exact h
  | some q =>
    obtain ⟨rows, at_⟩ := q
    obtain ⟨p, r, c, h1, h2, h3, h4, h5, h6, h7, h8⟩ := h
    exact ⟨p, r, c, h1, k _ _ h2 h5, k _ _ h3 h6, k _ _ h4 h7, h5, h6, h7, h8⟩

/-! ### the names of a def -/
def SlotOk (K : PySem.W.Frag) (H0 : Hp) (G : Gh) (H : Hp) : Slot → Option V → Prop
  | .un, _ => True
  | .v d, x => ∃ v, x = some v ∧ Dr K G H v d
  | .l ds, x => ∃ a vs, x = some (.ref a) ∧ H a = some (.lst vs) ∧ DrA K G H vs ds ∧ a ∈ G.ls ∧ H0 a = none
  | .d false kvs, x => ∃ a ks, x = some (.ref a) ∧ H a = some (.dK ks) ∧ DrK K G H ks kvs ∧ a ∈ G.ls ∧ H0 a = none
  | .d true kvs, x => ∃ a ks, x = some (.ref a) ∧ H a = some (.dT ks) ∧ DrT K G H ks kvs ∧ a ∈ G.ls ∧ H0 a = none
def Slot.isL : Slot → Bool
  | .l _ => true
  | .d _ _ => true
  | _ => false
/-- what an own object holds -/
inductive OwnO (K : PySem.W.Frag) (G : Gh) (H : Hp) : HO → Slot → D → Prop
  | l {vs : List V} {ds : List D} : DrA K G H vs ds → OwnO K G H (.lst vs) (.l ds) (.list ds)
  | k {ks : List (Key × V)} {kvs : List (D × D)} : DrK K G H ks kvs → OwnO K G H (.dK ks) (.d false kvs) (.dict kvs)
  | t {ks : List (List Key × V)} {kvs : List (D × D)} : DrT K G H ks kvs → OwnO K G H (.dT ks) (.d true kvs) (.dict ((.list [], .none) :: kvs))
theorem SlotOk.own {K : PySem.W.Frag} {H0 : Hp} {G : Gh} {H : Hp} {s : Slot} {x : Option V} (h : SlotOk K H0 G H s x) (l : s.isL = true) : ∃ a o d, x = some (.ref a) ∧ H a = some o ∧ OwnO K G H o s d ∧ a ∈ G.ls ∧ H0 a = none := by
  match s, l, h with
  | .l ds, _, ⟨a, vs, e, h1, h2, h3, h4⟩ => exact ⟨a, _, _, e, h1, .l h2, h3, h4⟩
  | .d false kvs, _, ⟨a, vs, e, h1, h2, h3, h4⟩ => exact ⟨a, _, _, e, h1, .k h2, h3, h4⟩
  | .d true kvs, _, ⟨a, vs, e, h1, h2, h3, h4⟩ => exact ⟨a, _, _, e, h1, .t h2, h3, h4⟩
theorem SlotOk.of {K : PySem.W.Frag} {H0 : Hp} {G : Gh} {H : Hp} {s : Slot} {x : Option V} {a : Addr} {o : HO} {d : D} (e : x = some (.ref a)) (h1 : H a = some o) (h2 : OwnO K G H o s d) (h3 : a ∈ G.ls) (h4 : H0 a = none) : SlotOk K H0 G H s x := by
  cases h2 with
  | l h2 => exact ⟨a, _, e, h1, h2, h3, h4⟩
  | k h2 => exact ⟨a, _, e, h1, h2, h3, h4⟩
  | t h2 => exact ⟨a, _, e, h1, h2, h3, h4⟩
theorem OwnO.isL {K : PySem.W.Frag} {G : Gh} {H : Hp} {o : HO} {s : Slot} {d : D} (h : OwnO K G H o s d) : s.isL = true := by cases h <;> rfl
theorem OwnO.nt {K : PySem.W.Frag} {G : Gh} {H : Hp} {o : HO} {s : Slot} {d : D} (h : OwnO K G H o s d) : nt o = true := by cases h <;> rfl
theorem OwnO.mono {K : PySem.W.Frag} {G G' : Gh} {H H' : Hp} {o : HO} {s : Slot} {d : D} (k : ∀ a o, H a = some o → a ∉ G.own → H' a = some o ∧ a ∉ G'.own) (hp : G'.pl = G.pl) (h : OwnO K G H o s d) : OwnO K G' H' o s d := by
  cases h with
  | l h => exact .l (h.mono k hp)
  | k h => exact .k (h.mono k hp)
  | t h => exact .t (h.mono k hp)
theorem OwnO.mut {K : PySem.W.Frag} {G : Gh} {H : Hp} {o : HO} {s : Slot} {d : D} (h : OwnO K G H o s d) : Mut (some o) := by cases h <;> trivial
/-- as data: a list stands, a dict is locked -/
theorem OwnO.dr {K : PySem.W.Frag} {G : Gh} {H : Hp} {o : HO} {s : Slot} {d : D} {a : Addr} (h : OwnO K G H o s d) (n : a ∉ G.own) : (H a = some o → (∃ ds, d = .list ds) → Dr K G H (.ref a) d) ∧ ∀ od, H a = some (.frz od o) → (∀ ds, d ≠ .list ds) → Dr K G H (.ref a) d := by
  cases h with
  | l h => exact ⟨fun ha _ => .lst ha n h, fun _ _ z => absurd rfl (z _)⟩
  | k h => exact ⟨(fun _ ⟨_, z⟩ => nomatch z), fun _ ha _ => .dk ha n h⟩
  | t h => exact ⟨(fun _ ⟨_, z⟩ => nomatch z), fun _ ha _ => .dt ha n h⟩
theorem SlotOk.moved {K : PySem.W.Frag} {H0 : Hp} {G G' : Gh} {H H' : Hp} {s : Slot} {x : Option V} (h : SlotOk K H0 G H s x) (k : ∀ a o, H a = some o → a ∉ G.own → H' a = some o ∧ a ∉ G'.own) (hp : G'.pl = G.pl)
    (ko : ∀ a o, x = some (.ref a) → s.isL = true → H a = some o → a ∈ G.ls → H0 a = none → H' a = some o ∧ a ∈ G'.ls) : SlotOk K H0 G' H' s x := by
  by_cases l : s.isL = true
  · obtain ⟨a, o, d, e, h1, h2, h3, h4⟩ := h.own l
    obtain ⟨k1, k2⟩ := ko a o e l h1 h3 h4
    exact .of e k1 (h2.mono k hp) k2 h4
  · cases s with
    | un => trivial
    | v d =>
      obtain ⟨v, e, q⟩ := h
      exact ⟨v, e, q.mono k hp⟩
    | l ds => exact absurd rfl l
    | d t kvs => exact absurd rfl l
structure Rel (K : PySem.W.Frag) (G0 : Gh) (H0 : Hp) (G : Gh) (σ : St) (H : Hp) (ρ : List Slot) (g : GS) : Prop where
  ok : GOk G H
  ok0 : GOk G0 H0
  st0 : Stp G0 H0 H
  sub : ∀ a ∈ G0.own, a ∈ G.own
  nw : ∀ a ∈ G.own, a ∉ G0.own → H0 a = none
  wr : G.wr = G0.wr
  pl : G.pl = G0.pl
  len : ρ.length = σ.length
  sl : ∀ (i : Nat) (s : Slot), ρ[i]? = some s → SlotOk K H0 G H s ((σ[i]?).getD none)
  un : ∀ (i j : Nat) (s t : Slot), ρ[i]? = some s → ρ[j]? = some t → s.isL = true → t.isL = true → i ≠ j → (σ[i]?).getD none ≠ (σ[j]?).getD none
  gs : GsOk K G H g
theorem Rel.wo {G0 : Gh} {H0 : Hp} {σ : St} {ρ : List Slot} {g : GS} (r : Rel K G0 H0 G σ H ρ g) : ∀ a ∈ G.wr, a ∈ G.own := r.ok.wo
theorem Rel.nwr {G0 : Gh} {H0 : Hp} {σ : St} {ρ : List Slot} {g : GS} (r : Rel K G0 H0 G σ H ρ g) {a : Addr} (h : H0 a = none) : a ∉ G.wr := fun z => by
  rw [r.wr] at z
  obtain ⟨o, e, _⟩ := r.ok0.dom a (r.ok0.wo a z)
  rw [h] at e; cases e
theorem SlotOk.stp {H0 : Hp} {s : Slot} {x : Option V} (o : ∀ a ∈ G.wr, a ∈ G.own) (n : ∀ a, H0 a = none → a ∉ G.wr) (st : Stp G H H') (h : SlotOk K H0 G H s x) : SlotOk K H0 G H' s x :=
  h.moved (fun a u e m => ⟨st a u e fun z => m (o a z), m⟩) rfl fun a u _ _ e hl h4 => ⟨st a u e (n a h4), hl⟩
/-- behind an expression -/
theorem Rel.step {G0 : Gh} {H0 : Hp} {σ : St} {ρ : List Slot} {g g' : GS} (r : Rel K G0 H0 G σ H ρ g) (st : Stp G H H') (q : GsOk K G H' g') (ok : ∀ a ∈ G.own, Hs H' a) : Rel K G0 H0 G σ H' ρ g' :=
  ⟨⟨ok, r.wo, r.ok.lo⟩, r.ok0, fun a o e n => st a o (r.st0 a o e n) (by rw [r.wr]; exact n), r.sub, r.nw, r.wr, r.pl, r.len, fun i s e => (r.sl i s e).stp r.wo (fun a z => r.nwr z) st, r.un, q⟩
/-- the objects that are owned stay, whatever changes -/
structure Stq (K : PySem.W.Frag) (G : Gh) (H H' : Hp) (g' : GS) : Prop where
  st : Stp G H H'
  gs : GsOk K G H' g'
  dom : ∀ a ∈ G.own, Hs H' a
theorem Stq.trans {H1 : Hp} {g1 g2 : GS} (a : Stq K G H H1 g1) (b : Stq K G H1 H' g2) : Stq K G H H' g2 := ⟨a.st.trans b.st, b.gs, b.dom⟩
theorem Rel.stq {G0 : Gh} {H0 : Hp} {σ : St} {ρ : List Slot} {g g' : GS} (r : Rel K G0 H0 G σ H ρ g) (q : Stq K G H H' g') : Rel K G0 H0 G σ H' ρ g' := r.step q.st q.gs q.dom
theorem Rel.refl {G0 : Gh} {H0 : Hp} {σ : St} {ρ : List Slot} {g : GS} (r : Rel K G0 H0 G σ H ρ g) : Stq K G H H g := ⟨Stp.refl, r.gs, r.ok.dom⟩
/-- a new object -/
theorem Stq.new {g : GS} {p : Addr} {o : HO} (q : Stq K G H H' g) (h : H' p = none) : Stq K G H (upd H' p o) g := by
  have k : ∀ a u, H' a = some u → (L2.upd H' p o) a = some u := fun a u e => by rw [upd_ne (ne_of_none e h)]; exact e
  exact ⟨q.st.trans (Stp.upd h), q.gs.keep fun a u e _ => k a u e, fun a z => by
    obtain ⟨u, e, n⟩ := q.dom a z
    exact ⟨u, k a u e, n⟩⟩
theorem Rel.new {G0 : Gh} {H0 : Hp} {σ : St} {ρ : List Slot} {g : GS} {p : Addr} {o : HO} (r : Rel K G0 H0 G σ H ρ g) (h : H p = none) : Rel K G0 H0 G σ (upd H p o) ρ g := r.stq (r.refl.new h)
/-- a new tuple, a new list of data -/
theorem Dr.newT {p : Addr} {vs : List V} {ds : List D} (dom : ∀ a ∈ G.own, Hs H a) (h : H p = none) (x : DrA K G H vs ds) : Dr K G (upd H p (.tup vs)) (.ref p) (.tuple ds) :=
  .tup ⟨upd_same, fun z => by obtain ⟨o, e, _⟩ := dom p z; rw [h] at e; cases e⟩ (x.mono (fun a o e n => ⟨by rw [upd_ne (ne_of_none e h)]; exact e, n⟩) rfl)
theorem Dr.newL {p : Addr} {vs : List V} {ds : List D} (dom : ∀ a ∈ G.own, Hs H a) (h : H p = none) (x : DrA K G H vs ds) : Dr K G (upd H p (.lst vs)) (.ref p) (.list ds) :=
  .lst upd_same (fun z => by obtain ⟨o, e, _⟩ := dom p z; rw [h] at e; cases e) (x.mono (fun a o e n => ⟨by rw [upd_ne (ne_of_none e h)]; exact e, n⟩) rfl)
end

/-! ### data as the layer reads them -/
def SqLS (K : PySem.W.Frag) (H : Hp) (v : V) (ds : List D) (P : List V → Prop) : Prop := ∃ a xs, v = .ref a ∧ SqL K H a xs ∧ P xs
mutual
theorem Dr.dp {K : PySem.W.Frag} {G : Gh} {H : Hp} : ∀ {v : V} {d : D}, Dr K G H v d → d.canLay0 = true → Dp K H v d
  | _, _, .non, _ => .non
  | _, _, .bl b, _ => .bl b
  | _, _, .int i, _ => .int i
  | _, _, .str x, _ => .str x
  | _, _, .lst h1 _ h3, h => .lst (.of h1) (DrA.dp h3 (by simpa [PyData.canLay0] using h))
  | _, _, .tup h1 h3, h => .tup h1.sq (DrA.dp h3 (by simpa [PyData.canLay0] using h))
  | _, _, .pool _, h => by simp [PyData.canLay0] at h
  | _, _, .scr _ _, h => by simp [PyData.canLay0] at h
  | _, _, .dk _ _ _, h => by simp [PyData.canLay0] at h
  | _, _, .dt _ _ _, h => by simp [PyData.canLay0] at h
theorem DrA.dp {K : PySem.W.Frag} {G : Gh} {H : Hp} : ∀ {vs : List V} {ds : List D}, DrA K G H vs ds → PyData.canLayAll0 ds = true → DpAll K H vs ds
  | _, _, .nil, _ => .nil
  | _, _, .cons h t, e => by
    simp only [PyData.canLayAll0, Bool.and_eq_true] at e
    exact .cons (Dr.dp h e.1) (DrA.dp t e.2)
end
/-- what an operand may be: data, or a list of the def's own -/
def Dl (pk : Bool) (K : PySem.W.Frag) (H0 : Hp) (G : Gh) (H : Hp) (v : V) (d : D) : Prop :=
  Dr K G H v d ∨ (pk = true ∧ ∃ a vs ds, v = .ref a ∧ d = .list ds ∧ H a = some (.lst vs) ∧ DrA K G H vs ds ∧ a ∈ G.ls ∧ H0 a = none)
/-- .. or a dict of its own -/
def Dlo (K : PySem.W.Frag) (H0 : Hp) (G : Gh) (H : Hp) (v : V) (d : D) : Prop := Dl true K H0 G H v d ∨ ∃ a o s, v = .ref a ∧ H a = some o ∧ OwnO K G H o s d ∧ a ∈ G.ls ∧ H0 a = none
section
variable {K : PySem.W.Frag} {G : Gh} {H H' H0 : Hp} {v : V} {d : D} {pk : Bool}
theorem Dl.of (h : Dr K G H v d) : Dl pk K H0 G H v d := .inl h
theorem Dl.strict (h : Dl false K H0 G H v d) : Dr K G H v d := by
  rcases h with h | ⟨h, _⟩
  · exact h
  · cases h
theorem Dl.up (h : Dl pk K H0 G H v d) : Dl true K H0 G H v d := by
  rcases h with h | ⟨_, h⟩
  · exact .inl h
  · exact .inr ⟨rfl, h⟩
theorem Dl.dp (h : Dl pk K H0 G H v d) (e : d.canLay0 = true) : Dp K H v d := by
  rcases h with h | ⟨_, a, vs, ds, rfl, rfl, h1, h2, _⟩
  · exact h.dp e
  · exact .lst (.inl (.inl h1)) (h2.dp (by simpa [PyData.canLay0] using e))
theorem Dl.stp (o : ∀ a ∈ G.wr, a ∈ G.own) (n : ∀ a, H0 a = none → a ∉ G.wr) (st : Stp G H H') (h : Dl pk K H0 G H v d) : Dl pk K H0 G H' v d := by
  rcases h with h | ⟨e, a, vs, ds, e1, e2, h1, h2, h3, h4⟩
  · exact .inl (h.stp o st)
  · exact .inr ⟨e, a, vs, ds, e1, e2, st a _ h1 (n a h4), h2.stp o st, h3, h4⟩
theorem Dlo.stp (o : ∀ a ∈ G.wr, a ∈ G.own) (n : ∀ a, H0 a = none → a ∉ G.wr) (st : Stp G H H') (h : Dlo K H0 G H v d) : Dlo K H0 G H' v d := by
  rcases h with h | ⟨a, u, s, e1, h1, h2, h3, h4⟩
  · exact .inl (h.stp o n st)
  · exact .inr ⟨a, u, s, e1, st a _ h1 (n a h4), h2.mono (fun b w e m => ⟨st b w e fun z => m (o b z), m⟩) rfl, h3, h4⟩
theorem Dlo.dl (h : Dlo K H0 G H v d) (n : ∀ kvs, d ≠ .dict kvs) : Dl true K H0 G H v d := by
  rcases h with h | ⟨a, o, s, rfl, h1, h2, h3, h4⟩
  · exact h
  · cases h2 with
    | l h2 => exact .inr ⟨rfl, a, _, _, rfl, rfl, h1, h2, h3, h4⟩
    | k h2 => exact absurd rfl (n _)
    | t h2 => exact absurd rfl (n _)
theorem Dl.list {ds : List D} (h : Dl pk K H0 G H v (.list ds)) : ∃ a vs, v = .ref a ∧ H a = some (.lst vs) ∧ DrA K G H vs ds := by
  rcases h with h | ⟨_, a, vs, ds', rfl, e, h1, h2, _⟩
  · cases h with
    | lst h1 h2 h3 => exact ⟨_, _, rfl, h1, h3⟩
  · cases e; exact ⟨a, vs, rfl, h1, h2⟩
theorem Dl.tuple {ds : List D} (h : Dl pk K H0 G H v (.tuple ds)) : ∃ a vs, v = .ref a ∧ TupN K G H a vs ∧ DrA K G H vs ds := by
  rcases h with h | ⟨_, a, vs, ds', rfl, e, h1, h2, _⟩
  · cases h with
    | tup h1 h3 => exact ⟨_, _, rfl, h1, h3⟩
  · cases e
theorem Dl.int {i : Int} (h : Dl pk K H0 G H v (.int i)) : v = .int i := by
  rcases h with h | ⟨_, a, vs, ds', rfl, e, h1, h2, _⟩
  · cases h; rfl
  · cases e
theorem Dl.bool {i : Bool} (h : Dl pk K H0 G H v (.bool i)) : v = .bl i := by
  rcases h with h | ⟨_, a, vs, ds', rfl, e, h1, h2, _⟩
  · cases h; rfl
  · cases e
theorem Dl.none (h : Dl pk K H0 G H v .none) : v = .non := by
  rcases h with h | ⟨_, a, vs, ds', rfl, e, h1, h2, _⟩
  · cases h; rfl
  · cases e
theorem Dl.non_iff (h : Dl pk K H0 G H v d) : (decide (v = .non)) = isNoneD d := by
  rcases h with h | ⟨_, a, vs, ds', rfl, rfl, h1, h2, _⟩
  · cases h <;> simp [isNoneD]
  · simp [isNoneD]
/-- a list or a tuple -/
theorem Dl.seq {ds : List D} (h : Dl pk K H0 G H v d) (e : seqOf d = some ds) : ∃ a vs, v = .ref a ∧ (SqL K H a vs ∨ SqT K H a vs) ∧ DrA K G H vs ds ∧ ((∃ es, d = .list es) → SqL K H a vs) ∧ ((∃ es, d = .tuple es) → SqT K H a vs) := by
  cases d <;> simp [seqOf] at e
  · subst e
    obtain ⟨a, vs, e, h1, h2⟩ := h.list
    exact ⟨a, vs, e, .inl (.of h1), h2, fun _ => .of h1, fun ⟨_, z⟩ => nomatch z⟩
  · subst e
    obtain ⟨a, vs, e, h1, h2⟩ := h.tuple
    exact ⟨a, vs, e, .inr h1.sq, h2, fun ⟨_, z⟩ => (nomatch z), fun _ => h1.sq⟩
theorem keyD_dict {k : Key} {x : List (D × D)} (h : .dict x = keyD k) : False := by cases k <;> cases h
theorem keyD_list {k : Key} {x : List D} (h : .list x = keyD k) : False := by cases k <;> cases h
theorem DrK.head {ks : List (Key × V)} {e d : D} {kvs : List (D × D)} (h : DrK K G H ks ((e, d) :: kvs)) : ∃ k, e = keyD k := by
  cases h with
  | cons e _ _ => exact ⟨_, e⟩
theorem DrK.noDict {ks : List (Key × V)} {x : List (D × D)} {d : D} {kvs : List (D × D)} (h : DrK K G H ks ((.dict x, d) :: kvs)) : False := let ⟨_, e⟩ := h.head; keyD_dict e
theorem DrK.noList {ks : List (Key × V)} {x : List D} {d : D} {kvs : List (D × D)} (h : DrK K G H ks ((.list x, d) :: kvs)) : False := let ⟨_, e⟩ := h.head; keyD_list e
/-- the script too -/
theorem Dl.seqX {ds : List D} (h : Dl pk K H0 G H v d) (e : seqX d = some ds) : ∃ a vs, v = .ref a ∧ (SqL K H a vs ∨ SqT K H a vs) ∧ DrA K G H vs ds := by
  unfold Dv.seqX at e
  split at e
  · cases e
    rcases h with h | ⟨_, a, vs, ds', rfl, e, h1, h2, _⟩
    · cases h with
      | dk h1 h2 h3 => exact h3.noDict.elim
      | scr h1 h3 => exact ⟨_, _, rfl, .inl h1.sq, h3⟩
    · cases e
  · obtain ⟨a, vs, e1, e2, e3, _⟩ := h.seq e
    exact ⟨a, vs, e1, e2, e3⟩
theorem Dlo.seqX {ds : List D} (h : Dlo K H0 G H v d) (e : seqX d = some ds) : ∃ a vs, v = .ref a ∧ (SqL K H a vs ∨ SqT K H a vs) ∧ DrA K G H vs ds := by
  rcases h with h | ⟨a, o, s, rfl, h1, h2, h3, h4⟩
  · exact h.seqX e
  · cases h2 with
    | l h2 => cases e; exact ⟨a, _, rfl, .inl (.of h1), h2⟩
    | k h2 =>
      unfold Dv.seqX at e
      split at e
      · rename_i q; cases q; exact h2.noDict.elim
      · cases e
    | t h2 => cases e
/-! dicts -/
theorem keyOf_D (k : Key) : keyOf (keyD k) = some k := by cases k <;> rfl
theorem keysOf_D : ∀ ks : List Key, keysOf (ks.map keyD) = some ks
  | [] => rfl
  | k :: r => by
    show (keyOf (keyD k)).bind _ = _
    rw [keyOf_D]
    show (keysOf (r.map keyD)).map _ = _
    rw [keysOf_D r]
    rfl
theorem keyOf_is {d : D} {k : Key} (h : keyOf d = some k) : d = keyD k := by
  cases d <;> simp [keyOf] at h
  · subst h; rfl
  · subst h; rfl
theorem keysOf_is : ∀ {ds : List D} {ks : List Key}, keysOf ds = some ks → ds = ks.map keyD
  | [], ks, h => by simp [keysOf] at h; subst h; rfl
  | d :: r, ks, h => by
    simp only [keysOf, Option.bind_eq_some_iff, Option.map_eq_some_iff] at h
    obtain ⟨k, e1, ks', e2, rfl⟩ := h
    rw [List.map_cons, ← keyOf_is e1, ← keysOf_is e2]
theorem tkOf_is {d : D} {ks : List Key} (h : tkOf d = some ks) : d = .tuple (ks.map keyD) := by
  cases d <;> simp [tkOf] at h
  rw [keysOf_is h]
theorem DrK.length : ∀ {ks : List (Key × V)} {kvs : List (D × D)}, DrK K G H ks kvs → ks.length = kvs.length
  | _, _, .nil => rfl
  | _, _, .cons _ _ t => by rw [List.length_cons, List.length_cons, DrK.length t]
theorem DrT.length : ∀ {ks : List (List Key × V)} {kvs : List (D × D)}, DrT K G H ks kvs → ks.length = kvs.length
  | _, _, .nil => rfl
  | _, _, .cons _ _ t => by rw [List.length_cons, List.length_cons, DrT.length t]
theorem DrK.all : ∀ {ks : List (Key × V)} {kvs : List (D × D)}, DrK K G H ks kvs → kvs.all (fun p => (keyOf p.1).isSome) = true
  | _, _, .nil => rfl
  | _, _, .cons e _ t => by rw [List.all_cons, DrK.all t, e, keyOf_D]; rfl
theorem DrT.all : ∀ {ks : List (List Key × V)} {kvs : List (D × D)}, DrT K G H ks kvs → kvs.all (fun p => (tkOf p.1).isSome) = true
  | _, _, .nil => rfl
  | _, _, .cons e _ t => by
    rw [List.all_cons, DrT.all t, e]
    show ((keysOf _).isSome && true) = true
    rw [keysOf_D]; rfl
/-- a dict whose keys are ints and texts -/
theorem Dlo.dk {kvs : List (D × D)} (h : Dlo K H0 G H v d) (e : dkD d = some kvs) : ∃ a ks, v = .ref a ∧ Rd H a (.dK ks) ∧ DrK K G H ks kvs := by
  unfold dkD at e
  split at e
  · rename_i l
    split at e
    · rename_i ha
      cases e
      rcases h with (h | ⟨_, a, vs, ds', rfl, e, h1, h2, _⟩) | ⟨a, o, s, rfl, h1, h2, _⟩
      · cases h with
        | dk h1 h2 h3 => exact ⟨_, _, rfl, .inr ⟨_, h1⟩, h3⟩
        | dt h1 h2 h3 => simp [keyOf] at ha
        | pool h => simp [keyOf] at ha
        | scr h1 h2 => simp [keyOf] at ha
      · cases e
      · cases h2 with
        | k h2 => exact ⟨_, _, rfl, .inl h1, h2⟩
        | t h2 => simp [keyOf] at ha
    · cases e
  · cases e
theorem Dlo.dt {kvs : List (D × D)} (h : Dlo K H0 G H v d) (e : dtD d = some kvs) : ∃ a ks, v = .ref a ∧ Rd H a (.dT ks) ∧ DrT K G H ks kvs := by
  unfold dtD at e
  split at e
  · rename_i l
    split at e
    · rename_i ha
      cases e
      rcases h with (h | ⟨_, a, vs, ds', rfl, e, h1, h2, _⟩) | ⟨a, o, s, rfl, h1, h2, _⟩
      · cases h with
        | dk h1 h2 h3 => exact h3.noList.elim
        | dt h1 h2 h3 => exact ⟨_, _, rfl, .inr ⟨_, h1⟩, h3⟩
      · cases e
      · cases h2 with
        | k h2 => exact h2.noList.elim
        | t h2 => exact ⟨_, _, rfl, .inl h1, h2⟩
    · cases e
  · cases e
theorem DrK.val (k : Key) : ∀ {ks : List (Key × V)} {kvs : List (D × D)}, DrK K G H ks kvs → (∀ d, lookK kvs k = some d → ∃ v, valV ks k = some v ∧ Dr K G H v d) ∧ (lookK kvs k = none → valV ks k = none)
  | _, _, .nil => ⟨fun d h => by simp [lookK] at h, fun _ => rfl⟩
  | _, _, .cons (k := k') (e := e) he h t => by
    subst he
    by_cases q : k' = k
    · subst q
      have l : ∀ (d : D) (r : List (D × D)), lookK ((keyD k', d) :: r) k' = some d := fun d r => by simp [lookK, keyOf_D]
      rw [l, valV_pos rfl]
      exact ⟨fun d z => by cases z; exact ⟨_, rfl, h⟩, fun z => nomatch z⟩
    · have l : ∀ (d : D) (r : List (D × D)), lookK ((keyD k', d) :: r) k = lookK r k := fun d r => by simp [lookK, keyOf_D, q]
      rw [l, valV_neg q]
      exact DrK.val k t
theorem tkOf_D (ks : List Key) : tkOf (.tuple (ks.map keyD)) = some ks := keysOf_D ks
theorem DrT.val (k : List Key) : ∀ {ks : List (List Key × V)} {kvs : List (D × D)}, DrT K G H ks kvs → (∀ d, lookT kvs k = some d → ∃ v, valV ks k = some v ∧ Dr K G H v d) ∧ (lookT kvs k = none → valV ks k = none)
  | _, _, .nil => ⟨fun d h => by simp [lookT] at h, fun _ => rfl⟩
  | _, _, .cons (k := k') (e := e) he h t => by
    subst he
    by_cases q : k' = k
    · subst q
      have l : ∀ (d : D) (r : List (D × D)), lookT ((.tuple (k'.map keyD), d) :: r) k' = some d := fun d r => by simp [lookT, tkOf_D]
      rw [l, valV_pos rfl]
      exact ⟨fun d z => by cases z; exact ⟨_, rfl, h⟩, fun z => nomatch z⟩
    · have l : ∀ (d : D) (r : List (D × D)), lookT ((.tuple (k'.map keyD), d) :: r) k = lookT r k := fun d r => by simp [lookT, tkOf_D, q]
      rw [l, valV_neg q]
      exact DrT.val k t
theorem DrK.mapP (k : Key) {y : V} {z : D} (hz : Dr K G H y z) : ∀ {ks : List (Key × V)} {kvs : List (D × D)}, DrK K G H ks kvs → DrK K G H (ks.map fun kv => if kv.1 = k then (kv.1, y) else kv) (kvs.map fun p => if keyOf p.1 = some k then (p.1, z) else p)
  | _, _, .nil => .nil
  | _, _, .cons (k := k') (e := e) he h t => by
    subst he
    rw [List.map_cons, List.map_cons, keyOf_D]
    by_cases q : k' = k
    · rw [if_pos q, if_pos (by rw [q])]
      exact .cons rfl hz (DrK.mapP k hz t)
    · rw [if_neg q, if_neg fun z => q (Option.some.inj z)]
      exact .cons rfl h (DrK.mapP k hz t)
theorem DrT.mapP (k : List Key) {y : V} {z : D} (hz : Dr K G H y z) : ∀ {ks : List (List Key × V)} {kvs : List (D × D)}, DrT K G H ks kvs → DrT K G H (ks.map fun kv => if kv.1 = k then (kv.1, y) else kv) (kvs.map fun p => if tkOf p.1 = some k then (p.1, z) else p)
  | _, _, .nil => .nil
  | _, _, .cons (k := k') (e := e) he h t => by
    subst he
    rw [List.map_cons, List.map_cons, tkOf_D]
    by_cases q : k' = k
    · rw [if_pos q, if_pos (by rw [q])]
      exact .cons rfl hz (DrT.mapP k hz t)
    · rw [if_neg q, if_neg fun z => q (Option.some.inj z)]
      exact .cons rfl h (DrT.mapP k hz t)
theorem DrK.append : ∀ {ks ks' : List (Key × V)} {kvs kvs' : List (D × D)}, DrK K G H ks kvs → DrK K G H ks' kvs' → DrK K G H (ks ++ ks') (kvs ++ kvs')
  | _, _, _, _, .nil, h => h
  | _, _, _, _, .cons e a t, h => .cons e a (DrK.append t h)
theorem DrT.append : ∀ {ks ks' : List (List Key × V)} {kvs kvs' : List (D × D)}, DrT K G H ks kvs → DrT K G H ks' kvs' → DrT K G H (ks ++ ks') (kvs ++ kvs')
  | _, _, _, _, .nil, h => h
  | _, _, _, _, .cons e a t, h => .cons e a (DrT.append t h)
theorem DrK.put {ks : List (Key × V)} {kvs : List (D × D)} {y : V} {z : D} (k : Key) (h : DrK K G H ks kvs) (hz : Dr K G H y z) : DrK K G H (putK ks k y) (putDK kvs k z) := by
  unfold putDK putK
  rw [valV_any]
  obtain ⟨h1, h2⟩ := h.val k
  cases q : lookK kvs k with
  | none =>
    rw [h2 q]
    exact h.append (.cons rfl hz .nil)
  | some d =>
    obtain ⟨v, e, _⟩ := h1 d q
    rw [e]
    exact h.mapP k hz
theorem DrT.put {ks : List (List Key × V)} {kvs : List (D × D)} {y : V} {z : D} (k : List Key) (h : DrT K G H ks kvs) (hz : Dr K G H y z) : DrT K G H (putK ks k y) (putDT kvs k z) := by
  unfold putDT putK
  rw [valV_any]
  obtain ⟨h1, h2⟩ := h.val k
  cases q : lookT kvs k with
  | none =>
    rw [h2 q]
    exact h.append (.cons rfl hz .nil)
  | some d =>
    obtain ⟨v, e, _⟩ := h1 d q
    rw [e]
    exact h.mapP k hz
theorem Dr.key {y : V} {k : Key} (h : Dr K G H y (keyD k)) : y = kV k := by
  cases k <;> (cases h; rfl)
theorem DrA.keys : ∀ {vs : List V} {ks : List Key}, DrA K G H vs (ks.map keyD) → vs = ks.map kV
  | _, [], .nil => rfl
  | _, k :: r, .cons h t => by rw [Dr.key h, DrA.keys t]; rfl
/-- d[k], k in d -/
theorem Dlo.look {y : V} {k : D} {o : Option D} (h : Dlo K H0 G H v d) (hk : Dl pk K H0 G H y k) (e : lookD d k = some o) : ∃ a u, v = .ref a ∧ DGet H a y u ∧ u.isSome = o.isSome ∧ ∀ z, o = some z → ∃ w, u = some w ∧ Dr K G H w z := by
  unfold lookD at e
  split at e
  · rename_i kvs k' e1 e2
    cases e
    obtain ⟨a, ks, rfl, ha, hr⟩ := h.dk e1
    have hy : y = kV k' := by
      have := keyOf_is e2
      subst this
      rcases hk with hk | ⟨_, b, vs, ds', rfl, e, h1, h2, _⟩
      · exact hk.key
      · exact (keyD_list e.symm).elim
    subst hy
    refine ⟨a, valV ks k', rfl, .inl ⟨_, k', ha, rfl, rfl⟩, ?_, fun z hz => (hr.val k').1 z hz⟩
    cases q : lookK kvs k' with
    | none => rw [(hr.val k').2 q]; rfl
    | some d => obtain ⟨w, e, _⟩ := (hr.val k').1 d q; rw [e]; rfl
  · split at e
    · rename_i kvs k' e1 e2
      cases e
      obtain ⟨a, ks, rfl, ha, hr⟩ := h.dt e1
      have := tkOf_is e2
      subst this
      obtain ⟨b, vs, rfl, hb, hd⟩ := hk.tuple
      have := hd.keys
      subst this
      refine ⟨a, valV ks k', rfl, .inr ⟨_, k', b, ha, rfl, hb.1, rfl⟩, ?_, fun z hz => (hr.val k').1 z hz⟩
      cases q : lookT kvs k' with
      | none => rw [(hr.val k').2 q]; rfl
      | some d => obtain ⟨w, e, _⟩ := (hr.val k').1 d q; rw [e]; rfl
    · cases e
end
end Dv
end
section
set_option linter.all false
set_option maxRecDepth 100000
set_option autoImplicit false
set_option maxHeartbeats 4000000
/-! Dv3: the operations on data, over the layer's rules. -/
namespace Dv
open PySem PySem.Spec PyProof.Rows L2
section
variable {X : Cx}
/-- what an operation on two operands is to reach -/
def rD2o (K : PySem.W.Frag) (f : D → D → Option D) : R2 := fun x y H Q => ∃ G H0 g dx dy z, Dlo K H0 G H x dx ∧ Dl true K H0 G H y dy ∧ GOk G H ∧ GsOk K G H g ∧ f dx dy = some z ∧
  ∀ v H', Stq K G H H' g → Dr K G H' v z → Q v H'
def rD2 (K : PySem.W.Frag) (f : D → D → Option D) : R2 := fun x y H Q => ∃ G H0 g dx dy z, Dl true K H0 G H x dx ∧ Dl true K H0 G H y dy ∧ GOk G H ∧ GsOk K G H g ∧ f dx dy = some z ∧
  ∀ v H', Stq K G H H' g → Dr K G H' v z → Q v H'
theorem GOk.stq {K : PySem.W.Frag} {G : Gh} {H : Hp} {g : GS} (o : GOk G H) (q : GsOk K G H g) : Stq K G H H g := ⟨Stp.refl, q, o.dom⟩
theorem bin_ok (op : Operator) : OpR X (binaryOp op) (rD2 X.K (binD op)) := by
  intro pins s σ H x y v u Q I rx ry h
  obtain ⟨G, H0, g, dx, dy, z, hx, hy, ok, gs, e, q⟩ := h
  have qi : ∀ i : Int, z = .int i → Q (.int i) H := fun i e => by subst e; exact q _ _ (ok.stq gs) (.int i)
  unfold binD at e
  split at e
  · have ex := hx.int; have ey := hy.int
    exact op_add pins s σ H x y v u Q I rx ry ⟨_, _, ex, ey, qi _ (Option.some.inj e).symm⟩
  · -- tuples
    obtain ⟨hl, rfl⟩ := lenOk_some e
    obtain ⟨a, vs, rfl, ta, da⟩ := hx.tuple
    obtain ⟨b, ws, rfl, tb, db⟩ := hy.tuple
    have la := da.length
    have lb := db.length
    refine op_catA pins s σ H _ _ v u Q I rx ry ⟨a, b, vs, ws, rfl, rfl, ta.sq, tb.sq, ?_, fun e => ?_, fun _ e => ?_, fun _ _ p hp => ?_⟩
    · have := lim_le; omega
    · subst e
      cases da
      exact q _ _ (ok.stq gs) (.tup tb db)
    · subst e
      cases db
      rw [List.append_nil] at q
      exact q _ _ (ok.stq gs) (.tup ta da)
    · exact q _ _ ((ok.stq gs).new hp) (Dr.newT ok.dom hp (da.append db))
  · -- lists
    obtain ⟨hl, rfl⟩ := lenOk_some e
    obtain ⟨a, vs, rfl, ta, da⟩ := hx.list
    obtain ⟨b, ws, rfl, tb, db⟩ := hy.list
    have la := da.length
    have lb := db.length
    refine op_cat pins s σ H _ _ v u Q I rx ry ⟨a, b, vs, ws, rfl, rfl, ta, tb, ?_, fun p hp => ?_⟩
    · have := lim_le; omega
    · exact q _ _ ((ok.stq gs).new hp) (Dr.newL ok.dom hp (da.append db))
  · have ex := hx.int; have ey := hy.int
    exact op_sub pins s σ H x y v u Q I rx ry ⟨_, _, ex, ey, qi _ (Option.some.inj e).symm⟩
  · -- int * int
    have ex := hx.int; have ey := hy.int
    split at e
    · rename_i i j hm
      unfold mulOk at hm
      simp only [Bool.or_eq_true, decide_eq_true_eq] at hm
      rcases hm with (hm | hm) | hm
      · exact op_mul pins s σ H x y v u Q I rx ry ⟨_, _, ex, ey, .inl (by omega), qi _ (Option.some.inj e).symm⟩
      · exact op_mul pins s σ H x y v u Q I rx ry ⟨_, _, ex, ey, .inr (by omega), qi _ (Option.some.inj e).symm⟩
      · exact op_mulW pins s σ H x y v u Q I rx ry ⟨_, _, ex, ey, hm, qi _ (Option.some.inj e).symm⟩
    · cases e
  · have ex := hx.int; have ey := hy.int
    split at e
    · rename_i hm
      exact op_fdivW pins s σ H x y v u Q I rx ry ⟨_, _, ex, ey, hm, qi _ (Option.some.inj e).symm⟩
    · cases e
  · have ex := hx.int; have ey := hy.int
    split at e
    · rename_i hm
      exact op_mod pins s σ H x y v u Q I rx ry ⟨_, _, ex, ey, hm, qi _ (Option.some.inj e).symm⟩
    · cases e
  · have ex := hx.int; have ey := hy.int
    split at e
    · rename_i hm
      exact op_shr pins s σ H x y v u Q I rx ry ⟨_, _, ex, ey, hm, qi _ (Option.some.inj e).symm⟩
    · cases e
  · have ex := hx.int; have ey := hy.int
    split at e
    · rename_i hm
      unfold powOk at hm
      simp only [Bool.and_eq_true, decide_eq_true_eq] at hm
      exact op_shl pins s σ H x y v u Q I rx ry ⟨_, _, ex, ey, ⟨hm.1.1, hm.1.2, hm.2⟩, qi _ (Option.some.inj e).symm⟩
    · cases e
  · have ex := hx.int; have ey := hy.int
    split at e
    · rename_i hm
      unfold powOk at hm
      simp only [Bool.and_eq_true, decide_eq_true_eq] at hm
      exact op_pow pins s σ H x y v u Q I rx ry ⟨_, _, ex, ey, ⟨hm.1.1, hm.1.2, hm.2⟩, qi _ (Option.some.inj e).symm⟩
    · cases e
  · have ex := hx.int; have ey := hy.int
    exact op_and pins s σ H x y v u Q I rx ry ⟨_, _, ex, ey, qi _ (Option.some.inj e).symm⟩
  · cases e

/-! ### comparisons: the heap stays -/
def rDB (K : PySem.W.Frag) (f : D → D → Option Bool) : R2 := fun x y H Q => ∃ G H0 dx dy b, Dl true K H0 G H x dx ∧ Dlo K H0 G H y dy ∧ f dx dy = some b ∧ Q (.bl b) H
theorem shp_nd {d : D} (h : shp d = true) : ∀ kvs, d ≠ .dict kvs := fun kvs e => by
  subst e
  have := SeqAt.canLay_of_shaped h
  simp [PyData.canLay0] at this
theorem eq_ok (hu : X.A.units + 64 < cLine) : OpR X (compareOp .Eq) (rDB X.K eqD) := by
  intro pins s σ H x y v u Q I rx ry h
  obtain ⟨G, H0, dx, dy, b, hx, hy, e, q⟩ := h
  unfold eqD at e
  split at e
  · rename_i hs
    cases e
    exact op_eqD hu pins s σ H x y v u Q I rx ry ⟨dx, dy, hx.dp (SeqAt.canLay_of_shaped hs.1), (hy.dl (shp_nd hs.2)).dp (SeqAt.canLay_of_shaped hs.2), hs.1, hs.2, q⟩
  · cases e
theorem ne_ok (hu : X.A.units + 64 < cLine) : OpR X (compareOp .NotEq) (rDB X.K fun x y => (eqD x y).map (!·)) := by
  intro pins s σ H x y v u Q I rx ry h
  obtain ⟨G, H0, dx, dy, b, hx, hy, e, q⟩ := h
  change Option.map _ (eqD dx dy) = some b at e
  unfold eqD at e
  split at e
  · rename_i hs
    cases e
    exact op_neD hu pins s σ H x y v u Q I rx ry ⟨dx, dy, hx.dp (SeqAt.canLay_of_shaped hs.1), (hy.dl (shp_nd hs.2)).dp (SeqAt.canLay_of_shaped hs.2), hs.1, hs.2, q⟩
  · cases e
theorem in_raw (hu : X.A.units + 65 < cLine) {pins : List (Addr × Obj)} {s : Shared} {σ : St} {H H0 : Hp} {x y : V} {v u : Value} {G : Gh} {dx dy : D} {b : Bool} (I : Inv X pins σ H s) (rx : RelV x v) (ry : RelV y u)
    (hx : Dl true X.K H0 G H x dx) (hy : Dlo X.K H0 G H y dy) (e : inD dx dy = some b) {Q : Value → Shared → Prop} {E : Value → Shared → Prop} (q : ∀ s', Inv X pins σ H s' → Q (.bool b) s') : wpAny (model X.prog X.w) X.A (compareOp .In v u) Q E s := by
  unfold inD at e
  split at e
  · rename_i ds hs
    split at e
    · rename_i hc
      cases e
      have cx := SeqAt.canLay_of_shaped hc.1
      have cy := SeqAt.canLay_of_shaped hc.2
      obtain ⟨as, r1⟩ := Dp.reads I dx x v (hx.dp cx) rx
      obtain ⟨bs, r2⟩ := Dp.reads I dy y u ((hy.dl (shp_nd hc.2)).dp cy) ry
      cases dy <;> simp [seqOf] at hs
      · subst hs
        exact SeqAt.in_list_reads r2 r1 (by simpa [PyData.canLay0] using cy) cx (room_in_shaped hc.1 hu) (q s I)
      · subst hs
        exact SeqAt.in_tuple_reads r2 r1 (by simpa [PyData.canLay0] using cy) cx (room_in_shaped hc.1 hu) (q s I)
    · cases e
  · obtain ⟨o, e1, rfl⟩ := Option.map_eq_some_iff.mp e
    obtain ⟨a, w, rfl, g, hs, _⟩ := hy.look hx e1
    cases ry
    exact d_in (by omega) I g rx fun s' I' => by rw [hs]; exact q s' I'
theorem notIn_raw (hu : X.A.units + 65 < cLine) {pins : List (Addr × Obj)} {s : Shared} {σ : St} {H H0 : Hp} {x y : V} {v u : Value} {G : Gh} {dx dy : D} {b : Bool} (I : Inv X pins σ H s) (rx : RelV x v) (ry : RelV y u)
    (hx : Dl true X.K H0 G H x dx) (hy : Dlo X.K H0 G H y dy) (e : inD dx dy = some b) {Q : Value → Shared → Prop} {E : Value → Shared → Prop} (q : ∀ s', Inv X pins σ H s' → Q (.bool !b) s') : wpAny (model X.prog X.w) X.A (compareOp .NotIn v u) Q E s := by
  unfold inD at e
  split at e
  · rename_i ds hs
    split at e
    · rename_i hc
      cases e
      have cx := SeqAt.canLay_of_shaped hc.1
      have cy := SeqAt.canLay_of_shaped hc.2
      obtain ⟨as, r1⟩ := Dp.reads I dx x v (hx.dp cx) rx
      obtain ⟨bs, r2⟩ := Dp.reads I dy y u ((hy.dl (shp_nd hc.2)).dp cy) ry
      cases dy <;> simp [seqOf] at hs
      · subst hs
        exact SeqAt.notIn_list_reads r2 r1 (by simpa [PyData.canLay0] using cy) cx (room_in_shaped hc.1 hu) (q s I)
      · subst hs
        exact SeqAt.notIn_tuple_reads r2 r1 (by simpa [PyData.canLay0] using cy) cx (room_in_shaped hc.1 hu) (q s I)
    · cases e
  · obtain ⟨o, e1, rfl⟩ := Option.map_eq_some_iff.mp e
    obtain ⟨a, w, rfl, g, hs, _⟩ := hy.look hx e1
    cases ry
    exact d_notIn (by omega) I g rx fun s' I' => by rw [hs]; exact q s' I'
theorem lt_raw (hu : X.A.units + 65 < cLine) {pins : List (Addr × Obj)} {s : Shared} {σ : St} {H H0 : Hp} {x y : V} {v u : Value} {G : Gh} {dx dy : D} {b : Bool} (I : Inv X pins σ H s) (rx : RelV x v) (ry : RelV y u)
    (hx : Dl true X.K H0 G H x dx) (hy : Dlo X.K H0 G H y dy) (e : ltD dx dy = some b) {Q : Value → Shared → Prop} {E : Value → Shared → Prop} (q : Q (.bool b) s) : wpAny (model X.prog X.w) X.A (compareOp .Lt v u) Q E s := by
  unfold ltD at e
  split at e
  · cases e
    obtain rfl := hx.int
    obtain rfl := (hy.dl fun _ z => nomatch z).int
    obtain ⟨t, rfl⟩ := rx
    obtain ⟨t', rfl⟩ := ry
    exact lt_int q
  · split at e
    · rename_i hk
      cases e
      unfold ltOk at hk
      simp only [Bool.and_eq_true] at hk
      obtain ⟨⟨⟨al, sx⟩, sy⟩, sh⟩ := hk
      obtain ⟨as, r1⟩ := Dp.reads I dx x v (hx.dp (SeqAt.canLay_of_shaped sx)) rx
      obtain ⟨bs, r2⟩ := Dp.reads I dy y u ((hy.dl (shp_nd sy)).dp (SeqAt.canLay_of_shaped sy)) ry
      have hn : dx ≠ .none := by
        rintro rfl
        simp at sh
      have dd := SeqAt.depth_of_shaped sx
      have hm : min dx.depth dy.depth ≤ dx.depth := Nat.min_le_left _ _
      exact PySem.W.lt_data r1 r2 al hn (by omega) q
    · cases e
theorem le_raw (hu : X.A.units + 65 < cLine) {pins : List (Addr × Obj)} {s : Shared} {σ : St} {H H0 : Hp} {x y : V} {v u : Value} {G : Gh} {dx dy : D} {b : Bool} (I : Inv X pins σ H s) (rx : RelV x v) (ry : RelV y u)
    (hx : Dl true X.K H0 G H x dx) (hy : Dlo X.K H0 G H y dy) (e : leD dx dy = some b) {Q : Value → Shared → Prop} {E : Value → Shared → Prop} (q : Q (.bool b) s) : wpAny (model X.prog X.w) X.A (compareOp .LtE v u) Q E s := by
  unfold leD at e
  split at e
  · cases e
    obtain rfl := hx.int
    obtain rfl := (hy.dl fun _ z => nomatch z).int
    obtain ⟨t, rfl⟩ := rx
    obtain ⟨t', rfl⟩ := ry
    exact le_int q
  · split at e
    · rename_i hk
      cases e
      unfold ltOk at hk
      simp only [Bool.and_eq_true] at hk
      obtain ⟨⟨⟨al, sx⟩, sy⟩, sh⟩ := hk
      obtain ⟨as, r1⟩ := Dp.reads I dx x v (hx.dp (SeqAt.canLay_of_shaped sx)) rx
      obtain ⟨bs, r2⟩ := Dp.reads I dy y u ((hy.dl (shp_nd sy)).dp (SeqAt.canLay_of_shaped sy)) ry
      have hn : dx ≠ .none := by
        rintro rfl
        simp at sh
      have dd := SeqAt.depth_of_shaped sx
      have hm : min dx.depth dy.depth ≤ dx.depth := Nat.min_le_left _ _
      exact PySem.W.le_data r1 r2 al hn (by omega) q
    · cases e
theorem gt_raw (hu : X.A.units + 65 < cLine) {pins : List (Addr × Obj)} {s : Shared} {σ : St} {H H0 : Hp} {x y : V} {v u : Value} {G : Gh} {dx dy : D} {b : Bool} (I : Inv X pins σ H s) (rx : RelV x v) (ry : RelV y u)
    (hx : Dl true X.K H0 G H x dx) (hy : Dlo X.K H0 G H y dy) (e : gtD dx dy = some b) {Q : Value → Shared → Prop} {E : Value → Shared → Prop} (q : Q (.bool b) s) : wpAny (model X.prog X.w) X.A (compareOp .Gt v u) Q E s := by
  unfold gtD at e
  split at e
  · cases e
    obtain rfl := hx.int
    obtain rfl := (hy.dl fun _ z => nomatch z).int
    obtain ⟨t, rfl⟩ := rx
    obtain ⟨t', rfl⟩ := ry
    exact gt_int q
  · split at e
    · rename_i hk
      cases e
      unfold ltOk at hk
      simp only [Bool.and_eq_true] at hk
      obtain ⟨⟨⟨al, sx⟩, sy⟩, sh⟩ := hk
      obtain ⟨as, r1⟩ := Dp.reads I dx x v (hx.dp (SeqAt.canLay_of_shaped sx)) rx
      obtain ⟨bs, r2⟩ := Dp.reads I dy y u ((hy.dl (shp_nd sy)).dp (SeqAt.canLay_of_shaped sy)) ry
      have hn : dx ≠ .none := by
        rintro rfl
        simp at sh
      have dd := SeqAt.depth_of_shaped sx
      have hm : min dx.depth dy.depth ≤ dx.depth := Nat.min_le_left _ _
      exact PySem.W.gt_data r1 r2 al hn (by omega) q
    · cases e
theorem ge_raw (hu : X.A.units + 65 < cLine) {pins : List (Addr × Obj)} {s : Shared} {σ : St} {H H0 : Hp} {x y : V} {v u : Value} {G : Gh} {dx dy : D} {b : Bool} (I : Inv X pins σ H s) (rx : RelV x v) (ry : RelV y u)
    (hx : Dl true X.K H0 G H x dx) (hy : Dlo X.K H0 G H y dy) (e : geD dx dy = some b) {Q : Value → Shared → Prop} {E : Value → Shared → Prop} (q : Q (.bool b) s) : wpAny (model X.prog X.w) X.A (compareOp .GtE v u) Q E s := by
  unfold geD at e
  split at e
  · cases e
    obtain rfl := hx.int
    obtain rfl := (hy.dl fun _ z => nomatch z).int
    obtain ⟨t, rfl⟩ := rx
    obtain ⟨t', rfl⟩ := ry
    exact ge_int q
  · split at e
    · rename_i hk
      cases e
      unfold ltOk at hk
      simp only [Bool.and_eq_true] at hk
      obtain ⟨⟨⟨al, sx⟩, sy⟩, sh⟩ := hk
      obtain ⟨as, r1⟩ := Dp.reads I dx x v (hx.dp (SeqAt.canLay_of_shaped sx)) rx
      obtain ⟨bs, r2⟩ := Dp.reads I dy y u ((hy.dl (shp_nd sy)).dp (SeqAt.canLay_of_shaped sy)) ry
      have hn : dx ≠ .none := by
        rintro rfl
        simp at sh
      have dd := SeqAt.depth_of_shaped sx
      have hm : min dx.depth dy.depth ≤ dx.depth := Nat.min_le_left _ _
      exact PySem.W.ge_data r1 r2 al hn (by omega) q
    · cases e
/-- a comparison -/
theorem cmp_ok (hu : X.A.units + 65 < cLine) (op : CmpOp) : OpR X (compareOp op) (rDB X.K (cmpD op)) := by
  intro pins s σ H x y v u Q I rx ry h
  cases op with
  | Eq => exact eq_ok (by omega) pins s σ H x y v u Q I rx ry h
  | NotEq => exact ne_ok (by omega) pins s σ H x y v u Q I rx ry h
  | Lt =>
    obtain ⟨G, H0, dx, dy, b, hx, hy, e, q⟩ := h
    exact lt_raw (E := X.xe) hu I rx ry hx hy e (show EP X pins σ Q (.bool b) s from ⟨.bl b, H, I, rfl, q⟩)
  | LtE =>
    obtain ⟨G, H0, dx, dy, b, hx, hy, e, q⟩ := h
    exact le_raw (E := X.xe) hu I rx ry hx hy e (show EP X pins σ Q (.bool b) s from ⟨.bl b, H, I, rfl, q⟩)
  | Gt =>
    obtain ⟨G, H0, dx, dy, b, hx, hy, e, q⟩ := h
    exact gt_raw (E := X.xe) hu I rx ry hx hy e (show EP X pins σ Q (.bool b) s from ⟨.bl b, H, I, rfl, q⟩)
  | GtE =>
    obtain ⟨G, H0, dx, dy, b, hx, hy, e, q⟩ := h
    exact ge_raw (E := X.xe) hu I rx ry hx hy e (show EP X pins σ Q (.bool b) s from ⟨.bl b, H, I, rfl, q⟩)
  | In =>
    obtain ⟨G, H0, dx, dy, b, hx, hy, e, q⟩ := h
    exact in_raw (E := X.xe) hu I rx ry hx hy e (fun s' I' => (show EP X pins σ Q (.bool b) s' from ⟨.bl b, H, I', rfl, q⟩))
  | NotIn =>
    obtain ⟨G, H0, dx, dy, b, hx, hy, e, q⟩ := h
    change Option.map _ (inD dx dy) = some b at e
    cases hi : inD dx dy with
    | none => rw [hi] at e; cases e
    | some c =>
      rw [hi] at e
      cases e
      exact notIn_raw (E := X.xe) hu I rx ry hx hy hi (fun s' I' => (show EP X pins σ Q (.bool !c) s' from ⟨.bl _, H, I', rfl, q⟩))
  | Is => obtain ⟨G, H0, dx, dy, b, hx, hy, e, q⟩ := h; cases e
  | IsNot => obtain ⟨G, H0, dx, dy, b, hx, hy, e, q⟩ := h; cases e

/-! ### an item, a slice -/
theorem atI_get' {α : Type} {xs : List α} {i : Int} {v : α} (h : atI xs i = some v) : ∃ j, ixN xs.length i = some j ∧ xs[j]? = some v := by
  unfold atI at h
  cases e : ixN xs.length i with
  | none => rw [e] at h; cases h
  | some j => rw [e] at h; exact ⟨j, rfl, h⟩
/-- d[k] of a dict -/
def rDix : R2 := fun x y H Q => ∃ a w, x = .ref a ∧ DGet H a y (some w) ∧ Q w H
theorem ix_dict (hu : X.A.units + 1 < cLine) : IxR X rDix := by
  intro value slice pins s σ H x y v u Q I rx ry h hps
  obtain ⟨a, w, rfl, g, q⟩ := h
  cases rx
  unfold subscriptTail
  refine wpAny_bind ?_
  have hT := dict_typeIs I g
  rw [getitemInPython_of_ne hT.not_modules]
  refine wpAny_bind (wpAny_specialOf hT PySem.F.slot_dict_getitem.lookup ?_)
  have fin : wpAny (model X.prog X.w) X.A (subscripted slice false (.ref a) u) (fun r s₃ => wpAny (model X.prog X.w) X.A (letTemporaryGo value (.ref a) r >>= fun _ => pure r) (EP X pins σ Q) X.xe s₃) X.xe s := by
    rw [hps]
    exact wpAny_operating (d_getItem hu I g ry fun w' s3 I3 rw' => wpAny_bind (wpAny_letTemporaryGo (wpAny_pure ⟨w, H, I3, rw', q⟩)))
  first
    | exact wpAny_pure (wpAny_bind fin)
    | exact wpAny_bind (wpAny_pure (wpAny_bind fin))
    | exact wpAny_bind fin
theorem idx_ok (hu : X.A.units + 1 < cLine) : IxR X (rD2o X.K idxD) := by
  intro value slice pins s σ H x y v u Q I rx ry h hps
  obtain ⟨G, H0, g, dx, dy, z, hx, hy, ok, gs, e, q⟩ := h
  unfold idxD at e
  split at e
  · rename_i ds hs
    split at e
    · rename_i i
      obtain ⟨a, vs, rfl, h1, da⟩ := hx.seqX hs
      obtain rfl := hy.int
      obtain ⟨j, e1, e2⟩ := atI_get' e
      obtain ⟨w, ew, dw⟩ := da.get e2
      have ea : atI vs i = some w := by
        unfold atI
        rw [da.length, e1]
        exact ew
      refine ix_seq value slice pins s σ H _ _ v u Q I rx ry ?_ hps
      rcases h1 with h1 | h1
      · exact .inl ⟨a, vs, i, w, rfl, rfl, h1, ea, q _ _ (ok.stq gs) dw⟩
      · exact .inr (.inl ⟨a, vs, i, w, rfl, rfl, h1, ea, q _ _ (ok.stq gs) dw⟩)
    · cases e
  · obtain ⟨o, e1, e2⟩ := Option.bind_eq_some_iff.mp e
    have e2 : o = some z := e2
    subst e2
    obtain ⟨a, w, rfl, gt, hs, hw⟩ := hx.look hy e1
    obtain ⟨w', rfl, dw⟩ := hw z rfl
    exact ix_dict hu value slice pins s σ H _ _ v u Q I rx ry ⟨a, w', rfl, gt, q _ _ (ok.stq gs) dw⟩ hps
def rDS (K : PySem.W.Frag) : V → Option Int → Option Int → Hp → VK → Prop := fun x lo hi H Q => ∃ G H0 g dx z, Dl true K H0 G H x dx ∧ GOk G H ∧ GsOk K G H g ∧ slcD dx lo hi = some z ∧
  ∀ v H', Stq K G H H' g → Dr K G H' v z → Q v H'
theorem slc_ok : SlR X (rDS X.K) := by
  intro pins s σ H x v vl vu lo hi sl Q I rx hs pl pu h
  obtain ⟨G, H0, g, dx, z, hx, ok, gs, e, q⟩ := h
  unfold slcD at e
  split at e
  · cases e
    obtain ⟨a, vs, rfl, h1, da⟩ := hx.list
    refine sl_list pins s σ H _ v vl vu lo hi sl Q I rx hs pl pu ⟨a, vs, rfl, .of h1, fun p hp => ?_⟩
    refine q _ _ ((ok.stq gs).new hp) (Dr.newL ok.dom hp ?_)
    unfold cutV
    rw [da.length]
    exact (da.drop _).take _
  · cases e
    obtain ⟨a, vs, rfl, h1, da⟩ := hx.tuple
    rename_i ds
    have dc : DrA X.K G H (cutV vs lo hi) ((ds.drop (HT.sIx ds.length 0 lo)).take (HT.sIx ds.length ds.length hi - HT.sIx ds.length 0 lo)) := by
      unfold cutV
      rw [da.length]
      exact (da.drop _).take _
    refine sl_tupA pins s σ H _ v vl vu lo hi sl Q I rx hs pl pu ⟨a, vs, rfl, h1.sq, fun hw => ?_, fun _ p hp => ?_⟩
    · refine q _ _ (ok.stq gs) (.tup h1 ?_)
      have ew : cutV vs lo hi = vs := by
        unfold cutV
        rw [hw.1, hw.2, List.drop_zero, Nat.sub_zero, List.take_length]
      rw [ew] at dc
      exact dc
    · exact q _ _ ((ok.stq gs).new hp) (Dr.newT ok.dom hp dc)
  · cases e
end
end Dv
end
section
set_option linter.all false
set_option maxRecDepth 100000
set_option autoImplicit false
set_option maxHeartbeats 4000000
/-! Dv4: built-in functions over data. -/
namespace Dv
open PySem PySem.Spec PyProof.Rows L2
abbrev DlA (pk : Bool) (K : PySem.W.Frag) (H0 : Hp) (G : Gh) (H : Hp) : List V → List D → Prop := Paired fun v d => Dl pk K H0 G H v d
def rDF (K : PySem.W.Frag) (f : List D → Option D) : List V → Hp → VK → Prop := fun xs H Q => ∃ G H0 g ds z, DlA true K H0 G H xs ds ∧ GOk G H ∧ GsOk K G H g ∧ f ds = some z ∧
  ∀ v H', Stq K G H H' g → Dr K G H' v z → Q v H'
theorem DlA.one {pk : Bool} {K : PySem.W.Frag} {H0 : Hp} {G : Gh} {H : Hp} {xs : List V} {d : D} (h : DlA pk K H0 G H xs [d]) : ∃ x, xs = [x] ∧ Dl pk K H0 G H x d := by
  cases h with
  | cons a t => cases t; exact ⟨_, rfl, a⟩
theorem DlA.two {pk : Bool} {K : PySem.W.Frag} {H0 : Hp} {G : Gh} {H : Hp} {xs : List V} {d e : D} (h : DlA pk K H0 G H xs [d, e]) : ∃ x y, xs = [x, y] ∧ Dl pk K H0 G H x d ∧ Dl pk K H0 G H y e := by
  cases h with
  | cons a t =>
    cases t with
    | cons b t => cases t; exact ⟨_, _, rfl, a, b⟩
section
variable {X : Cx}
def Bf.val : Bf → Value
  | .len => .builtin "len" | .list => .type "list" | .tuple => .type "tuple" | .sorted => .builtin "sorted" | .max => .builtin "max" | .min => .builtin "min" | .sum => .builtin "sum" | .abs => .builtin "abs"
  | .int => .type "int" | .all => .builtin "all" | .any => .builtin "any" | .max2 => .builtin "max" | .min2 => .builtin "min" | .srtSet => .builtin "sorted" | .lenSet => .builtin "len"
theorem canLayAll_of : ∀ {ds : List D}, (∀ d ∈ ds, d.canLay0 = true) → PyData.canLayAll0 ds = true
  | [], _ => by simp [PyData.canLayAll0]
  | d :: ds, h => by
    simp only [PyData.canLayAll0, Bool.and_eq_true]
    exact ⟨h d List.mem_cons_self, canLayAll_of fun e he => h e (List.mem_cons_of_mem _ he)⟩
theorem sortOk_all {ds : List D} (h : sortOk ds = true) : PySem.W.AllAlike ds ∧ (∀ d ∈ ds, d ≠ .none) ∧ ∀ d ∈ ds, shp d = true := by
  unfold sortOk at h
  simp only [Bool.and_eq_true, List.all_eq_true] at h
  obtain ⟨⟨h1, h2⟩, h3⟩ := h
  refine ⟨fun d hd e he => h1 d hd e he, fun d hd z => ?_, h3⟩
  subst z
  have := h2 _ hd
  simp at this
theorem depthAll_le : ∀ {ds : List D}, (∀ d ∈ ds, d.depth ≤ 64) → PyData.depthAll ds ≤ 64
  | [], _ => by simp [PyData.depthAll]
  | d :: r, h => by
    have h1 := h d List.mem_cons_self
    have h2 := depthAll_le fun e he => h e (List.mem_cons_of_mem _ he)
    simp only [PyData.depthAll]
    omega
theorem reads_all {pins : List (Addr × Obj)} {σ : St} {H : Hp} {s : Shared} {G : Gh} (I : Inv X pins σ H s) : ∀ {vs : List V} {us : List Value} {ds : List D}, DrA X.K G H vs ds → Vals vs us → PyData.canLayAll0 ds = true → ∃ as, ReadsAll s.heap us ds as
  | _, _, _, .nil, .nil, _ => ⟨_, .nil⟩
  | _, _, d :: _, .cons a t, .cons r rr, e => by
    simp only [PyData.canLayAll0, Bool.and_eq_true] at e
    obtain ⟨as, h1⟩ := Dp.reads I d _ _ (a.dp e.1) r
    obtain ⟨bs, h2⟩ := reads_all I t rr e.2
    exact ⟨_, .cons h1 h2⟩
/-- the item that max or min gives -/
theorem mm_item {pins : List (Addr × Obj)} {σ : St} {H : Hp} {s : Shared} {G : Gh} (I : Inv X pins σ H s) {vs : List V} {us : List Value} {ds : List D} (da : DrA X.K G H vs ds) (rv : Vals vs us) (hs : ∀ d ∈ ds, shp d = true) {i : Nat} {u : Value} (hu : us.toArray[i]? = some u)
    {h' : Heap} (hk : ∀ b o, s.heap.get? b = some o → h'.get? b = some o) {z : D} {bs : List Addr} (r : Reads h' u z bs) : ∃ v, RelV v u ∧ Dr X.K G H v z := by
  have hu' : us[i]? = some u := by rw [← hu]; simp
  have hl : vs.length = us.length := rv.length
  have hi : i < vs.length := by rw [hl]; exact (List.getElem?_eq_some_iff.mp hu').1
  obtain ⟨w, hw, rw'⟩ := rv.get (List.getElem?_eq_getElem hi)
  rw [hu'] at hw
  cases hw
  obtain ⟨d, hd, dd⟩ := da.getV (List.getElem?_eq_getElem hi)
  have hc := SeqAt.canLay_of_shaped (hs d (List.mem_of_getElem? hd))
  obtain ⟨as, r1⟩ := Dp.reads I d _ _ (dd.dp hc) rw'
  have e := (PySem.Reads.unique (PyProof.Rows.Reads.keeps hk r1) z bs r).1
  subst e
  exact ⟨_, rw', dd⟩
theorem dt_len' {pins : List (Addr × Obj)} {s : Shared} {σ : St} {H : Hp} {p : Addr} {kvs : List (List Key × V)} {A : Around} {E : Value → Shared → Prop} {Q : Value → Shared → Prop} (I : Inv X pins σ H s) (e : Rd H p (.dT kvs)) (h : ∀ t s', Inv X pins σ H s' → Q (.int kvs.length t) s') : wpAny (model X.prog X.w) A (call (.builtin "len") [.ref p]) Q E s := by
  obtain ⟨z, hd, ys, rel, dd⟩ := dt_rd I.hok e
  have hl : kvs.length = ys.length := Paired.length rel
  refine call_len_dictH hd dd (by rw [← hl]; rw [sizeLine_eq] at z; omega) ?_
  rw [← hl]
  exact h _ _ (I.tok _)
inductive MM where
  | max | min
def MM.bf : MM → Bf
  | .max => .max | .min => .min
def MM.f : MM → List D → Option D
  | .max => maxDs | .min => minDs
theorem mm_ok (hc : X.calm = true) (hu : X.A.units + 200 < cLine) (m : MM) : CallR X m.bf.val (rDF X.K (bfD m.bf)) := by
  intro pins s σ H xs us Q I r h
  obtain ⟨G, H0, g, ds, z, hx, ok, gs, e, q⟩ := h
  obtain ⟨x, rfl⟩ : ∃ x, ds = [x] := by
    match ds, e with
    | [x], _ => exact ⟨x, rfl⟩
    | [], e => cases m <;> cases e
    | _ :: _ :: _, e => cases m <;> simp [MM.bf, bfD] at e
  have e : (seqOf x).bind m.f = some z := by cases m <;> exact e
  obtain ⟨xs', e1, e2⟩ := Option.bind_eq_some_iff.mp e
  obtain ⟨x', rfl, dx⟩ := hx.one
  obtain ⟨a, vs, rfl, hs, da, _, _⟩ := dx.seq e1
  rw [Vals.ref1 r]
  have hd := I.ok.hd hc
  cases xs' with
  | nil => cases m <;> cases e2
  | cons y ys =>
    have hok : sortOk (y :: ys) = true := by
      cases m <;> (simp only [MM.f, maxDs, minDs] at e2; split at e2; assumption; cases e2)
    obtain ⟨hal, hn, hsh⟩ := sortOk_all hok
    have hcl : PyData.canLayAll0 (y :: ys) = true := canLayAll_of fun d hd => SeqAt.canLay_of_shaped (hsh d hd)
    have hdp : PyData.depthAll (y :: ys) ≤ 64 := depthAll_le fun d hd => SeqAt.depth_of_shaped (hsh d hd)
    have fin : ∀ {its : List Value}, Vals vs its → ∀ (i : Nat) (v : Value) (h' : Heap) (tk : Nat) (bs : List Addr) (w : D), its.toArray[i]? = some v → Reads h' v w bs → (∀ b o, s.heap.get? b = some o → h'.get? b = some o) → w = z → EP X pins σ Q v { s with heap := h', toks := tk } :=
      fun {its} rv i v h' tk bs w hi hr hk hw => by
        subst hw
        obtain ⟨u, ru, du⟩ := mm_item I da rv hsh hi hk hr
        exact ⟨u, H, I.kept (t' := tk) hk, ru, q u H (ok.stq gs) du⟩
    rcases hs with hs | hs
    · obtain ⟨its, rv, hl, hz⟩ := I.list (X := X) hs
      obtain ⟨as, ra⟩ := reads_all I da rv hcl
      have ra : ReadsAll s.heap its.toArray.toList (y :: ys) as := by simpa using ra
      cases m with
      | max =>
        simp only [MM.f, maxDs, hok, if_true, Option.some.injEq] at e2
        exact PySem.W.max_list_data hd hl.isList ra ⟨hal, hn⟩ (by omega) fun i v h' tk bs hi hr hk => fin rv i v h' tk bs _ hi hr hk e2
      | min =>
        simp only [MM.f, minDs, hok, if_true, Option.some.injEq] at e2
        exact PySem.W.min_list_data hd hl.isList ra ⟨hal, hn⟩ (by omega) fun i v h' tk bs hi hr hk => fin rv i v h' tk bs _ hi hr hk e2
    · obtain ⟨its, rv, hl, hz⟩ := I.tuple (X := X) hs
      obtain ⟨as, ra⟩ := reads_all I da rv hcl
      have ra : ReadsAll s.heap its.toArray.toList (y :: ys) as := by simpa using ra
      cases m with
      | max =>
        simp only [MM.f, maxDs, hok, if_true, Option.some.injEq] at e2
        exact PySem.W.max_tuple_data hd hl ra ⟨hal, hn⟩ (by omega) fun i v h' tk bs hi hr hk => fin rv i v h' tk bs _ hi hr hk e2
      | min =>
        simp only [MM.f, minDs, hok, if_true, Option.some.injEq] at e2
        exact PySem.W.min_tuple_data hd hl ra ⟨hal, hn⟩ (by omega) fun i v h' tk bs hi hr hk => fin rv i v h' tk bs _ hi hr hk e2
/-- max(.., default=k) -/
def rMaxDef (K : PySem.W.Frag) (k : Int) : List V → List V → Hp → VK → Prop := fun xs zs H Q => ∃ G H0 g x z, zs = [.int k] ∧ DlA true K H0 G H xs [x] ∧ GOk G H ∧ GsOk K G H g ∧ (seqOf x).bind (maxDef k) = some z ∧ ∀ v H', Stq K G H H' g → Dr K G H' v z → Q v H'
theorem maxdef_ok (hc : X.calm = true) (hu : X.A.units + 200 < cLine) (k : Int) : CallRK X (.builtin "max") ["default"] (rMaxDef X.K k) := by
  intro pins s σ H xs zs us ws Q I r rz h
  obtain ⟨G, H0, g, x, z, rfl, hx, ok, gs, e, q⟩ := h
  obtain ⟨xs', e1, e2⟩ := Option.bind_eq_some_iff.mp e
  obtain ⟨x', rfl, dx⟩ := hx.one
  obtain ⟨a, vs, rfl, hs, da, _, _⟩ := dx.seq e1
  rw [Vals.ref1 r]
  obtain ⟨w, rfl, rw'⟩ := rz.one
  have hd := I.ok.hd hc
  have hok : xs' = [] ∨ sortOk xs' = true := by
    cases xs' with
    | nil => exact .inl rfl
    | cons y ys =>
      simp only [maxDef, maxDs] at e2
      split at e2
      · rename_i h; exact .inr h
      · cases e2
  have hall : PySem.W.AlikeAll xs' ∧ ∀ d ∈ xs', shp d = true := by
    rcases hok with rfl | hok
    · exact ⟨⟨fun _ z => absurd z (by simp), fun _ z => absurd z (by simp)⟩, fun _ z => absurd z (by simp)⟩
    · obtain ⟨hal, hn, hsh⟩ := sortOk_all hok
      exact ⟨⟨hal, hn⟩, hsh⟩
  obtain ⟨hal, hsh⟩ := hall
  have hcl : PyData.canLayAll0 xs' = true := canLayAll_of fun d hd => SeqAt.canLay_of_shaped (hsh d hd)
  have hdp : PyData.depthAll xs' ≤ 64 := depthAll_le fun d hd => SeqAt.depth_of_shaped (hsh d hd)
  have fin : ∀ {its : List Value}, Vals vs its → ∀ (i : Nat) (v : Value) (h' : Heap) (tk : Nat) (bs : List Addr) (w : D), its.toArray[i]? = some v → Reads h' v w bs → (∀ b o, s.heap.get? b = some o → h'.get? b = some o) → w = z → EP X pins σ Q v { s with heap := h', toks := tk } :=
    fun {its} rv i v h' tk bs w hi hr hk hw => by
      subst hw
      obtain ⟨u, ru, du⟩ := mm_item I da rv hsh hi hk hr
      exact ⟨u, H, I.kept (t' := tk) hk, ru, q u H (ok.stq gs) du⟩
  have fin0 : xs' = [] → ∀ (h' : Heap) (tk : Nat), (∀ b o, s.heap.get? b = some o → h'.get? b = some o) → EP X pins σ Q w { s with heap := h', toks := tk } := fun hz h' tk hk => by
    subst hz
    cases e2
    exact ⟨.int k, H, I.kept (t' := tk) hk, rw', q _ H (ok.stq gs) (.int k)⟩
  have fin1 : ∀ (y : D) (ys : List D), xs' = y :: ys → PySem.W.maxD y ys = z := fun y ys hy => by
    subst hy
    rcases hok with hz | hok
    · cases hz
    · simp only [maxDef, maxDs, hok, if_true, Option.some.injEq] at e2
      exact e2
  rcases hs with hs | hs
  · obtain ⟨its, rv, hl, hz⟩ := I.list (X := X) hs
    obtain ⟨as, ra⟩ := reads_all I da rv hcl
    have ra : ReadsAll s.heap its.toArray.toList xs' as := by simpa using ra
    exact PySem.W.max_list_default hd hl.isList ra hal (by omega) fin0 fun y ys i v h' tk bs hy hi hr hk => fin rv i v h' tk bs _ hi hr hk (fin1 y ys hy)
  · obtain ⟨its, rv, hl, hz⟩ := I.tuple (X := X) hs
    obtain ⟨as, ra⟩ := reads_all I da rv hcl
    have ra : ReadsAll s.heap its.toArray.toList xs' as := by simpa using ra
    exact PySem.W.max_tuple_default hd hl ra hal (by omega) fin0 fun y ys i v h' tk bs hy hi hr hk => fin rv i v h' tk bs _ hi hr hk (fin1 y ys hy)
theorem bf_ok (hc : X.calm = true) (hu : X.A.units + 200 < cLine) (f : Bf) (h1 : f ≠ .sorted) (h2 : f ≠ .srtSet) (h3 : f ≠ .lenSet) : CallR X f.val (rDF X.K (bfD f)) := by
  intro pins s σ H xs us Q I r h
  obtain ⟨G, H0, g, ds, z, hx, ok, gs, e, q⟩ := h
  have q0 : ∀ v, Dr X.K G H v z → Q v H := fun v d => q v H (ok.stq gs) d
  cases f with
  | sorted => exact absurd rfl h1
  | srtSet => exact absurd rfl h2
  | lenSet => exact absurd rfl h3
  | len =>
    obtain ⟨x, rfl⟩ : ∃ x, ds = [x] := by
      match ds, e with
      | [x], _ => exact ⟨x, rfl⟩
      | [], e => cases e
      | _ :: _ :: _, e => simp [bfD] at e
    simp only [bfD, Option.map_eq_some_iff] at e
    obtain ⟨n, e1, rfl⟩ := e
    obtain ⟨x', rfl, dx⟩ := hx.one
    unfold lenD at e1
    split at e1
    · rename_i ds' e2
      cases e1
      obtain ⟨a, vs, rfl, hs, da⟩ := dx.seqX e2
      refine call_len_seq pins s σ H _ us Q I r ⟨a, vs, rfl, hs, ?_⟩
      rw [da.length]
      exact q0 _ (.int _)
    · split at e1
      · rename_i kvs e2
        cases e1
        obtain ⟨a, ks, rfl, hs, da⟩ := Dlo.dk (K := X.K) (H0 := H0) (G := G) (H := H) (.inl dx) e2
        rw [Vals.ref1 r]
        refine d_len I hs fun t s' I' => ⟨.int ks.length, H, I', ⟨t, rfl⟩, ?_⟩
        rw [da.length]
        exact q0 _ (.int _)
      · obtain ⟨kvs, e2, rfl⟩ := Option.map_eq_some_iff.mp e1
        obtain ⟨a, ks, rfl, hs, da⟩ := Dlo.dt (K := X.K) (H0 := H0) (G := G) (H := H) (.inl dx) e2
        rw [Vals.ref1 r]
        refine dt_len' I hs fun t s' I' => ⟨.int ks.length, H, I', ⟨t, rfl⟩, ?_⟩
        rw [da.length]
        exact q0 _ (.int _)
  | list =>
    obtain ⟨x, rfl⟩ : ∃ x, ds = [x] := by
      match ds, e with
      | [x], _ => exact ⟨x, rfl⟩
      | [], e => cases e
      | _ :: _ :: _, e => simp [bfD] at e
    simp only [bfD, Option.map_eq_some_iff] at e
    obtain ⟨ds', e1, rfl⟩ := e
    obtain ⟨x', rfl, dx⟩ := hx.one
    obtain ⟨a, vs, rfl, hs, da, _, _⟩ := dx.seq e1
    exact call_list_of pins s σ H _ us Q I r ⟨a, vs, rfl, hs, fun p hp => q _ _ ((ok.stq gs).new hp) (Dr.newL ok.dom hp da)⟩
  | tuple =>
    obtain ⟨x, rfl⟩ : ∃ x, ds = [x] := by
      match ds, e with
      | [x], _ => exact ⟨x, rfl⟩
      | [], e => cases e
      | _ :: _ :: _, e => simp [bfD] at e
    simp only [bfD, Option.map_eq_some_iff] at e
    obtain ⟨ds', e1, rfl⟩ := e
    obtain ⟨x', rfl, dx⟩ := hx.one
    cases x <;> simp only [seqOf, Option.some.injEq, reduceCtorEq] at e1
    · obtain ⟨a, vs, rfl, h4, da⟩ := dx.list
      subst e1
      exact call_tuple_of pins s σ H _ us Q I r ⟨a, vs, rfl, .inl ⟨.of h4, fun p hp => q _ _ ((ok.stq gs).new hp) (Dr.newT ok.dom hp da)⟩⟩
    · obtain ⟨a, vs, rfl, h4, da⟩ := dx.tuple
      subst e1
      exact call_tuple_of pins s σ H _ us Q I r ⟨a, vs, rfl, .inr ⟨h4.sq, q0 _ (.tup h4 da)⟩⟩
  | max => exact mm_ok hc hu .max pins s σ H xs us Q I r ⟨G, H0, g, ds, z, hx, ok, gs, e, q⟩
  | min => exact mm_ok hc hu .min pins s σ H xs us Q I r ⟨G, H0, g, ds, z, hx, ok, gs, e, q⟩
  | sum =>
    obtain ⟨xs', rfl⟩ : ∃ xs, ds = [.list xs] := by
      match ds, e with
      | [.list x], _ => exact ⟨x, rfl⟩
      | [.none], e => cases e
      | [.bool _], e => cases e
      | [.int _], e => cases e
      | [.str _], e => cases e
      | [.tuple _], e => cases e
      | [.dict _], e => cases e
      | [], e => cases e
      | _ :: _ :: _, e => simp [bfD] at e
    simp only [bfD, Option.map_eq_some_iff] at e
    obtain ⟨ns, e1, rfl⟩ := e
    obtain ⟨x, rfl, dx⟩ := hx.one
    obtain ⟨a, vs, rfl, h4, da⟩ := dx.list
    have ev := da.ints e1
    subst ev
    exact cr_sum hc pins s σ H _ us Q I r ⟨a, ns, rfl, .of h4, q0 _ (.int _)⟩
  | all =>
    obtain ⟨xs', rfl⟩ : ∃ xs, ds = [.list xs] := by
      match ds, e with
      | [.list x], _ => exact ⟨x, rfl⟩
      | [.none], e => cases e
      | [.bool _], e => cases e
      | [.int _], e => cases e
      | [.str _], e => cases e
      | [.tuple _], e => cases e
      | [.dict _], e => cases e
      | [], e => cases e
      | _ :: _ :: _, e => simp [bfD] at e
    simp only [bfD, Option.map_eq_some_iff] at e
    obtain ⟨ns, e1, rfl⟩ := e
    obtain ⟨x, rfl, dx⟩ := hx.one
    obtain ⟨a, vs, rfl, h4, da⟩ := dx.list
    have ev := da.bools e1
    subst ev
    exact cr_all hc pins s σ H _ us Q I r ⟨a, ns, rfl, .of h4, q0 _ (.bl _)⟩
  | any =>
    obtain ⟨xs', rfl⟩ : ∃ xs, ds = [.list xs] := by
      match ds, e with
      | [.list x], _ => exact ⟨x, rfl⟩
      | [.none], e => cases e
      | [.bool _], e => cases e
      | [.int _], e => cases e
      | [.str _], e => cases e
      | [.tuple _], e => cases e
      | [.dict _], e => cases e
      | [], e => cases e
      | _ :: _ :: _, e => simp [bfD] at e
    simp only [bfD, Option.map_eq_some_iff] at e
    obtain ⟨ns, e1, rfl⟩ := e
    obtain ⟨x, rfl, dx⟩ := hx.one
    obtain ⟨a, vs, rfl, h4, da⟩ := dx.list
    have ev := da.bools e1
    subst ev
    exact cr_any hc pins s σ H _ us Q I r ⟨a, ns, rfl, .of h4, q0 _ (.bl _)⟩
  | abs =>
    obtain ⟨i, rfl, rfl⟩ : ∃ i, ds = [.int i] ∧ z = .int (if i < 0 then -i else i) := by
      unfold bfD at e
      split at e <;> first | (injection e with e; exact ⟨_, rfl, e.symm⟩) | simp_all
    obtain ⟨x, rfl, dx⟩ := hx.one
    exact call_abs pins s σ H _ us Q I r ⟨_, by rw [dx.int], q0 _ (.int _)⟩
  | int =>
    have e' : (∃ i, ds = [.int i] ∧ z = .int i) ∨ ∃ b, ds = [.bool b] ∧ z = .int (if b then 1 else 0) := by
      unfold bfD at e
      split at e <;> first | (injection e with e; exact .inl ⟨_, rfl, e.symm⟩) | (injection e with e; exact .inr ⟨_, rfl, e.symm⟩) | simp_all
    rcases e' with ⟨i, rfl, rfl⟩ | ⟨b, rfl, rfl⟩
    · obtain ⟨x, rfl, dx⟩ := hx.one
      exact call_int1 pins s σ H _ us Q I r (.inl ⟨_, by rw [dx.int], q0 _ (.int _)⟩)
    · obtain ⟨x, rfl, dx⟩ := hx.one
      exact call_int1 pins s σ H _ us Q I r (.inr ⟨_, by rw [dx.bool], q0 _ (.int _)⟩)
  | max2 =>
    obtain ⟨i, j, rfl, rfl⟩ : ∃ i j, ds = [.int i, .int j] ∧ z = .int (if j > i then j else i) := by
      unfold bfD at e
      split at e <;> first | (injection e with e; exact ⟨_, _, rfl, e.symm⟩) | simp_all
    obtain ⟨x, y, rfl, dx, dy⟩ := hx.two
    exact call_max2 hc pins s σ H _ us Q I r ⟨_, _, by rw [dx.int, dy.int], q0 _ (.int _)⟩
  | min2 =>
    obtain ⟨i, j, rfl, rfl⟩ : ∃ i j, ds = [.int i, .int j] ∧ z = .int (if j < i then j else i) := by
      unfold bfD at e
      split at e <;> first | (injection e with e; exact ⟨_, _, rfl, e.symm⟩) | simp_all
    obtain ⟨x, y, rfl, dx, dy⟩ := hx.two
    exact call_min2 hc pins s σ H _ us Q I r ⟨_, _, by rw [dx.int, dy.int], q0 _ (.int _)⟩
end
end Dv
end
section
set_option linter.all false
set_option maxRecDepth 100000
set_option autoImplicit false
set_option maxHeartbeats 4000000
/-! Dv5: sorted(..) of a list or tuple of alike data, also where some of them is the empty tuple. -/
namespace PySem.W
open PySem PySem.SeqAt PySem.Calls PyProof.Rows
section
variable {prog : Program} {w : World} {A : Around} {E : Value → Shared → Prop} {s : Shared}
/-- the call of tuple's own __lt__, as sorting makes it -/
theorem dv_call_tuple_lt {Q : Value → Shared → Prop} {l b : Addr} {items items2 : Array Value} {e r : Nat → Bool} (hl : s.heap.IsTuple l items) (hb : s.heap.IsTuple b items2)
    (he : ∀ j (h1 : j < items.size) (h2 : j < items2.size), EqAt A.in1 s items[j] items2[j] (e j)) (hr : ∀ j (h1 : j < items.size) (h2 : j < items2.size), e j = false → RcLt A.in1 s items[j] items2[j] (r j))
    (h : Q (.bool (firstLt e r (decide (items.size < items2.size)) (List.range (min items.size items2.size)))) s) : wpAny (model prog w) A (call (.builtin "tuple.__lt__") [.ref l, .ref b]) Q E s := by
  obtain ⟨⟨cls, dd, data, sl⟩, ho, hc, n, hd⟩ := id hl
  obtain ⟨⟨cls2, dd2, data2, sl2⟩, ho2, hc2, n2, hd2⟩ := id hb
  simp only at hc hd hc2 hd2
  subst hc hd hc2 hd2
  exact call_meets F.slot_tuple_lt ⟨_, ho, rfl⟩ F.entry_tuple_lt (F.args_tuple_lt_2 _ _) (tuple_ltAt l b items items2 n n2 dd dd2 sl sl2 e r) ⟨ho, ho2, he, hr, h⟩
theorem dv_oneLt_tuple {xs ys : List PyData} {a b : Value} {as bs : List Addr} {Q : Bool → Shared → Prop} (ra : Reads s.heap a (.tuple xs) as) (rb : Reads s.heap b (.tuple ys) bs) (hal : alikeAll xs ys = true)
    (hu : A.units + min (PyData.tuple xs).depth (PyData.tuple ys).depth < cLine) (hq : Q (dataLt (.tuple xs) (.tuple ys)) s) : wpAny (model prog w) A (oneLt' true a b) Q E s := by
  cases ra with
  | @tuple l o vs n _ as₁ h1 h2 h3 h4 =>
    cases rb with
    | @tuple l' o' vs' n' _ bs₁ k1 k2 k3 k4 =>
      have n1 : vs.size = xs.length := by simpa using ReadsAll.length _ _ _ h4
      have n2 : vs'.size = ys.length := by simpa using ReadsAll.length _ _ _ k4
      rw [dataLt_tuple, ← firstLt_toks xs ys hal, ← n1, ← n2] at hq
      rw [oneLt'_eq]
      simp only [if_true]
      refine wpAny_bind (wpAny_cRoomFor (room_here hu) ?_)
      refine wpAny_bind (wpAny_callSpecialIfBound?_slot (T := "tuple") ⟨_, h1, h2⟩ F.slot_tuple_lt (dv_call_tuple_lt (e := pairEq xs ys) (r := fun j => dataLt (xs.getD j .none) (ys.getD j .none)) ⟨_, h1, h2, _, h3⟩ ⟨_, k1, k2, _, k3⟩ (fun j j1 j2 => ?_) (fun j j1 j2 hj => ?_) ?_))
      · have := eqAt_alikeAll xs ys A.in1 s vs.toList vs'.toList _ _ h4 k4 hal (room_in hu) j (by simpa using j1) (by simpa using j2)
        simpa using this
      · have := rcLt_alikeAll xs ys A.in1 s vs.toList vs'.toList _ _ h4 k4 hal (room_in hu) j (by simpa using j1) (by simpa using j2) hj
        simpa using this
      · exact wpAny_truthy_bool hq
end
section
variable {M : Model} {A : Around} {E : Value → Shared → Prop} {s : Shared}
/-- the first item of each tuple, where there is one -/
def DvFirsts (h : Heap) : List Value → List (Option Value) → Prop
  | [], [] => True
  | v :: vs, f :: fs => (∃ a o xs n, v = .ref a ∧ h.get? a = some o ∧ o.cls = .type "tuple" ∧ o.data = .seq xs n ∧ xs[0]? = f) ∧ DvFirsts h vs fs
  | _, _ => False
theorem dv_firsts : ∀ (vs : List Value) (fs : List (Option Value)) {Q : List (Option Value) → Shared → Prop}, DvFirsts s.heap vs fs → Q fs s → wpAny M A (vs.mapM firstOfTuple') Q E s
  | [], [], _, _, h => by rw [List.mapM_nil]; exact wpAny_pure h
  | [], _ :: _, _, t, _ => t.elim
  | _ :: _, [], _, t, _ => t.elim
  | v :: vs, f :: fs, Q, t, h => by
    obtain ⟨⟨a, o, xs, n, rfl, ho, hc, hd, hf⟩, t⟩ := t
    rw [List.mapM_cons]
    refine wpAny_bind ?_
    rw [kas_first_eq]
    refine wpAny_bind (Looks.here (show Looks M s.heap (typeOf (.ref a)) o.cls from (Looks.ld ho).andThen .now) ?_)
    rw [hc, if_neg (by first | decide | simp)]
    refine wpAny_bind (listItems_at ho hd (wpAny_pure ?_))
    rw [hf]
    exact wpAny_bind (dv_firsts vs fs (Q := fun bs s' => wpAny M A (pure (f :: bs)) Q E s') t (wpAny_pure h))
theorem dv_tups_ty : ∀ {vs : List Value} {fs : List (Option Value)}, DvFirsts s.heap vs fs → ∀ v ∈ vs, Looks M s.heap (typeOf v) (.type "tuple")
  | v :: vs, f :: fs, t, u, hu => by
    obtain ⟨⟨a, o, xs, n, rfl, ho, hc, hd, hf⟩, t⟩ := t
    rcases List.mem_cons.mp hu with rfl | hu
    · exact hc ▸ (Looks.ld ho).andThen .now
    · exact dv_tups_ty t u hu
  | [], _, _, u, hu => absurd hu (by simp)
/-- the kind of the keys: tuples, some of them empty -/
theorem dv_kind {vs : List Value} {fs : List (Option Value)} {Q : SortKind → Shared → Prop} (t : DvFirsts s.heap vs fs) (hn : none ∈ fs) (h1 : Q general' s) (h2 : Q oneType' s) : wpAny M A (keyKind' vs.toArray) Q E s := by
  have hty := dv_tups_ty (M := M) t
  rw [kat_kind_eq, List.mapM_toArray, map_eq_pure_bind]
  refine wpAny_bind (wpAny_bind (dv_firsts vs fs t (wpAny_pure ?_)))
  have hall : ¬ (fs.toArray.all fun x => x.isSome) = true := by
    rw [List.all_toArray, List.all_eq_true]
    intro z
    have := z none hn
    simp at this
  rw [if_neg hall]
  split
  · exact wpAny_pure h1
  · rw [oneTypeOnly'_eq, List.mapM_toArray, map_eq_pure_bind]
    refine wpAny_bind (wpAny_bind (wpAny_bind (kas_mapM (r := Value.type "tuple") _ (fun v hv Q' hq => (hty v hv).here hq) (wpAny_pure ?_))))
    cases vs with
    | nil =>
      cases fs with
      | nil => simp at hn
      | cons _ _ => exact t.elim
    | cons v₁ rest =>
      have hall2 : ((List.map (fun _ => Value.type "tuple") (v₁ :: rest)).toArray.all fun x => x == Value.type "tuple") = true := by
        simp only [List.all_toArray, List.all_map, List.all_eq_true]
        intro _ _
        exact beq_self_eq_true _
      have h0 : (List.map (fun _ => Value.type "tuple") (v₁ :: rest)).toArray[0]? = some (Value.type "tuple") := by simp
      rw [h0]
      simp only [hall2, if_true]
      exact wpAny_pure (wpAny_pure h2)
end
section
variable {prog : Program} {w : World} {A : Around} {s : Shared}
theorem dv_each_firsts {h : Heap} : ∀ {vs : List Value} {ds : List PyData}, EachIs (fun v d => ∃ as, Reads h v d as) vs ds → (∀ d, d ∈ ds → ∃ xs, d = .tuple xs) → ∃ fs, DvFirsts h vs fs ∧ (PyData.tuple [] ∈ ds → none ∈ fs)
  | _, _, .nil, _ => ⟨[], trivial, fun z => absurd z (by simp)⟩
  | _, _, .cons (b := d) ⟨as, r⟩ t, ht => by
    obtain ⟨fs, h1, h2⟩ := dv_each_firsts t fun d hd => ht d (List.mem_cons_of_mem _ hd)
    obtain ⟨ys, rfl⟩ := ht d (List.mem_cons_self ..)
    cases r with
    | @tuple a o xs n _ _ ho hc hd hr =>
      refine ⟨xs[0]? :: fs, ⟨⟨a, o, xs, n, rfl, ho, hc, hd, rfl⟩, h1⟩, fun z => ?_⟩
      rcases List.mem_cons.mp z with z | z
      · injection z with z
        subst z
        have hx : xs.toList = [] := by
          generalize xs.toList = q at hr
          cases hr
          rfl
        have hx' : xs[0]? = none := by rw [← Array.getElem?_toList, hx]; rfl
        rw [hx']
        exact List.mem_cons_self
      · exact List.mem_cons_of_mem _ (h2 z)
/-- alike data can be sorted, tuples empty or not -/
theorem SortsAt.dataA {vs : List Value} {ds : List PyData} (e : EachIs (fun v d => ∃ as, Reads s.heap v d as) vs ds) (hal : AllAlike ds) (hn : ∀ d, d ∈ ds → d ≠ .none) (hu : ∀ d, d ∈ ds → A.units + d.depth < cLine) : SortsAt prog w A s (dataKind s.heap ds) vs := by
  by_cases hS : Sortable ds
  · exact SortsAt.data e hal hS hu
  have room : ∀ {d d' : PyData}, d ∈ ds → A.units + min d.depth d'.depth < cLine := fun {d d'} hd => Nat.lt_of_le_of_lt (Nat.add_le_add_left (Nat.min_le_left _ _) _) (hu d hd)
  -- some tuple, so all are; some empty one
  have hex : ∃ d ∈ ds, ∃ xs, d = .tuple xs := Classical.byContradiction fun z => hS (.inr fun d hd => ⟨hn d hd, fun xs q => z ⟨d, hd, xs, q⟩⟩)
  obtain ⟨d0, hd0, xs0, rfl⟩ := hex
  have hall : ∀ d, d ∈ ds → ∃ xs, d = .tuple xs := fun d hd => by
    have q := hal _ hd0 d hd
    cases d <;> first | exact ⟨_, rfl⟩ | (simp [alike] at q)
  have hem : PyData.tuple [] ∈ ds := Classical.byContradiction fun z => hS (.inl fun d hd => by
    obtain ⟨xs, rfl⟩ := hall d hd
    cases xs with
    | nil => exact absurd hd z
    | cons x r => exact ⟨x, r, rfl⟩)
  obtain ⟨fs, hf, hno⟩ := dv_each_firsts e hall
  refine ⟨fun v hv => ?_, ?_⟩
  · obtain ⟨d, hd, as, r⟩ := e.left v hv
    exact ⟨_, dataKind_some hal hd r⟩
  · have ltg : H.LtAt prog w A s (dataKind s.heap ds) general' := by
      intro E x y a b Q ha hb hq
      obtain ⟨d, as, hd, ra, rfl⟩ := dataKind_inv ha
      obtain ⟨d', as', hd', rb, rfl⟩ := dataKind_inv hb
      show wpAny (model prog w) A (oneLt' false x y) Q E s
      exact oneLt_alike (fun z => absurd z (by simp)) ra rb (hal d hd d' hd') (hn d hd) (room hd) hq
    have lto : H.LtAt prog w A s (dataKind s.heap ds) oneType' := by
      intro E x y a b Q ha hb hq
      obtain ⟨d, as, hd, ra, rfl⟩ := dataKind_inv ha
      obtain ⟨d', as', hd', rb, rfl⟩ := dataKind_inv hb
      rw [keyLt'_oneType]
      obtain ⟨ys, rfl⟩ := hall d hd
      obtain ⟨zs, rfl⟩ := hall d' hd'
      exact dv_oneLt_tuple ra rb (by simpa [alike] using hal _ hd _ hd') (room hd) hq
    -- the kind is one of the two, by the first key
    have hty := fun (M : Model) => dv_tups_ty (M := M) hf
    by_cases hk : (fs.toArray[0]?.bind id).isSome = true
    · refine ⟨general', ltg, fun h2 E Q hq => ?_⟩
      rw [kat_kind_eq, List.mapM_toArray, map_eq_pure_bind]
      refine wpAny_bind (wpAny_bind (dv_firsts vs fs hf (wpAny_pure ?_)))
      have hall' : ¬ (fs.toArray.all fun x => x.isSome) = true := by
        rw [List.all_toArray, List.all_eq_true]
        intro z
        have := z none (hno hem)
        simp at this
      rw [if_neg hall', if_pos hk]
      exact wpAny_pure hq
    · refine ⟨oneType', lto, fun h2 E Q hq => ?_⟩
      rw [kat_kind_eq, List.mapM_toArray, map_eq_pure_bind]
      refine wpAny_bind (wpAny_bind (dv_firsts vs fs hf (wpAny_pure ?_)))
      have hall' : ¬ (fs.toArray.all fun x => x.isSome) = true := by
        rw [List.all_toArray, List.all_eq_true]
        intro z
        have := z none (hno hem)
        simp at this
      rw [if_neg hall', if_neg hk]
      rw [oneTypeOnly'_eq, List.mapM_toArray, map_eq_pure_bind]
      refine wpAny_bind (wpAny_bind (wpAny_bind (kas_mapM (r := Value.type "tuple") _ (fun v hv Q' hq => (hty _ v hv).here hq) (wpAny_pure ?_))))
      cases vs with
      | nil => simp at h2
      | cons v₁ rest =>
        have hall2 : ((List.map (fun _ => Value.type "tuple") (v₁ :: rest)).toArray.all fun x => x == Value.type "tuple") = true := by
          simp only [List.all_toArray, List.all_map, List.all_eq_true]
          intro _ _
          exact beq_self_eq_true _
        have h0 : (List.map (fun _ => Value.type "tuple") (v₁ :: rest)).toArray[0]? = some (Value.type "tuple") := by simp
        rw [h0]
        simp only [hall2, if_true]
        exact wpAny_pure (wpAny_pure hq)
end
section
variable {prog : Program} {w : World} {A : Around} {E : Value → Shared → Prop} {s : Shared} {vs : List Value} {R : Value → PyData → Prop} {ds : List PyData}
/-- sorted(xs): any alike data -/
theorem dv_sorted {l : Addr} {Q : Value → Shared → Prop} (hl : s.heap.IsList l vs.toArray) (e : EachIs R vs ds) (er : EachIs (fun v b => ∃ as, Reads s.heap v b as) vs ds) (hal : AllAlike ds) (hn : ∀ d, d ∈ ds → d ≠ .none) (hL : ds.length ≤ sizeLine)
    (hu : ∀ b, b ∈ ds → A.units + 2 + b.depth < cLine) (h : ∀ out, out.length = ds.length → EachIs R out (ds.mergeSort (dataLe false id)) → Q (.ref (s.heap.objs.size + 1)) { s with heap := sortedAll s.heap vs (List.toArray out) }) :
    wpAny (model prog w) A (call (.builtin "sorted") [.ref l]) Q E s := by
  have er' : EachIs (fun v b => ∃ as, Reads (sortingHeap (copyHeap s.heap vs) (s.heap.objs.size + 1) vs) v b as) vs ds := er.mono fun _ _ ⟨as, r⟩ => ⟨as, PyProof.Rows.Reads.keeps (fun _ _ => sorting_copy_old) r⟩
  refine sorted_vals hl (SortsAt.dataA (s := { s with heap := sortingHeap (copyHeap s.heap vs) (s.heap.objs.size + 1) vs }) er' hal hn hu) (by rw [e.length]; exact hL) ?_
  refine h _ (by rw [sortVals_length false rfl]; exact e.length) ?_
  have hm : ds.map id = ds := List.map_id ds
  have := sortVals_data (enc := id) (h' := sortingHeap (copyHeap s.heap vs) (s.heap.objs.size + 1) vs) (bs := ds) false e er' (by rw [hm]; exact hal)
  rw [hm] at this
  exact this
end
end PySem.W

namespace Dv
open PySem PySem.Spec PyProof.Rows L2
section
variable {X : Cx}
theorem each_of_drA {K : PySem.W.Frag} {G : Gh} {H : Hp} : ∀ {vs : List V} {us : List Value} {ds : List D}, DrA K G H vs ds → Vals vs us → PySem.W.EachIs (fun u d => ∃ v, RelV v u ∧ Dr K G H v d) us ds
  | _, _, _, .nil, .nil => .nil
  | _, _, _, .cons a t, .cons r rr => .cons ⟨_, r, a⟩ (each_of_drA t rr)
theorem drA_of_each {K : PySem.W.Frag} {G : Gh} {H : Hp} : ∀ {us : List Value} {ds : List D}, PySem.W.EachIs (fun u d => ∃ v, RelV v u ∧ Dr K G H v d) us ds → ∃ vs, DrA K G H vs ds ∧ Vals vs us
  | _, _, .nil => ⟨[], .nil, .nil⟩
  | _, _, .cons ⟨v, r, a⟩ t => by
    obtain ⟨vs, h1, h2⟩ := drA_of_each t
    exact ⟨v :: vs, .cons a h1, .cons r h2⟩
theorem each_reads {pins : List (Addr × Obj)} {σ : St} {H : Hp} {s : Shared} {G : Gh} (I : Inv X pins σ H s) : ∀ {vs : List V} {us : List Value} {ds : List D}, DrA X.K G H vs ds → Vals vs us → PyData.canLayAll0 ds = true →
    PySem.W.EachIs (fun u d => ∃ as, Reads s.heap u d as) us ds
  | _, _, _, .nil, .nil, _ => .nil
  | _, _, d :: _, .cons a t, .cons r rr, e => by
    simp only [PyData.canLayAll0, Bool.and_eq_true] at e
    exact .cons (Dp.reads I d _ _ (a.dp e.1) r) (each_reads I t rr e.2)
theorem sorted_ok (hu : X.A.units + 200 < cLine) : CallR X (.builtin "sorted") (rDF X.K (bfD .sorted)) := by
  intro pins s σ H xs us Q I r h
  obtain ⟨G, H0, g, ds, z, hx, ok, gs, e, q⟩ := h
  obtain ⟨xs', rfl⟩ : ∃ xs, ds = [.list xs] := by
    match ds, e with
    | [.list x], _ => exact ⟨x, rfl⟩
    | [.none], e => cases e
    | [.bool _], e => cases e
    | [.int _], e => cases e
    | [.str _], e => cases e
    | [.tuple _], e => cases e
    | [.dict _], e => cases e
    | [], e => cases e
    | _ :: _ :: _, e => simp [bfD] at e
  simp only [bfD, Option.bind_eq_bind, Option.bind_eq_some_iff, Option.pure_def, Option.some.injEq] at e
  obtain ⟨ys, e1, rfl⟩ := e
  unfold sortD at e1
  split at e1
  · rename_i hc
    cases e1
    obtain ⟨x, rfl, dx⟩ := hx.one
    obtain ⟨a, vs, rfl, h4, da⟩ := dx.list
    obtain ⟨hal, hn, hs⟩ := sortOk_all hc.1
    obtain ⟨its, rv, hl, hz⟩ := I.list (X := X) (SqL.of h4)
    rw [Vals.ref1 r]
    have hd : PyData.canLayAll0 xs' = true := canLayAll_of fun d hd => SeqAt.canLay_of_shaped (hs d hd)
    refine PySem.W.dv_sorted hl.isList (each_of_drA da rv) (each_reads I da rv hd) hal hn (Nat.le_trans hc.2 lim_le) (fun b hb => ?_) fun out ho eo => ?_
    · have := SeqAt.depth_of_shaped (hs b hb)
      omega
    · obtain ⟨ws, dw, vw⟩ := drA_of_each eo
      obtain ⟨c, hc'⟩ := sortedAll_at s.heap its out.toArray
      have hf : H (s.heap.objs.size + 1) = none := I.hok.fresh (Nat.le_succ _)
      refine ⟨.ref (s.heap.objs.size + 1), upd H (s.heap.objs.size + 1) (.lst ws), I.laid (t' := s.toks) (fun _ _ q => sortedAll_old q) (Nat.le_succ _) ⟨?_, out, c, vw, hc'⟩, rfl, ?_⟩
      · rw [vw.length, ho]
        exact Nat.le_trans hc.2 lim_le
      · exact q _ _ ((ok.stq gs).new hf) (Dr.newL ok.dom hf dw)
  · cases e1
end
end Dv
end
section
set_option linter.all false
set_option maxRecDepth 100000
set_option autoImplicit false
set_option maxHeartbeats 4000000
/-! Dv6: what the evaluator says of an expression is what its run does: the pieces. -/
namespace Dv
open PySem PySem.Spec PyProof.Rows L2

/-- a def's promise: its value by F -/
def spD (K : PySem.W.Frag) (F : Fn) : Sp := fun vs H Q _ => ∃ G ds g d g', GOk G H ∧ GsOk K G H g ∧ DrA K G H vs ds ∧ F ds g = some (d, g') ∧ ∀ v H', Stq K G H H' g' → Dr K G H' v d → Q v H'
structure CalleeOk (P : Program) (w : World) (K : PySem.W.Frag) (mg : Str → Option Value) (base : Heap) (lv : Nat) (x : Str) (F : Fn) : Prop where
  ex : ∃ (f : Addr) (fd : FuncData) (ps : List Str), FnOk P w K mg base CX0 lv f fd ps (spD K F) ∧ mg x = some (.ref f) ∧ PySem.W.keepIn K (.ref f) = true ∧ Binds K fd ps []
def bltN : List Str := ["len", "list", "tuple", "sorted", "max", "min", "sum", "abs", "int", "all", "any", "set", "range", "isinstance", "bool", "str", "dict"]
structure CtxOk (X : Cx) (c : Ck) (Φ : List Fn) (lv : Nat) : Prop where
  calm : X.calm = true
  N : X.N = c.N
  nd : X.N.Nodup
  sc : X.env.scope = c.sc
  fn : match c.raw with
    | none => ∀ x, X.fn x = true
    | some s => ∀ x, X.fn x = (s.names.lookup x == some .cell)
  xe : X.xe = fun _ _ => False
  hr : Room lv X.A
  fns : ∀ (k : Nat) (F : Fn), Φ[k]? = some F → ∃ x, c.fs[k]? = some x ∧ CalleeOk X.prog X.w X.K X.mg X.base lv x F
  blt : ∀ x ∈ bltN, X.mg x = none

section
variable (K : PySem.W.Frag) (Φ : List Fn)
def tE (pk : Bool) (e : E) : TE := fun σ H Q => ∃ G0 H0 G ρ g d g', Rel K G0 H0 G σ H ρ g ∧ ev Φ pk e ρ g = some (d, g') ∧ ∀ v H', Stq K G H H' g' → Dl pk K H0 G H' v d → Q v H'
/-- a new list -/
def tF (e : E) : TE := fun σ H Q => ∃ G0 H0 G ρ g xs g', Rel K G0 H0 G σ H ρ g ∧ ev Φ false e ρ g = some (.list xs, g') ∧
  ∀ a vs H', Stq K G H H' g' → H' a = none → DrA K G H' vs xs → xs.length ≤ lim → Q (.ref a) (upd H' a (.lst vs))
/-- .. or a dict of the def's own -/
def tEo (e : E) : TE := fun σ H Q => ∃ G0 H0 G ρ g d g', Rel K G0 H0 G σ H ρ g ∧ orD (odv e ρ) g (ev Φ true e ρ g) = some (d, g') ∧ ∀ v H', Stq K G H H' g' → Dlo K H0 G H' v d → Q v H'
def tT (e : E) : TT := fun σ H Q => ∃ G0 H0 G ρ g b g', Rel K G0 H0 G σ H ρ g ∧ ev Φ true e ρ g = some (.bool b, g') ∧ ∀ H', Stq K G H H' g' → Q b H'
def tA (pk : Bool) (es : Es) : TA := fun σ H Q => ∃ G0 H0 G ρ g ds g', Rel K G0 H0 G σ H ρ g ∧ evs Φ pk es ρ g = some (ds, g') ∧ ∀ vs H', Stq K G H H' g' → DlA pk K H0 G H' vs ds → Q vs H'
/-- how the heap may move while a source is walked -/
structure Mv (pk : Bool) (G : Gh) (H : Hp) (G1 : Gh) (H1 : Hp) : Prop where
  k : ∀ a o, H a = some o → a ∉ G.own → H1 a = some o ∧ a ∉ G1.own
  l : ∀ a o, H a = some o → pk = true → a ∈ G.ls → a ∉ G.wr → H1 a = some o
  pl : G1.pl = G.pl
  dom : ∀ b ∈ G1.own, Hs H1 b
theorem Mv.of {pk : Bool} {G : Gh} {H H' : Hp} (wo : ∀ a ∈ G.wr, a ∈ G.own) (dom : ∀ b ∈ G.own, Hs H' b) (s : Stp G H H') : Mv pk G H G H' := ⟨fun a o e h => ⟨s a o e fun z => h (wo a z), h⟩, fun a o e _ _ h => s a o e h, rfl, dom⟩
def ItOk (pk : Bool) (G : Gh) (H : Hp) (J : It) (xs : List D) : Prop := ∀ G1 H1, Mv pk G H G1 H1 → (∀ i, xs.length ≤ i → J.stop i H1) ∧ ∀ i d, xs[i]? = some d → J.go i H1 ∧ ∀ v H2, J.yld i H1 v H2 → H2 = H1 ∧ Dr K G1 H1 v d
def tI (pk : Bool) (e : E) : TI := fun σ H R => ∃ G0 H0 G ρ g d xs g', Rel K G0 H0 G σ H ρ g ∧ ev Φ pk e ρ g = some (d, g') ∧ itOf d = some xs ∧ ∀ J H', Stq K G H H' g' → ItOk K pk G H' J xs → R J H'
end

section
variable {X : Cx}
theorem _root_.L2.PE.imp {x : Expr} {t t' : TE} (h : PE X x t) (k : ∀ σ H Q, t' σ H Q → t σ H Q) : PE X x t' := ⟨fun pins s σ H Q I q => h.run pins s σ H Q I (k σ H Q q)⟩
theorem _root_.L2.PT.imp {x : Expr} {t t' : TT} (h : PT X x t) (k : ∀ σ H Q, t' σ H Q → t σ H Q) : PT X x t' := ⟨fun pins s σ H Q I q => h.run pins s σ H Q I (k σ H Q q)⟩
theorem _root_.L2.PW.imp {x : Expr} {t t' : TT} (h : PW X x t) (k : ∀ σ H Q, t' σ H Q → t σ H Q) : PW X x t' := ⟨fun wh pins s σ H Q I q => h.run wh pins s σ H Q I (k σ H Q q)⟩
theorem _root_.L2.PA.imp {x : List Expr} {t t' : TA} (h : PA X x t) (k : ∀ σ H Q, t' σ H Q → t σ H Q) : PA X x t' := ⟨fun p pins s σ H Q I q => h.run p pins s σ H Q I (k σ H Q q)⟩
theorem _root_.L2.PI.imp {tg x : Expr} {t t' : TI} (h : PI X tg x t) (k : ∀ σ H R, t' σ H R → t σ H R) : PI X tg x t' := ⟨fun pins s σ H R I q => h.run pins s σ H R I (k σ H R q)⟩
theorem _root_.L2.PI.or {tg x : Expr} {t t' : TI} (h : PI X tg x t) (h' : PI X tg x t') : PI X tg x (fun σ H R => t σ H R ∨ t' σ H R) := ⟨fun pins s σ H R I q => q.elim (h.run pins s σ H R I) (h'.run pins s σ H R I)⟩
theorem _root_.L2.PS.imp {x : Stmt} {t t' : TS} (h : PS X x t) (k : ∀ D σ H, t' D σ H → t D σ H) : PS X x t' := ⟨fun pins s σ H D I q => h.run pins s σ H D I (k D σ H q)⟩
theorem _root_.L2.PSs.imp {x : List Stmt} {t t' : TS} (h : PSs X x t) (k : ∀ D σ H, t' D σ H → t D σ H) : PSs X x t' := ⟨fun pins s σ H D I q => h.run pins s σ H D I (k D σ H q)⟩
theorem _root_.L2.PG.imp {x : Expr} {t t' : TG} (h : PG X x t) (k : ∀ v σ H Q, t' v σ H Q → t v σ H Q) : PG X x t' := ⟨fun pins s σ H v u Q I r q => h.run pins s σ H v u Q I r (k v σ H Q q)⟩

/-! ### the tree's head -/
def nst : Expr → Bool
  | .Starred _ _ => false
  | _ => true
theorem star_cons {x : Expr} {xs : List Expr} {env : Env} (h : nst x = true) : starEach (x :: xs) env = (false, eval x env) :: starEach xs env := by
  cases x <;> first | rfl | (simp [nst] at h)
theorem star_any {xs : List Expr} {env : Env} {pos : Pos} (h : ∀ x ∈ xs, nst x = true) : (backTo pos (starEach xs env)).any (·.1) = false := by
  induction xs with
  | nil => rfl
  | cons x r ih =>
    rw [star_cons (h x List.mem_cons_self)]
    show ((false, eval x env).1 || (backTo pos (starEach r env)).any (·.1)) = false
    rw [ih fun y hy => h y (List.mem_cons_of_mem _ hy)]
    rfl
/-- a head that is no test of its own -/
def plainH : Expr → Bool
  | .UnaryOp .Not _ _ => false
  | .BoolOp _ _ _ => false
  | .IfExp _ _ _ _ => false
  | .Compare _ _ _ _ => false
  | _ => true
theorem plain_true {x : Expr} {env : Env} (h : plainH x = true) (whole : Sem Value) : isTrue x env whole = (do let v ← whole; standAt x.pos; holding [v] (truthy v)) := by
  cases x with
  | UnaryOp op a p => cases op <;> first | rfl | (simp [plainH] at h)
  | _ => first | rfl | (simp [plainH] at h)
def noSlc : Expr → Bool
  | .Slice _ _ _ _ => false
  | _ => true
theorem plainIx {x : Expr} (h : noSlc x = true) : PlainIx x := by
  intro o i
  cases x <;> first | rfl | (simp [noSlc] at h)
def noSet : Expr → Bool
  | .Set _ _ _ => false
  | _ => true
theorem noSet_fold {x : Expr} (h : noSet x = true) (env : Env) (v : Value) : foldedSetIterable x env v = pure v := by
  cases x <;> first | rfl | (simp [noSet] at h)
theorem noSet_mark {x : Expr} {op : CmpOp} (h : noSet x = true) : behindInMarks op x = false := by
  cases x <;> first | rfl | (simp [noSet] at h)
theorem chk_head {c : Ck} {e : E} {x : Expr} (h : chk c e x = true) : nst x = true ∧ noSlc x = true ∧ noSet x = true := by
  cases x with
  | Starred a p => exact absurd h (by rw [show chk c e (.Starred a p) = false by cases e <;> rfl]; exact Bool.false_ne_true)
  | Slice l u s p => exact absurd h (by rw [show chk c e (.Slice l u s p) = false by cases e <;> rfl]; exact Bool.false_ne_true)
  | Set l k p => exact absurd h (by rw [show chk c e (.Set l k p) = false by cases e <;> rfl]; exact Bool.false_ne_true)
  | _ => exact ⟨rfl, rfl, rfl⟩
theorem chks_head {c : Ck} : ∀ {es : Es} {xs : List Expr}, chks c es xs = true → ∀ x ∈ xs, nst x = true
  | .nil, [], _, x, hx => by simp at hx
  | .nil, _ :: _, h, _, _ => by simp [chks] at h
  | .cons _ _, [], h, _, _ => by simp [chks] at h
  | .cons e r, y :: ys, h, x, hx => by
    simp only [chks, Bool.and_eq_true] at h
    rcases List.mem_cons.mp hx with rfl | hx
    · exact (chk_head h.1.2).1
    · exact chks_head h.2 x hx

/-! ### names -/
theorem visB_vis {sc : Scope} {x : Str} (h : visB sc x = true) : Vis sc x := by
  unfold visB at h
  unfold Vis
  split at h <;> first | (rename_i q; rw [q]; simp) | cases h
theorem glB_gl {c : Ck} {Φ : List Fn} {lv : Nat} {x : Str} (C : CtxOk X c Φ lv) (h : glB c.sc x = true) : Gl X x := by
  unfold glB at h
  show X.env.scope.names.lookup x = _
  rw [C.sc]
  split at h
  · assumption
  · cases h
theorem okN_and {x : Str} (h : okN x = true) : (x == ("__debug__" : Str)) = false ∧ (x == ("__classdict__" : Str)) = false := by
  unfold okN at h
  simpa using h
variable {c : Ck} {Φ : List Fn} {lv : Nat} {pos : Pos} {pk : Bool}
theorem s_var {i : Nat} {x : Str} (C : CtxOk X c Φ lv) (h1 : c.N[i]? = some x) (h2 : visB c.sc x = true) (h3 : okN x = true) : PE X (.Name x pos) (tE X.K Φ pk (.var i)) := by
  obtain ⟨a, b⟩ := okN_and h3
  refine (pe_var (i := i) (by rw [C.N]; exact h1) (by rw [C.sc]; exact visB_vis h2) a b).imp fun σ H Q ⟨G0, H0, G, ρ, g, d, g', r, e, q⟩ => ?_
  simp only [ev] at e
  split at e
  · rename_i d' hs
    cases e
    obtain ⟨v, ev', hv⟩ := r.sl i _ hs
    refine ⟨v, ?_, q v H r.refl (.of hv)⟩
    cases hσ : σ[i]? with
    | none => rw [hσ] at ev'; cases ev'
    | some u => rw [hσ] at ev'; rw [← ev']; rfl
  · rename_i xs hs
    split at e
    · rename_i hp
      cases e
      obtain ⟨a, vs, ev', h4, h5, h6, h7⟩ := r.sl i _ hs
      refine ⟨.ref a, ?_, q _ H r.refl (.inr ⟨hp, a, vs, xs, rfl, rfl, h4, h5, h6, h7⟩)⟩
      cases hσ : σ[i]? with
      | none => rw [hσ] at ev'; cases ev'
      | some u => rw [hσ] at ev'; rw [← ev']; rfl
    · cases e
  · cases e
theorem Rel.okk {K : PySem.W.Frag} {G0 : Gh} {H0 : Hp} {G : Gh} {σ : St} {H : Hp} {ρ : List Slot} {g : GS} (r : Rel K G0 H0 G σ H ρ g) {H' : Hp} {g' : GS} (s : Stq K G H H' g') : GOk G H' := ⟨s.dom, r.wo, r.ok.lo⟩
theorem Rel.dl {K : PySem.W.Frag} {G0 : Gh} {H0 : Hp} {G : Gh} {σ : St} {H : Hp} {ρ : List Slot} {g : GS} (r : Rel K G0 H0 G σ H ρ g) {H1 H2 : Hp} {g2 : GS} {v : V} {d : D} (s : Stq K G H1 H2 g2) (h : Dl pk K H0 G H1 v d) : Dl pk K H0 G H2 v d :=
  h.stp r.wo (fun a z => r.nwr z) s.st
theorem Rel.dlo {K : PySem.W.Frag} {G0 : Gh} {H0 : Hp} {G : Gh} {σ : St} {H : Hp} {ρ : List Slot} {g : GS} (r : Rel K G0 H0 G σ H ρ g) {H1 H2 : Hp} {g2 : GS} {v : V} {d : D} (s : Stq K G H1 H2 g2) (h : Dlo K H0 G H1 v d) : Dlo K H0 G H2 v d :=
  h.stp r.wo (fun a z => r.nwr z) s.st
theorem s_o {e : E} {x : Expr} (C : CtxOk X c Φ lv) (hc : chk c e x = true) (h : PE X x (tE X.K Φ true e)) : PE X x (tEo X.K Φ e) := by
  have pl : (∀ ρ, odv e ρ = none) → PE X x (tEo X.K Φ e) := fun z => h.imp fun σ H Q ⟨G0, H0, G, ρ, g, d, g', r, e1, q⟩ => by
    rw [z ρ] at e1
    exact ⟨G0, H0, G, ρ, g, d, g', r, e1, fun v H' s d1 => q v H' s (.inl d1)⟩
  cases e with
  | var i =>
    cases x with
    | Name x pos =>
      have hc : (decide (c.N[i]? = some x) && visB c.sc x && okN x) = true := hc
      simp only [Bool.and_eq_true, decide_eq_true_eq] at hc
      obtain ⟨a, b⟩ := okN_and hc.2
      refine ⟨fun pins s σ H Q I q => ?_⟩
      obtain ⟨G0, H0, G, ρ, g, d, g', r, e1, q⟩ := q
      cases ho : odv (.var i) ρ with
      | none =>
        rw [ho] at e1
        exact h.run pins s σ H Q I ⟨G0, H0, G, ρ, g, d, g', r, e1, fun v H' s d1 => q v H' s (.inl d1)⟩
      | some dd =>
        rw [ho] at e1
        have e1 : some (dd, g) = some (d, g') := e1
        cases e1
        refine (pe_var (i := i) (by rw [C.N]; exact hc.1.1) (by rw [C.sc]; exact visB_vis hc.1.2) a b).run pins s σ H Q I ?_
        simp only [odv] at ho
        split at ho
        · rename_i t kvs hs
          have hm := (Option.some.inj ho).symm
          subst hm
          obtain ⟨a, o, d, ev', h4, h5, h6, h7⟩ := (r.sl i _ hs).own rfl
          have hd : d = mkD t kvs := by cases h5 <;> rfl
          subst hd
          refine ⟨.ref a, ?_, q _ H r.refl (.inr ⟨a, o, _, rfl, h4, h5, h6, h7⟩)⟩
          cases hσ : σ[i]? with
          | none => rw [hσ] at ev'; cases ev'
          | some u => rw [hσ] at ev'; rw [← ev']; rfl
        · exact nomatch ho
    | _ => exact absurd (show false = true from hc) Bool.false_ne_true
  | _ => exact pl fun _ => rfl
/-- two operands -/
theorem two_ops {K : PySem.W.Frag} {G0 : Gh} {H0 : Hp} {G : Gh} {σ : St} {H : Hp} {ρ : List Slot} {g g1 g2 : GS} {a b : E} {x y : D} {R : V → V → Hp → Prop} (r : Rel K G0 H0 G σ H ρ g) (e1 : ev Φ true a ρ g = some (x, g1)) (e2 : ev Φ true b ρ g1 = some (y, g2))
    (h : ∀ v u H2, Stq K G H H2 g2 → Dl true K H0 G H2 v x → Dl true K H0 G H2 u y → R v u H2) : tE K Φ true a σ H fun v H1 => tE K Φ true b σ H1 fun u H2 => R v u H2 :=
  ⟨G0, H0, G, ρ, g, x, g1, r, e1, fun v H1 s1 d1 => ⟨G0, H0, G, ρ, g1, y, g2, r.stq s1, e2, fun u H2 s2 d2 => h v u H2 (s1.trans s2) (r.dl s2 d1) d2⟩⟩
theorem two_o1 {K : PySem.W.Frag} {G0 : Gh} {H0 : Hp} {G : Gh} {σ : St} {H : Hp} {ρ : List Slot} {g g1 g2 : GS} {a b : E} {x y : D} {R : V → V → Hp → Prop} (r : Rel K G0 H0 G σ H ρ g) (e1 : orD (odv a ρ) g (ev Φ true a ρ g) = some (x, g1)) (e2 : ev Φ true b ρ g1 = some (y, g2))
    (h : ∀ v u H2, Stq K G H H2 g2 → Dlo K H0 G H2 v x → Dl true K H0 G H2 u y → R v u H2) : tEo K Φ a σ H fun v H1 => tE K Φ true b σ H1 fun u H2 => R v u H2 :=
  ⟨G0, H0, G, ρ, g, x, g1, r, e1, fun v H1 s1 d1 => ⟨G0, H0, G, ρ, g1, y, g2, r.stq s1, e2, fun u H2 s2 d2 => h v u H2 (s1.trans s2) (r.dlo s2 d1) d2⟩⟩
theorem two_o2 {K : PySem.W.Frag} {G0 : Gh} {H0 : Hp} {G : Gh} {σ : St} {H : Hp} {ρ : List Slot} {g g1 g2 : GS} {a b : E} {x y : D} {R : V → V → Hp → Prop} (r : Rel K G0 H0 G σ H ρ g) (e1 : ev Φ true a ρ g = some (x, g1)) (e2 : orD (odv b ρ) g1 (ev Φ true b ρ g1) = some (y, g2))
    (h : ∀ v u H2, Stq K G H H2 g2 → Dl true K H0 G H2 v x → Dlo K H0 G H2 u y → R v u H2) : tE K Φ true a σ H fun v H1 => tEo K Φ b σ H1 fun u H2 => R v u H2 :=
  ⟨G0, H0, G, ρ, g, x, g1, r, e1, fun v H1 s1 d1 => ⟨G0, H0, G, ρ, g1, y, g2, r.stq s1, e2, fun u H2 s2 d2 => h v u H2 (s1.trans s2) (r.dl s2 d1) d2⟩⟩
section
variable {a b : E} {x y : Expr}
theorem s_bin {op : Operator} (ha : PE X x (tE X.K Φ true a)) (hb : PE X y (tE X.K Φ true b)) : PE X (.BinOp x op y pos) (tE X.K Φ pk (.bin op a b)) := by
  refine (pe_op (bin_ok op) ha hb).imp fun σ H Q ⟨G0, H0, G, ρ, g, d, g', r, e, q⟩ => ?_
  simp only [ev, Option.bind_eq_bind, Option.bind_eq_some_iff, Option.pure_def, Option.some.injEq, Prod.exists, Prod.mk.injEq] at e
  obtain ⟨x1, g1, e1, y1, g2, e2, z, e3, rfl, rfl⟩ := e
  exact two_ops r e1 e2 fun v u H2 s2 d1 d2 => ⟨G, H0, g2, x1, y1, z, d1, d2, r.okk s2, s2.gs, e3, fun v H3 s3 d3 => q v H3 (s2.trans s3) (.of d3)⟩
theorem s_cmp {op : CmpOp} (C : CtxOk X c Φ lv) (hm : noSet y = true) (ha : PE X x (tE X.K Φ true a)) (hb : PE X y (tEo X.K Φ b)) : PE X (.Compare x [op] [y] pos) (tE X.K Φ pk (.cmp op a b)) := by
  have hu : X.A.units + 65 < cLine := by have := C.hr.un; omega
  refine (pe_cmpR (cmp_ok hu op) ha hb (noSet_mark hm)).imp fun σ H Q ⟨G0, H0, G, ρ, g, d, g', r, e, q⟩ => ?_
  simp only [ev, Option.bind_eq_bind, Option.bind_eq_some_iff, Option.pure_def, Option.some.injEq, Prod.exists, Prod.mk.injEq] at e
  obtain ⟨x1, g1, e1, y1, g2, e2, z, e3, rfl, rfl⟩ := e
  exact two_o2 r e1 e2 fun v u H2 s2 d1 d2 => ⟨G, H0, x1, y1, z, d1, d2, e3, q _ H2 s2 (.of (.bl z))⟩
theorem s_cmpT {op : CmpOp} (C : CtxOk X c Φ lv) (hm : noSet y = true) (ha : PE X x (tE X.K Φ true a)) (hb : PE X y (tEo X.K Φ b)) : PT X (.Compare x [op] [y] pos) (tT X.K Φ (.cmp op a b)) := by
  have hu : X.A.units + 65 < cLine := by have := C.hr.un; omega
  refine (pt_cmpR (cmp_ok hu op) ha hb (noSet_mark hm)).imp fun σ H Q ⟨G0, H0, G, ρ, g, d, g', r, e, q⟩ => ?_
  simp only [ev, Option.bind_eq_bind, Option.bind_eq_some_iff, Option.pure_def, Option.some.injEq, Prod.exists, Prod.mk.injEq] at e
  obtain ⟨x1, g1, e1, y1, g2, e2, z, e3, e4, rfl⟩ := e
  cases e4
  exact two_o2 r e1 e2 fun v u H2 s2 d1 d2 => ⟨G, H0, x1, y1, d, d1, d2, e3, d, rfl, q H2 s2⟩
theorem s_idx (C : CtxOk X c Φ lv) (hm : noSlc y = true) (ha : PE X x (tEo X.K Φ a)) (hb : PE X y (tE X.K Φ true b)) : PE X (.Subscript x y pos) (tE X.K Φ pk (.idx a b)) := by
  refine (pe_ix (idx_ok (by have := C.hr.un; omega)) ha hb (plainIx hm)).imp fun σ H Q ⟨G0, H0, G, ρ, g, d, g', r, e, q⟩ => ?_
  simp only [ev, Option.bind_eq_bind, Option.bind_eq_some_iff, Option.pure_def, Option.some.injEq, Prod.exists, Prod.mk.injEq] at e
  obtain ⟨x1, g1, e1, y1, g2, e2, z, e3, rfl, rfl⟩ := e
  exact two_o1 r e1 e2 fun v u H2 s2 d1 d2 => ⟨G, H0, g2, x1, y1, z, d1, d2, r.okk s2, s2.gs, e3, fun v H3 s3 d3 => q v H3 (s2.trans s3) (.of d3)⟩
theorem s_neg (ha : PE X x (tE X.K Φ true a)) : PE X (.UnaryOp .USub x pos) (tE X.K Φ pk (.neg a)) := by
  refine (pe_un un_neg ha).imp fun σ H Q ⟨G0, H0, G, ρ, g, d, g', r, e, q⟩ => ?_
  simp only [ev, Option.bind_eq_bind, Option.bind_eq_some_iff, Prod.exists] at e
  obtain ⟨x1, g1, e1, e2⟩ := e
  refine ⟨G0, H0, G, ρ, g, x1, g1, r, e1, fun v H1 s1 d1 => ?_⟩
  split at e2
  · cases e2
    exact ⟨_, d1.int, q _ _ s1 (.of (.int _))⟩
  · cases e2
theorem s_not (ha : PE X x (tE X.K Φ true a)) : PE X (.UnaryOp .Not x pos) (tE X.K Φ pk (.not a)) := by
  refine (pe_not ha).imp fun σ H Q ⟨G0, H0, G, ρ, g, d, g', r, e, q⟩ => ?_
  simp only [ev, Option.bind_eq_bind, Option.bind_eq_some_iff, Prod.exists] at e
  obtain ⟨x1, g1, e1, e2⟩ := e
  refine ⟨G0, H0, G, ρ, g, x1, g1, r, e1, fun v H1 s1 d1 => ?_⟩
  split at e2
  · cases e2
    exact ⟨_, d1.bool, q _ _ s1 (.of (.bl _))⟩
  · cases e2
theorem s_notT (ha : PT X x (tT X.K Φ a)) : PT X (.UnaryOp .Not x pos) (tT X.K Φ (.not a)) := by
  refine (pt_not ha).imp fun σ H Q ⟨G0, H0, G, ρ, g, d, g', r, e, q⟩ => ?_
  simp only [ev, Option.bind_eq_bind, Option.bind_eq_some_iff, Prod.exists] at e
  obtain ⟨x1, g1, e1, e2⟩ := e
  split at e2
  · rename_i b
    cases e2
    exact ⟨G0, H0, G, ρ, g, b, _, r, e1, fun H1 s1 => q _ s1⟩
  · cases e2
/-- a plain head's test -/
theorem s_plainT {e : E} (hp : plainH x = true) (h : PE X x (tE X.K Φ true e)) : PT X x (tT X.K Φ e) :=
  (pt_val h (plain_true hp)).imp fun σ H Q ⟨G0, H0, G, ρ, g, b, g', r, e, q⟩ => ⟨G0, H0, G, ρ, g, _, g', r, e, fun v H1 s1 d1 => ⟨b, d1.bool, q H1 s1⟩⟩
/-- b's answer as a bool -/
def tEB (K : PySem.W.Frag) (Φ : List Fn) (e : E) : TE := fun σ H Q => ∃ G0 H0 G ρ g b g', Rel K G0 H0 G σ H ρ g ∧ ev Φ true e ρ g = some (.bool b, g') ∧ ∀ H', Stq K G H H' g' → Q (.bl b) H'
theorem s_eb {e : E} (h : PE X x (tE X.K Φ true e)) : PE X x (tEB X.K Φ e) :=
  h.imp fun σ H Q ⟨G0, H0, G, ρ, g, b, g', r, e, q⟩ => ⟨G0, H0, G, ρ, g, _, g', r, e, fun v H1 s1 d1 => by rw [d1.bool]; exact q H1 s1⟩
theorem s_be {e : E} (h : PE X x (tEB X.K Φ e)) (hb : ∀ ρ g d g', ev Φ pk e ρ g = some (d, g') → ∃ b, d = .bool b ∧ ev Φ true e ρ g = some (.bool b, g')) : PE X x (tE X.K Φ pk e) :=
  h.imp fun σ H Q ⟨G0, H0, G, ρ, g, d, g', r, e, q⟩ => by
    obtain ⟨b, rfl, e'⟩ := hb _ _ _ _ e
    exact ⟨G0, H0, G, ρ, g, b, g', r, e', fun H1 s1 => q _ H1 s1 (.of (.bl b))⟩
theorem and_ev {ρ : List Slot} {g g' : GS} {d : D} (e : ev Φ pk (.and a b) ρ g = some (d, g')) :
    (∃ g1 c, ev Φ true a ρ g = some (.bool true, g1) ∧ ev Φ true b ρ g1 = some (.bool c, g') ∧ d = .bool c) ∨ (ev Φ true a ρ g = some (.bool false, g') ∧ d = .bool false) := by
  simp only [ev, Option.bind_eq_bind, Option.bind_eq_some_iff, Prod.exists] at e
  obtain ⟨x1, g1, e1, e2⟩ := e
  split at e2
  · obtain ⟨c, e3, rfl⟩ := asB_some e2
    exact .inl ⟨g1, c, e1, e3, rfl⟩
  · cases e2; exact .inr ⟨e1, rfl⟩
  · cases e2
theorem or_ev {ρ : List Slot} {g g' : GS} {d : D} (e : ev Φ pk (.or a b) ρ g = some (d, g')) :
    (∃ g1 c, ev Φ true a ρ g = some (.bool false, g1) ∧ ev Φ true b ρ g1 = some (.bool c, g') ∧ d = .bool c) ∨ (ev Φ true a ρ g = some (.bool true, g') ∧ d = .bool true) := by
  simp only [ev, Option.bind_eq_bind, Option.bind_eq_some_iff, Prod.exists] at e
  obtain ⟨x1, g1, e1, e2⟩ := e
  split at e2
  · cases e2; exact .inr ⟨e1, rfl⟩
  · obtain ⟨c, e3, rfl⟩ := asB_some e2
    exact .inl ⟨g1, c, e1, e3, rfl⟩
  · cases e2
theorem s_and {rest : List Expr} (ha : PE X x (tE X.K Φ true a)) (hb : PE X (.BoolOp .And (y :: rest) pos) (tEB X.K Φ b)) : PE X (.BoolOp .And (x :: y :: rest) pos) (tE X.K Φ pk (.and a b)) := by
  refine (pe_and ha hb).imp fun σ H Q ⟨G0, H0, G, ρ, g, d, g', r, e, q⟩ => ?_
  rcases and_ev e with ⟨g1, c, e1, e2, rfl⟩ | ⟨e1, rfl⟩
  · exact ⟨G0, H0, G, ρ, g, _, g1, r, e1, fun v H1 s1 d1 => ⟨true, d1.bool, iteT ⟨G0, H0, G, ρ, g1, c, g', r.stq s1, e2, fun H2 s2 => q _ H2 (s1.trans s2) (.of (.bl c))⟩⟩⟩
  · exact ⟨G0, H0, G, ρ, g, _, g', r, e1, fun v H1 s1 d1 => ⟨false, d1.bool, iteF (q _ H1 s1 (.of (.bl _)))⟩⟩
theorem s_or {rest : List Expr} (ha : PE X x (tE X.K Φ true a)) (hb : PE X (.BoolOp .Or (y :: rest) pos) (tEB X.K Φ b)) : PE X (.BoolOp .Or (x :: y :: rest) pos) (tE X.K Φ pk (.or a b)) := by
  refine (pe_or ha hb).imp fun σ H Q ⟨G0, H0, G, ρ, g, d, g', r, e, q⟩ => ?_
  rcases or_ev e with ⟨g1, c, e1, e2, rfl⟩ | ⟨e1, rfl⟩
  · exact ⟨G0, H0, G, ρ, g, _, g1, r, e1, fun v H1 s1 d1 => ⟨false, d1.bool, iteF ⟨G0, H0, G, ρ, g1, c, g', r.stq s1, e2, fun H2 s2 => q _ H2 (s1.trans s2) (.of (.bl c))⟩⟩⟩
  · exact ⟨G0, H0, G, ρ, g, _, g', r, e1, fun v H1 s1 d1 => ⟨true, d1.bool, iteT (q _ H1 s1 (.of (.bl _)))⟩⟩
theorem s_andW {rest : List Expr} (ha : PT X x (tT X.K Φ a)) (hb : PW X (.BoolOp .And (y :: rest) pos) (tT X.K Φ b)) : PW X (.BoolOp .And (x :: y :: rest) pos) (tT X.K Φ (.and a b)) := by
  refine (pw_and ha hb).imp fun σ H Q ⟨G0, H0, G, ρ, g, d, g', r, e, q⟩ => ?_
  rcases and_ev e with ⟨g1, c, e1, e2, e3⟩ | ⟨e1, e3⟩
  · cases e3
    exact ⟨G0, H0, G, ρ, g, _, g1, r, e1, fun H1 s1 => iteT ⟨G0, H0, G, ρ, g1, d, g', r.stq s1, e2, fun H2 s2 => q H2 (s1.trans s2)⟩⟩
  · cases e3
    exact ⟨G0, H0, G, ρ, g, _, g', r, e1, fun H1 s1 => iteF (q H1 s1)⟩
theorem s_orW {rest : List Expr} (ha : PT X x (tT X.K Φ a)) (hb : PW X (.BoolOp .Or (y :: rest) pos) (tT X.K Φ b)) : PW X (.BoolOp .Or (x :: y :: rest) pos) (tT X.K Φ (.or a b)) := by
  refine (pw_or ha hb).imp fun σ H Q ⟨G0, H0, G, ρ, g, d, g', r, e, q⟩ => ?_
  rcases or_ev e with ⟨g1, c, e1, e2, e3⟩ | ⟨e1, e3⟩
  · cases e3
    exact ⟨G0, H0, G, ρ, g, _, g1, r, e1, fun H1 s1 => iteF ⟨G0, H0, G, ρ, g1, d, g', r.stq s1, e2, fun H2 s2 => q H2 (s1.trans s2)⟩⟩
  · cases e3
    exact ⟨G0, H0, G, ρ, g, _, g', r, e1, fun H1 s1 => iteT (q H1 s1)⟩
theorem s_ife {t : E} {z : Expr} (ht : PT X z (tT X.K Φ t)) (ha : PE X x (tE X.K Φ false a)) (hb : PE X y (tE X.K Φ false b)) : PE X (.IfExp z x y pos) (tE X.K Φ pk (.ife t a b)) := by
  refine (pe_ifExp ht ha hb).imp fun σ H Q ⟨G0, H0, G, ρ, g, d, g', r, e, q⟩ => ?_
  simp only [ev, Option.bind_eq_bind, Option.bind_eq_some_iff, Prod.exists] at e
  obtain ⟨x1, g1, e1, e2⟩ := e
  split at e2
  · exact ⟨G0, H0, G, ρ, g, _, g1, r, e1, fun H1 s1 => iteT ⟨G0, H0, G, ρ, g1, d, g', r.stq s1, e2, fun v H2 s2 d2 => q v H2 (s1.trans s2) (.of d2.strict)⟩⟩
  · exact ⟨G0, H0, G, ρ, g, _, g1, r, e1, fun H1 s1 => iteF ⟨G0, H0, G, ρ, g1, d, g', r.stq s1, e2, fun v H2 s2 d2 => q v H2 (s1.trans s2) (.of d2.strict)⟩⟩
  · cases e2
theorem isN_ev {n : Bool} {ρ : List Slot} {g g' : GS} {d : D} (e : ev Φ pk (.isN n a) ρ g = some (d, g')) : ∃ x, ev Φ true a ρ g = some (x, g') ∧ d = .bool (n != isNoneD x) := by
  simp only [ev, Option.bind_eq_bind, Option.bind_eq_some_iff, Option.pure_def, Option.some.injEq, Prod.exists, Prod.mk.injEq] at e
  obtain ⟨x1, g1, e1, e2, rfl⟩ := e
  exact ⟨x1, e1, e2.symm⟩
theorem s_isN {n : Bool} {j : Nat} {pos' : Pos} (ha : PE X x (tE X.K Φ true a)) : PE X (.Compare x [if n then .IsNot else .Is] [.Constant .none j pos'] pos) (tE X.K Φ pk (.isN n a)) := by
  cases n with
  | false =>
    refine (pe_cmpR op_isN ha pe_non (nomark _)).imp fun σ H Q ⟨G0, H0, G, ρ, g, d, g', r, e, q⟩ => ?_
    obtain ⟨y, e1, rfl⟩ := isN_ev e
    refine ⟨G0, H0, G, ρ, g, y, g', r, e1, fun v H1 s1 d1 => ⟨rfl, ?_⟩⟩
    rw [d1.non_iff]
    exact q _ H1 s1 (.of (by simpa using .bl _))
  | true =>
    refine (pe_cmpR op_notN ha pe_non (nomark _)).imp fun σ H Q ⟨G0, H0, G, ρ, g, d, g', r, e, q⟩ => ?_
    obtain ⟨y, e1, rfl⟩ := isN_ev e
    refine ⟨G0, H0, G, ρ, g, y, g', r, e1, fun v H1 s1 d1 => ⟨rfl, ?_⟩⟩
    rw [d1.non_iff]
    exact q _ H1 s1 (.of (by simpa using .bl _))
theorem s_isNT {n : Bool} {j : Nat} {pos' : Pos} (ha : PE X x (tE X.K Φ true a)) : PT X (.Compare x [if n then .IsNot else .Is] [.Constant .none j pos'] pos) (tT X.K Φ (.isN n a)) := by
  cases n with
  | false =>
    refine (pt_cmpR op_isN ha pe_non (nomark _)).imp fun σ H Q ⟨G0, H0, G, ρ, g, d, g', r, e, q⟩ => ?_
    obtain ⟨y, e1, e2⟩ := isN_ev e
    cases e2
    refine ⟨G0, H0, G, ρ, g, y, g', r, e1, fun v H1 s1 d1 => ⟨rfl, _, rfl, ?_⟩⟩
    rw [d1.non_iff]
    simpa using q H1 s1
  | true =>
    refine (pt_cmpR op_notN ha pe_non (nomark _)).imp fun σ H Q ⟨G0, H0, G, ρ, g, d, g', r, e, q⟩ => ?_
    obtain ⟨y, e1, e2⟩ := isN_ev e
    cases e2
    refine ⟨G0, H0, G, ρ, g, y, g', r, e1, fun v H1 s1 d1 => ⟨rfl, _, rfl, ?_⟩⟩
    rw [d1.non_iff]
    simpa using q H1 s1
theorem isB_ev {n b' : Bool} {ρ : List Slot} {g g' : GS} {d : D} (e : ev Φ pk (.isB n b' a) ρ g = some (d, g')) : ∃ c, ev Φ true a ρ g = some (.bool c, g') ∧ d = .bool (n != (c == b')) := by
  simp only [ev, Option.bind_eq_bind, Option.bind_eq_some_iff, Prod.exists] at e
  obtain ⟨x1, g1, e1, e2⟩ := e
  split at e2
  · cases e2; exact ⟨_, e1, rfl⟩
  · cases e2
theorem s_isB {n b' : Bool} {j : Nat} {pos' : Pos} (ha : PE X x (tE X.K Φ true a)) : PE X (.Compare x [if n then .IsNot else .Is] [.Constant (.bool b') j pos'] pos) (tE X.K Φ pk (.isB n b' a)) := by
  cases n with
  | false =>
    refine (pe_cmpR op_isBl ha pe_bl (nomark _)).imp fun σ H Q ⟨G0, H0, G, ρ, g, d, g', r, e, q⟩ => ?_
    obtain ⟨c, e1, rfl⟩ := isB_ev e
    refine ⟨G0, H0, G, ρ, g, _, g', r, e1, fun v H1 s1 d1 => ⟨c, b', d1.bool, rfl, ?_⟩⟩
    have := q _ H1 s1 (.of (.bl _))
    cases c <;> cases b' <;> exact this
  | true =>
    refine (pe_cmpR op_notBl ha pe_bl (nomark _)).imp fun σ H Q ⟨G0, H0, G, ρ, g, d, g', r, e, q⟩ => ?_
    obtain ⟨c, e1, rfl⟩ := isB_ev e
    refine ⟨G0, H0, G, ρ, g, _, g', r, e1, fun v H1 s1 d1 => ⟨c, b', d1.bool, rfl, ?_⟩⟩
    have := q _ H1 s1 (.of (.bl _))
    cases c <;> cases b' <;> exact this
theorem s_isBT {n b' : Bool} {j : Nat} {pos' : Pos} (ha : PE X x (tE X.K Φ true a)) : PT X (.Compare x [if n then .IsNot else .Is] [.Constant (.bool b') j pos'] pos) (tT X.K Φ (.isB n b' a)) := by
  cases n with
  | false =>
    refine (pt_cmpR op_isBl ha pe_bl (nomark _)).imp fun σ H Q ⟨G0, H0, G, ρ, g, d, g', r, e, q⟩ => ?_
    obtain ⟨c, e1, e2⟩ := isB_ev e
    cases e2
    refine ⟨G0, H0, G, ρ, g, _, g', r, e1, fun v H1 s1 d1 => ⟨c, b', d1.bool, rfl, _, rfl, ?_⟩⟩
    have := q H1 s1
    cases c <;> cases b' <;> exact this
  | true =>
    refine (pt_cmpR op_notBl ha pe_bl (nomark _)).imp fun σ H Q ⟨G0, H0, G, ρ, g, d, g', r, e, q⟩ => ?_
    obtain ⟨c, e1, e2⟩ := isB_ev e
    cases e2
    refine ⟨G0, H0, G, ρ, g, _, g', r, e1, fun v H1 s1 d1 => ⟨c, b', d1.bool, rfl, _, rfl, ?_⟩⟩
    have := q H1 s1
    cases c <;> cases b' <;> exact this
theorem chn_ev {o1 o2 : CmpOp} {f : E} {ρ : List Slot} {g g' : GS} {d : D} (e : ev Φ pk (.chn o1 o2 a b f) ρ g = some (d, g')) :
    ∃ x g1 y g2, ev Φ true a ρ g = some (x, g1) ∧ ev Φ true b ρ g1 = some (y, g2) ∧ ((cmpD o1 x y = some true ∧ ∃ u w, ev Φ true f ρ g2 = some (u, g') ∧ cmpD o2 y u = some w ∧ d = .bool w) ∨ (cmpD o1 x y = some false ∧ g' = g2 ∧ d = .bool false)) := by
  simp only [ev, Option.bind_eq_bind, Option.bind_eq_some_iff, Prod.exists] at e
  obtain ⟨x1, g1, e1, y1, g2, e2, z, e3, e4⟩ := e
  refine ⟨x1, g1, y1, g2, e1, e2, ?_⟩
  cases z with
  | true =>
    simp only [Option.bind_eq_some_iff, Prod.exists, Option.pure_def, Option.some.injEq, Prod.mk.injEq] at e4
    obtain ⟨u, g3, e5, w, e6, e7, rfl⟩ := e4
    exact .inl ⟨e3, u, w, e5, e6, e7.symm⟩
  | false =>
    cases e4
    exact .inr ⟨e3, rfl, rfl⟩
theorem lastM {o1 o2 : CmpOp} {y z' : Expr} (h : noSet z' = true) : lastMarks [o1, o2] [y, z'] = false := by
  show lastMarks [o2] [z'] = false
  exact noSet_mark h
theorem s_chn {o1 o2 : CmpOp} {f : E} {z : Expr} (C : CtxOk X c Φ lv) (h1 : noSet y = true) (h2 : noSet z = true) (ha : PE X x (tE X.K Φ true a)) (hb : PE X y (tE X.K Φ true b)) (hf : PE X z (tE X.K Φ true f)) :
    PE X (.Compare x [o1, o2] [y, z] pos) (tE X.K Φ pk (.chn o1 o2 a b f)) := by
  have hu : X.A.units + 65 < cLine := by have := C.hr.un; omega
  refine (pe_chain (cmp_ok hu o1) (cmp_ok hu o2) ha hb hf ?_).imp fun σ H Q ⟨G0, H0, G, ρ, g, d, g', r, e, q⟩ => ?_
  · exact lastM h2
  · obtain ⟨x1, g1, y1, g2, e1, e2, e3⟩ := chn_ev e
    refine two_ops r e1 e2 fun v u H2 s2 d1 d2 => ?_
    rcases e3 with ⟨e3, u', w, e4, e5, rfl⟩ | ⟨e3, rfl, rfl⟩
    · refine ⟨G, H0, x1, y1, true, d1, .inl d2, e3, true, rfl, iteT ⟨G0, H0, G, ρ, g2, u', g', r.stq s2, e4, fun v3 H3 s3 d3 => ?_⟩⟩
      exact ⟨G, H0, y1, u', w, r.dl s3 d2, .inl d3, e5, q _ H3 (s2.trans s3) (.of (.bl w))⟩
    · exact ⟨G, H0, x1, y1, false, d1, .inl d2, e3, false, rfl, iteF (q _ H2 s2 (.of (.bl false)))⟩
theorem s_chnT {o1 o2 : CmpOp} {f : E} {z : Expr} (C : CtxOk X c Φ lv) (h1 : noSet y = true) (h2 : noSet z = true) (ha : PE X x (tE X.K Φ true a)) (hb : PE X y (tE X.K Φ true b)) (hf : PE X z (tE X.K Φ true f)) :
    PT X (.Compare x [o1, o2] [y, z] pos) (tT X.K Φ (.chn o1 o2 a b f)) := by
  have hu : X.A.units + 65 < cLine := by have := C.hr.un; omega
  refine (pt_chain (cmp_ok hu o1) (cmp_ok hu o2) ha hb hf (lastM h2)).imp fun σ H Q ⟨G0, H0, G, ρ, g, d, g', r, e, q⟩ => ?_
  obtain ⟨x1, g1, y1, g2, e1, e2, e3⟩ := chn_ev e
  refine two_ops r e1 e2 fun v u H2 s2 d1 d2 => ?_
  rcases e3 with ⟨e3, u', w, e4, e5, e6⟩ | ⟨e3, rfl, e6⟩
  · cases e6
    refine ⟨G, H0, x1, y1, true, d1, .inl d2, e3, true, rfl, iteT ⟨G0, H0, G, ρ, g2, u', g', r.stq s2, e4, fun v3 H3 s3 d3 => ?_⟩⟩
    exact ⟨G, H0, y1, u', d, r.dl s3 d2, .inl d3, e5, d, rfl, q H3 (s2.trans s3)⟩
  · cases e6
    exact ⟨G, H0, x1, y1, false, d1, .inl d2, e3, false, rfl, iteF ⟨false, rfl, q H2 s2⟩⟩
end
end
end Dv
end
section
set_option linter.all false
set_option maxRecDepth 100000
set_option autoImplicit false
set_option maxHeartbeats 4000000
/-! Dv7: displays, slices, calls, sources. -/
namespace Dv
open PySem PySem.Spec PyProof.Rows L2
section
variable {X : Cx} {c : Ck} {Φ : List Fn} {lv : Nat} {pos : Pos} {pk : Bool}
theorem DlA.drA {K : PySem.W.Frag} {H0 : Hp} {G : Gh} {H : Hp} : ∀ {vs : List V} {ds : List D}, DlA false K H0 G H vs ds → DrA K G H vs ds
  | _, _, .nil => .nil
  | _, _, .cons a t => .cons a.strict (DlA.drA t)
theorem Rel.dlA {K : PySem.W.Frag} {G0 : Gh} {H0 : Hp} {G : Gh} {σ : St} {H : Hp} {ρ : List Slot} {g : GS} (r : Rel K G0 H0 G σ H ρ g) {H1 H2 : Hp} {g2 : GS} (s : Stq K G H1 H2 g2) : ∀ {vs : List V} {ds : List D}, DlA pk K H0 G H1 vs ds → DlA pk K H0 G H2 vs ds
  | _, _, .nil => .nil
  | _, _, .cons a t => .cons (r.dl s a) (Rel.dlA r s t)
theorem s_nil : PA X [] (tA X.K Φ pk .nil) := pa_nil.imp fun σ H Q ⟨G0, H0, G, ρ, g, d, g', r, e, q⟩ => by
  simp only [evs, Option.some.injEq, Prod.mk.injEq] at e
  obtain ⟨rfl, rfl⟩ := e
  exact q _ H r.refl .nil
theorem s_cons {e : E} {es : Es} {x : Expr} {xs : List Expr} (hn : nst x = true) (h : PE X x (tE X.K Φ pk e)) (hs : PA X xs (tA X.K Φ pk es)) : PA X (x :: xs) (tA X.K Φ pk (.cons e es)) := by
  refine (pa_cons h hs (star_cons hn)).imp fun σ H Q ⟨G0, H0, G, ρ, g, d, g', r, e, q⟩ => ?_
  simp only [evs, Option.bind_eq_bind, Option.bind_eq_some_iff, Option.pure_def, Option.some.injEq, Prod.exists, Prod.mk.injEq] at e
  obtain ⟨y, g1, e1, ys, g2, e2, rfl, rfl⟩ := e
  exact ⟨G0, H0, G, ρ, g, y, g1, r, e1, fun v H1 s1 d1 => ⟨G0, H0, G, ρ, g1, ys, g2, r.stq s1, e2, fun vs H2 s2 d2 => q _ H2 (s1.trans s2) (.cons (r.dl s2 d1) d2)⟩⟩
theorem s_tup {es : Es} {xs : List Expr} {k : Nat} (h : PA X xs (tA X.K Φ false es)) : PE X (.Tuple xs k pos) (tE X.K Φ pk (.tup es)) := by
  refine (pe_tup h).imp fun σ H Q ⟨G0, H0, G, ρ, g, d, g', r, e, q⟩ => ?_
  simp only [ev, Option.bind_eq_bind, Option.bind_eq_some_iff, Prod.exists] at e
  obtain ⟨ds, g1, e1, e2⟩ := e
  obtain ⟨hl, e3⟩ := lenOk_some e2
  cases e3
  refine ⟨G0, H0, G, ρ, g, ds, _, r, e1, fun vs H1 s1 d1 => ⟨?_, fun p hp => ?_⟩⟩
  · rw [d1.drA.length]; exact Nat.le_trans hl lim_le
  · exact q _ _ (s1.new hp) (.of (Dr.newT s1.dom hp d1.drA))
/-- a new list's value -/
theorem fresh_pe {e : E} {x : Expr} (h : PE X x (tF X.K Φ e)) (hf : ∀ ρ g d g', ev Φ pk e ρ g = some (d, g') → ∃ xs, d = .list xs ∧ ev Φ false e ρ g = some (.list xs, g')) : PE X x (tE X.K Φ pk e) :=
  h.imp fun σ H Q ⟨G0, H0, G, ρ, g, d, g', r, e, q⟩ => by
    obtain ⟨xs, rfl, e'⟩ := hf _ _ _ _ e
    exact ⟨G0, H0, G, ρ, g, xs, g', r, e', fun a vs H1 s1 ha d1 _ => q _ _ (s1.new ha) (.of (Dr.newL s1.dom ha d1))⟩
theorem s_lst {es : Es} {xs : List Expr} (h : PA X xs (tA X.K Φ false es)) : PE X (.List xs pos) (tF X.K Φ (.lst es)) := by
  refine (pe_lst h).imp fun σ H Q ⟨G0, H0, G, ρ, g, ds', g', r, e, q⟩ => ?_
  simp only [ev, Option.bind_eq_bind, Option.bind_eq_some_iff, Prod.exists] at e
  obtain ⟨ds, g1, e1, e2⟩ := e
  obtain ⟨hl, e3⟩ := lenOk_some e2
  cases e3
  refine ⟨G0, H0, G, ρ, g, ds', _, r, e1, fun vs H1 s1 d1 => ⟨?_, fun p hp => ?_⟩⟩
  · rw [d1.drA.length]; exact Nat.le_trans hl lim_le
  · exact q _ _ _ s1 hp d1.drA hl
/-- a bound of a slice -/
def tP (K : PySem.W.Frag) (Φ : List Fn) (e : E) : TO := fun σ H Q => ∃ G0 H0 G ρ g d o g', Rel K G0 H0 G σ H ρ g ∧ ev Φ true e ρ g = some (d, g') ∧ optI (condE e) d = some o ∧ ∀ H', Stq K G H H' g' → Q o H'
theorem _root_.L2.PO.imp {x : Option Expr} {t t' : TO} (h : PO X x t) (k : ∀ σ H Q, t' σ H Q → t σ H Q) : PO X x t' := ⟨fun pins s σ H Q I q => h.run pins s σ H Q I (k σ H Q q)⟩
theorem s_slc {a lo hi : E} {x : Expr} {l h : Option Expr} {p2 : Pos} (ha : PE X x (tE X.K Φ true a)) (hl : PO X l (tP X.K Φ lo)) (hh : PO X h (tP X.K Φ hi)) : PE X (.Subscript x (.Slice l h none p2) pos) (tE X.K Φ pk (.slc a lo hi)) := by
  refine (pe_slice slc_ok ha hl hh).imp fun σ H Q ⟨G0, H0, G, ρ, g, d, g', r, e, q⟩ => ?_
  simp only [ev, Option.bind_eq_bind, Option.bind_eq_some_iff, Option.pure_def, Option.some.injEq, Prod.exists, Prod.mk.injEq] at e
  obtain ⟨x1, g1, e1, l1, g2, e2, h1, g3, e3, lo', e4, hi', e5, z, e6, rfl, rfl⟩ := e
  refine ⟨G0, H0, G, ρ, g, x1, g1, r, e1, fun v H1 s1 d1 => ⟨G0, H0, G, ρ, g1, l1, lo', g2, r.stq s1, e2, e4, fun H2 s2 => ⟨G0, H0, G, ρ, g2, h1, hi', g3, r.stq (s1.trans s2), e3, e5, fun H3 s3 => ?_⟩⟩⟩
  have s := (s1.trans s2).trans s3
  exact ⟨G, H0, g3, x1, z, r.dl (s2.trans s3) d1, r.okk s, s.gs, e6, fun v H4 s4 d4 => q v H4 (s.trans s4) (.of d4)⟩
theorem s_noPart {e : E} (h : condE e = true) : PO X none (tP X.K Φ e) := by
  cases e <;> simp [condE] at h
  refine po_none.imp fun σ H Q ⟨G0, H0, G, ρ, g, d, o, g', r, e, eo, q⟩ => ?_
  simp only [ev, Option.some.injEq, Prod.mk.injEq] at e
  obtain ⟨rfl, rfl⟩ := e
  simp only [optI, condE, if_true, Option.some.injEq] at eo
  subst eo
  exact q H r.refl
theorem s_part {e : E} {x : Expr} (hv : e.v = true) (h : PE X x (tE X.K Φ true e)) : PO X (some x) (tP X.K Φ e) := by
  have hc : condE e = false := by cases e <;> simp [E.v, condE] at hv ⊢
  refine (po_some h).imp fun σ H Q ⟨G0, H0, G, ρ, g, d, o, g', r, e1, eo, q⟩ => ?_
  rw [hc] at eo
  obtain ⟨i, rfl, rfl⟩ : ∃ i, d = .int i ∧ o = some i := by
    unfold optI at eo
    rw [if_neg (by simp)] at eo
    split at eo
    · cases eo; exact ⟨_, rfl, rfl⟩
    · cases eo
  exact ⟨G0, H0, G, ρ, g, _, g', r, e1, fun v H1 s1 d1 => ⟨i, d1.int, q H1 s1⟩⟩
/-! ### calls -/
theorem s_call {k : Nat} {es : Es} {x : Str} {xs : List Expr} {p : Pos} (C : CtxOk X c Φ lv) (h1 : c.fs[k]? = some x) (h2 : glB c.sc x = true) (h3 : okN x = true) (hx : chks c es xs = true) (ha : PA X xs (tA X.K Φ false es)) : PE X (.Call (.Name x p) xs [] pos) (tE X.K Φ pk (.call k es)) := by
  have fin : ∀ {σ : St} {H : Hp} {Q : VK} (F : Fn), Φ[k]? = some F → tE X.K Φ pk (.call k es) σ H Q → tA X.K Φ false es σ H fun vs H1 => spD X.K F (vs ++ []) H1 Q E0 := by
    intro σ H Q F hF h
    obtain ⟨G0, H0, G, ρ, g, d, g', r, e, q⟩ := h
    simp only [ev, Option.bind_eq_bind, Option.bind_eq_some_iff, Prod.exists] at e
    obtain ⟨ds, g1, e1, F', e2, e3⟩ := e
    rw [hF] at e2
    cases e2
    refine ⟨G0, H0, G, ρ, g, ds, g1, r, e1, fun vs H1 s1 d1 => ?_⟩
    show spD X.K F (vs ++ []) H1 Q E0
    rw [List.append_nil]
    exact ⟨G, ds, g1, d, g', r.okk s1, s1.gs, d1.drA, e3, fun v H2 s2 d2 => q v H2 (s1.trans s2) (.of d2)⟩
  have hn := chks_head hx
  cases hF : Φ[k]? with
  | none =>
    exact ⟨fun pins s σ H Q I h => by
      obtain ⟨G0, H0, G, ρ, g, d, g', r, e, q⟩ := h
      simp only [ev, Option.bind_eq_bind, Option.bind_eq_some_iff, Prod.exists] at e
      obtain ⟨ds, g1, e1, F', e2, e3⟩ := e
      rw [hF] at e2; cases e2⟩
  | some F =>
    obtain ⟨x', ex, f, fd, ps, Fo, hm, hk, hb⟩ := C.fns k F hF
    rw [h1] at ex
    cases ex
    obtain ⟨n1, n2⟩ := okN_and h3
    cases xs with
    | nil =>
      refine (pe_call0 Fo C.hr (glB_gl C h2) hm hk hb .nil pass0 n1).imp fun σ H Q h => ?_
      have := fin F hF h
      -- no arguments
      obtain ⟨G0, H0, G, ρ, g, ds, g', r, e, q⟩ := this
      show spD X.K F ([] ++ []) H Q E0
      cases es with
      | nil =>
        simp only [evs, Option.some.injEq, Prod.mk.injEq] at e
        obtain ⟨rfl, rfl⟩ := e
        exact q [] H r.refl .nil
      | cons e1 er => simp [chks] at hx
    | cons y ys =>
      refine (pe_call Fo C.hr (glB_gl C h2) hm hk hb .nil pass0 ha n1 (star_cons (hn y List.mem_cons_self)) (star_any fun z hz => hn z (List.mem_cons_of_mem _ hz))).imp fun σ H Q h => ?_
      exact fin F hF h
theorem bf_boot (f : Bf) : bootBuiltins f.nm = some f.val ∧ f.nm ≠ "__name__" ∧ (f.nm == ("__debug__" : Str)) = false ∧ f.nm ∈ bltN := by
  cases f <;> exact ⟨by decide +kernel, by decide +kernel, by decide +kernel, by decide +kernel⟩
def Bf.isTy : Bf → Bool
  | .list => true | .tuple => true | .int => true
  | _ => false
theorem s_bfn {f : Bf} {es : Es} {x : Str} {y : Expr} {ys : List Expr} {p : Pos} (C : CtxOk X c Φ lv) (h0 : bfPlain f = true) (h1 : x = f.nm) (h2 : glB c.sc x = true) (hx : chks c es (y :: ys) = true) (ha : PA X (y :: ys) (tA X.K Φ true es)) :
    PE X (.Call (.Name x p) (y :: ys) [] pos) (tE X.K Φ pk (.bfn f es)) := by
  subst h1
  have hn := chks_head hx
  obtain ⟨b1, b2, b3, b4⟩ := bf_boot f
  have hu : X.A.units + 200 < cLine := by have := C.hr.un; omega
  have R : CallR X f.val (rDF X.K (bfD f)) := by
    cases f with
    | sorted => exact sorted_ok hu
    | srtSet => cases h0
    | lenSet => cases h0
    | _ => exact bf_ok C.calm hu _ (by simp) (by simp) (by simp)
  have he := star_cons (xs := ys) (env := X.env) (hn y List.mem_cons_self)
  have hp := star_any (pos := pos) (env := X.env) fun z hz => hn z (List.mem_cons_of_mem _ hz)
  have P : PE X (.Call (.Name f.nm p) (y :: ys) [] pos) (tCB (rDF X.K (bfD f)) (tA X.K Φ true es)) := by
    cases f with
    | list => exact pe_callTy R (glB_gl C h2) (C.blt _ b4) b1 ha b2 b3 he hp
    | tuple => exact pe_callTy R (glB_gl C h2) (C.blt _ b4) b1 ha b2 b3 he hp
    | int => exact pe_callTy R (glB_gl C h2) (C.blt _ b4) b1 ha b2 b3 he hp
    | _ => exact pe_callB R (glB_gl C h2) (C.blt _ b4) b1 ha b2 b3 he hp
  refine P.imp fun σ H Q ⟨G0, H0, G, ρ, g, d, g', r, e, q⟩ => ?_
  simp only [ev, Option.bind_eq_bind, Option.bind_eq_some_iff, Option.pure_def, Option.some.injEq, Prod.exists, Prod.mk.injEq] at e
  obtain ⟨ds, g1, e1, z, e2, rfl, rfl⟩ := e
  exact ⟨G0, H0, G, ρ, g, ds, g1, r, e1, fun vs H1 s1 d1 => ⟨G, H0, g1, ds, z, d1, r.okk s1, s1.gs, e2, fun v H2 s2 d2 => q v H2 (s1.trans s2) (.of d2)⟩⟩
/-! ### range -/
theorem drA_rg {K : PySem.W.Frag} {G : Gh} {H : Hp} (i j : Int) : DrA K G H (rgV i j) (rngL i j) := by
  have : ∀ l : List Nat, DrA K G H (l.map fun (k : Nat) => V.int (i + k)) (l.map fun (k : Nat) => PyData.int (i + k)) := fun l => by
    induction l with
    | nil => exact .nil
    | cons a l ih => exact .cons (.int _) ih
  exact this _
theorem rngL_len (i j : Int) : (rngL i j).length = (j - i).toNat := by unfold rngL; rw [List.length_map, List.length_range]
/-- a range's bounds -/
def tR (K : PySem.W.Frag) (Φ : List Fn) (e : E) : St → Hp → (Int → Int → Hp → Prop) → Prop := fun σ H Q => ∃ G0 H0 G ρ g d g', Rel K G0 H0 G σ H ρ g ∧ ev Φ true e ρ g = some (d, g') ∧ ∀ i j H', Stq K G H H' g' → d = .list (rngL i j) → rngOk i = true → rngOk j = true → Q i j H'
theorem rngD_some {n : Bool} {x y d : D} (h : rngD n x y = some d) : (n = true ∧ ∃ j, y = .int j ∧ rngOk j = true ∧ d = .list (rngL 0 j)) ∨ (n = false ∧ ∃ i j, x = .int i ∧ y = .int j ∧ rngOk i = true ∧ rngOk j = true ∧ d = .list (rngL i j)) := by
  cases y <;> try (simp [rngD] at h)
  cases n with
  | true =>
    simp at h
    exact .inl ⟨rfl, _, rfl, h.1, h.2.symm⟩
  | false =>
    cases x <;> simp at h
    exact .inr ⟨rfl, _, _, rfl, rfl, h.1.1, h.1.2, h.2.symm⟩
theorem rng0 : rngOk 0 = true := by decide
theorem rng_ev {a b : E} {ρ : List Slot} {g g' : GS} {d : D} (e : ev Φ pk (.rng a b) ρ g = some (d, g')) : ∃ x g1 y, ev Φ true a ρ g = some (x, g1) ∧ ev Φ true b ρ g1 = some (y, g') ∧ rngD (condE a) x y = some d := by
  simp only [ev, Option.bind_eq_bind, Option.bind_eq_some_iff, Option.pure_def, Option.some.injEq, Prod.exists, Prod.mk.injEq] at e
  obtain ⟨x1, g1, e1, y1, g2, e2, z, e3, rfl, rfl⟩ := e
  exact ⟨x1, g1, y1, e1, e2, e3⟩
theorem no_ev {a : E} {ρ : List Slot} {g g' : GS} {d : D} (h : condE a = true) (e : ev Φ pk a ρ g = some (d, g')) : d = .none ∧ g' = g := by
  cases a <;> simp [condE] at h
  simp only [ev, Option.some.injEq, Prod.mk.injEq] at e
  exact ⟨e.1.symm, e.2.symm⟩
theorem s_prg1 {a b : E} {y : Expr} {p : Pos} (C : CtxOk X c Φ lv) (h2 : glB c.sc "range" = true) (h3 : condE a = true) (hy : nst y = true) (hb : PE X y (tE X.K Φ true b)) : PRg X (.Call (.Name "range" p) [y] [] pos) (tR X.K Φ (.rng a b)) := by
  intro pins s σ H Q I ⟨G0, H0, G, ρ, g, d, g', r, e, q⟩
  refine prg_1 (glB_gl C h2) (C.blt _ (by decide +kernel)) hb (star_cons hy) pins s σ H Q I ?_
  obtain ⟨x, g1, y', e1, e2, e3⟩ := rng_ev e
  obtain ⟨rfl, rfl⟩ := no_ev h3 e1
  refine ⟨G0, H0, G, ρ, _, y', g', r, e2, fun v H1 s1 d1 => ?_⟩
  rcases rngD_some e3 with ⟨_, j, rfl, hj, rfl⟩ | ⟨z, _⟩
  · exact ⟨j, d1.int, q 0 j H1 s1 rfl rng0 hj⟩
  · rw [h3] at z; cases z
theorem s_prg2 {a b : E} {x y : Expr} {p : Pos} (C : CtxOk X c Φ lv) (h2 : glB c.sc "range" = true) (hx : nst x = true) (hy : nst y = true) (ha : PE X x (tE X.K Φ true a)) (hb : PE X y (tE X.K Φ true b)) (hv : a.v = true) :
    PRg X (.Call (.Name "range" p) [x, y] [] pos) (tR X.K Φ (.rng a b)) := by
  intro pins s σ H Q I ⟨G0, H0, G, ρ, g, d, g', r, e, q⟩
  refine prg_2 (glB_gl C h2) (C.blt _ (by decide +kernel)) ha hb (star_cons hx) (star_cons hy) (star_any fun z hz => by rw [List.mem_singleton.mp hz]; exact hy) pins s σ H Q I ?_
  obtain ⟨x', g1, y', e1, e2, e3⟩ := rng_ev e
  refine two_ops r e1 e2 fun v u H2 s2 d1 d2 => ?_
  rcases rngD_some e3 with ⟨z, _⟩ | ⟨_, i, j, rfl, rfl, hi, hj, rfl⟩
  · cases a <;> simp [E.v, condE] at hv z
  · exact ⟨i, j, d1.int, d2.int, q i j H2 s2 rfl hi hj⟩
end
end Dv
end
section
set_option linter.all false
set_option maxRecDepth 100000
set_option autoImplicit false
set_option maxHeartbeats 4000000
/-! Dv8: range as a value, isinstance, sources, targets, comprehensions. -/
namespace Dv
open PySem PySem.Spec PyProof.Rows L2
section
variable {X : Cx} {c : Ck} {Φ : List Fn} {lv : Nat} {pos : Pos} {pk : Bool}
theorem s_bfr {t : Bool} {e : E} {x : Str} {y : Expr} {p : Pos} (C : CtxOk X c Φ lv) (h1 : x = if t = true then "tuple" else "list") (h2 : glB c.sc x = true) (hy : nst y = true) (h : PRg X y (tR X.K Φ e)) : PE X (.Call (.Name x p) [y] [] pos) (tE X.K Φ pk (.bfr t e)) := by
  have key : ∀ {σ : St} {H : Hp} {Q : VK}, tE X.K Φ pk (.bfr t e) σ H Q → tR X.K Φ e σ H fun i j H1 => RgOk i j ∧ ∀ q, H1 q = none → Q (.ref q) (upd H1 q (if t = true then .tup (rgV i j) else .lst (rgV i j))) := by
    intro σ H Q ⟨G0, H0, G, ρ, g, d, g', r, e, q⟩
    simp only [ev, Option.bind_eq_bind, Option.bind_eq_some_iff, Prod.exists] at e
    obtain ⟨z, g1, e1, xs, e2, e3⟩ := e
    obtain ⟨hl, e4⟩ := lenOk_some e3
    cases e4
    refine ⟨G0, H0, G, ρ, g, z, _, r, e1, fun i j H1 s1 hz hi hj => ?_⟩
    subst hz
    simp only [seqOf, Option.some.injEq] at e2
    subst e2
    rw [rngL_len] at hl
    unfold rngOk at hi hj
    simp only [Bool.and_eq_true, decide_eq_true_eq] at hi hj
    refine ⟨⟨hi.1, hi.2, hj.1, hj.2, Nat.le_trans hl (by decide)⟩, fun p hp => ?_⟩
    cases t with
    | true => exact q _ _ (s1.new hp) (.of (Dr.newT s1.dom hp (drA_rg i j)))
    | false => exact q _ _ (s1.new hp) (.of (Dr.newL s1.dom hp (drA_rg i j)))
  subst h1
  cases t with
  | true => exact (pe_tupRg C.calm (glB_gl C h2) (C.blt _ (by decide +kernel)) h (star_cons hy)).imp fun σ H Q z => key z
  | false => exact (pe_listRg C.calm (glB_gl C h2) (C.blt _ (by decide +kernel)) h (star_cons hy)).imp fun σ H Q z => key z
/-! ### isinstance -/
def Ty.s : Ty → String
  | .bool => "bool" | .int => "int" | .str => "str" | .tuple => "tuple" | .list => "list" | .dict => "dict"
theorem ty_boot (t : Ty) : bootBuiltins t.nm = some (.type t.s) ∧ t.nm ≠ "__name__" ∧ (t.nm == ("__debug__" : Str)) = false ∧ t.nm ∈ bltN := by
  cases t <;> exact ⟨by decide +kernel, by decide +kernel, by decide +kernel, by decide +kernel⟩
theorem Dl.ty {K : PySem.W.Frag} {H0 : Hp} {G : Gh} {H : Hp} {v : V} {d : D} {t : Ty} {b : Bool} (h : Dl pk K H0 G H v d) (e : tyD t d = some b) : ∃ u, TyX K H v u ∧ PySem.W.kitOne K u (.type t.s) = some b := by
  have hl : ∀ {a : Addr} {vs : List V}, H a = some (.lst vs) → (∃ xs, d = .list xs) → ∃ u, TyX K H (.ref a) u ∧ PySem.W.kitOne K u (.type t.s) = some b := by
    rintro a vs ha ⟨xs, rfl⟩
    refine ⟨_, .base (.lst ha), kit_ty ?_⟩
    cases t <;> simp [tyD] at e <;> subst e <;> decide +kernel
  rcases h with h | ⟨_, a, vs, ds, rfl, rfl, h1, _⟩
  · cases h with
    | non => exact ⟨_, .base .non, kit_ty (by cases t <;> simp [tyD] at e <;> subst e <;> decide +kernel)⟩
    | bl x => exact ⟨_, .base (.bl x), kit_ty (by cases t <;> simp [tyD] at e <;> subst e <;> decide +kernel)⟩
    | int x => exact ⟨_, .base (.int x), kit_ty (by cases t <;> simp [tyD] at e <;> subst e <;> decide +kernel)⟩
    | str x => exact ⟨_, .base (.str x), kit_ty (by cases t <;> simp [tyD] at e <;> subst e <;> decide +kernel)⟩
    | lst h1 h2 h3 => exact hl h1 ⟨_, rfl⟩
    | tup h1 h3 => exact ⟨_, .base (.tup h1.1), kit_ty (by cases t <;> simp [tyD] at e <;> subst e <;> decide +kernel)⟩
    | pool _ => cases t <;> simp [tyD] at e
    | scr _ _ => cases t <;> simp [tyD] at e
    | dk _ _ _ => cases t <;> simp [tyD] at e
    | dt _ _ _ => cases t <;> simp [tyD] at e
  · exact hl h1 ⟨_, rfl⟩
theorem s_isi {t : Ty} {a : E} {x z : Str} {y : Expr} {p p' : Pos} (C : CtxOk X c Φ lv) (h1 : x = "isinstance") (h2 : z = t.nm) (g1 : glB c.sc x = true) (g2 : glB c.sc z = true) (hy : nst y = true) (ha : PE X y (tE X.K Φ true a)) :
    PE X (.Call (.Name x p) [y, .Name z p'] [] pos) (tE X.K Φ pk (.isi t a)) := by
  subst h1 h2
  obtain ⟨b1, b2, b3, b4⟩ := ty_boot t
  have P2 : PE X (.Name t.nm p') (tC (.ty t.s)) := pe_bltn (glB_gl C g2) (C.blt _ b4) b1 rfl b2 b3
  refine (pe_callB call_isi (glB_gl C g1) (C.blt _ (by decide +kernel)) boot_isinstance (pa_cons ha (pa_cons P2 pa_nil (star_cons rfl)) (star_cons hy)) (by decide +kernel) (by decide +kernel) (star_cons hy)
    (star_any fun z hz => by rw [List.mem_singleton.mp hz]; rfl)).imp fun σ H Q ⟨G0, H0, G, ρ, g, d, g', r, e, q⟩ => ?_
  simp only [ev, Option.bind_eq_bind, Option.bind_eq_some_iff, Option.pure_def, Option.some.injEq, Prod.exists, Prod.mk.injEq] at e
  obtain ⟨x1, g1', e1, b, e2, rfl, rfl⟩ := e
  refine ⟨G0, H0, G, ρ, g, x1, g1', r, e1, fun v H1 s1 d1 => ?_⟩
  obtain ⟨u, tu, ku⟩ := d1.ty e2
  exact ⟨v, .ty t.s, u, .type t.s, b, rfl, .ty _, tu, ku, q _ H1 s1 (.of (.bl b))⟩
/-! ### sources -/
theorem itOk_list {K : PySem.W.Frag} {G : Gh} {H : Hp} {a : Addr} {vs : List V} {ds : List D} (h : H a = some (.lst vs)) (hn : a ∉ G.own ∨ (pk = true ∧ a ∈ G.ls ∧ a ∉ G.wr)) (d : DrA K G H vs ds) : ItOk K pk G H (Itl K a) ds := by
  intro G1 H1 mv
  have h1 : H1 a = some (.lst vs) := hn.elim (fun n => (mv.k a _ h n).1) fun n => mv.l a _ h n.1 n.2.1 n.2.2
  refine ⟨fun i hi => ⟨vs, .of h1, by rw [d.length]; exact hi⟩, fun i x hx => ?_⟩
  obtain ⟨v, hv, dv⟩ := d.get hx
  refine ⟨⟨vs, v, .of h1, hv⟩, fun v' H2 y => ⟨y.1, ?_⟩⟩
  have : vs[i]? = some v' := y.2 vs (.of h1)
  rw [hv] at this
  cases this
  exact dv.mono mv.k mv.pl
theorem itOk_tup {K : PySem.W.Frag} {G : Gh} {H : Hp} {a : Addr} {vs : List V} {ds : List D} (h : TupN K G H a vs) (d : DrA K G H vs ds) : ItOk K pk G H (Itt K a) ds := by
  intro G1 H1 mv
  have h1 : SqT K H1 a vs := .of (mv.k a _ h.1 h.2).1
  refine ⟨fun i hi => ⟨vs, h1, by rw [d.length]; exact hi⟩, fun i x hx => ?_⟩
  obtain ⟨v, hv, dv⟩ := d.get hx
  refine ⟨⟨vs, v, h1, hv⟩, fun v' H2 y => ⟨y.1, ?_⟩⟩
  have : vs[i]? = some v' := y.2 vs h1
  rw [hv] at this
  cases this
  exact dv.mono mv.k mv.pl
theorem itOk_rng {K : PySem.W.Frag} {G : Gh} {H : Hp} {i j : Int} : ItOk K pk G H (Itr i (j - i).toNat) (rngL i j) := by
  intro G1 H1 mv
  refine ⟨fun k hk => by rw [rngL_len] at hk; exact hk, fun k x hx => ?_⟩
  have hk : k < (j - i).toNat := by
    have := (List.getElem?_eq_some_iff.mp hx).1
    rw [rngL_len] at this
    exact this
  refine ⟨hk, fun v H2 y => ⟨y.1, ?_⟩⟩
  unfold rngL at hx
  rw [List.getElem?_map, List.getElem?_range hk] at hx
  cases hx
  rw [y.2]
  exact .int _
theorem DrK.keyAt {K : PySem.W.Frag} {G : Gh} {H : Hp} : ∀ {ks : List (Key × V)} {kvs : List (D × D)} {i : Nat} {k : Key} {v : V}, DrK K G H ks kvs → ks[i]? = some (k, v) → (kvs.map (·.1))[i]? = some (keyD k)
  | _, _, _, _, _, .nil, e => by simp at e
  | _, _, 0, _, _, .cons he _ _, e => by simp at e; obtain ⟨rfl, _⟩ := e; simp [he]
  | _, _, i + 1, k, v, .cons _ _ t, e => by
    have := DrK.keyAt (i := i) (k := k) (v := v) t (by simpa using e)
    simpa using this
theorem DrT.keyAt {K : PySem.W.Frag} {G : Gh} {H : Hp} : ∀ {ks : List (List Key × V)} {kvs : List (D × D)} {i : Nat} {k : List Key} {v : V}, DrT K G H ks kvs → ks[i]? = some (k, v) → (kvs.map (·.1))[i]? = some (.tuple (k.map keyD))
  | _, _, _, _, _, .nil, e => by simp at e
  | _, _, 0, _, _, .cons he _ _, e => by simp at e; obtain ⟨rfl, _⟩ := e; simp [he]
  | _, _, i + 1, k, v, .cons _ _ t, e => by
    have := DrT.keyAt (i := i) (k := k) (v := v) t (by simpa using e)
    simpa using this
theorem keyDr {K : PySem.W.Frag} {G : Gh} {H : Hp} (k : Key) : Dr K G H (kV k) (keyD k) := by
  cases k with
  | inl i => exact .int i
  | inr x => exact .str x
theorem keysDr {K : PySem.W.Frag} {G : Gh} {H : Hp} : ∀ ks : List Key, DrA K G H (ks.map kV) (ks.map keyD)
  | [] => .nil
  | k :: r => .cons (keyDr k) (keysDr r)
theorem itOk_dk {K : PySem.W.Frag} {G : Gh} {H : Hp} {a : Addr} {od : Obj} {ks : List (Key × V)} {kvs : List (D × D)} (h : H a = some (.frz od (.dK ks))) (hn : a ∉ G.own) (d : DrK K G H ks kvs) : ItOk K pk G H (Itk a od ks) (kvs.map (·.1)) := by
  intro G1 H1 mv
  have h1 := (mv.k a _ h hn).1
  have hl : (kvs.map (·.1)).length = ks.length := by rw [List.length_map, d.length]
  refine ⟨fun i hi => ⟨h1, by rw [← hl]; exact hi⟩, fun i x hx => ?_⟩
  have hi := (List.getElem?_eq_some_iff.mp hx).1
  refine ⟨⟨h1, by rw [← hl]; exact hi⟩, fun v' H2 y => ⟨y.1, ?_⟩⟩
  obtain ⟨k, v, hk, rfl⟩ := y.2
  rw [d.keyAt hk] at hx
  cases hx
  exact keyDr k
theorem itOk_dt {K : PySem.W.Frag} {G : Gh} {H : Hp} {a : Addr} {od : Obj} {ks : List (List Key × V)} {kvs : List (D × D)} (h : H a = some (.frz od (.dT ks))) (hn : a ∉ G.own) (d : DrT K G H ks kvs) : ItOk K pk G H (Itkt a od ks) (kvs.map (·.1)) := by
  intro G1 H1 mv
  have h1 := (mv.k a _ h hn).1
  have hl : (kvs.map (·.1)).length = ks.length := by rw [List.length_map, d.length]
  refine ⟨fun i hi => ⟨h1, by rw [← hl]; exact hi⟩, fun i x hx => ?_⟩
  have hi := (List.getElem?_eq_some_iff.mp hx).1
  refine ⟨⟨h1, by rw [← hl]; exact hi⟩, fun v' H2 y => ⟨y.1, ?_⟩⟩
  obtain ⟨k, v, q, hk, rfl, hq⟩ := y.2
  rw [d.keyAt hk] at hx
  cases hx
  exact .tup ⟨hq, fun z => by
    obtain ⟨o, e, n⟩ := mv.dom q z
    rw [hq] at e
    cases e
    cases n⟩ (keysDr k)
theorem itOf_some {d : D} {xs : List D} (h : itOf d = some xs) : (∃ ds, d = .list ds ∧ xs = ds) ∨ (∃ ds, d = .tuple ds ∧ xs = ds) ∨ (∃ kvs, dkD d = some kvs ∧ xs = kvs.map (·.1)) ∨ ∃ kvs, dtD d = some kvs ∧ xs = kvs.map (·.1) := by
  unfold itOf at h
  split at h
  · rename_i ys e
    cases h
    cases d <;> simp [seqOf] at e
    · exact .inl ⟨_, rfl, e.symm⟩
    · exact .inr (.inl ⟨_, rfl, e.symm⟩)
  · split at h
    · rename_i kvs e
      cases h
      exact .inr (.inr (.inl ⟨kvs, e, rfl⟩))
    · obtain ⟨kvs, e, rfl⟩ := Option.map_eq_some_iff.mp h
      exact .inr (.inr (.inr ⟨kvs, e, rfl⟩))
theorem dk_isDict {d : D} {kvs : List (D × D)} (h : dkD d = some kvs) : d = .dict kvs ∧ kvs.all (fun p => (keyOf p.1).isSome) = true := by
  unfold dkD at h
  split at h
  · split at h
    · rename_i ha; cases h; exact ⟨rfl, ha⟩
    · cases h
  · cases h
theorem dt_isDict {d : D} {kvs : List (D × D)} (h : dtD d = some kvs) : d = .dict ((.list [], .none) :: kvs) ∧ kvs.all (fun p => (tkOf p.1).isSome) = true := by
  unfold dtD at h
  split at h
  · split at h
    · rename_i ha; cases h; exact ⟨rfl, ha⟩
    · cases h
  · cases h
theorem Dr.dkOf {K : PySem.W.Frag} {G : Gh} {H : Hp} {v : V} {d : D} {kvs : List (D × D)} (h : Dr K G H v d) (e : dkD d = some kvs) : ∃ a od ks, v = .ref a ∧ H a = some (.frz od (.dK ks)) ∧ a ∉ G.own ∧ DrK K G H ks kvs := by
  obtain ⟨rfl, ha⟩ := dk_isDict e
  cases h with
  | dk h1 h2 h3 => exact ⟨_, _, _, rfl, h1, h2, h3⟩
  | dt h1 h2 h3 => simp [keyOf] at ha
  | pool h => simp [keyOf] at ha
  | scr h1 h2 => simp [keyOf] at ha
theorem Dr.dtOf {K : PySem.W.Frag} {G : Gh} {H : Hp} {v : V} {d : D} {kvs : List (D × D)} (h : Dr K G H v d) (e : dtD d = some kvs) : ∃ a od ks, v = .ref a ∧ H a = some (.frz od (.dT ks)) ∧ a ∉ G.own ∧ DrT K G H ks kvs := by
  obtain ⟨rfl, ha⟩ := dt_isDict e
  cases h with
  | dk h1 h2 h3 => exact h3.noList.elim
  | dt h1 h2 h3 => exact ⟨_, _, _, rfl, h1, h2, h3⟩
theorem s_pi {e : E} {tg x : Expr} (h : PE X x (tE X.K Φ pk e)) : PI X tg x (tI X.K Φ pk e) := by
  refine (((pi_list h).or (pi_tup h)).or (pi_keys h)).imp fun σ H R ⟨G0, H0, G, ρ, g, d, xs, g', r, e, ex, q⟩ => ?_
  rcases itOf_some ex with ⟨ds, rfl, rfl⟩ | ⟨ds, rfl, rfl⟩ | ⟨kvs, e3, rfl⟩ | ⟨kvs, e3, rfl⟩
  · refine .inl (.inl ⟨G0, H0, G, ρ, g, _, g', r, e, fun v H1 s1 d1 => ?_⟩)
    rcases d1 with d1 | ⟨hp, a, vs, ds, rfl, e2, h1, h2, h3, h4⟩
    · cases d1 with
      | lst h1 h2 h3 =>
        exact ⟨_, rfl, ⟨_, .of h1⟩, q _ H1 s1 (itOk_list h1 (.inl h2) h3)⟩
    · cases e2
      exact ⟨a, rfl, ⟨_, .of h1⟩, q _ H1 s1 (itOk_list h1 (.inr ⟨hp, h3, r.nwr h4⟩) h2)⟩
  · refine .inl (.inr ⟨G0, H0, G, ρ, g, _, g', r, e, fun v H1 s1 d1 => ?_⟩)
    obtain ⟨a, vs, rfl, h1, h2⟩ := d1.tuple
    exact ⟨a, rfl, ⟨_, h1.sq⟩, q _ H1 s1 (itOk_tup h1 h2)⟩
  · refine .inr ⟨G0, H0, G, ρ, g, _, g', r, e, fun v H1 s1 d1 => ?_⟩
    rcases d1 with d1 | ⟨hp, a, vs, ds, rfl, e2, h1, h2, h3, h4⟩
    · obtain ⟨a, od, ks, rfl, h1, h2, h3⟩ := d1.dkOf e3
      exact ⟨a, od, rfl, .inl ⟨ks, h1, q _ H1 s1 (itOk_dk h1 h2 h3)⟩⟩
    · subst e2; cases e3
  · refine .inr ⟨G0, H0, G, ρ, g, _, g', r, e, fun v H1 s1 d1 => ?_⟩
    rcases d1 with d1 | ⟨hp, a, vs, ds, rfl, e2, h1, h2, h3, h4⟩
    · obtain ⟨a, od, ks, rfl, h1, h2, h3⟩ := d1.dtOf e3
      exact ⟨a, od, rfl, .inr ⟨ks, h1, q _ H1 s1 (itOk_dt h1 h2 h3)⟩⟩
    · subst e2; cases e3
/-- range(..) as a source -/
theorem s_pir1 {a b : E} {tg y : Expr} {p : Pos} (C : CtxOk X c Φ lv) (h2 : glB c.sc "range" = true) (h3 : condE a = true) (hy : nst y = true) (hb : PE X y (tE X.K Φ true b)) : PI X tg (.Call (.Name "range" p) [y] [] pos) (tI X.K Φ pk (.rng a b)) := by
  refine (pi_range1 (glB_gl C h2) (C.blt _ (by decide +kernel)) (pa_cons hb pa_nil (star_cons hy)) (star_cons hy)).imp fun σ H R ⟨G0, H0, G, ρ, g, d, xs, g', r, e, ex, q⟩ => ?_
  obtain ⟨x, g1, y', e1, e2, e3⟩ := rng_ev e
  obtain ⟨rfl, rfl⟩ := no_ev h3 e1
  refine ⟨G0, H0, G, ρ, _, y', g', r, e2, fun v H1 s1 d1 => ?_⟩
  rcases rngD_some e3 with ⟨_, j, rfl, hj, rfl⟩ | ⟨z, _⟩
  · simp only [itOf, seqOf, Option.some.injEq] at ex
    subst ex
    unfold rngOk at hj
    simp only [Bool.and_eq_true, decide_eq_true_eq] at hj
    refine ⟨j, by rw [d1.int], hj.1, hj.2, ?_⟩
    have := itOk_rng (K := X.K) (pk := pk) (G := G) (H := H1) (i := 0) (j := j)
    rw [Int.sub_zero] at this
    exact q _ H1 s1 this
  · rw [h3] at z; cases z
theorem s_pir2 {a b : E} {tg x y : Expr} {p : Pos} (C : CtxOk X c Φ lv) (h2 : glB c.sc "range" = true) (hx : nst x = true) (hy : nst y = true) (ha : PE X x (tE X.K Φ true a)) (hb : PE X y (tE X.K Φ true b)) (hv : a.v = true) : PI X tg (.Call (.Name "range" p) [x, y] [] pos) (tI X.K Φ pk (.rng a b)) := by
  refine (pi_range2 (glB_gl C h2) (C.blt _ (by decide +kernel)) (pa_cons ha (pa_cons hb pa_nil (star_cons hy)) (star_cons hx)) (by rw [star_cons hx, star_cons hy]; rfl) (star_cons hy)).imp fun σ H R ⟨G0, H0, G, ρ, g, d, xs, g', r, e, ex, q⟩ => ?_
  obtain ⟨x', g1, y', e1, e2, e3⟩ := rng_ev e
  refine two_ops r e1 e2 fun v u H2 s2 d1 d2 => ?_
  rcases rngD_some e3 with ⟨z, _⟩ | ⟨_, i, j, rfl, rfl, hi, hj, rfl⟩
  · cases a <;> simp [E.v, condE] at hv z
  · simp only [itOf, seqOf, Option.some.injEq] at ex
    subst ex
    unfold rngOk at hi hj
    simp only [Bool.and_eq_true, decide_eq_true_eq] at hi hj
    exact ⟨i, j, by rw [d1.int, d2.int], ⟨hi.1, hi.2, hj.1, hj.2⟩, q _ H2 s2 itOk_rng⟩
end
end Dv
end
section
set_option linter.all false
set_option maxRecDepth 100000
set_option autoImplicit false
set_option maxHeartbeats 4000000
/-! Dv9: targets, comprehensions. -/
namespace Dv
open PySem PySem.Spec PyProof.Rows L2
section
variable {K : PySem.W.Frag} {G0 G : Gh} {H0 H : Hp} {σ : St} {ρ : List Slot} {g : GS}
theorem getD_set_self {σ : St} {i : Nat} {x : Option V} (h : i < σ.length) : ((σ.set i x)[i]?).getD none = x := by
  rw [List.getElem?_set_self h]; rfl
theorem getD_set_ne {σ : St} {i j : Nat} {x : Option V} (h : i ≠ j) : ((σ.set i x)[j]?).getD none = (σ[j]?).getD none := by
  rw [List.getElem?_set_ne h]
/-- a name gets a new slot -/
theorem Rel.setS {i : Nat} {s : Slot} {x : Option V} (r : Rel K G0 H0 G σ H ρ g) (hs : SlotOk K H0 G H s x) (hu : s.isL = true → ∀ (j : Nat) (t : Slot), j ≠ i → ρ[j]? = some t → t.isL = true → x ≠ (σ[j]?).getD none) : Rel K G0 H0 G (σ.set i x) H (ρ.set i s) g := by
  refine ⟨r.ok, r.ok0, r.st0, r.sub, r.nw, r.wr, r.pl, by rw [List.length_set, List.length_set]; exact r.len, fun j t e => ?_, fun j k t u e1 e2 l1 l2 hjk => ?_, r.gs⟩
  · by_cases hij : i = j
    · subst hij
      have hi : i < ρ.length := by
        have := (List.getElem?_eq_some_iff.mp e).1
        rwa [List.length_set] at this
      rw [List.getElem?_set_self hi] at e
      cases e
      rw [getD_set_self (by rw [← r.len]; exact hi)]
      exact hs
    · rw [List.getElem?_set_ne hij] at e
      rw [getD_set_ne hij]
      exact r.sl j t e
  · have lt : ∀ {m : Nat} {q : Slot}, (ρ.set i s)[m]? = some q → m < ρ.length := fun {m q} e => by
      have := (List.getElem?_eq_some_iff.mp e).1
      rwa [List.length_set] at this
    by_cases hij : i = j
    · subst hij
      have hi := lt e1
      rw [List.getElem?_set_self hi] at e1
      cases e1
      rw [List.getElem?_set_ne hjk] at e2
      rw [getD_set_self (by rw [← r.len]; exact hi), getD_set_ne hjk]
      exact hu l1 k u (Ne.symm hjk) e2 l2
    · by_cases hik : i = k
      · subst hik
        have hi := lt e2
        rw [List.getElem?_set_self hi] at e2
        cases e2
        rw [List.getElem?_set_ne hij] at e1
        rw [getD_set_self (by rw [← r.len]; exact hi), getD_set_ne hij]
        exact Ne.symm (hu l2 j t (Ne.symm hij) e1 l1)
      · rw [List.getElem?_set_ne hij] at e1
        rw [List.getElem?_set_ne hik] at e2
        rw [getD_set_ne hij, getD_set_ne hik]
        exact r.un j k t u e1 e2 l1 l2 hjk
theorem Rel.setV {i : Nat} {v : V} {d : D} (r : Rel K G0 H0 G σ H ρ g) (h : Dr K G H v d) : Rel K G0 H0 G (σ.set i (some v)) H (ρ.set i (.v d)) g := r.setS ⟨v, rfl, h⟩ fun z => nomatch z
theorem Rel.setU {i : Nat} {x : Option V} (r : Rel K G0 H0 G σ H ρ g) : Rel K G0 H0 G (σ.set i x) H (ρ.set i .un) g := r.setS trivial fun z => nomatch z
theorem Rel.wipe (r : Rel K G0 H0 G σ H ρ g) : ∀ is : List Nat, Rel K G0 H0 G (L2.wipe σ is) H (wipeS ρ is) g
  | [] => r
  | i :: is => (Rel.wipe r is).setU
/-- a new list D that is being made: it counts among the owned -/
def Gh.add (G : Gh) (a : Addr) : Gh := { G with own := a :: G.own }
theorem Rel.opened {H1 Hh : Hp} {g1 gi : GS} {a : Addr} {o : HO} (r : Rel K G0 H0 G σ H1 ρ g1) (ha : H1 a = none) (s : Stq K G H1 Hh gi) (ho : Hh a = some o) (hno : nt o = true := by rfl) : Rel K G0 H0 (G.add a) σ Hh ρ gi := by
  have na : ∀ b, (∃ o, H1 b = some o) → b ≠ a := fun b ⟨o, e⟩ z => by subst z; rw [ha] at e; cases e
  have n0 : H0 a = none := by
    cases q : H0 a with
    | none => rfl
    | some u =>
      by_cases hw : a ∈ G0.wr
      · have := r.sub a (r.ok0.wo a hw)
        obtain ⟨u', e', _⟩ := r.ok.dom a this
        rw [ha] at e'; cases e'
      · rw [r.st0 a u q hw] at ha; cases ha
  have k : ∀ b u, H1 b = some u → b ∉ G.own → Hh b = some u ∧ b ∉ (G.add a).own := fun b u e n => ⟨s.st b u e fun z => n (r.wo b z), fun z => by
    rcases List.mem_cons.mp z with z | z
    · exact na b ⟨u, e⟩ z
    · exact n z⟩
  refine ⟨⟨fun b hb => ?_, fun b hb => List.mem_cons_of_mem _ (r.wo b hb), fun b hb => List.mem_cons_of_mem _ (r.ok.lo b hb)⟩, r.ok0, fun b u e n => s.st b u (r.st0 b u e n) (by rw [r.wr]; exact n), fun b hb => List.mem_cons_of_mem _ (r.sub b hb), fun b hb hn => ?_, r.wr, r.pl, r.len, fun i t e => ?_, r.un, ?_⟩
  · rcases List.mem_cons.mp hb with rfl | hb
    · exact ⟨o, ho, hno⟩
    · exact s.dom b hb
  · rcases List.mem_cons.mp hb with rfl | hb
    · exact n0
    · exact r.nw b hb hn
  · exact (r.sl i t e).moved k rfl fun b u _ _ hb hl h4 => ⟨s.st b u hb (r.nwr h4), hl⟩
  · have q := s.gs
    obtain ⟨pl⟩ := gi
    cases pl with
    | none => exact q
    | some w =>
      obtain ⟨rows, at_⟩ := w
      obtain ⟨p, r', c, h1, h2, h3, h4, h5, h6, h7, h8⟩ := q
      exact ⟨p, r', c, h1, h2, h3, h4, List.mem_cons_of_mem _ h5, List.mem_cons_of_mem _ h6, List.mem_cons_of_mem _ h7, h8⟩
/-- targets -/
def tG (K : PySem.W.Frag) (tg : Tg) : TG := fun v σ H Q => ∃ G0 H0 G ρ g d ρ', Rel K G0 H0 G σ H ρ g ∧ Dr K G H v d ∧ tg.asg d ρ = some ρ' ∧ ∀ σ', Rel K G0 H0 G σ' H ρ' g → (∀ i, i ∉ tg.ixs → σ'[i]? = σ[i]?) → σ'.length = σ.length → Q σ' H
def tGs (K : PySem.W.Frag) (tg : Tg) : TGs := fun vs σ H Q => ∃ G0 H0 G ρ g ds ρ', Rel K G0 H0 G σ H ρ g ∧ DrA K G H vs ds ∧ tg.asgs ds ρ = some ρ' ∧ ∀ σ', Rel K G0 H0 G σ' H ρ' g → (∀ i, i ∉ tg.ixs → σ'[i]? = σ[i]?) → σ'.length = σ.length → Q σ' H
end
section
variable {X : Cx} {c : Ck} {Φ : List Fn} {lv : Nat} {pos : Pos} {pk : Bool}
theorem locB_loc {sc : Scope} {x : Str} (h : locB sc x = true) : L2.Loc sc x := by
  unfold locB at h
  unfold L2.Loc
  split at h <;> first | (rename_i q; rw [q]; simp) | cases h
theorem fnB_ok {x : Str} (C : CtxOk X c Φ lv) (h : c.fnB x = true) : X.fn x = true ∨ X.env.scope.names.lookup x = some .local := by
  have f := C.fn
  unfold Ck.fnB at h
  rw [C.sc]
  split at h
  · rename_i e
    rw [e] at f
    exact .inl (f x)
  · rename_i s e
    rw [e] at f
    simp only [Bool.or_eq_true, decide_eq_true_eq] at h
    rcases h with h | h
    · exact .inl (by rw [f x, h]; rfl)
    · exact .inr h
theorem tg_head {tg : Tg} {x : Expr} (h : tgB c tg x = true) : nst x = true := by
  cases x <;> first | rfl | (cases tg <;> simp [tgB] at h)
theorem tgs_len {tg : Tg} : ∀ {xs : List Expr}, tgsB c tg xs = true → ∀ x ∈ xs, nst x = true := by
  induction tg with
  | n i => intro xs h; simp [tgsB] at h
  | nil =>
    intro xs h x hx
    cases xs with
    | nil => simp at hx
    | cons _ _ => simp [tgsB] at h
  | cons a r _ ih =>
    intro xs h x hx
    cases xs with
    | nil => simp at hx
    | cons y ys =>
      simp only [tgsB, Bool.and_eq_true] at h
      rcases List.mem_cons.mp hx with rfl | hx
      · exact tg_head h.1
      · exact ih h.2 x hx
theorem assign_star {env : Env} : ∀ {xs : List Expr}, (∀ x ∈ xs, nst x = true) → (assignEach xs env).length = xs.length ∧ (assignEach xs env).findIdx? (·.1) = none
  | [], _ => ⟨rfl, rfl⟩
  | x :: xs, h => by
    obtain ⟨h1, h2⟩ := assign_star (env := env) fun y hy => h y (List.mem_cons_of_mem _ hy)
    have e : assignEach (x :: xs) env = (false, assign x env) :: assignEach xs env := by
      have := h x List.mem_cons_self
      cases x <;> first | rfl | (simp [nst] at this)
    rw [e]
    refine ⟨by rw [List.length_cons, List.length_cons, h1], ?_⟩
    rw [List.findIdx?_cons, h2]
    rfl
theorem assign_map {env : Env} {x : Expr} {xs : List Expr} (h : nst x = true) : (assignEach (x :: xs) env).map (·.2) = assign x env :: (assignEach xs env).map (·.2) := by
  cases x <;> first | rfl | (simp [nst] at h)
theorem asgs_len {tg : Tg} : ∀ {ds : List D} {xs : List Expr} {ρ ρ' : List Slot}, tgsB c tg xs = true → tg.asgs ds ρ = some ρ' → ds.length = xs.length := by
  induction tg with
  | n i => intro ds xs ρ ρ' h e; simp [tgsB] at h
  | nil =>
    intro ds xs ρ ρ' h e
    cases xs with
    | nil => cases ds with
      | nil => rfl
      | cons _ _ => simp [Tg.asgs] at e
    | cons _ _ => simp [tgsB] at h
  | cons a r _ ih =>
    intro ds xs ρ ρ' h e
    cases xs with
    | nil => simp [tgsB] at h
    | cons y ys =>
      simp only [tgsB, Bool.and_eq_true] at h
      cases ds with
      | nil => simp [Tg.asgs] at e
      | cons d ds =>
        simp only [Tg.asgs, Option.bind_eq_some_iff] at e
        obtain ⟨ρ1, e1, e2⟩ := e
        rw [List.length_cons, List.length_cons, ih h.2 e2]
mutual
theorem s_tg (C : CtxOk X c Φ lv) : ∀ (tg : Tg) (x : Expr), tgB c tg x = true → PG X x (tG X.K tg)
  | .n i, x, h => by
    cases x <;> simp only [tgB, Bool.and_eq_true, decide_eq_true_eq, reduceCtorEq] at h
    obtain ⟨⟨h1, h2⟩, h3⟩ := h
    refine (pg_name (i := i) C.nd (by rw [C.N]; exact h1) (by rw [C.sc]; exact locB_loc h2) (fnB_ok C h3)).imp fun v σ H Q ⟨G0, H0, G, ρ, g, d, ρ', r, hd, e, q⟩ => ?_
    simp only [Tg.asg, Option.some.injEq] at e
    subst e
    exact q _ (r.setV hd) (fun j hj => by rw [List.getElem?_set_ne]; intro z; exact hj (by simp [Tg.ixs, z])) (by rw [List.length_set])
  | .nil, x, h => by
    cases x with
    | Tuple xs k p =>
      cases xs with
      | nil =>
        refine (pg_tup (n := 0) C.calm pgs_nil rfl rfl).imp fun v σ H Q ⟨G0, H0, G, ρ, g, d, ρ', r, hd, e, q⟩ => ?_
        obtain ⟨ds, rfl⟩ : ∃ ds, d = .tuple ds := by cases d <;> first | exact ⟨_, rfl⟩ | (simp [Tg.asg] at e)
        cases ds <;> simp [Tg.asg] at e
        subst e
        cases hd with
        | tup h1 h2 =>
          cases h2
          exact ⟨_, [], rfl, h1.sq, rfl, rfl, q σ r (fun _ _ => rfl) rfl⟩
      | cons _ _ => simp [tgB] at h
    | _ => simp [tgB] at h
  | .cons a r, x, h => by
    cases x with
    | Tuple xs k p =>
      cases xs with
      | nil => simp [tgB] at h
      | cons y ys =>
        simp only [tgB, Bool.and_eq_true] at h
        have h' : tgsB c (.cons a r) (y :: ys) = true := by simp only [tgsB, Bool.and_eq_true]; exact h
        have hn := tgs_len h'
        obtain ⟨l1, l2⟩ := assign_star (env := X.env) hn
        have P1 := s_tg C a y h.1
        have P2 := s_tgs C r ys h.2
        refine (pg_tup (n := (y :: ys).length) C.calm (pgs_cons P1 P2 (assign_map (hn y List.mem_cons_self))) l1 l2).imp fun v σ H Q ⟨G0, H0, G, ρ, g, d, ρ', r', hd, e, q⟩ => ?_
        obtain ⟨ds, rfl⟩ : ∃ ds, d = .tuple ds := by cases d <;> first | exact ⟨_, rfl⟩ | (simp [Tg.asg] at e)
        cases ds with
        | nil => simp [Tg.asg] at e
        | cons d ds =>
          simp only [Tg.asg, Option.bind_eq_some_iff] at e
          obtain ⟨ρ1, e1, e2⟩ := e
          cases hd with
          | tup t1 t2 =>
            cases t2 with
            | cons t3 t4 =>
              refine ⟨_, _, rfl, t1.sq, ?_, _, _, rfl, ⟨G0, H0, G, ρ, g, d, ρ1, r', t3, e1, fun σ1 r1 k1 k2 => ⟨G0, H0, G, ρ1, g, ds, ρ', r1, t4, e2, fun σ2 r2 k3 k4 => ?_⟩⟩⟩
              · rw [List.length_cons, List.length_cons, t4.length, asgs_len h.2 e2]
              · refine q σ2 r2 (fun i hi => ?_) (k4.trans k2)
                simp only [Tg.ixs, List.mem_append, not_or] at hi
                rw [k3 i hi.2, k1 i hi.1]
    | _ => simp [tgB] at h
theorem s_tgs (C : CtxOk X c Φ lv) : ∀ (tg : Tg) (xs : List Expr), tgsB c tg xs = true → PGs X xs (tGs X.K tg)
  | .n i, xs, h => by simp [tgsB] at h
  | .nil, xs, h => by
    cases xs with
    | nil =>
      refine ⟨fun pins s σ H vs us Q I r h => pgs_nil.run pins s σ H vs us Q I r ?_⟩
      obtain ⟨G0, H0, G, ρ, g, ds, ρ', r', hd, e, q⟩ := h
      cases ds with
      | nil =>
        have e : some ρ = some ρ' := e
        cases e
        cases hd
        exact ⟨rfl, q σ r' (fun _ _ => rfl) rfl⟩
      | cons _ _ => simp [Tg.asgs] at e
    | cons _ _ => simp [tgsB] at h
  | .cons a r, xs, h => by
    cases xs with
    | nil => simp [tgsB] at h
    | cons y ys =>
      have hn := tgs_len h
      simp only [tgsB, Bool.and_eq_true] at h
      have P1 := s_tg C a y h.1
      have P2 := s_tgs C r ys h.2
      refine ⟨fun pins s σ H vs us Q I rr h => (pgs_cons P1 P2 (assign_map (hn y List.mem_cons_self))).run pins s σ H vs us Q I rr ?_⟩
      obtain ⟨G0, H0, G, ρ, g, ds, ρ', r', hd, e, q⟩ := h
      cases ds with
      | nil => simp [Tg.asgs] at e
      | cons d ds =>
        obtain ⟨ρ1, e1, e2⟩ := Option.bind_eq_some_iff.mp (show (Tg.asg a d ρ).bind (fun ρ' => Tg.asgs r ds ρ') = some ρ' from e)
        cases hd with
        | cons t3 t4 =>
          refine ⟨_, _, rfl, ⟨G0, H0, G, ρ, g, d, ρ1, r', t3, e1, fun σ1 r1 k1 k2 => ⟨G0, H0, G, ρ1, g, ds, ρ', r1, t4, e2, fun σ2 r2 k3 k4 => ?_⟩⟩⟩
          refine q σ2 r2 (fun i hi => ?_) (k4.trans k2)
          simp only [Tg.ixs, List.mem_append, not_or] at hi
          rw [k3 i hi.2, k1 i hi.1]
end
end
end Dv
end
section
set_option linter.all false
set_option maxRecDepth 100000
set_option autoImplicit false
set_option maxHeartbeats 4000000
/-! Dv10: list comprehensions. -/
namespace Dv
open PySem PySem.Spec PyProof.Rows L2
section
variable {K : PySem.W.Frag} {G0 G : Gh} {H0 H : Hp} {σ : St} {ρ : List Slot} {g : GS}
theorem compL_cons {α : Type} {f : D → α → Option (Option D × α)} {x : D} {xs ys : List D} {g g' : α} (h : compL f (x :: xs) g = some (ys, g')) : ∃ o g1 zs, f x g = some (o, g1) ∧ compL f xs g1 = some (zs, g') ∧ ys = (match o with | some y => [y] | none => []) ++ zs := by
  simp only [compL, Option.bind_eq_bind, Option.bind_eq_some_iff, Option.pure_def, Option.some.injEq, Prod.exists, Prod.mk.injEq] at h
  obtain ⟨o, g1, e1, zs, g2, e2, e3, rfl⟩ := h
  refine ⟨o, g1, zs, e1, e2, ?_⟩
  rw [← e3]
  cases o <;> rfl
theorem wipe_congr {a b : St} : ∀ {vs : List Nat}, (∀ i, i ∉ vs → a[i]? = b[i]?) → a.length = b.length → L2.wipe a vs = L2.wipe b vs := by
  intro vs h hl
  apply List.ext_getElem?
  intro i
  by_cases hi : i ∈ vs
  · have : ∀ (σ : St) (vs : List Nat), i ∈ vs → (L2.wipe σ vs)[i]? = if i < σ.length then some none else none := by
      intro σ vs
      induction vs with
      | nil => intro z; simp at z
      | cons v vs ih =>
        intro z
        unfold L2.wipe
        by_cases hv : v = i
        · subst hv
          by_cases hlt : v < σ.length
          · rw [List.getElem?_set_self (by rw [wipe_length]; exact hlt), if_pos hlt]
          · rw [List.getElem?_eq_none (by rw [List.length_set, wipe_length]; omega), if_neg hlt]
        · rw [List.getElem?_set_ne hv]
          exact ih ((List.mem_cons.mp z).resolve_left fun e => hv e.symm)
    rw [this a vs hi, this b vs hi, hl]
  · rw [wipe_out hi, wipe_out hi]
    exact h i hi
/-- what stood at H1 stands at Hh, D apart -/
theorem Dr.opened {H1 Hh : Hp} {a : Addr} {v : V} {d : D} (wo : ∀ b ∈ G.wr, b ∈ G.own) (ha : H1 a = none) (s : Stp G H1 Hh) (h : Dr K G H1 v d) : Dr K (G.add a) Hh v d :=
  h.mono (G' := G.add a) (fun b u e n => ⟨s b u e fun z => n (wo b z), fun z => by
    rcases List.mem_cons.mp z with z | z
    · subst z; rw [ha] at e; cases e
    · exact n z⟩) rfl
theorem GsOk.shut {a : Addr} {H1 H2 : Hp} {g1 : GS} (q : GsOk K (G.add a) H g) (q1 : GsOk K G H1 g1) (k : ∀ b o, H b = some o → b ∈ G.own → H2 b = some o) : GsOk K G H2 g := by
  obtain ⟨pl⟩ := g
  obtain ⟨pl1⟩ := g1
  cases pl with
  | none => exact q
  | some w =>
    obtain ⟨rows, at_⟩ := w
    obtain ⟨p, r', c, h1, h2, h3, h4, h5, h6, h7, h8⟩ := q
    cases pl1 with
    | none =>
      have q1 : G.pl = none := q1
      have h1 : G.pl = _ := h1
      rw [q1] at h1; cases h1
    | some w1 =>
      obtain ⟨rows1, at1⟩ := w1
      obtain ⟨p', r'', c', k1, k2, k3, k4, k5, k6, k7, k8⟩ := q1
      have h1 : G.pl = _ := h1
      rw [h1] at k1
      cases k1
      exact ⟨p, r', c, h1, k _ _ h2 k5, k _ _ h3 k6, k _ _ h4 k7, k5, k6, k7, h8⟩
/-- one more turn is behind us: D holds more -/
theorem Stq.more {H1 Hh H4 : Hp} {gi ga : GS} {a : Addr} {o : HO} (dom : ∀ b ∈ G.own, Hs H1 b) (ha : H1 a = none) (s1 : Stq K G H1 Hh gi) (s : Stq K (G.add a) Hh H4 ga) : Stq K G H1 (upd H4 a o) ga := by
  have na : ∀ b, b ∈ G.own → b ≠ a := fun b hb z => by
    subst z
    obtain ⟨o, e, _⟩ := dom b hb
    rw [ha] at e; cases e
  refine ⟨fun b u e n => ?_, s.gs.shut s1.gs fun b u e hb => by rw [upd_ne (na b hb)]; exact e, fun b hb => ?_⟩
  · rw [upd_ne (fun z => by subst z; rw [ha] at e; cases e)]
    exact s.st b u (s1.st b u e n) n
  · obtain ⟨u, e, n⟩ := s.dom b (List.mem_cons_of_mem _ hb)
    exact ⟨u, by rw [upd_ne (na b hb)]; exact e, n⟩
theorem Stq.same {H1 Hh H4 : Hp} {gi ga : GS} {a : Addr} (s1 : Stq K G H1 Hh gi) (s : Stq K (G.add a) Hh H4 ga) : Stq K G H1 H4 ga :=
  ⟨fun b u e n => s.st b u (s1.st b u e n) n, s.gs.shut s1.gs fun b u e _ => e, fun b hb => s.dom b (List.mem_cons_of_mem _ hb)⟩
/-- a clause's test -/
def tC (K : PySem.W.Frag) (Φ : List Fn) (cd : E) : TT := fun σ H Q => ∃ G0 H0 G ρ g d b g', Rel K G0 H0 G σ H ρ g ∧ ev Φ true cd ρ g = some (d, g') ∧ tstD (condE cd) d = some b ∧ ∀ H', Stq K G H H' g' → Q b H'
/-- a turn of a comprehension -/
def turnF (Φ : List Fn) (el : E) (tg : Tg) (is : List Nat) (cd : E) (ρ : List Slot) : D → GS → Option (Option D × GS) := fun d g => do
  let ρ' ← tg.asg d (wipeS ρ is)
  let (c, g) ← ev Φ true cd ρ' g
  let c ← tstD (condE cd) c
  if c = true then do let (y, g) ← ev Φ false el ρ' g; pure (some y, g) else pure (none, g)
theorem turn_some {Φ : List Fn} {el : E} {tg : Tg} {is : List Nat} {cd : E} {d : D} {g' : GS} {o : Option D} (h : turnF Φ el tg is cd ρ d g = some (o, g')) : ∃ ρ' x g1 b, tg.asg d (wipeS ρ is) = some ρ' ∧ ev Φ true cd ρ' g = some (x, g1) ∧ tstD (condE cd) x = some b ∧
    ((b = true ∧ ∃ y, ev Φ false el ρ' g1 = some (y, g') ∧ o = some y) ∨ (b = false ∧ o = none ∧ g' = g1)) := by
  simp only [turnF, Option.bind_eq_bind, Option.bind_eq_some_iff, Prod.exists] at h
  obtain ⟨ρ', e1, x, g1, e2, b, e3, e4⟩ := h
  refine ⟨ρ', x, g1, b, e1, e2, e3, ?_⟩
  cases b with
  | true =>
    rw [if_pos rfl] at e4
    simp only [Option.bind_eq_some_iff, Option.pure_def, Option.some.injEq, Prod.exists, Prod.mk.injEq] at e4
    obtain ⟨y, g2, e5, rfl, rfl⟩ := e4
    exact .inl ⟨rfl, y, e5, rfl⟩
  | false =>
    rw [if_neg (by simp)] at e4
    simp only [Option.pure_def, Option.some.injEq, Prod.mk.injEq] at e4
    exact .inr ⟨rfl, e4.1.symm, e4.2.symm⟩
theorem lc_ev {Φ : List Fn} {pk : Bool} {el : E} {tg : Tg} {src cd : E} {g' : GS} {d : D} (h : ev Φ pk (.lc el tg src cd) ρ g = some (d, g')) : ∃ x g1 xs ys, ev Φ true src ρ g = some (x, g1) ∧ itOf x = some xs ∧ compL (turnF Φ el tg tg.ixs cd ρ) xs g1 = some (ys, g') ∧ ys.length ≤ lim ∧ d = .list ys := by
  simp only [ev, Option.bind_eq_bind, Option.bind_eq_some_iff, Prod.exists] at h
  obtain ⟨x, g1, e1, xs, e2, ys, g2, e3, e4⟩ := h
  obtain ⟨hl, e5⟩ := lenOk_some e4
  cases e5
  exact ⟨x, g1, xs, ys, e1, e2, e3, hl, rfl⟩
theorem lim_lt : lim < sizeLine := by rw [sizeLine_eq]; decide
/-- the loop of one clause: the items of compL, one after the other -/
theorem lc_loop {Φ : List Fn} {el : E} {tg : Tg} {cd : E} {J : It} {H1 : Hp} {g1 g2 : GS} {xs ys : List D} {Q : Hp → Prop} {Da : Addr} {acc0 : List V} {acd0 : List D} (r1 : Rel K G0 H0 G σ H1 ρ g1) (it : ItOk K true G H1 J xs) (hD : H1 Da = none)
    (e : compL (turnF Φ el tg tg.ixs cd ρ) xs g1 = some (ys, g2)) (hl : acd0.length + ys.length ≤ lim) (d0 : DrA K (G.add Da) (upd H1 Da (.lst acc0)) acc0 acd0)
    (q : ∀ Hh acc, Stq K G H1 Hh g2 → Hh Da = some (.lst acc) → DrA K (G.add Da) Hh acc (acd0 ++ ys) → Q Hh) :
    ∃ W : Nat → Nat → Hp → Prop, (∃ m, W 0 m (upd H1 Da (.lst acc0))) ∧ ∀ i m H, W i m H →
      (J.stop i H ∧ Q H) ∨ (J.go i H ∧ ∃ Nx : Hp → Prop, (∀ H', Nx H' → ∃ m', m' < m ∧ W (i + 1) m' H') ∧ ∀ x H', J.yld i H x H' → tG K tg x (L2.wipe σ tg.ixs) H' fun σ2 H2 => L2.wipe σ2 tg.ixs = L2.wipe σ tg.ixs ∧ tC K Φ cd σ2 H2 fun b H3 =>
        if b = true then tE K Φ false el σ2 H3 fun y H4 => ∃ acc, H4 Da = some (.lst acc) ∧ acc.length < sizeLine ∧ Nx (upd H4 Da (.lst (acc ++ [y]))) else Nx H3) := by
  have nwD : Da ∉ G.wr := fun z => by
    obtain ⟨o, e, _⟩ := r1.ok.dom Da (r1.wo Da z)
    rw [hD] at e; cases e
  refine ⟨fun i m Hh => m = xs.length - i ∧ i ≤ xs.length ∧ ∃ gi acc accD rest, Stq K G H1 Hh gi ∧ Hh Da = some (.lst acc) ∧ DrA K (G.add Da) Hh acc accD ∧ compL (turnF Φ el tg tg.ixs cd ρ) (xs.drop i) gi = some (rest, g2) ∧ acd0 ++ ys = accD ++ rest,
    ⟨xs.length, by simp, Nat.zero_le _, g1, acc0, acd0, ys, r1.refl.new hD, upd_same, d0, e, rfl⟩, ?_⟩
  rintro i m Hh ⟨rfl, hi, gi, acc, accD, rest, s, hh, da, ec, ey⟩
  have mv : Mv true G H1 (G.add Da) Hh := ⟨fun b u e n => ⟨s.st b u e fun z => n (r1.wo b z), fun z => by
    rcases List.mem_cons.mp z with z | z
    · subst z; rw [hD] at e; cases e
    · exact n z⟩, fun b u e _ _ n => s.st b u e n, rfl, fun b hb => by
    rcases List.mem_cons.mp hb with rfl | hb
    · exact ⟨_, hh, rfl⟩
    · exact s.dom b hb⟩
  by_cases hlt : i < xs.length
  · obtain ⟨d, hd⟩ : ∃ d, xs[i]? = some d := ⟨_, List.getElem?_eq_getElem hlt⟩
    have hdr : xs.drop i = d :: xs.drop (i + 1) := by
      rw [List.drop_eq_getElem_cons hlt]
      rw [List.getElem?_eq_getElem hlt] at hd
      cases hd
      rfl
    rw [hdr] at ec
    obtain ⟨o, ga, zs, e1, e2, e3⟩ := compL_cons ec
    obtain ⟨go, yl⟩ := (it _ Hh mv).2 i d hd
    refine .inr ⟨go, fun H' => xs.length - (i + 1) = xs.length - (i + 1) ∧ i + 1 ≤ xs.length ∧ ∃ gi acc accD rest, Stq K G H1 H' gi ∧ H' Da = some (.lst acc) ∧ DrA K (G.add Da) H' acc accD ∧ compL (turnF Φ el tg tg.ixs cd ρ) (xs.drop (i + 1)) gi = some (rest, g2) ∧ acd0 ++ ys = accD ++ rest,
      fun H' z => ⟨xs.length - (i + 1), by omega, z⟩, fun v H' y => ?_⟩
    obtain ⟨rfl, dv⟩ := yl v H' y
    have rO := r1.opened hD s hh
    have rW := rO.wipe tg.ixs
    obtain ⟨ρ', x, gb, b, h1, h2, h3, h4⟩ := turn_some e1
    refine ⟨G0, H0, G.add Da, _, gi, d, ρ', rW, dv, h1, fun σ2 r2 k1 k2 => ⟨?_, ?_⟩⟩
    · refine wipe_congr (fun j hj => ?_) (by rw [k2, wipe_length])
      rw [k1 j hj, wipe_out hj]
    · refine ⟨G0, H0, G.add Da, ρ', gi, x, b, gb, r2, h2, h3, fun H3 s3 => ?_⟩
      have hl3 : accD.length + rest.length ≤ lim := by
        have := congrArg List.length ey
        rw [List.length_append, List.length_append] at this
        omega
      rw [e3, List.length_append] at hl3
      rcases h4 with ⟨rfl, y', h5, rfl⟩ | ⟨rfl, rfl, rfl⟩
      · rw [List.length_singleton] at hl3
        refine iteT ⟨G0, H0, G.add Da, ρ', gb, y', ga, r2.stq s3, h5, fun u H4 s4 d4 => ?_⟩
        have s34 := s3.trans s4
        have h4D : H4 Da = some (.lst acc) := s34.st Da _ hh nwD
        have hn : ∀ b o, H4 b = some o → b ∉ (G.add Da).own → (L2.upd H4 Da (.lst (acc ++ [u]))) b = some o ∧ b ∉ (G.add Da).own := fun b o e n => ⟨by rw [upd_ne (fun z => n (by rw [z]; exact List.mem_cons_self))]; exact e, n⟩
        refine ⟨acc, h4D, ?_, rfl, hlt, ga, acc ++ [u], accD ++ [y'], zs, s.more r1.ok.dom hD s34, upd_same, ?_, e2, ?_⟩
        · rw [da.length]; exact Nat.lt_of_le_of_lt (by omega) lim_lt
        · refine ((da.stp r2.wo s34.st).mono hn rfl).append (.cons (d4.strict.mono hn rfl) .nil)
        · rw [ey, e3, List.append_assoc]
      · refine iteF ⟨rfl, hlt, ga, acc, accD, zs, s.same s3, s3.st Da _ hh nwD, da.stp r2.wo s3.st, e2, ?_⟩
        rw [ey, e3]; rfl
  · have hie : i = xs.length := by omega
    subst hie
    rw [List.drop_length] at ec
    simp only [compL, Option.some.injEq, Prod.mk.injEq] at ec
    obtain ⟨rfl, rfl⟩ := ec
    rw [List.append_nil] at ey
    exact .inl ⟨(it _ Hh mv).1 _ (Nat.le_refl _), q Hh acc s hh (by rw [ey]; exact da)⟩
/-- the made list as a fresh one -/
theorem Stq.cut {H1 Hh : Hp} {g2 : GS} {Da : Addr} {acc : List V} {ys : List D} {Q : VK} (dom : ∀ b ∈ G.own, Hs H1 b) (hD : H1 Da = none) (s : Stq K G H1 Hh g2) (hh : Hh Da = some (.lst acc)) (da : DrA K (G.add Da) Hh acc ys)
    (q : ∀ Hm, Stq K G H1 Hm g2 → Hm Da = none → DrA K G Hm acc ys → Q (.ref Da) (upd Hm Da (.lst acc))) : Q (.ref Da) Hh := by
  have e : upd (fun a => if a = Da then none else Hh a) Da (.lst acc) = Hh := by
    funext b
    unfold upd
    by_cases hb : b = Da
    · rw [if_pos hb, hb, hh]
    · rw [if_neg hb]
      show (if b = Da then none else Hh b) = Hh b
      rw [if_neg hb]
  have k : ∀ b o, Hh b = some o → b ≠ Da → (fun a => if a = Da then none else Hh a) b = some o := fun b o e n => by
    show (if b = Da then none else Hh b) = some o
    rw [if_neg n]; exact e
  have na : ∀ b, b ∈ G.own → b ≠ Da := fun b hb z => by
    subst z
    obtain ⟨o, e, _⟩ := dom b hb
    rw [hD] at e; cases e
  rw [← e]
  have st : Stp G H1 (fun a => if a = Da then none else Hh a) := fun b o e1 n => k b o (s.st b o e1 n) fun z => by rw [z, hD] at e1; cases e1
  refine q _ ⟨st, s.gs.keep fun b o e hb => k b o e (na b hb), fun b hb => ?_⟩ (if_pos rfl) (da.mono (G' := G) (fun b o e n => ⟨k b o e fun z => n (by rw [z]; exact List.mem_cons_self), fun z => n (List.mem_cons_of_mem Da z)⟩) (show G.pl = (G.add Da).pl from rfl))
  obtain ⟨o, e, n⟩ := s.dom b hb
  exact ⟨o, k b o e (na b hb), n⟩
end
section
variable {X : Cx} {c : Ck} {Φ : List Fn} {lv : Nat} {pos : Pos} {pk : Bool}
theorem CtxOk.blk (C : CtxOk X c Φ lv) (s : Shared) (H : Hp) (scope : Scope) (cl : List (Str × Addr)) (A : Addr) (fp : List Addr) : CtxOk (X.blk s H scope (compEnvC scope cl A X.env) fp) (c.blk scope) Φ lv :=
  ⟨C.calm, C.N, C.nd, by show relS scope X.env.scope = relS scope c.sc; rw [C.sc], fun _ => rfl, rfl, C.hr, C.fns, C.blt⟩
theorem s_c0 {cd : E} (h : condE cd = true) : PTs X [] (tC X.K Φ cd) := ⟨fun pins s σ H Q I ⟨G0, H0, G, ρ, g, d, b, g', r, e, et, q⟩ => by
  obtain ⟨rfl, rfl⟩ := no_ev h e
  rw [h] at et
  simp only [tstD, if_true, Option.some.injEq] at et
  subst et
  exact pts_nil.run pins s σ H Q I (q H r.refl)⟩
theorem s_c1 {cd : E} {y : Expr} (h : cd.v = true) (ht : PT X y (tT X.K Φ cd)) : PTs X [y] (tC X.K Φ cd) := ⟨fun pins s σ H Q I ⟨G0, H0, G, ρ, g, d, b, g', r, e, et, q⟩ => by
  have hc : condE cd = false := by cases cd <;> simp [E.v, condE] at h ⊢
  rw [hc] at et
  obtain rfl : d = .bool b := by
    unfold tstD at et
    rw [if_neg (by simp)] at et
    split at et
    · cases et; rfl
    · cases et
  exact (pts_one ht).run pins s σ H Q I ⟨G0, H0, G, ρ, g, b, g', r, e, q⟩⟩
theorem own_ixs (is : List Nat) : (ownOf c is).map (·.2) = is := by
  unfold ownOf
  rw [List.map_map]
  exact (List.map_congr_left fun _ _ => rfl).trans (List.map_id is)
/-- the parts of a comprehension with one clause, for the rules pe_lc and ps_setLc -/
structure LcP (X : Cx) (c : Ck) (Φ : List Fn) (el : E) (tg : Tg) (src cd : E) (x t i : Expr) (ifs : List Expr) (scope : Scope) : Prop where
  hi : PI X t i (tI X.K Φ true src)
  ok : BlkOk X.N X.env.scope scope (ownOf c tg.ixs)
  hg : ∀ (s : Shared) (H : Hp) (A : Addr) (cl : List (Str × Addr)) (fp : List Addr), PG (X.blk s H scope (compEnvC scope cl A X.env) fp) t (tG X.K tg)
  ht : ∀ (s : Shared) (H : Hp) (A : Addr) (cl : List (Str × Addr)) (fp : List Addr), PTs (X.blk s H scope (compEnvC scope cl A X.env) fp) ifs (tC X.K Φ cd)
  he : ∀ (s : Shared) (H : Hp) (A : Addr) (cl : List (Str × Addr)) (fp : List Addr), PE (X.blk s H scope (compEnvC scope cl A X.env) fp) x (tE X.K Φ false el)
  hs : noSet i = true
theorem lc_tF {el : E} {tg : Tg} {src cd : E} {σ : St} {H : Hp} {Q : VK} (h : tF X.K Φ (.lc el tg src cd) σ H Q) : tLc (tI X.K Φ true src) (tG X.K tg) (tC X.K Φ cd) (tE X.K Φ false el) ((ownOf c tg.ixs).map (·.2)) σ H Q := by
  obtain ⟨G0, H0, G, ρ, g, xs', g', r, e, q⟩ := h
  obtain ⟨x, g1, xs, ys, e1, e2, e3, hl, e4⟩ := lc_ev e
  cases e4
  rw [own_ixs]
  refine ⟨G0, H0, G, ρ, g, x, xs, g1, r, e1, e2, fun J H1 s1 it Da hD => ?_⟩
  have r1 := r.stq s1
  exact lc_loop (acc0 := []) (acd0 := []) r1 it hD e3 (by rw [List.length_nil]; omega) .nil fun Hh acc s hh da => s.cut (Q := Q) r1.ok.dom hD hh da fun Hm sm hm dm => q Da acc Hm (s1.trans sm) hm dm hl
theorem s_lc {el : E} {tg : Tg} {src cd : E} {x t i : Expr} {ifs : List Expr} {scope : Scope} (C : CtxOk X c Φ lv) (P : LcP X c Φ el tg src cd x t i ifs scope) : PE X (.ListComp x [⟨t, i, ifs, 0⟩] scope pos) (tF X.K Φ (.lc el tg src cd)) :=
  (pe_lc C.calm C.nd P.hi P.ok P.hg P.ht P.he (noSet_fold P.hs _)).imp fun σ H Q h => lc_tF h
end
end Dv
end
section
set_option linter.all false
set_option maxRecDepth 100000
set_option autoImplicit false
set_option maxHeartbeats 4000000
/-! Dv11: list comprehensions of two clauses. -/
namespace Dv
open PySem PySem.Spec PyProof.Rows L2
section
variable {K : PySem.W.Frag} {G0 G : Gh} {H0 H : Hp} {σ : St} {ρ : List Slot} {g : GS}
def cutH (H : Hp) (a : Addr) : Hp := fun b => if b = a then none else H b
theorem cutH_upd {a : Addr} {o : HO} (h : H a = some o) : upd (cutH H a) a o = H := by
  funext b
  unfold upd cutH
  by_cases hb : b = a
  · rw [if_pos hb, hb, h]
  · rw [if_neg hb, if_neg hb]
theorem cutH_ne {a b : Addr} (h : b ≠ a) : cutH H a b = H b := if_neg h
theorem cutH_self {a : Addr} : cutH H a a = none := if_pos rfl
/-- the list that is being made taken out of sight -/
theorem Rel.closed {σ1 σ : St} {ρ1 : List Slot} {g1 : GS} {H1 : Hp} {a : Addr} (r1 : Rel K G0 H0 G σ1 H1 ρ1 g1) (ha : H1 a = none) (r : Rel K G0 H0 (G.add a) σ H ρ g) : Rel K G0 H0 G σ (cutH H a) ρ g := by
  have na : ∀ b, b ∈ G.own → b ≠ a := fun b hb z => by
    subst z
    obtain ⟨o, e, _⟩ := r1.ok.dom b hb
    rw [ha] at e; cases e
  have n0 : H0 a = none := r.nw a List.mem_cons_self fun z => na a (r1.sub a z) rfl
  have k : ∀ b u, H b = some u → b ∉ (G.add a).own → cutH H a b = some u ∧ b ∉ G.own := fun b u e n => ⟨by rw [cutH_ne fun z => n (by rw [z]; exact List.mem_cons_self)]; exact e, fun z => n (List.mem_cons_of_mem a z)⟩
  refine ⟨⟨fun b hb => ?_, r1.wo, r1.ok.lo⟩, r.ok0, fun b u e n => ?_, r1.sub, r1.nw, r.wr, r.pl, r.len, fun i t e => ?_, r.un, ?_⟩
  · obtain ⟨o, e, n⟩ := r.ok.dom b (List.mem_cons_of_mem _ hb)
    exact ⟨o, by rw [cutH_ne (na b hb)]; exact e, n⟩
  · rw [cutH_ne fun z => by rw [z, n0] at e; cases e]
    exact r.st0 b u e n
  · exact (r.sl i t e).moved k (show G.pl = (G.add a).pl from rfl) fun b u _ _ hb hl h4 => ⟨by rw [cutH_ne (na b (r1.ok.lo b hl))]; exact hb, hl⟩
  · exact r.gs.shut r1.gs fun b u e hb => by rw [cutH_ne (na b hb)]; exact e
/-- a turn of the outer clause -/
def turn2F (Φ : List Fn) (el : E) (tg : Tg) (cd : E) (tg2 : Tg) (src2 cd2 : E) (ρ : List Slot) : D → GS → Option (Option D × GS) := fun d g => do
  let ρ' ← tg.asg d (wipeS ρ (tg.ixs ++ tg2.ixs))
  let (c, g) ← ev Φ true cd ρ' g
  let c ← tstD (condE cd) c
  if c = true then do
    let (x2, g) ← ev Φ true src2 ρ' g
    let xs2 ← itOf x2
    let (ys, g) ← compL (turnF Φ el tg2 tg2.ixs cd2 ρ') xs2 g
    pure (some (.list ys), g)
  else pure (none, g)
theorem turn2_some {Φ : List Fn} {el : E} {tg : Tg} {cd : E} {tg2 : Tg} {src2 cd2 : E} {d : D} {g' : GS} {o : Option D} (h : turn2F Φ el tg cd tg2 src2 cd2 ρ d g = some (o, g')) : ∃ ρ' x g1 b, tg.asg d (wipeS ρ (tg.ixs ++ tg2.ixs)) = some ρ' ∧ ev Φ true cd ρ' g = some (x, g1) ∧ tstD (condE cd) x = some b ∧
    ((b = true ∧ ∃ x2 g2 xs2 ys, ev Φ true src2 ρ' g1 = some (x2, g2) ∧ itOf x2 = some xs2 ∧ compL (turnF Φ el tg2 tg2.ixs cd2 ρ') xs2 g2 = some (ys, g') ∧ o = some (.list ys)) ∨ (b = false ∧ o = none ∧ g' = g1)) := by
  simp only [turn2F, Option.bind_eq_bind, Option.bind_eq_some_iff, Prod.exists] at h
  obtain ⟨ρ', e1, x, g1, e2, b, e3, e4⟩ := h
  refine ⟨ρ', x, g1, b, e1, e2, e3, ?_⟩
  cases b with
  | true =>
    rw [if_pos rfl] at e4
    simp only [Option.bind_eq_some_iff, Option.pure_def, Option.some.injEq, Prod.exists, Prod.mk.injEq] at e4
    obtain ⟨x2, g2, e5, xs2, e6, ys, g3, e7, rfl, rfl⟩ := e4
    exact .inl ⟨rfl, x2, g2, xs2, ys, e5, e6, e7, rfl⟩
  | false =>
    rw [if_neg (by simp)] at e4
    simp only [Option.pure_def, Option.some.injEq, Prod.mk.injEq] at e4
    exact .inr ⟨rfl, e4.1.symm, e4.2.symm⟩
def flatD (yss : List D) : List D := (yss.filterMap seqOf).flatten
theorem flatD_app (a b : List D) : flatD (a ++ b) = flatD a ++ flatD b := by unfold flatD; rw [List.filterMap_append, List.flatten_append]
theorem flatD_one (ys : List D) : flatD [.list ys] = ys := by simp [flatD, seqOf]
theorem lc2_ev {Φ : List Fn} {pk : Bool} {el : E} {tg : Tg} {src cd : E} {tg2 : Tg} {src2 cd2 : E} {g' : GS} {d : D} (h : ev Φ pk (.lc2 el tg src cd tg2 src2 cd2) ρ g = some (d, g')) :
    ∃ x g1 xs yss, ev Φ true src ρ g = some (x, g1) ∧ itOf x = some xs ∧ compL (turn2F Φ el tg cd tg2 src2 cd2 ρ) xs g1 = some (yss, g') ∧ (flatD yss).length ≤ lim ∧ d = .list (flatD yss) := by
  simp only [ev, Option.bind_eq_bind, Option.bind_eq_some_iff, Prod.exists] at h
  obtain ⟨x, g1, e1, xs, e2, yss, g2, e3, e4⟩ := h
  obtain ⟨hl, e5⟩ := lenOk_some e4
  cases e5
  exact ⟨x, g1, xs, yss, e1, e2, e3, hl, rfl⟩
theorem lc2_tLc {Φ : List Fn} {el : E} {tg : Tg} {src cd : E} {tg2 : Tg} {src2 cd2 : E} {Q : VK} (h : tF K Φ (.lc2 el tg src cd tg2 src2 cd2) σ H Q) :
    tLc2 (tI K Φ true src) (tG K tg) (tC K Φ cd) (tI K Φ true src2) (tG K tg2) (tC K Φ cd2) (tE K Φ false el) (tg.ixs ++ tg2.ixs) tg2.ixs σ H Q := by
  obtain ⟨G0, H0, G, ρ, g, zs, g', r, e, q⟩ := h
  obtain ⟨x, g1, xs, yss, e1, e2, e3, hl, e4⟩ := lc2_ev e
  cases e4
  refine ⟨G0, H0, G, ρ, g, x, xs, g1, r, e1, e2, fun J H1 s1 it Da hD => ?_⟩
  have r1 := r.stq s1
  have nwD : Da ∉ G.wr := fun z => by
    obtain ⟨o, e, _⟩ := r1.ok.dom Da (r1.wo Da z)
    rw [hD] at e; cases e
  refine ⟨fun i m Hh => m = xs.length - i ∧ i ≤ xs.length ∧ ∃ gi acc accY rest, Stq K G H1 Hh gi ∧ Hh Da = some (.lst acc) ∧ DrA K (G.add Da) Hh acc (flatD accY) ∧ compL (turn2F Φ el tg cd tg2 src2 cd2 ρ) (xs.drop i) gi = some (rest, g') ∧ yss = accY ++ rest,
    ⟨xs.length, by simp, Nat.zero_le _, g1, [], [], yss, r1.refl.new hD, upd_same, .nil, e3, rfl⟩, ?_⟩
  rintro i m Hh ⟨rfl, hi, gi, acc, accY, rest, s, hh, da, ec, ey⟩
  have mv : Mv true G H1 (G.add Da) Hh := ⟨fun b u e n => ⟨s.st b u e fun z => n (r1.wo b z), fun z => by
    rcases List.mem_cons.mp z with z | z
    · subst z; rw [hD] at e; cases e
    · exact n z⟩, fun b u e _ _ n => s.st b u e n, rfl, fun b hb => by
    rcases List.mem_cons.mp hb with rfl | hb
    · exact ⟨_, hh, rfl⟩
    · exact s.dom b hb⟩
  by_cases hlt : i < xs.length
  · obtain ⟨d, hd⟩ : ∃ d, xs[i]? = some d := ⟨_, List.getElem?_eq_getElem hlt⟩
    have hdr : xs.drop i = d :: xs.drop (i + 1) := by
      rw [List.drop_eq_getElem_cons hlt]
      rw [List.getElem?_eq_getElem hlt] at hd
      cases hd
      rfl
    rw [hdr] at ec
    obtain ⟨o, ga, zs, e5, e6, e7⟩ := compL_cons ec
    obtain ⟨go, yl⟩ := (it _ Hh mv).2 i d hd
    refine .inr ⟨go, fun H' => xs.length - (i + 1) = xs.length - (i + 1) ∧ i + 1 ≤ xs.length ∧ ∃ gi acc accY rest, Stq K G H1 H' gi ∧ H' Da = some (.lst acc) ∧ DrA K (G.add Da) H' acc (flatD accY) ∧ compL (turn2F Φ el tg cd tg2 src2 cd2 ρ) (xs.drop (i + 1)) gi = some (rest, g') ∧ yss = accY ++ rest,
      fun H' z => ⟨xs.length - (i + 1), by omega, z⟩, fun v H' y => ?_⟩
    obtain ⟨rfl, dv⟩ := yl v H' y
    have rO := r1.opened hD s hh
    have rW := rO.wipe (tg.ixs ++ tg2.ixs)
    obtain ⟨ρ', x', gb, b, h1, h2, h3, h4⟩ := turn2_some e5
    refine ⟨G0, H0, G.add Da, _, gi, d, ρ', rW, dv, h1, fun σ2 r2 k1 k2 => ⟨?_, ?_⟩⟩
    · refine wipe_congr (fun j hj => ?_) (by rw [k2, wipe_length])
      rw [k1 j (fun z => hj (List.mem_append_left _ z)), wipe_out hj]
    · refine ⟨G0, H0, G.add Da, ρ', gi, x', b, gb, r2, h2, h3, fun H3 s3 => ?_⟩
      rcases h4 with ⟨rfl, x2, g2, xs2, ys, h5, h6, h7, rfl⟩ | ⟨rfl, rfl, rfl⟩
      · refine iteT ⟨G0, H0, G.add Da, ρ', gb, x2, xs2, g2, r2.stq s3, h5, h6, fun J1 H4 s4 it1 => ?_⟩
        have s34 := s3.trans s4
        have h4D : H4 Da = some (.lst acc) := s34.st Da _ hh nwD
        have r4 := r2.stq s34
        have rc := r1.closed hD r4
        have hl3 : (flatD accY).length + ys.length ≤ lim := by
          rw [ey, e7, flatD_app, flatD_app, flatD_one, List.length_append, List.length_append] at hl
          omega
        -- the inner source, the list out of sight
        have itc : ItOk K true G (cutH H4 Da) J1 xs2 := by
          intro G5 H5 mv5
          have nD : Da ∉ G.own := fun z => by
            obtain ⟨o, e, _⟩ := r1.ok.dom Da z
            rw [hD] at e; cases e
          exact it1 G5 H5 ⟨fun b o e n => mv5.k b o (by rw [cutH_ne fun z => n (by rw [z]; exact List.mem_cons_self)]; exact e) fun z => n (List.mem_cons_of_mem _ z),
            fun b o e p l n => mv5.l b o (by rw [cutH_ne fun z => nD (by rw [← z]; exact r1.ok.lo b l)]; exact e) p l n, mv5.pl, mv5.dom⟩
        have L := lc_loop (Da := Da) (acc0 := acc) (acd0 := flatD accY) (Q := fun H5 => xs.length - (i + 1) = xs.length - (i + 1) ∧ i + 1 ≤ xs.length ∧ ∃ gi acc accY rest, Stq K G H1 H5 gi ∧ H5 Da = some (.lst acc) ∧ DrA K (G.add Da) H5 acc (flatD accY) ∧ compL (turn2F Φ el tg cd tg2 src2 cd2 ρ) (xs.drop (i + 1)) gi = some (rest, g') ∧ yss = accY ++ rest)
          rc itc cutH_self h7 hl3 (by rw [cutH_upd h4D]; exact da.stp r2.wo s34.st) (fun H5 acc5 s5 h5D d5 => ⟨rfl, hlt, ga, acc5, accY ++ [.list ys], zs, ?_, h5D, ?_, e6, ?_⟩)
        · rw [cutH_upd h4D] at L
          exact L
        · have sx := s.same s34
          refine ⟨fun b u e n => ?_, s5.gs, fun b hb => s5.dom b hb⟩
          exact s5.st b u (by rw [cutH_ne fun z => by rw [z, hD] at e; cases e]; exact sx.st b u e n) n
        · rw [flatD_app, flatD_one]; exact d5
        · rw [ey, e7, List.append_assoc]
      · refine iteF ⟨rfl, hlt, ga, acc, accY, zs, s.same s3, s3.st Da _ hh nwD, da.stp r2.wo s3.st, e6, ?_⟩
        rw [ey, e7]; rfl
  · have hie : i = xs.length := by omega
    subst hie
    rw [List.drop_length] at ec
    simp only [compL, Option.some.injEq, Prod.mk.injEq] at ec
    obtain ⟨rfl, rfl⟩ := ec
    rw [List.append_nil] at ey
    subst ey
    exact .inl ⟨(it _ Hh mv).1 _ (Nat.le_refl _), s.cut (Q := Q) r1.ok.dom hD hh da fun Hm sm hm dm => q Da acc Hm (s1.trans sm) hm dm hl⟩
end
section
variable {X : Cx} {c : Ck} {Φ : List Fn} {lv : Nat} {pos : Pos} {pk : Bool}
structure Lc2P (X : Cx) (c : Ck) (Φ : List Fn) (el : E) (tg : Tg) (src cd : E) (tg2 : Tg) (src2 cd2 : E) (x t i : Expr) (ifs : List Expr) (t2 i2 : Expr) (ifs2 : List Expr) (scope : Scope) : Prop where
  hi : PI X t i (tI X.K Φ true src)
  ok : BlkOk X.N X.env.scope scope (ownOf c (tg.ixs ++ tg2.ixs))
  hg : ∀ (s : Shared) (H : Hp) (A : Addr) (cl : List (Str × Addr)) (fp : List Addr), PG (X.blk s H scope (compEnvC scope cl A X.env) fp) t (tG X.K tg)
  ht : ∀ (s : Shared) (H : Hp) (A : Addr) (cl : List (Str × Addr)) (fp : List Addr), PTs (X.blk s H scope (compEnvC scope cl A X.env) fp) ifs (tC X.K Φ cd)
  he : ∀ (s : Shared) (H : Hp) (A : Addr) (cl : List (Str × Addr)) (fp : List Addr), PE (X.blk s H scope (compEnvC scope cl A X.env) fp) x (tE X.K Φ false el)
  hs : noSet i = true
  hi2 : ∀ (s : Shared) (H : Hp) (A : Addr) (cl : List (Str × Addr)) (fp : List Addr), PI (X.blk s H scope (compEnvC scope cl A X.env) fp) t2 i2 (tI X.K Φ true src2)
  hg2 : ∀ (s : Shared) (H : Hp) (A : Addr) (cl : List (Str × Addr)) (fp : List Addr), PG (X.blk s H scope (compEnvC scope cl A X.env) fp) t2 (tG X.K tg2)
  ht2 : ∀ (s : Shared) (H : Hp) (A : Addr) (cl : List (Str × Addr)) (fp : List Addr), PTs (X.blk s H scope (compEnvC scope cl A X.env) fp) ifs2 (tC X.K Φ cd2)
  hs2 : noSet i2 = true
theorem s_lc2 {el : E} {tg : Tg} {src cd : E} {tg2 : Tg} {src2 cd2 : E} {x t i : Expr} {ifs : List Expr} {t2 i2 : Expr} {ifs2 : List Expr} {scope : Scope} (C : CtxOk X c Φ lv) (P : Lc2P X c Φ el tg src cd tg2 src2 cd2 x t i ifs t2 i2 ifs2 scope) :
    PE X (.ListComp x [⟨t, i, ifs, 0⟩, ⟨t2, i2, ifs2, 0⟩] scope pos) (tF X.K Φ (.lc2 el tg src cd tg2 src2 cd2)) := by
  have hv : ∀ j ∈ tg2.ixs, j ∈ (ownOf c (tg.ixs ++ tg2.ixs)).map (·.2) := fun j hj => by rw [own_ixs]; exact List.mem_append_right _ hj
  refine (pe_lc2 C.calm C.nd P.hi P.ok hv P.hg P.ht P.hi2 P.hg2 P.ht2 P.he (noSet_fold P.hs _) (fun env => noSet_fold P.hs2 env)).imp fun σ H Q h => ?_
  rw [own_ixs]
  exact lc2_tLc h
end
end Dv
end
section
set_option linter.all false
set_option maxRecDepth 100000
set_option autoImplicit false
set_option maxHeartbeats 4000000
/-! Dv11b: dict comprehensions, d.get(k, x), max(.., default=k). -/
namespace Dv
open PySem PySem.Spec PyProof.Rows L2
section
variable {X : Cx} {c : Ck} {Φ : List Fn} {lv : Nat} {pos : Pos} {pk : Bool}
/-- the new object is locked for good -/
def tSeal (t : TE) : TE := fun σ H Q => t σ H fun v H1 => ∃ d u, v = .ref d ∧ H1 d = some u ∧ Mut (some u) ∧ ∀ od, Q v (upd H1 d (.frz od u))
theorem pe_seal {e : Expr} {t : TE} (h : PE X e t) : PE X e (tSeal t) := by
  refine ⟨fun pins s σ H Q I hw => thn (h.run pins s σ H _ I hw) fun v s1 ⟨x, H1, I1, r, d, u, hx, hd, mu, q⟩ => ?_⟩
  obtain ⟨od, I2⟩ := I1.lock hd mu
  exact ⟨x, _, I2, r, q od⟩
theorem putDK_len (kvs : List (D × D)) (k : Key) (d : D) : (putDK kvs k d).length ≤ kvs.length + 1 := by
  unfold putDK
  split
  · rw [List.length_map]; omega
  · rw [List.length_append, List.length_singleton]; omega
theorem putDT_len (kvs : List (D × D)) (k : List Key) (d : D) : (putDT kvs k d).length ≤ kvs.length + 1 := by
  unfold putDT
  split
  · rw [List.length_map]; omega
  · rw [List.length_append, List.length_singleton]; omega
/-- a turn of a dict comprehension -/
def turnDF (Φ : List Fn) (k v : E) (tg : Tg) (cd : E) (ρ : List Slot) : D → GS → Option (Option D × GS) := fun d g => do
  let ρ' ← tg.asg d (wipeS ρ tg.ixs)
  let (c, g) ← ev Φ true cd ρ' g
  let c ← tstD (condE cd) c
  if c = true then do let (y, g) ← ev Φ false k ρ' g; let (z, g) ← ev Φ false v ρ' g; pure (some (.tuple [y, z]), g) else pure (none, g)
theorem turnD_some {k v : E} {tg : Tg} {cd : E} {ρ : List Slot} {d : D} {g g' : GS} {o : Option D} (h : turnDF Φ k v tg cd ρ d g = some (o, g')) : ∃ ρ' x g1 b, tg.asg d (wipeS ρ tg.ixs) = some ρ' ∧ ev Φ true cd ρ' g = some (x, g1) ∧ tstD (condE cd) x = some b ∧
    ((b = true ∧ ∃ y g2 z, ev Φ false k ρ' g1 = some (y, g2) ∧ ev Φ false v ρ' g2 = some (z, g') ∧ o = some (.tuple [y, z])) ∨ (b = false ∧ o = none ∧ g' = g1)) := by
  simp only [turnDF, Option.bind_eq_bind, Option.bind_eq_some_iff, Prod.exists] at h
  obtain ⟨ρ', e1, x, g1, e2, b, e3, e4⟩ := h
  refine ⟨ρ', x, g1, b, e1, e2, e3, ?_⟩
  cases b with
  | true =>
    rw [if_pos rfl] at e4
    simp only [Option.bind_eq_some_iff, Option.pure_def, Option.some.injEq, Prod.exists, Prod.mk.injEq] at e4
    obtain ⟨y, g2, e5, z, g3, e6, rfl, rfl⟩ := e4
    exact .inl ⟨rfl, y, g2, z, e5, e6, rfl⟩
  | false =>
    rw [if_neg (by simp)] at e4
    simp only [Option.pure_def, Option.some.injEq, Prod.mk.injEq] at e4
    exact .inr ⟨rfl, e4.1.symm, e4.2.symm⟩
theorem dcp_ev {k v : E} {tg : Tg} {src cd : E} {ρ : List Slot} {g g' : GS} {d : D} (h : ev Φ pk (.dcp k v tg src cd) ρ g = some (d, g')) : ∃ x g1 xs ys kvs, ev Φ true src ρ g = some (x, g1) ∧ itOf x = some xs ∧ compL (turnDF Φ k v tg cd ρ) xs g1 = some (ys, g') ∧ putsD [] ys = some kvs ∧ ys.length ≤ lim ∧ d = .dict kvs := by
  simp only [ev, Option.bind_eq_bind, Option.bind_eq_some_iff, Prod.exists] at h
  obtain ⟨x, g1, e1, xs, e2, ys, g2, e3, kvs, e4, e5⟩ := h
  obtain ⟨hl, e6⟩ := lenOk_some e5
  cases e6
  exact ⟨x, g1, xs, ys, kvs, e1, e2, e3, e4, hl, rfl⟩
structure DcP (X : Cx) (c : Ck) (Φ : List Fn) (k v : E) (tg : Tg) (src cd : E) (kx vx t i : Expr) (ifs : List Expr) (scope : Scope) : Prop where
  hi : PI X t i (tI X.K Φ true src)
  ok : BlkOk X.N X.env.scope scope (ownOf c tg.ixs)
  hg : ∀ (s : Shared) (H : Hp) (A : Addr) (cl : List (Str × Addr)) (fp : List Addr), PG (X.blk s H scope (compEnvC scope cl A X.env) fp) t (tG X.K tg)
  ht : ∀ (s : Shared) (H : Hp) (A : Addr) (cl : List (Str × Addr)) (fp : List Addr), PTs (X.blk s H scope (compEnvC scope cl A X.env) fp) ifs (tC X.K Φ cd)
  hk : ∀ (s : Shared) (H : Hp) (A : Addr) (cl : List (Str × Addr)) (fp : List Addr), PE (X.blk s H scope (compEnvC scope cl A X.env) fp) kx (tE X.K Φ false k)
  hv : ∀ (s : Shared) (H : Hp) (A : Addr) (cl : List (Str × Addr)) (fp : List Addr), PE (X.blk s H scope (compEnvC scope cl A X.env) fp) vx (tE X.K Φ false v)
  hs : noSet i = true
theorem dcp_tDc {K : PySem.W.Frag} {k v : E} {tg : Tg} {src cd : E} {σ : St} {H : Hp} {Q : VK} (h : tE K Φ pk (.dcp k v tg src cd) σ H Q) :
    tDc (tI K Φ true src) (tG K tg) (tC K Φ cd) (tE K Φ false k) (tE K Φ false v) tg.ixs σ H (fun v H1 => ∃ d u, v = .ref d ∧ H1 d = some u ∧ Mut (some u) ∧ ∀ od, Q v (upd H1 d (.frz od u))) := by
  obtain ⟨G0, H0, G, ρ, g, dd, g', r, e, q⟩ := h
  obtain ⟨x, g1, xs, ys, kvs, e1, e2, e3, e4, hl, rfl⟩ := dcp_ev e
  refine ⟨G0, H0, G, ρ, g, x, xs, g1, r, e1, e2, fun J H1 s1 it Da hD => ?_⟩
  have r1 := r.stq s1
  have nwD : Da ∉ G.wr := fun z => by
    obtain ⟨o, e, _⟩ := r1.ok.dom Da (r1.wo Da z)
    rw [hD] at e; cases e
  refine ⟨fun i m Hh => m = xs.length - i ∧ i ≤ xs.length ∧ ∃ gi ks kv rest, Stq K G H1 Hh gi ∧ Hh Da = some (.dK ks) ∧ DrK K (G.add Da) Hh ks kv ∧ compL (turnDF Φ k v tg cd ρ) (xs.drop i) gi = some (rest, g') ∧ putsD kv rest = some kvs ∧ kv.length + rest.length ≤ lim,
    ⟨xs.length, by simp, Nat.zero_le _, g1, [], [], ys, r1.refl.new hD, upd_same, .nil, e3, e4, by simpa using hl⟩, ?_⟩
  rintro i m Hh ⟨rfl, hi, gi, ks, kv, rest, s, hh, da, ec, ep, hlen⟩
  have mv : Mv true G H1 (G.add Da) Hh := ⟨fun b u e n => ⟨s.st b u e fun z => n (r1.wo b z), fun z => by
    rcases List.mem_cons.mp z with z | z
    · subst z; rw [hD] at e; cases e
    · exact n z⟩, fun b u e _ _ n => s.st b u e n, rfl, fun b hb => by
    rcases List.mem_cons.mp hb with rfl | hb
    · exact ⟨_, hh, rfl⟩
    · exact s.dom b hb⟩
  by_cases hlt : i < xs.length
  · obtain ⟨d, hd⟩ : ∃ d, xs[i]? = some d := ⟨_, List.getElem?_eq_getElem hlt⟩
    have hdr : xs.drop i = d :: xs.drop (i + 1) := by
      rw [List.drop_eq_getElem_cons hlt]
      rw [List.getElem?_eq_getElem hlt] at hd
      cases hd
      rfl
    rw [hdr] at ec
    obtain ⟨o, ga, zs, h1, h2, h3⟩ := compL_cons ec
    obtain ⟨go, yl⟩ := (it _ Hh mv).2 i d hd
    refine .inr ⟨go, fun H' => xs.length - (i + 1) = xs.length - (i + 1) ∧ i + 1 ≤ xs.length ∧ ∃ gi ks kv rest, Stq K G H1 H' gi ∧ H' Da = some (.dK ks) ∧ DrK K (G.add Da) H' ks kv ∧ compL (turnDF Φ k v tg cd ρ) (xs.drop (i + 1)) gi = some (rest, g') ∧ putsD kv rest = some kvs ∧ kv.length + rest.length ≤ lim,
      fun H' z => ⟨xs.length - (i + 1), by omega, z⟩, fun w H' y => ?_⟩
    obtain ⟨rfl, dv⟩ := yl w H' y
    have rO := r1.opened hD s hh
    have rW := rO.wipe tg.ixs
    obtain ⟨ρ', x', gb, b, a1, a2, a3, a4⟩ := turnD_some h1
    refine ⟨G0, H0, G.add Da, _, gi, d, ρ', rW, dv, a1, fun σ2 r2 k1 k2 => ⟨?_, ?_⟩⟩
    · refine wipe_congr (fun j hj => ?_) (by rw [k2, wipe_length])
      rw [k1 j hj, wipe_out hj]
    · refine ⟨G0, H0, G.add Da, ρ', gi, x', b, gb, r2, a2, a3, fun H3 s3 => ?_⟩
      rw [h3, List.length_append] at hlen
      rcases a4 with ⟨rfl, y', g2, z', b1, b2, rfl⟩ | ⟨rfl, rfl, rfl⟩
      · rw [List.length_singleton] at hlen
        rw [h3] at ep
        obtain ⟨key, hkey, ep⟩ := Option.bind_eq_some_iff.mp (show (keyOf y').bind (fun k => putsD (putDK kv k z') zs) = some kvs from ep)
        refine iteT ⟨G0, H0, G.add Da, ρ', gb, y', g2, r2.stq s3, b1, fun u H4 s4 d4 => ⟨G0, H0, G.add Da, ρ', g2, z', ga, (r2.stq s3).stq s4, b2, fun w H5 s5 d5 => ?_⟩⟩
        have s345 := (s3.trans s4).trans s5
        have h5D : H5 Da = some (.dK ks) := s345.st Da _ hh nwD
        have hu : u = kV key := by
          have := keyOf_is hkey
          subst this
          exact d4.strict.key
        have hn : ∀ b o, H5 b = some o → b ∉ (G.add Da).own → (L2.upd H5 Da (.dK (putK ks key w))) b = some o ∧ b ∉ (G.add Da).own := fun b o e n => ⟨by rw [upd_ne (fun z => n (by rw [z]; exact List.mem_cons_self))]; exact e, n⟩
        have da5 : DrK K (G.add Da) H5 ks kv := da.mono (fun b o e n => ⟨s345.st b o e fun z => n (r2.wo b z), n⟩) rfl
        refine ⟨ks, key, hu, h5D, ?_, rfl, hlt, ga, putK ks key w, putDK kv key z', zs, s.more r1.ok.dom hD s345, upd_same, (da5.put key d5.strict).mono hn rfl, h2, ep, ?_⟩
        · rw [da.length]; exact Nat.lt_of_le_of_lt (by omega) lim_lt
        · have := putDK_len kv key z'; omega
      · rw [h3] at ep
        refine iteF ⟨rfl, hlt, ga, ks, kv, zs, s.same s3, s3.st Da _ hh nwD, da.mono (fun b o e n => ⟨s3.st b o e fun z => n (r2.wo b z), n⟩) rfl, h2, ep, ?_⟩
        have : ([] : List D).length = 0 := rfl
        simp only [List.length_nil] at hlen
        omega
  · have hie : i = xs.length := by omega
    subst hie
    rw [List.drop_length] at ec
    simp only [compL, Option.some.injEq, Prod.mk.injEq] at ec
    obtain ⟨rfl, rfl⟩ := ec
    cases ep
    refine .inl ⟨(it _ Hh mv).1 _ (Nat.le_refl _), Da, _, rfl, hh, trivial, fun od => ?_⟩
    have na : ∀ b, b ∈ G.own → b ≠ Da := fun b hb z => by
      subst z
      obtain ⟨o, e, _⟩ := r1.ok.dom b hb
      rw [hD] at e; cases e
    have nD : Da ∉ G.own := fun z => na Da z rfl
    refine q (.ref Da) _ (s1.trans ⟨fun b u e n => ?_, s.gs.keep fun b o e hb => by rw [upd_ne (na b hb)]; exact e, fun b hb => ?_⟩) (.of (.dk upd_same nD (da.mono (G' := G) (fun b o e n => ⟨?_, fun z => n (List.mem_cons_of_mem Da z)⟩) (show G.pl = (G.add Da).pl from rfl))))
    · rw [upd_ne (fun z => by rw [z, hD] at e; cases e)]
      exact s.st b u e n
    · obtain ⟨o, e, n⟩ := s.dom b hb
      exact ⟨o, by rw [upd_ne (na b hb)]; exact e, n⟩
    · rw [upd_ne (fun z => n (by rw [z]; exact List.mem_cons_self))]
      exact e
theorem s_dcp {k v : E} {tg : Tg} {src cd : E} {kx vx t i : Expr} {ifs : List Expr} {scope : Scope} (C : CtxOk X c Φ lv) (P : DcP X c Φ k v tg src cd kx vx t i ifs scope) : PE X (.DictComp kx vx [⟨t, i, ifs, 0⟩] scope pos) (tE X.K Φ pk (.dcp k v tg src cd)) :=
  (pe_seal (pe_dc C.calm C.nd P.hi P.ok P.hg P.ht P.hk P.hv (noSet_fold P.hs _))).imp fun σ H Q h => by
    have := dcp_tDc h
    unfold tSeal
    rw [own_ixs]
    exact this
/-! ### d.get(k, x) -/
theorem s_get {a k z : E} {o y w : Expr} {m : Str} {ap cp : Pos} (C : CtxOk X c Φ lv) (hm : m = "get") (hl : (ap.endLine == cp.line) = true) (ho : ∃ n p, o = .Name n p) (ny : nst y = true) (nw : nst w = true) (ha : PE X o (tEo X.K Φ a)) (hk : PE X y (tE X.K Φ true k)) (hz : PE X w (tE X.K Φ false z)) :
    PE X (.Call (.Attribute o m ap) [y, w] [] cp) (tE X.K Φ pk (.get a k z)) := by
  subst hm
  obtain ⟨n, p, rfl⟩ := ho
  have M : M2 X (.Name n p) "get" ap y w cp := by
    refine ⟨rfl, ?_, hl, ?_⟩
    · rw [star_cons ny, star_cons nw]; rfl
    · rw [star_cons ny, star_cons nw]; rfl
  refine (pe_dget2 (by have := C.hr.un; omega) ha hk hz M).imp fun σ H Q ⟨G0, H0, G, ρ, g, d, g', r, e, q⟩ => ?_
  simp only [ev, Option.bind_eq_bind, Option.bind_eq_some_iff, Option.pure_def, Option.some.injEq, Prod.exists, Prod.mk.injEq] at e
  obtain ⟨x1, g1, e1, y1, g2, e2, u1, g3, e3, ov, e4, rfl, rfl⟩ := e
  refine ⟨G0, H0, G, ρ, g, x1, g1, r, e1, fun v1 H1 s1 d1 => ?_⟩
  have isd : ∃ a, v1 = .ref a ∧ IsD H1 a := by
    unfold lookD at e4
    split at e4
    · rename_i kvs k' q1 q2
      obtain ⟨a, ks, rfl, ha, _⟩ := d1.dk q1
      exact ⟨a, rfl, .inl ⟨ks, ha⟩⟩
    · split at e4
      · rename_i kvs k' q1 q2
        obtain ⟨a, ks, rfl, ha, _⟩ := d1.dt q1
        exact ⟨a, rfl, .inr ⟨ks, ha⟩⟩
      · cases e4
  obtain ⟨a0, rfl, hd⟩ := isd
  refine ⟨a0, rfl, hd, G0, H0, G, ρ, g1, y1, g2, r.stq s1, e2, fun v2 H2 s2 d2 => ⟨G0, H0, G, ρ, g2, u1, g3, (r.stq s1).stq s2, e3, fun v3 H3 s3 d3 => ?_⟩⟩
  obtain ⟨a', u, ea, hg, hs, hw⟩ := (r.dlo (s2.trans s3) d1).look (r.dl s3 d2) e4
  cases ea
  refine ⟨u, hg, q _ H3 (s1.trans (s2.trans s3)) (.of ?_)⟩
  cases ov with
  | none =>
    cases u with
    | none => exact d3.strict
    | some _ => cases hs
  | some dv =>
    obtain ⟨w', rfl, dw⟩ := hw dv rfl
    exact dw
/-! ### max(.., default=k) -/
theorem s_maxd {a : E} {k : Int} {x n : Str} {y : Expr} {p p2 kp : Pos} {j : Nat} (C : CtxOk X c Φ lv) (h1 : x = "max") (h2 : n = "default") (hg : glB c.sc x = true) (ny : nst y = true) (ha : PE X y (tE X.K Φ true a)) : PE X (.Call (.Name x p) [y] [⟨some n, .Constant (.int k) j p2, kp⟩] pos) (tE X.K Φ pk (.maxd a k)) := by
  subst h1 h2
  have hu : X.A.units + 200 < cLine := by have := C.hr.un; omega
  refine (pe_callBK (maxdef_ok C.calm hu k) (glB_gl C hg) (C.blt _ (by decide +kernel)) (by decide +kernel) (pa_cons ha pa_nil (star_cons ny)) (pk_cons pe_int pk_nil) (by decide +kernel) (by decide +kernel) (by rw [star_cons ny]; rfl) (by rw [star_cons ny]; rfl) rfl rfl rfl).imp fun σ H Q ⟨G0, H0, G, ρ, g, d, g', r, e, q⟩ => ?_
  simp only [ev, Option.bind_eq_bind, Option.bind_eq_some_iff, Option.pure_def, Option.some.injEq, Prod.exists, Prod.mk.injEq] at e
  obtain ⟨x1, g1, e1, xs, e2, z, e3, rfl, rfl⟩ := e
  refine ⟨G0, H0, G, ρ, g, x1, g1, r, e1, fun v H1 s1 d1 => ?_⟩
  exact ⟨G, H0, g1, x1, z, rfl, .cons d1 .nil, r.okk s1, s1.gs, by rw [e2]; exact e3, fun v H2 s2 d2 => q v H2 (s1.trans s2) (.of d2)⟩
end
end Dv
end
section
set_option linter.all false
set_option maxRecDepth 100000
set_option autoImplicit false
set_option maxHeartbeats 4000000
/-! Dv12: every checked expression is sound. -/
namespace Dv
open PySem PySem.Spec PyProof.Rows L2
section
variable {Φ : List Fn} {lv : Nat}
structure Snd (X : Cx) (Φ : List Fn) (e : E) (x : Expr) : Prop where
  pe : e.v = true → ∀ pk, PE X x (tE X.K Φ pk e)
  pt : e.v = true → e.isIfe = false → PT X x (tT X.K Φ e)
  pw : ∀ op xs pos, x = .BoolOp op xs pos → PW X x (tT X.K Φ e)
  pi : ∀ pk tg, PI X tg x (tI X.K Φ pk e)
  prg : e.isRng = true → PRg X x (tR X.K Φ e)
/-- a plain form -/
theorem Snd.plain {X : Cx} {e : E} {x : Expr} (hp : plainH x = true) (hr : e.isRng = false) (h : ∀ pk, PE X x (tE X.K Φ pk e)) : Snd X Φ e x :=
  ⟨fun _ => h, fun _ _ => s_plainT hp (h true), fun op xs pos z => by subst z; simp [plainH] at hp, fun pk tg => s_pi (h pk), fun z => by rw [hr] at z; cases z⟩
theorem Snd.tst {X : Cx} {e : E} {x : Expr} (hb : ∀ op xs pos, x ≠ .BoolOp op xs pos) (hr : e.isRng = false) (h : ∀ pk, PE X x (tE X.K Φ pk e)) (ht : e.isIfe = false → PT X x (tT X.K Φ e)) : Snd X Φ e x :=
  ⟨fun _ => h, fun _ => ht, fun op xs pos z => absurd z (hb op xs pos), fun pk tg => s_pi (h pk), fun z => by rw [hr] at z; cases z⟩
theorem fresh_lst {Φ : List Fn} {pk : Bool} {es : Es} {ρ : List Slot} {g g' : GS} {d : D} (h : ev Φ pk (.lst es) ρ g = some (d, g')) : ∃ xs, d = .list xs ∧ ev Φ false (.lst es) ρ g = some (.list xs, g') := by
  have h' : ev Φ false (.lst es) ρ g = some (d, g') := by
    simp only [ev] at h ⊢
    exact h
  simp only [ev, Option.bind_eq_bind, Option.bind_eq_some_iff, Prod.exists] at h
  obtain ⟨ds, g1, e1, e2⟩ := h
  obtain ⟨_, e3⟩ := lenOk_some e2
  cases e3
  exact ⟨_, rfl, h'⟩
theorem fresh_lc {Φ : List Fn} {pk : Bool} {el : E} {tg : Tg} {src cd : E} {ρ : List Slot} {g g' : GS} {d : D} (h : ev Φ pk (.lc el tg src cd) ρ g = some (d, g')) : ∃ xs, d = .list xs ∧ ev Φ false (.lc el tg src cd) ρ g = some (.list xs, g') := by
  obtain ⟨x, g1, xs, ys, e1, e2, e3, hl, rfl⟩ := lc_ev h
  refine ⟨ys, rfl, ?_⟩
  simp only [ev] at h ⊢
  exact h
theorem fresh_lc2 {Φ : List Fn} {pk : Bool} {el : E} {tg : Tg} {src cd : E} {tg2 : Tg} {src2 cd2 : E} {ρ : List Slot} {g g' : GS} {d : D} (h : ev Φ pk (.lc2 el tg src cd tg2 src2 cd2) ρ g = some (d, g')) : ∃ xs, d = .list xs ∧ ev Φ false (.lc2 el tg src cd tg2 src2 cd2) ρ g = some (.list xs, g') := by
  obtain ⟨x, g1, xs, ys, e1, e2, e3, hl, rfl⟩ := lc2_ev h
  refine ⟨_, rfl, ?_⟩
  simp only [ev] at h ⊢
  exact h
theorem s_one {X : Cx} {op : BoolOp} {e : E} {y : Expr} {pos : Pos} (h : PE X y (tE X.K Φ true e)) : PE X (.BoolOp op [y] pos) (tEB X.K Φ e) := pe_one (s_eb h)
theorem s_and1 {X : Cx} {e : E} {y : Expr} {pos : Pos} (h : PT X y (tT X.K Φ e)) : PW X (.BoolOp .And [y] pos) (tT X.K Φ e) := pw_and1 h
theorem s_or1 {X : Cx} {e : E} {y : Expr} {pos : Pos} (h : PT X y (tT X.K Φ e)) : PW X (.BoolOp .Or [y] pos) (tT X.K Φ e) := pw_or1 h
theorem getLcP {X : Cx} {c : Ck} (C : CtxOk X c Φ lv) {el : E} {tg : Tg} {src cd : E} {x t i : Expr} {ifs : List Expr} {scope : Scope} (hb : blkC c.N c.sc scope (ownOf c tg.ixs) = true) (ht : tgB (c.blk scope) tg t = true)
    (hi : PI X t i (tI X.K Φ true src)) (hs : noSet i = true) (he : ∀ (Y : Cx), CtxOk Y (c.blk scope) Φ lv → PE Y x (tE Y.K Φ false el)) (hc : ∀ (Y : Cx), CtxOk Y (c.blk scope) Φ lv → PTs Y ifs (tC Y.K Φ cd)) : LcP X c Φ el tg src cd x t i ifs scope :=
  ⟨hi, by rw [C.N, C.sc]; exact blkOk_by hb, fun s H A cl fp => s_tg (C.blk s H scope cl A fp) tg t ht, fun s H A cl fp => hc _ (C.blk s H scope cl A fp), fun s H A cl fp => he _ (C.blk s H scope cl A fp), hs⟩
theorem getLc2P {X : Cx} {c : Ck} (C : CtxOk X c Φ lv) {el : E} {tg : Tg} {src cd : E} {tg2 : Tg} {src2 cd2 : E} {x t i : Expr} {ifs : List Expr} {t2 i2 : Expr} {ifs2 : List Expr} {scope : Scope} (hb : blkC c.N c.sc scope (ownOf c (tg.ixs ++ tg2.ixs)) = true) (ht : tgB (c.blk scope) tg t = true) (ht2 : tgB (c.blk scope) tg2 t2 = true)
    (hi : PI X t i (tI X.K Φ true src)) (hs : noSet i = true) (hi2 : ∀ (Y : Cx), CtxOk Y (c.blk scope) Φ lv → PI Y t2 i2 (tI Y.K Φ true src2)) (hs2 : noSet i2 = true) (he : ∀ (Y : Cx), CtxOk Y (c.blk scope) Φ lv → PE Y x (tE Y.K Φ false el))
    (hc : ∀ (Y : Cx), CtxOk Y (c.blk scope) Φ lv → PTs Y ifs (tC Y.K Φ cd)) (hc2 : ∀ (Y : Cx), CtxOk Y (c.blk scope) Φ lv → PTs Y ifs2 (tC Y.K Φ cd2)) : Lc2P X c Φ el tg src cd tg2 src2 cd2 x t i ifs t2 i2 ifs2 scope :=
  ⟨hi, by rw [C.N, C.sc]; exact blkOk_by hb, fun s H A cl fp => s_tg (C.blk s H scope cl A fp) tg t ht, fun s H A cl fp => hc _ (C.blk s H scope cl A fp), fun s H A cl fp => he _ (C.blk s H scope cl A fp), hs,
    fun s H A cl fp => hi2 _ (C.blk s H scope cl A fp), fun s H A cl fp => s_tg (C.blk s H scope cl A fp) tg2 t2 ht2, fun s H A cl fp => hc2 _ (C.blk s H scope cl A fp), hs2⟩
mutual
theorem snd (Φ : List Fn) (lv : Nat) : ∀ (e : E) (X : Cx) (c : Ck) (x : Expr), CtxOk X c Φ lv → chk c e x = true → Snd X Φ e x
  | .var i, X, c, x, C, h => by
    simp only [chk] at h
    split at h
    · simp only [Bool.and_eq_true, decide_eq_true_eq] at h
      exact .plain rfl rfl fun pk => s_var C h.1.1 h.1.2 h.2
    · cases h
  | .int k, X, c, x, C, h => by
    simp only [chk] at h
    split at h
    · simp only [decide_eq_true_eq] at h
      subst h
      exact .plain rfl rfl fun pk => pe_int.imp fun σ H Q ⟨G0, H0, G, ρ, g, d, g', r, e, q⟩ => by
        simp only [ev, Option.some.injEq, Prod.mk.injEq] at e
        obtain ⟨rfl, rfl⟩ := e
        exact q _ H r.refl (.of (.int _))
    · cases h
  | .bool k, X, c, x, C, h => by
    simp only [chk] at h
    split at h
    · simp only [decide_eq_true_eq] at h
      subst h
      exact .plain rfl rfl fun pk => pe_bl.imp fun σ H Q ⟨G0, H0, G, ρ, g, d, g', r, e, q⟩ => by
        simp only [ev, Option.some.injEq, Prod.mk.injEq] at e
        obtain ⟨rfl, rfl⟩ := e
        exact q _ H r.refl (.of (.bl _))
    · cases h
  | .non, X, c, x, C, h => by
    simp only [chk] at h
    split at h
    · exact .plain rfl rfl fun pk => pe_non.imp fun σ H Q ⟨G0, H0, G, ρ, g, d, g', r, e, q⟩ => by
        simp only [ev, Option.some.injEq, Prod.mk.injEq] at e
        obtain ⟨rfl, rfl⟩ := e
        exact q _ H r.refl (.of .non)
    · cases h
  | .str k, X, c, x, C, h => by
    simp only [chk] at h
    split at h
    · simp only [decide_eq_true_eq] at h
      subst h
      exact .plain rfl rfl fun pk => pe_str.imp fun σ H Q ⟨G0, H0, G, ρ, g, d, g', r, e, q⟩ => by
        simp only [ev, Option.some.injEq, Prod.mk.injEq] at e
        obtain ⟨rfl, rfl⟩ := e
        exact q _ H r.refl (.of (.str _))
    · cases h
  | .tup es, X, c, x, C, h => by
    simp only [chk] at h
    split at h
    · exact .plain rfl rfl fun pk => s_tup (snds Φ lv es X c _ C h false)
    · cases h
  | .lst es, X, c, x, C, h => by
    simp only [chk] at h
    split at h
    · exact .plain rfl rfl fun pk => fresh_pe (s_lst (snds Φ lv es X c _ C h false)) fun _ _ _ _ => fresh_lst
    · cases h
  | .bin op a b, X, c, x, C, h => by
    simp only [chk] at h
    split at h
    · simp only [Bool.and_eq_true, decide_eq_true_eq] at h
      obtain ⟨⟨⟨⟨rfl, va⟩, ha⟩, vb⟩, hb⟩ := h
      exact .plain rfl rfl fun pk => s_bin ((snd Φ lv a X c _ C ha).pe va true) ((snd Φ lv b X c _ C hb).pe vb true)
    · cases h
  | .neg a, X, c, x, C, h => by
    simp only [chk] at h
    split at h
    · simp only [Bool.and_eq_true] at h
      exact .plain rfl rfl fun pk => s_neg ((snd Φ lv a X c _ C h.2).pe h.1 true)
    · cases h
  | .not a, X, c, x, C, h => by
    simp only [chk] at h
    split at h
    · simp only [Bool.and_eq_true, Bool.not_eq_true'] at h
      have ia := snd Φ lv a X c _ C h.2
      exact .tst (fun _ _ _ z => nomatch z) rfl (fun pk => s_not (ia.pe h.1.2 true)) fun _ => s_notT (ia.pt h.1.2 h.1.1)
    · cases h
  | .and a b, X, c, x, C, h => by
    simp only [chk] at h
    split at h
    · rename_i x1 y1 r pos
      simp only [Bool.and_eq_true, Bool.not_eq_true'] at h
      obtain ⟨⟨⟨⟨⟨ia, ib⟩, va⟩, ha⟩, vb⟩, hb⟩ := h
      have A := snd Φ lv a X c _ C ha
      have B := snd Φ lv b X c _ C hb
      have B1 : PE X (.BoolOp .And (y1 :: r) pos) (tEB X.K Φ b) := by
        cases r with
        | nil => exact s_one (B.pe vb true)
        | cons z r => exact s_eb (B.pe vb true)
      have B2 : PW X (.BoolOp .And (y1 :: r) pos) (tT X.K Φ b) := by
        cases r with
        | nil => exact s_and1 (B.pt vb ib)
        | cons z r => exact B.pw _ _ _ rfl
      have W := s_andW (A.pt va ia) B2
      exact ⟨fun _ pk => s_and (A.pe va true) B1, fun _ _ => W.pt, fun op xs p z => W, fun pk tg => s_pi (s_and (A.pe va true) B1), fun z => nomatch z⟩
    · cases h
  | .or a b, X, c, x, C, h => by
    simp only [chk] at h
    split at h
    · rename_i x1 y1 r pos
      simp only [Bool.and_eq_true, Bool.not_eq_true'] at h
      obtain ⟨⟨⟨⟨⟨ia, ib⟩, va⟩, ha⟩, vb⟩, hb⟩ := h
      have A := snd Φ lv a X c _ C ha
      have B := snd Φ lv b X c _ C hb
      have B1 : PE X (.BoolOp .Or (y1 :: r) pos) (tEB X.K Φ b) := by
        cases r with
        | nil => exact s_one (B.pe vb true)
        | cons z r => exact s_eb (B.pe vb true)
      have B2 : PW X (.BoolOp .Or (y1 :: r) pos) (tT X.K Φ b) := by
        cases r with
        | nil => exact s_or1 (B.pt vb ib)
        | cons z r => exact B.pw _ _ _ rfl
      have W := s_orW (A.pt va ia) B2
      exact ⟨fun _ pk => s_or (A.pe va true) B1, fun _ _ => W.pt, fun op xs p z => W, fun pk tg => s_pi (s_or (A.pe va true) B1), fun z => nomatch z⟩
    · cases h
  | .ife t a b, X, c, x, C, h => by
    simp only [chk] at h
    split at h
    · simp only [Bool.and_eq_true, Bool.not_eq_true'] at h
      obtain ⟨⟨⟨⟨⟨⟨it, vt⟩, ht⟩, va⟩, ha⟩, vb⟩, hb⟩ := h
      exact .tst (fun _ _ _ z => nomatch z) rfl (fun pk => s_ife ((snd Φ lv t X c _ C ht).pt vt it) ((snd Φ lv a X c _ C ha).pe va false) ((snd Φ lv b X c _ C hb).pe vb false)) fun z => nomatch z
    · cases h
  | .cmp op a b, X, c, x, C, h => by
    simp only [chk] at h
    split at h
    · simp only [Bool.and_eq_true, decide_eq_true_eq] at h
      obtain ⟨⟨⟨⟨rfl, va⟩, ha⟩, vb⟩, hb⟩ := h
      have A := (snd Φ lv a X c _ C ha).pe va true
      have B := (snd Φ lv b X c _ C hb).pe vb true
      exact .tst (fun _ _ _ z => nomatch z) rfl (fun pk => s_cmp C (chk_head hb).2.2 A (s_o C hb B)) fun _ => s_cmpT C (chk_head hb).2.2 A (s_o C hb B)
    · cases h
  | .isN n a, X, c, x, C, h => by
    simp only [chk] at h
    split at h
    · simp only [Bool.and_eq_true, decide_eq_true_eq] at h
      obtain ⟨⟨rfl, va⟩, ha⟩ := h
      have A := (snd Φ lv a X c _ C ha).pe va true
      exact .tst (fun _ _ _ z => nomatch z) rfl (fun pk => s_isN A) fun _ => s_isNT A
    · cases h
  | .isB n b a, X, c, x, C, h => by
    simp only [chk] at h
    split at h
    · simp only [Bool.and_eq_true, decide_eq_true_eq] at h
      obtain ⟨⟨⟨rfl, rfl⟩, va⟩, ha⟩ := h
      have A := (snd Φ lv a X c _ C ha).pe va true
      exact .tst (fun _ _ _ z => nomatch z) rfl (fun pk => s_isB A) fun _ => s_isBT A
    · cases h
  | .chn o1 o2 a b f, X, c, x, C, h => by
    simp only [chk] at h
    split at h
    · simp only [Bool.and_eq_true, decide_eq_true_eq] at h
      obtain ⟨⟨⟨⟨⟨⟨⟨rfl, rfl⟩, va⟩, ha⟩, vb⟩, hb⟩, vf⟩, hf⟩ := h
      have A := (snd Φ lv a X c _ C ha).pe va true
      have B := (snd Φ lv b X c _ C hb).pe vb true
      have F := (snd Φ lv f X c _ C hf).pe vf true
      exact .tst (fun _ _ _ z => nomatch z) rfl (fun pk => s_chn C (chk_head hb).2.2 (chk_head hf).2.2 A B F) fun _ => s_chnT C (chk_head hb).2.2 (chk_head hf).2.2 A B F
    · cases h
  | .idx a b, X, c, x, C, h => by
    simp only [chk] at h
    split at h
    · simp only [Bool.and_eq_true] at h
      obtain ⟨⟨⟨va, ha⟩, vb⟩, hb⟩ := h
      exact .plain rfl rfl fun pk => s_idx C (chk_head hb).2.1 (s_o C ha ((snd Φ lv a X c _ C ha).pe va true)) ((snd Φ lv b X c _ C hb).pe vb true)
    · cases h
  | .slc a lo hi, X, c, x, C, h => by
    simp only [chk] at h
    split at h
    · rename_i x1 l hh p2 pos
      simp only [Bool.and_eq_true] at h
      obtain ⟨⟨⟨va, ha⟩, hl⟩, hhi⟩ := h
      have L : PO X l (tP X.K Φ lo) := by
        cases l with
        | none => exact s_noPart hl
        | some l =>
          simp only [Bool.and_eq_true] at hl
          exact s_part hl.1 ((snd Φ lv lo X c _ C hl.2).pe hl.1 true)
      have Hh : PO X hh (tP X.K Φ hi) := by
        cases hh with
        | none => exact s_noPart hhi
        | some l =>
          simp only [Bool.and_eq_true] at hhi
          exact s_part hhi.1 ((snd Φ lv hi X c _ C hhi.2).pe hhi.1 true)
      exact .plain rfl rfl fun pk => s_slc ((snd Φ lv a X c _ C ha).pe va true) L Hh
    · cases h
  | .no, X, c, x, C, h => by simp only [chk] at h; cases h
  | .call k es, X, c, x, C, h => by
    simp only [chk] at h
    split at h
    · simp only [Bool.and_eq_true, decide_eq_true_eq] at h
      exact .plain rfl rfl fun pk => s_call C h.1.1.1 h.1.1.2 h.1.2 h.2 (snds Φ lv es X c _ C h.2 false)
    · cases h
  | .bfn f es, X, c, x, C, h => by
    simp only [chk] at h
    split at h
    · simp only [Bool.and_eq_true, decide_eq_true_eq] at h
      exact .plain rfl rfl fun pk => s_bfn C h.1.1.1 h.1.1.2 h.1.2 h.2 (snds Φ lv es X c _ C h.2 true)
    · cases h
  | .bfr t e, X, c, x, C, h => by
    simp only [chk] at h
    split at h
    · simp only [Bool.and_eq_true, decide_eq_true_eq] at h
      exact .plain rfl rfl fun pk => s_bfr C h.1.1.1 h.1.1.2 (chk_head h.2).1 ((snd Φ lv e X c _ C h.2).prg h.1.2)
    · cases h
  | .isi t a, X, c, x, C, h => by
    simp only [chk] at h
    split at h
    · simp only [Bool.and_eq_true, decide_eq_true_eq] at h
      obtain ⟨⟨⟨⟨⟨h1, h2⟩, h3⟩, h4⟩, va⟩, ha⟩ := h
      exact .plain rfl rfl fun pk => s_isi C h1 h2 h3 h4 (chk_head ha).1 ((snd Φ lv a X c _ C ha).pe va true)
    · cases h
  | .lc el tg src cd, X, c, x, C, h => by
    simp only [chk] at h
    split at h
    · rename_i x1 t i ifs a scope pos
      simp only [Bool.and_eq_true, decide_eq_true_eq] at h
      obtain ⟨⟨⟨⟨⟨⟨h0, hb⟩, ht⟩, hs⟩, ve⟩, he⟩, hc⟩ := h
      subst h0
      have T : ∀ (Y : Cx), CtxOk Y (c.blk scope) Φ lv → PTs Y ifs (tC Y.K Φ cd) := fun Y CY => by
        cases ifs with
        | nil => exact s_c0 hc
        | cons y r =>
          cases r with
          | nil =>
            simp only [Bool.and_eq_true, Bool.not_eq_true'] at hc
            exact s_c1 hc.1.2 ((snd Φ lv cd Y _ _ CY hc.2).pt hc.1.2 hc.1.1)
          | cons _ _ => cases hc
      have P := getLcP C hb ht ((snd Φ lv src X c _ C hs).pi true t) (chk_head hs).2.2 (fun Y CY => (snd Φ lv el Y _ _ CY he).pe ve false) T
      exact .plain rfl rfl fun pk => fresh_pe (s_lc C P) fun _ _ _ _ => fresh_lc
    · cases h
  | .lc2 el tg src cd tg2 src2 cd2, X, c, x, C, h => by
    simp only [chk] at h
    split at h
    · rename_i x1 t i ifs a t2 i2 ifs2 a2 scope pos
      simp only [Bool.and_eq_true, decide_eq_true_eq] at h
      obtain ⟨⟨⟨⟨⟨⟨⟨⟨⟨⟨h0, h02⟩, hb⟩, ht⟩, ht2⟩, hs⟩, hs2⟩, ve⟩, he⟩, hc⟩, hc2⟩ := h
      subst h0 h02
      have T : ∀ (Y : Cx), CtxOk Y (c.blk scope) Φ lv → PTs Y ifs (tC Y.K Φ cd) := fun Y CY => by
        cases ifs with
        | nil => exact s_c0 hc
        | cons y r =>
          cases r with
          | nil =>
            simp only [Bool.and_eq_true, Bool.not_eq_true'] at hc
            exact s_c1 hc.1.2 ((snd Φ lv cd Y _ _ CY hc.2).pt hc.1.2 hc.1.1)
          | cons _ _ => cases hc
      have T2 : ∀ (Y : Cx), CtxOk Y (c.blk scope) Φ lv → PTs Y ifs2 (tC Y.K Φ cd2) := fun Y CY => by
        cases ifs2 with
        | nil => exact s_c0 hc2
        | cons y r =>
          cases r with
          | nil =>
            simp only [Bool.and_eq_true, Bool.not_eq_true'] at hc2
            exact s_c1 hc2.1.2 ((snd Φ lv cd2 Y _ _ CY hc2.2).pt hc2.1.2 hc2.1.1)
          | cons _ _ => cases hc2
      have P := getLc2P C hb ht ht2 ((snd Φ lv src X c _ C hs).pi true t) (chk_head hs).2.2 (fun Y CY => (snd Φ lv src2 Y _ _ CY hs2).pi true t2) (chk_head hs2).2.2 (fun Y CY => (snd Φ lv el Y _ _ CY he).pe ve false) T T2
      exact .plain rfl rfl fun pk => fresh_pe (s_lc2 C P) fun _ _ _ _ => fresh_lc2
    · cases h
  | .rng a b, X, c, x, C, h => by
    simp only [chk] at h
    split at h
    · simp only [Bool.and_eq_true, decide_eq_true_eq] at h
      obtain ⟨⟨⟨⟨rfl, hg⟩, hn⟩, vb⟩, hb⟩ := h
      have B := (snd Φ lv b X c _ C hb).pe vb true
      exact ⟨(fun z => nomatch z), (fun z => nomatch z), (fun _ _ _ z => nomatch z), fun pk tg => s_pir1 C hg hn (chk_head hb).1 B, fun _ => s_prg1 C hg hn (chk_head hb).1 B⟩
    · simp only [Bool.and_eq_true, decide_eq_true_eq] at h
      obtain ⟨⟨⟨⟨⟨rfl, hg⟩, va⟩, ha⟩, vb⟩, hb⟩ := h
      have A := (snd Φ lv a X c _ C ha).pe va true
      have B := (snd Φ lv b X c _ C hb).pe vb true
      exact ⟨(fun z => nomatch z), (fun z => nomatch z), (fun _ _ _ z => nomatch z), fun pk tg => s_pir2 C hg (chk_head ha).1 (chk_head hb).1 A B va, fun _ => s_prg2 C hg (chk_head ha).1 (chk_head hb).1 A B va⟩
    · cases h
  | .dcp k v tg src cd, X, c, x, C, h => by
    simp only [chk] at h
    split at h
    · rename_i x1 y1 t i ifs a scope pos
      simp only [Bool.and_eq_true, decide_eq_true_eq] at h
      obtain ⟨⟨⟨⟨⟨⟨⟨⟨h0, hb⟩, ht⟩, hs⟩, vk⟩, hk⟩, vv⟩, hv⟩, hc⟩ := h
      subst h0
      have T : ∀ (Y : Cx), CtxOk Y (c.blk scope) Φ lv → PTs Y ifs (tC Y.K Φ cd) := fun Y CY => by
        cases ifs with
        | nil => exact s_c0 hc
        | cons y r =>
          cases r with
          | nil =>
            simp only [Bool.and_eq_true, Bool.not_eq_true'] at hc
            exact s_c1 hc.1.2 ((snd Φ lv cd Y _ _ CY hc.2).pt hc.1.2 hc.1.1)
          | cons _ _ => cases hc
      have P : DcP X c Φ k v tg src cd x1 y1 t i ifs scope := ⟨(snd Φ lv src X c _ C hs).pi true t, by rw [C.N, C.sc]; exact blkOk_by hb, fun s H A cl fp => s_tg (C.blk s H scope cl A fp) tg t ht, fun s H A cl fp => T _ (C.blk s H scope cl A fp),
        fun s H A cl fp => (snd Φ lv k _ _ _ (C.blk s H scope cl A fp) hk).pe vk false, fun s H A cl fp => (snd Φ lv v _ _ _ (C.blk s H scope cl A fp) hv).pe vv false, (chk_head hs).2.2⟩
      exact .plain rfl rfl fun pk => s_dcp C P
    · cases h
  | .maxd a k, X, c, x, C, h => by
    simp only [chk] at h
    split at h
    · simp only [Bool.and_eq_true, decide_eq_true_eq] at h
      obtain ⟨⟨⟨⟨⟨rfl, rfl⟩, rfl⟩, hg⟩, va⟩, ha⟩ := h
      exact .plain rfl rfl fun pk => s_maxd C rfl rfl hg (chk_head ha).1 ((snd Φ lv a X c _ C ha).pe va true)
    · cases h
  | .get a k z, X, c, x, C, h => by
    simp only [chk] at h
    split at h
    · rename_i o m ap y w cp
      simp only [Bool.and_eq_true, decide_eq_true_eq] at h
      obtain ⟨⟨⟨⟨⟨⟨⟨⟨rfl, hl⟩, va⟩, ha⟩, vk⟩, hk⟩, vz⟩, hz⟩, ho⟩ := h
      have ho : ∃ n p, o = .Name n p := by
        cases o <;> first | exact ⟨_, _, rfl⟩ | (cases ho)
      exact .plain rfl rfl fun pk => s_get C rfl hl ho (chk_head hk).1 (chk_head hz).1 (s_o C ha ((snd Φ lv a X c _ C ha).pe va true)) ((snd Φ lv k X c _ C hk).pe vk true) ((snd Φ lv z X c _ C hz).pe vz false)
    · cases h
theorem snds (Φ : List Fn) (lv : Nat) : ∀ (es : Es) (X : Cx) (c : Ck) (xs : List Expr), CtxOk X c Φ lv → chks c es xs = true → ∀ pk, PA X xs (tA X.K Φ pk es)
  | .nil, X, c, xs, C, h, pk => by
    simp only [chks, List.isEmpty_iff] at h
    subst h
    exact s_nil
  | .cons e r, X, c, xs, C, h, pk => by
    cases xs with
    | nil => simp only [chks] at h; cases h
    | cons x xs =>
      simp only [chks, Bool.and_eq_true] at h
      exact s_cons (chk_head h.1.2).1 ((snd Φ lv e X c _ C h.1.2).pe h.1.1 pk) (snds Φ lv r X c _ C h.2 pk)
end
end
end Dv
end
section
set_option linter.all false
set_option maxRecDepth 100000
set_option autoImplicit false
set_option maxHeartbeats 4000000
/-! Dv13: every checked statement is sound. -/
namespace Dv
open PySem PySem.Spec PyProof.Rows L2
section
variable {K : PySem.W.Frag} {G0 G G1 G2 : Gh} {H0 H H1 H2 : Hp} {σ : St} {ρ : List Slot} {g g' : GS} {En : Ends}
/-- what is neither the def's own nor anybody's stays -/
def Grw (G : Gh) (H : Hp) (G' : Gh) (H' : Hp) : Prop := ∀ a o, H a = some o → a ∉ G.own → H' a = some o ∧ a ∉ G'.own
theorem Grw.refl : Grw G H G H := fun _ _ h n => ⟨h, n⟩
theorem Grw.trans (a : Grw G H G1 H1) (b : Grw G1 H1 G2 H2) : Grw G H G2 H2 := fun c o h n => let z := a c o h n; b c o z.1 z.2
theorem Rel.grw (r : Rel K G0 H0 G σ H ρ g) (s : Stq K G H H1 g') : Grw G H G H1 := fun a o h n => ⟨s.st a o h fun z => n (r.wo a z), n⟩
/-- what is wanted behind a statement, by how it ended -/
def FlOk (K : PySem.W.Frag) (G0 : Gh) (H0 : Hp) (G : Gh) (H : Hp) (D : Ends) : Fl → GS → Prop
  | .nx ρ', g' => ∀ G' σ' H', Grw G H G' H' → Rel K G0 H0 G' σ' H' ρ' g' → D.nx σ' H'
  | .bk ρ', g' => ∀ G' σ' H', Grw G H G' H' → Rel K G0 H0 G' σ' H' ρ' g' → D.bk σ' H'
  | .ct ρ', g' => ∀ G' σ' H', Grw G H G' H' → Rel K G0 H0 G' σ' H' ρ' g' → D.ct σ' H'
  | .rt d, g' => ∀ v H', Stq K G0 H0 H' g' → Dr K G0 H' v d → D.rt v H'
theorem FlOk.from {fl : Fl} (k : Grw G H G1 H1) (h : FlOk K G0 H0 G H En fl g) : FlOk K G0 H0 G1 H1 En fl g := by
  cases fl with
  | nx ρ' => exact fun G' σ' H' k' => h G' σ' H' (k.trans k')
  | bk ρ' => exact fun G' σ' H' k' => h G' σ' H' (k.trans k')
  | ct ρ' => exact fun G' σ' H' k' => h G' σ' H' (k.trans k')
  | rt d => exact h
def tS (K : PySem.W.Frag) (Φ : List Fn) (b : S) : TS := fun D σ H => ∃ G0 H0 G ρ g g0 fl g', GsOk K G0 H0 g0 ∧ Rel K G0 H0 G σ H ρ g ∧ ex Φ b ρ g = some (fl, g') ∧ FlOk K G0 H0 G H D fl g'
/-- the pool as the def's caller sees it -/
theorem Rel.gs0 {g0 : GS} (r : Rel K G0 H0 G σ H ρ g) (q0 : GsOk K G0 H0 g0) : GsOk K G0 H g := by
  have q := r.gs
  obtain ⟨pl⟩ := g
  obtain ⟨pl0⟩ := g0
  cases pl with
  | none => exact r.pl.symm.trans q
  | some w =>
    obtain ⟨rows, at_⟩ := w
    obtain ⟨p, r', c, h1, h2, h3, h4, h5, h6, h7, h8, h9, h10⟩ := q
    cases pl0 with
    | none =>
      have q0 : G0.pl = none := q0
      rw [r.pl, q0] at h1; cases h1
    | some w0 =>
      obtain ⟨rows0, at0⟩ := w0
      obtain ⟨p', r'', c', k1, k2, k3, k4, k5, k6, k7, k8⟩ := q0
      rw [r.pl, k1] at h1
      cases h1
      exact ⟨p, r', c, k1, h2, h3, h4, k5, k6, k7, k8⟩
theorem Rel.stq0 {g0 : GS} (r : Rel K G0 H0 G σ H ρ g) (q0 : GsOk K G0 H0 g0) : Stq K G0 H0 H g := ⟨r.st0, r.gs0 q0, fun a z => r.ok.dom a (r.sub a z)⟩
theorem Rel.dr0 (r : Rel K G0 H0 G σ H ρ g) {v : V} {d : D} (h : Dr K G H v d) : Dr K G0 H v d := h.mono (fun a o e n => ⟨e, fun z => n (r.sub a z)⟩) r.pl.symm
theorem Rel.drA0 (r : Rel K G0 H0 G σ H ρ g) {v : List V} {d : List Dv.D} (h : DrA K G H v d) : DrA K G0 H v d := h.mono (fun a o e n => ⟨e, fun z => n (r.sub a z)⟩) r.pl.symm
theorem Rel.none0 (r : Rel K G0 H0 G σ H ρ g) {a : Addr} (h : H0 a = none) : a ∉ G0.own := fun z => by
  obtain ⟨o, e, _⟩ := r.ok0.dom a z
  rw [h] at e; cases e
theorem Rel.fresh0 (r : Rel K G0 H0 G σ H ρ g) {a : Addr} (h : H a = none) : H0 a = none := by
  cases q : H0 a with
  | none => rfl
  | some u =>
    by_cases hw : a ∈ G0.wr
    · obtain ⟨u', e', _⟩ := r.ok.dom a (r.sub a (r.ok0.wo a hw))
      rw [h] at e'; cases e'
    · rw [r.st0 a u q hw] at h; cases h
/-- what a return gives -/
theorem Rel.ret (r : Rel K G0 H0 G σ H ρ g) {v : V} {d : Dv.D} (h : Dl true K H0 G H v d) : Dr K G0 H v d := by
  rcases h with h | ⟨_, a, vs, ds, rfl, rfl, h1, h2, h3, h4⟩
  · exact r.dr0 h
  · exact .lst h1 (r.none0 h4) (r.drA0 h2)

theorem dr_id (hp : G1.pl = G.pl) (ho : ∀ a, a ∉ G.own → a ∉ G1.own) (hh : ∀ a o, H a = some o → a ∉ G.own → H1 a = some o) : (∀ {v : V} {d : D}, Dr K G H v d → Dr K G1 H1 v d) ∧ (∀ {v : List V} {d : List D}, DrA K G H v d → DrA K G1 H1 v d) :=
  ⟨fun h => h.mono (fun a o e n => ⟨hh a o e n, ho a n⟩) hp, fun h => h.mono (fun a o e n => ⟨hh a o e n, ho a n⟩) hp⟩
/-- a name takes a new object of its own -/
def Gh.addL (G : Gh) (a : Addr) : Gh := { G with own := a :: G.own, ls := a :: G.ls }
theorem Grw.addL {a : Addr} {o : HO} (ha : H a = none) : Grw G H (G.addL a) (upd H a o) := fun b u e n => by
  have hb : b ≠ a := fun z => by subst z; rw [ha] at e; cases e
  exact ⟨by rw [upd_ne hb]; exact e, fun z => (List.mem_cons.mp z).elim hb n⟩
theorem Rel.setO {i : Nat} {a : Addr} {o : HO} {s : Slot} {d : D} (r : Rel K G0 H0 G σ H ρ g) (ha : H a = none) (w : OwnO K G H o s d) : Rel K G0 H0 (G.addL a) (σ.set i (some (.ref a))) (upd H a o) (ρ.set i s) g := by
  have n0 := r.fresh0 ha
  have s1 : Stq K G H (upd H a o) g := r.refl.new ha
  have ro := r.opened ha s1 upd_same w.nt
  have rl : Rel K G0 H0 (G.addL a) σ (upd H a o) ρ g := by
    refine ⟨⟨ro.ok.dom, ro.ok.wo, fun b hb => ?_⟩, ro.ok0, ro.st0, ro.sub, ro.nw, ro.wr, ro.pl, ro.len, fun j t e => ?_, ro.un, ro.gs⟩
    · rcases List.mem_cons.mp hb with rfl | hb
      · exact List.mem_cons_self
      · exact ro.ok.lo b hb
    · exact (ro.sl j t e).moved (G' := G.addL a) (fun _ _ e n => ⟨e, n⟩) rfl fun b u _ _ e hl _ => ⟨e, List.mem_cons_of_mem _ hl⟩
  refine rl.setS (.of rfl upd_same (w.mono (G' := G.addL a) (fun b o e n => Grw.addL ha b o e n) rfl) List.mem_cons_self n0) fun _ j t hj e hl hx => ?_
  obtain ⟨b, u, dd, e1, h1, h2, h3, h4⟩ := (r.sl j t e).own hl
  rw [← hx] at e1
  cases e1
  rw [ha] at h1; cases h1
theorem Rel.setL {i : Nat} {a : Addr} {vs : List V} {ds : List D} (r : Rel K G0 H0 G σ H ρ g) (ha : H a = none) (d : DrA K G H vs ds) : Rel K G0 H0 (G.addL a) (σ.set i (some (.ref a))) (upd H a (.lst vs)) (ρ.set i (.l ds)) g := r.setO ha (.l d)
/-- a list of the def's own is changed -/
theorem GsOk.ne {a : Addr} {o : HO} (q : GsOk K G0 H g) (ha : a ∉ G0.own) (hp : G.pl = G0.pl) (h : GsOk K G H g) : GsOk K G (upd H a o) g := by
  obtain ⟨pl⟩ := g
  cases pl with
  | none => exact h
  | some w =>
    obtain ⟨rows, at_⟩ := w
    obtain ⟨p, r', c, h1, h2, h3, h4, h5, h6, h7, h8⟩ := h
    obtain ⟨p', r'', c', k1, k2, k3, k4, k5, k6, k7, k8⟩ := q
    rw [hp, k1] at h1
    cases h1
    have n : ∀ b, b ∈ G0.own → b ≠ a := fun b hb z => ha (by rw [← z]; exact hb)
    exact ⟨p, r', c, hp.trans k1, by rw [upd_ne (n _ k5)]; exact h2, by rw [upd_ne (n _ k6)]; exact h3, by rw [upd_ne (n _ k7)]; exact h4, h5, h6, h7, h8⟩
theorem Rel.updO {g0 : GS} {i : Nat} {a : Addr} {o o' : HO} {s s' : Slot} {d' : D} (q0 : GsOk K G0 H0 g0) (r : Rel K G0 H0 G σ H ρ g) (hs : ρ[i]? = some s) (hsl : s.isL = true) (hσ : (σ[i]?).getD none = some (.ref a)) (h : H a = some o) (hl : a ∈ G.ls) (n0 : H0 a = none) (w : OwnO K G H o' s' d') :
    Rel K G0 H0 G σ (upd H a o') (ρ.set i s') g := by
  have ao := r.ok.lo a hl
  have k : ∀ b u, H b = some u → b ∉ G.own → (L2.upd H a o') b = some u ∧ b ∉ G.own := fun b u e n => ⟨by rw [upd_ne fun z => n (by rw [z]; exact ao)]; exact e, n⟩
  have hi : i < ρ.length := (List.getElem?_eq_some_iff.mp hs).1
  refine ⟨⟨fun b hb => ?_, r.ok.wo, r.ok.lo⟩, r.ok0, fun b u e n => ?_, r.sub, r.nw, r.wr, r.pl, by rw [List.length_set]; exact r.len, fun j t e => ?_, fun j k t u e1 e2 l1 l2 hjk => ?_, (r.gs0 q0).ne (r.none0 n0) r.pl r.gs⟩
  · by_cases hb2 : b = a
    · subst hb2; exact ⟨_, upd_same, w.nt⟩
    · obtain ⟨u, e, n⟩ := r.ok.dom b hb
      exact ⟨u, by rw [upd_ne hb2]; exact e, n⟩
  · rw [upd_ne fun z => by rw [z, n0] at e; cases e]
    exact r.st0 b u e n
  · by_cases hij : i = j
    · subst hij
      rw [List.getElem?_set_self hi] at e
      cases e
      exact .of hσ upd_same (w.mono k rfl) hl n0
    · rw [List.getElem?_set_ne hij] at e
      refine (r.sl j t e).moved k rfl fun b u ex il hb hl' h4 => ⟨?_, hl'⟩
      have hne := r.un i j _ _ hs e hsl il hij
      rw [hσ, ex] at hne
      rw [upd_ne fun z => hne (by rw [z])]
      exact hb
  · have back : ∀ {m : Nat} {q : Slot}, (ρ.set i s')[m]? = some q → q.isL = true → ∃ q', ρ[m]? = some q' ∧ q'.isL = true := fun {m q} e l => by
      by_cases him : i = m
      · subst him; exact ⟨_, hs, hsl⟩
      · rw [List.getElem?_set_ne him] at e; exact ⟨q, e, l⟩
    obtain ⟨t', e1', l1'⟩ := back e1 l1
    obtain ⟨u', e2', l2'⟩ := back e2 l2
    exact r.un j k t' u' e1' e2' l1' l2' hjk
theorem Rel.updL {g0 : GS} {i : Nat} {a : Addr} {vs ws : List V} {xs ds : List D} (q0 : GsOk K G0 H0 g0) (r : Rel K G0 H0 G σ H ρ g) (hs : ρ[i]? = some (.l xs)) (hσ : (σ[i]?).getD none = some (.ref a)) (h : H a = some (.lst vs)) (hl : a ∈ G.ls) (n0 : H0 a = none) (d : DrA K G H ws ds) :
    Rel K G0 H0 G σ (upd H a (.lst ws)) (ρ.set i (.l ds)) g := r.updO q0 hs rfl hσ h hl n0 (.l d)
theorem Grw.updL {a : Addr} {o : HO} (h : a ∈ G.own) : Grw G H G (upd H a o) := fun b u e n => ⟨by rw [upd_ne fun z => n (by rw [z]; exact h)]; exact e, n⟩
/-- a list of the def's own becomes data -/
def Gh.cut (G : Gh) (a : Addr) : Gh := { G with own := G.own.filter (· ≠ a), ls := G.ls.filter (· ≠ a) }
theorem Gh.cut_own {a b : Addr} : b ∈ (G.cut a).own ↔ b ∈ G.own ∧ b ≠ a := by
  show b ∈ G.own.filter _ ↔ _
  rw [List.mem_filter]; simp
theorem Gh.cut_ls {a b : Addr} : b ∈ (G.cut a).ls ↔ b ∈ G.ls ∧ b ≠ a := by
  show b ∈ G.ls.filter _ ↔ _
  rw [List.mem_filter]; simp
/-- the object as data: a dict is locked -/
def frzO : HO → Obj → HO
  | .lst xs, _ => .lst xs
  | o, od => .frz od o
theorem Rel.frz {g0 : GS} {i : Nat} {s : Slot} (q0 : GsOk K G0 H0 g0) (r : Rel K G0 H0 G σ H ρ g) (hs : ρ[i]? = some s) (hsl : s.isL = true) : ∃ a o d, (σ[i]?).getD none = some (.ref a) ∧ H a = some o ∧ OwnO K G H o s d ∧ ∀ od, ∃ G', Grw G H G' (upd H a (frzO o od)) ∧ Rel K G0 H0 G' σ (upd H a (frzO o od)) (ρ.set i (.v d)) g := by
  obtain ⟨a, o, d, hσ, h, w, hl, n0⟩ := (r.sl i _ hs).own hsl
  refine ⟨a, o, d, hσ, h, w, fun od => ?_⟩
  have ao := r.ok.lo a hl
  have hi : i < ρ.length := (List.getElem?_eq_some_iff.mp hs).1
  have k : ∀ b u, H b = some u → b ∉ G.own → (L2.upd H a (frzO o od)) b = some u ∧ b ∉ (G.cut a).own := fun b u e n => ⟨by rw [upd_ne fun z => n (by rw [z]; exact ao)]; exact e, fun z => n (Gh.cut_own.mp z).1⟩
  have wr : ∀ b ∈ G.wr, b ∈ (G.cut a).own := fun b hb => Gh.cut_own.mpr ⟨r.wo b hb, fun z => r.nwr n0 (by rw [← z]; exact hb)⟩
  have nc : a ∉ (G.cut a).own := fun z => (Gh.cut_own.mp z).2 rfl
  refine ⟨G.cut a, k, ⟨fun b hb => ?_, wr, fun b hb => Gh.cut_own.mpr ⟨r.ok.lo b (Gh.cut_ls.mp hb).1, (Gh.cut_ls.mp hb).2⟩⟩, r.ok0, fun b u e n => ?_,
    fun b hb => Gh.cut_own.mpr ⟨r.sub b hb, fun z => r.none0 n0 (by rw [← z]; exact hb)⟩, fun b hb => r.nw b (Gh.cut_own.mp hb).1, r.wr, r.pl, by rw [List.length_set]; exact r.len, fun j t e => ?_, fun j k t u e1 e2 l1 l2 hjk => ?_, ?_⟩
  · obtain ⟨u, e, n⟩ := r.ok.dom b (Gh.cut_own.mp hb).1
    exact ⟨u, by rw [upd_ne (Gh.cut_own.mp hb).2]; exact e, n⟩
  · rw [upd_ne fun z => by rw [z, n0] at e; cases e]
    exact r.st0 b u e n
  · by_cases hij : i = j
    · subst hij
      rw [List.getElem?_set_self hi] at e
      cases e
      have w' := w.mono (G' := G.cut a) (H' := L2.upd H a (frzO o od)) k rfl
      refine ⟨.ref a, hσ, ?_⟩
      cases w with
      | l _ => exact (w'.dr nc).1 upd_same ⟨_, rfl⟩
      | k _ => exact (w'.dr nc).2 od upd_same fun _ z => nomatch z
      | t _ => exact (w'.dr nc).2 od upd_same fun _ z => nomatch z
    · rw [List.getElem?_set_ne hij] at e
      refine (r.sl j t e).moved k rfl fun b u ex il hb hl' h4 => ?_
      have hne := r.un i j _ _ hs e hsl il hij
      rw [hσ, ex] at hne
      have hba : b ≠ a := fun z => hne (by rw [z])
      exact ⟨by rw [upd_ne hba]; exact hb, Gh.cut_ls.mpr ⟨hl', hba⟩⟩
  · have back : ∀ {m : Nat} {q : Slot}, (ρ.set i (.v d))[m]? = some q → q.isL = true → ρ[m]? = some q := fun {m q} e l => by
      by_cases him : i = m
      · subst him
        rw [List.getElem?_set_self hi] at e
        cases e; cases l
      · rwa [List.getElem?_set_ne him] at e
    exact r.un j k t u (back e1 l1) (back e2 l2) l1 l2 hjk
  · have q := r.gs0 q0
    have q' := r.gs
    obtain ⟨pl⟩ := g
    cases pl with
    | none => exact q'
    | some w =>
      obtain ⟨rows, at_⟩ := w
      obtain ⟨p, r', c, h1, h2, h3, h4, h5, h6, h7, h8⟩ := q'
      obtain ⟨p', r'', c', k1, k2, k3, k4, k5, k6, k7, k8⟩ := q
      rw [r.pl, k1] at h1
      cases h1
      have n : ∀ b, b ∈ G0.own → b ≠ a := fun b hb z => r.none0 n0 (by rw [← z]; exact hb)
      exact ⟨p, r', c, r.pl.trans k1, by rw [upd_ne (n _ k5)]; exact h2, by rw [upd_ne (n _ k6)]; exact h3, by rw [upd_ne (n _ k7)]; exact h4, Gh.cut_own.mpr ⟨h5, n _ k5⟩, Gh.cut_own.mpr ⟨h6, n _ k6⟩, Gh.cut_own.mpr ⟨h7, n _ k7⟩, h8⟩
end

/-! ### names that are stored -/
section
variable {X : Cx} {c : Ck} {Φ : List Fn} {lv : Nat} {pos py : Pos}
theorem sw_plain {v t : Expr} {l : Nat} {env : Env} (h : noComp v = true) : swapsWith v (some t) l env = pure false := by
  cases v <;> first | rfl | (simp [noComp] at h)
theorem lclB_is {sc : Scope} {x : Str} (h : lclB sc x = true) : sc.names.lookup x = some .local := by
  unfold lclB at h
  split at h
  · assumption
  · cases h
theorem swB_t {sc : Scope} {y : Str} {p : Pos} {scope : Scope} {elt : Expr} {gs : List Comprehension} {l : Nat} {env : Env} (hk : env.scope.kind = .function) (he : env.scope = sc) (h : swB sc y py scope p = true) : swapsWith (.ListComp elt gs scope p) (some (.Name y py)) l env = pure true := by
  unfold swB at h
  simp only [Bool.and_eq_true, Bool.not_eq_true'] at h
  exact sw_true hk (by rw [he]; exact lclB_is h.1.1) h.1.2 h.2
theorem swB_f {sc : Scope} {y : Str} {p : Pos} {scope : Scope} {elt : Expr} {gs : List Comprehension} {l : Nat} {env : Env} (hk : env.scope.kind = .function) (he : env.scope = sc) (h : swB sc y py scope p = false) : swapsWith (.ListComp elt gs scope p) (some (.Name y py)) l env = pure false := by
  have hb : env.blockKind = .function := by unfold Env.blockKind; rw [hk]; rfl
  have e : (env.kindOf y == some .local) = lclB sc y := by
    show (env.scope.names.lookup y == some .local) = _
    rw [he]
    unfold lclB
    split
    · rename_i q; rw [q]; rfl
    · rename_i q
      cases hz : sc.names.lookup y with
      | none => rfl
      | some k => cases k <;> first | rfl | exact absurd hz q
  have : swapsWith (.ListComp elt gs scope p) (some (.Name y py)) l env = pure (env.blockKind == .function && env.kindOf y == some .local && py.line == p.line && !(scope.names.any fun (n, k) => n == y && (k == .local || k == .cell))) := rfl
  rw [this, hb, e]
  unfold swB at h
  rw [show ((ScopeKind.function == ScopeKind.function) = true) from rfl, Bool.true_and, h]
theorem nmB_parts {i : Nat} {x : Str} (h : nmB c i x = true) : c.N[i]? = some x ∧ locB c.sc x = true ∧ c.fnB x = true := by
  unfold nmB at h
  simp only [Bool.and_eq_true, decide_eq_true_eq] at h
  exact ⟨h.1.1, h.1.2, h.2⟩
theorem lcP_of {el : E} {tg : Tg} {src cd : E} {x t i : Expr} {ifs : List Expr} {a : Int} {scope : Scope} {p : Pos} (C : CtxOk X c Φ lv) (h : chk c (.lc el tg src cd) (.ListComp x [⟨t, i, ifs, a⟩] scope p) = true) : a = 0 ∧ LcP X c Φ el tg src cd x t i ifs scope := by
  simp only [chk, Bool.and_eq_true, decide_eq_true_eq] at h
  obtain ⟨⟨⟨⟨⟨⟨h0, hb⟩, ht⟩, hs⟩, ve⟩, he⟩, hc⟩ := h
  refine ⟨h0, getLcP C hb ht ((snd Φ lv src X c _ C hs).pi true t) (chk_head hs).2.2 (fun Y CY => (snd Φ lv el Y _ _ CY he).pe ve false) fun Y CY => ?_⟩
  cases ifs with
  | nil => exact s_c0 hc
  | cons y r =>
    cases r with
    | nil =>
      simp only [Bool.and_eq_true, Bool.not_eq_true'] at hc
      exact s_c1 hc.1.2 ((snd Φ lv cd Y _ _ CY hc.2).pt hc.1.2 hc.1.1)
    | cons _ _ => cases hc
end
end Dv
end
section
set_option linter.all false
set_option maxRecDepth 100000
set_option autoImplicit false
set_option maxHeartbeats 4000000
/-! Dv14: every checked statement is sound. -/
namespace Dv
open PySem PySem.Spec PyProof.Rows L2
section
variable {X : Cx} {c : Ck} {Φ : List Fn} {lv : Nat} {pos py : Pos}
theorem lc2P_of {el : E} {tg : Tg} {src cd : E} {tg2 : Tg} {src2 cd2 : E} {x t i : Expr} {ifs : List Expr} {a : Int} {t2 i2 : Expr} {ifs2 : List Expr} {a2 : Int} {scope : Scope} {p : Pos} (C : CtxOk X c Φ lv)
    (h : chk c (.lc2 el tg src cd tg2 src2 cd2) (.ListComp x [⟨t, i, ifs, a⟩, ⟨t2, i2, ifs2, a2⟩] scope p) = true) : a = 0 ∧ a2 = 0 ∧ Lc2P X c Φ el tg src cd tg2 src2 cd2 x t i ifs t2 i2 ifs2 scope := by
  simp only [chk, Bool.and_eq_true, decide_eq_true_eq] at h
  obtain ⟨⟨⟨⟨⟨⟨⟨⟨⟨⟨h0, h02⟩, hb⟩, ht⟩, ht2⟩, hs⟩, hs2⟩, ve⟩, he⟩, hc⟩, hc2⟩ := h
  refine ⟨h0, h02, getLc2P C hb ht ht2 ((snd Φ lv src X c _ C hs).pi true t) (chk_head hs).2.2 (fun Y CY => (snd Φ lv src2 Y _ _ CY hs2).pi true t2) (chk_head hs2).2.2 (fun Y CY => (snd Φ lv el Y _ _ CY he).pe ve false) (fun Y CY => ?_) (fun Y CY => ?_)⟩
  · cases ifs with
    | nil => exact s_c0 hc
    | cons y r =>
      cases r with
      | nil =>
        simp only [Bool.and_eq_true, Bool.not_eq_true'] at hc
        exact s_c1 hc.1.2 ((snd Φ lv cd Y _ _ CY hc.2).pt hc.1.2 hc.1.1)
      | cons _ _ => cases hc
  · cases ifs2 with
    | nil => exact s_c0 hc2
    | cons y r =>
      cases r with
      | nil =>
        simp only [Bool.and_eq_true, Bool.not_eq_true'] at hc2
        exact s_c1 hc2.1.2 ((snd Φ lv cd2 Y _ _ CY hc2.2).pt hc2.1.2 hc2.1.1)
      | cons _ _ => cases hc2
theorem s_setF {i : Nat} {x : Str} {e : E} {v : Expr} (C : CtxOk X c Φ lv) (hk : c.sc.kind = .function) (hf : e.fresh = true) (h : setB c i x e v = true) : PS X (.Assign [.Name x py] v pos) (tAsg (tF X.K Φ e) (gName i)) := by
  unfold setB at h
  simp only [Bool.and_eq_true] at h
  obtain ⟨⟨hn, hv⟩, hc⟩ := h
  obtain ⟨n1, n2, n3⟩ := nmB_parts hn
  have hkX : X.env.scope.kind = .function := by rw [C.sc]; exact hk
  have PG' : PG X (.Name x py) (gName i) := pg_name C.nd (by rw [C.N]; exact n1) (by rw [C.sc]; exact locB_loc n2) (fnB_ok C n3)
  cases e with
  | lst es =>
    cases v with
    | List xs p => exact ps_asg (s_lst (snds Φ lv es X c _ C (by simpa only [chk] using hc) false)) PG' (by exact sw_plain (v := .List xs p) (t := .Name x py) (l := pos.line) (env := X.env) rfl) rfl rfl
    | _ => exact absurd hc (by simp [chk])
  | lc el tg src cd =>
    cases v with
    | ListComp y gs scope p =>
      match gs, hc with
      | [⟨t, it, ifs, a⟩], hc =>
        obtain ⟨rfl, P⟩ := lcP_of C hc
        cases hw : swB c.sc x py scope p with
        | true =>
          have hl : X.env.scope.names.lookup x = some .local := by
            unfold swB at hw
            simp only [Bool.and_eq_true] at hw
            rw [C.sc]; exact lclB_is hw.1.1
          exact (ps_setLc C.calm C.nd (by rw [C.N]; exact n1) hl (swB_t hkX C.sc hw) P.hi P.ok P.hg P.ht P.he (noSet_fold P.hs _)).imp fun D σ H q => lc_tF q
        | false => exact ps_asg (s_lc C P) PG' (swB_f (l := pos.line) hkX C.sc hw) rfl rfl
      | [], hc => exact absurd hc (by simp [chk])
      | _ :: _ :: _, hc => exact absurd hc (by simp [chk])
    | _ => exact absurd hc (by simp [chk])
  | lc2 el tg src cd tg2 src2 cd2 =>
    cases v with
    | ListComp y gs scope p =>
      match gs, hc with
      | [⟨t, it, ifs, a⟩, ⟨t2, it2, ifs2, a2⟩], hc =>
        obtain ⟨rfl, rfl, P⟩ := lc2P_of C hc
        cases hw : swB c.sc x py scope p with
        | true =>
          have hl : X.env.scope.names.lookup x = some .local := by
            unfold swB at hw
            simp only [Bool.and_eq_true] at hw
            rw [C.sc]; exact lclB_is hw.1.1
          have hv : ∀ j ∈ tg2.ixs, j ∈ (ownOf c (tg.ixs ++ tg2.ixs)).map (·.2) := fun j hj => by rw [own_ixs]; exact List.mem_append_right _ hj
          exact (ps_setLc2 C.calm C.nd (by rw [C.N]; exact n1) hl (swB_t hkX C.sc hw) P.hi P.ok hv P.hg P.ht P.hi2 P.hg2 P.ht2 P.he (noSet_fold P.hs _) (fun env => noSet_fold P.hs2 env)).imp fun D σ H q => by
            rw [own_ixs]
            exact lc2_tLc q
        | false => exact ps_asg (s_lc2 C P) PG' (swB_f (l := pos.line) hkX C.sc hw) rfl rfl
      | [], hc => exact absurd hc (by simp [chk])
      | [_], hc => exact absurd hc (by simp [chk])
      | _ :: _ :: _ :: _, hc => exact absurd hc (by simp [chk])
    | _ => exact absurd hc (by simp [chk])
  | _ => cases hf
/-- name = {..} on one line, the name a local -/
theorem ps_setDc {i : Nat} {y : Str} {py : Pos} {kx vx tg iter : Expr} {ifs : List Expr} {scope : Scope} {own : List (Str × Nat)} {pos spos : Pos} {wi : TI} {g : TG} {tt : TT} {tk tv : TE} (hc : X.calm = true) (hN : X.N.Nodup) (hy : X.N[i]? = some y) (hyl : X.env.scope.names.lookup y = some .local)
    (hsw : swapsWith (.DictComp kx vx [⟨tg, iter, ifs, 0⟩] scope pos) (some (.Name y py)) spos.line X.env = pure true) (hi : PI X tg iter wi) (ok : BlkOk X.N X.env.scope scope own)
    (hg : ∀ (s : Shared) (H : Hp) (C : Addr) (cl : List (Str × Addr)) (fp : List Addr), PG (X.blk s H scope (compEnvC scope cl C X.env) fp) tg g) (ht : ∀ (s : Shared) (H : Hp) (C : Addr) (cl : List (Str × Addr)) (fp : List Addr), PTs (X.blk s H scope (compEnvC scope cl C X.env) fp) ifs tt)
    (hk : ∀ (s : Shared) (H : Hp) (C : Addr) (cl : List (Str × Addr)) (fp : List Addr), PE (X.blk s H scope (compEnvC scope cl C X.env) fp) kx tk)
    (he : ∀ (s : Shared) (H : Hp) (C : Addr) (cl : List (Str × Addr)) (fp : List Addr), PE (X.blk s H scope (compEnvC scope cl C X.env) fp) vx tv) (hs : ∀ x, foldedSetIterable iter X.env x = pure x := by intro _; rfl) :
    PS X (.Assign [.Name y py] (.DictComp kx vx [⟨tg, iter, ifs, 0⟩] scope pos) spos) (tAsg (tDc wi g tt tk tv (own.map (·.2))) (gName i)) := by
  refine ⟨fun pins s σ H D I h => ?_⟩
  rw [exec_Assign_Name_used _ _ _ _ hsw]
  refine wpAny_bind (wpAny_standAt (wpAny_bind ?_))
  show wpAny _ X.A (do let _ ← comprehension (.DictComp kx vx [⟨tg, iter, ifs, 0⟩] scope pos) scope X.env (firstIterPos [⟨tg, iter, ifs, 0⟩] pos) newDict false (eval iter X.env) (some (assign (.Name y py) X.env))) _ _ s
  have h : tDc wi g tt tk tv (own.map (·.2)) σ H (fun x H1 => gName i x σ H1 D.nx) := h
  refine wpAny_bind (thn (dc_core (Qf := fun _ s' => SP X pins D .next s') hc hN I hi ok hg ht hk he hs h fun L C s' m H' I' q hn f => ?_) fun _ s' hq => wpAny_pure (wpAny_pure hq))
  show wpAny _ _ (assign (.Name y py) X.env (.ref L)) _ _ _
  refine wpAny_assign_Name (store_ok2 (v := V.ref L) I' hN hy (.inl hyl) rfl (fun s2 I2 ⟨a, sb, ha⟩ => ?_) (.inr hyl))
  obtain ⟨f0, f1, f2, f3, f4, f5⟩ := f
  have haC : C ≠ a := by
    rcases ha with z | z
    · rw [z]; exact f1
    · exact fun e => f4 y a z e.symm
  refine ⟨m, hn.sameBut sb haC, fun h3 sb3 => ?_⟩
  exact ⟨_, H', I2.turned (t' := s2.toks) (fun b o hb e => (sb3.2 b hb).trans e) f0 f1 f3 f4 f5, q⟩
/-- behind a statement an object is locked for good -/
theorem ps_sealN {st : Stmt} {t : TS} (h : PS X st t) : PS X st (fun D σ H => t { D with nx := fun σ' H' => ∃ d u, H' d = some u ∧ Mut (some u) ∧ ∀ od, D.nx σ' (upd H' d (.frz od u)) } σ H) := by
  refine ⟨fun pins s σ H D I hw => thn (h.run pins s σ H _ I hw) fun f s1 q => ?_⟩
  cases f with
  | next =>
    obtain ⟨σ', H', I', d, u, hd, mu, q⟩ := q
    obtain ⟨od, I2⟩ := I'.lock hd mu
    exact ⟨σ', _, I2, q od⟩
  | brk => exact q
  | cont => exact q
  | ret u => exact q
theorem swD_t {sc : Scope} {y : Str} {p : Pos} {scope : Scope} {kx vx : Expr} {gs : List Comprehension} {l : Nat} {env : Env} (hk : env.scope.kind = .function) (he : env.scope = sc) : swapsWith (.DictComp kx vx gs scope p) (some (.Name y py)) l env = pure (swB sc y py scope p) := by
  have hb : env.blockKind = .function := by unfold Env.blockKind; rw [hk]; rfl
  have e : (env.kindOf y == some .local) = lclB sc y := by
    show (env.scope.names.lookup y == some .local) = _
    rw [he]
    unfold lclB
    split
    · rename_i q; rw [q]; rfl
    · rename_i q
      cases hz : sc.names.lookup y with
      | none => rfl
      | some k => cases k <;> first | rfl | exact absurd hz q
  have : swapsWith (.DictComp kx vx gs scope p) (some (.Name y py)) l env = pure (env.blockKind == .function && env.kindOf y == some .local && py.line == p.line && !(scope.names.any fun (n, k) => n == y && (k == .local || k == .cell))) := rfl
  rw [this, hb, e]
  unfold swB
  rw [show ((ScopeKind.function == ScopeKind.function) = true) from rfl, Bool.true_and]
theorem dcP_of {k v : E} {tg : Tg} {src cd : E} {x y t i : Expr} {ifs : List Expr} {a : Int} {scope : Scope} {p : Pos} (C : CtxOk X c Φ lv) (h : chk c (.dcp k v tg src cd) (.DictComp x y [⟨t, i, ifs, a⟩] scope p) = true) : a = 0 ∧ DcP X c Φ k v tg src cd x y t i ifs scope := by
  simp only [chk, Bool.and_eq_true, decide_eq_true_eq] at h
  obtain ⟨⟨⟨⟨⟨⟨⟨⟨h0, hb⟩, ht⟩, hs⟩, vk⟩, hk⟩, vv⟩, hv⟩, hc⟩ := h
  have T : ∀ (Y : Cx), CtxOk Y (c.blk scope) Φ lv → PTs Y ifs (Dv.tC Y.K Φ cd) := fun Y CY => by
    cases ifs with
    | nil => exact s_c0 hc
    | cons y r =>
      cases r with
      | nil =>
        simp only [Bool.and_eq_true, Bool.not_eq_true'] at hc
        exact s_c1 hc.1.2 ((snd Φ lv cd Y _ _ CY hc.2).pt hc.1.2 hc.1.1)
      | cons _ _ => cases hc
  exact ⟨h0, (snd Φ lv src X c _ C hs).pi true t, by rw [C.N, C.sc]; exact blkOk_by hb, fun s H A cl fp => s_tg (C.blk s H scope cl A fp) tg t ht, fun s H A cl fp => T _ (C.blk s H scope cl A fp),
    fun s H A cl fp => (snd Φ lv k _ _ _ (C.blk s H scope cl A fp) hk).pe vk false, fun s H A cl fp => (snd Φ lv v _ _ _ (C.blk s H scope cl A fp) hv).pe vv false, (chk_head hs).2.2⟩
theorem tDc_mono {wi : TI} {g : TG} {tt : TT} {tk tv : TE} {vs : List Nat} {σ : St} {H : Hp} {Q Q' : VK} (hq : ∀ v H1, Q v H1 → Q' v H1) (hi : ∀ σ H (R R' : It → Hp → Prop), (∀ J H1, R J H1 → R' J H1) → wi σ H R → wi σ H R') (h : tDc wi g tt tk tv vs σ H Q) : tDc wi g tt tk tv vs σ H Q' :=
  hi σ H _ _ (fun J H1 z D hD => by
    obtain ⟨W, w0, st⟩ := z D hD
    exact ⟨W, w0, fun i m H w => (st i m H w).imp (fun ⟨a, b⟩ => ⟨a, hq _ _ b⟩) id⟩) h
theorem s_setE {i : Nat} {x : Str} {e : E} {v : Expr} (C : CtxOk X c Φ lv) (hk : c.sc.kind = .function) (h : setB c i x e v = true) : PS X (.Assign [.Name x py] v pos) (tAsg (tE X.K Φ false e) (gName i)) := by
  have h0 := h
  unfold setB at h
  simp only [Bool.and_eq_true] at h
  obtain ⟨⟨hn, hv⟩, hc⟩ := h
  obtain ⟨n1, n2, n3⟩ := nmB_parts hn
  have PG' : PG X (.Name x py) (gName i) := pg_name C.nd (by rw [C.N]; exact n1) (by rw [C.sc]; exact locB_loc n2) (fnB_ok C n3)
  cases hw : noComp v with
  | true => exact ps_asg ((snd Φ lv e X c _ C hc).pe hv false) PG' (by exact sw_plain (v := v) (t := .Name x py) (l := pos.line) (env := X.env) hw) rfl rfl
  | false =>
    by_cases hd : ∃ kx vx gs scope p, v = .DictComp kx vx gs scope p
    · obtain ⟨kx, vx, gs, scope, p, rfl⟩ := hd
      cases e with
      | dcp k v tg src cd =>
        match gs, hc with
        | [⟨t, it, ifs, a⟩], hc =>
          obtain ⟨rfl, P⟩ := dcP_of C hc
          have hkX : X.env.scope.kind = .function := by rw [C.sc]; exact hk
          cases hw : swB c.sc x py scope p with
          | true =>
            have hl : X.env.scope.names.lookup x = some .local := by
              unfold swB at hw
              simp only [Bool.and_eq_true] at hw
              rw [C.sc]; exact lclB_is hw.1.1
            refine (ps_sealN (ps_setDc C.calm C.nd (by rw [C.N]; exact n1) hl (by rw [swD_t hkX C.sc, hw]) P.hi P.ok P.hg P.ht P.hk P.hv (noSet_fold P.hs _))).imp fun D σ H q => ?_
            have q : tE X.K Φ false (.dcp k v tg src cd) σ H (fun x H1 => gName i x σ H1 D.nx) := q
            have z := dcp_tDc q
            show tDc _ _ _ _ _ ((ownOf c tg.ixs).map (·.2)) σ H _
            rw [own_ixs]
            exact tDc_mono (fun v H1 ⟨d, u, hv, h1, h2, h3⟩ => ⟨d, u, h1, h2, fun od => h3 od⟩) (fun σ H R R' f ⟨G0, H0, G, ρ, g, dd, xs, g', r, e1, e2, q⟩ => ⟨G0, H0, G, ρ, g, dd, xs, g', r, e1, e2, fun J H' s it => f _ _ (q J H' s it)⟩) z
          | false => exact ps_asg (s_dcp C P) PG' (by rw [show swapsWithSole [.Name x py] (.DictComp kx vx [⟨t, it, ifs, 0⟩] scope p) pos.line X.env = swapsWith (.DictComp kx vx [⟨t, it, ifs, 0⟩] scope p) (some (.Name x py)) pos.line X.env from rfl, swD_t hkX C.sc, hw]) rfl rfl
        | [], hc => exact absurd hc (by simp [chk])
        | _ :: _ :: _, hc => exact absurd hc (by simp [chk])
      | _ => exact absurd hc (by simp [chk])
    have fr : e.fresh = true ∧ (∀ ρ g d g', ev Φ false e ρ g = some (d, g') → ∃ xs, d = .list xs ∧ ev Φ false e ρ g = some (.list xs, g')) := by
      cases v with
      | ListComp y gs scope p =>
        cases e with
        | lc el tg src cd => exact ⟨rfl, fun _ _ _ _ => fresh_lc⟩
        | lc2 el tg src cd tg2 src2 cd2 => exact ⟨rfl, fun _ _ _ _ => fresh_lc2⟩
        | _ => exact absurd hc (by simp [chk])
      | SetComp y gs scope p => exact absurd hc (by cases e <;> simp [chk])
      | DictComp y z gs scope p => exact absurd ⟨_, _, _, _, _, rfl⟩ hd
      | _ => simp [noComp] at hw
    refine (s_setF C hk fr.1 h0).imp fun D σ H q => ?_
    obtain ⟨G0, H0, G, ρ, g, d, g', r, e1, q⟩ := q
    obtain ⟨xs, rfl, e'⟩ := fr.2 _ _ _ _ e1
    exact ⟨G0, H0, G, ρ, g, xs, g', r, e', fun a vs H1 s1 ha d1 _ => q _ _ (s1.new ha) (.of (Dr.newL s1.dom ha d1))⟩
/-! ### from the evaluator to the rules -/
theorem t_setE {i : Nat} {e : E} {D : Ends} {σ : St} {H : Hp} (h : tS X.K Φ (.asg (.n i) e) D σ H) : tAsg (tE X.K Φ false e) (gName i) D σ H := by
  obtain ⟨G0, H0, G, ρ, g, g0, fl, g', q0, r, e1, q⟩ := h
  simp only [ex, Tg.asg, Option.bind_eq_bind, Option.bind_eq_some_iff, Option.pure_def, Option.some.injEq, Prod.exists, Prod.mk.injEq] at e1
  obtain ⟨d, g1, e2, ρ', rfl, rfl, rfl⟩ := e1
  exact ⟨G0, H0, G, ρ, g, d, g1, r, e2, fun v H1 s1 d1 => q G _ H1 (r.grw s1) ((r.stq s1).setV d1.strict)⟩
theorem t_asg {tg : Tg} {e : E} {D : Ends} {σ : St} {H : Hp} (h : tS X.K Φ (.asg tg e) D σ H) : tAsg (tE X.K Φ false e) (tG X.K tg) D σ H := by
  obtain ⟨G0, H0, G, ρ, g, g0, fl, g', q0, r, e1, q⟩ := h
  simp only [ex, Option.bind_eq_bind, Option.bind_eq_some_iff, Option.pure_def, Option.some.injEq, Prod.exists, Prod.mk.injEq] at e1
  obtain ⟨d, g1, e2, ρ', e3, rfl, rfl⟩ := e1
  exact ⟨G0, H0, G, ρ, g, d, g1, r, e2, fun v H1 s1 d1 => ⟨G0, H0, G, ρ, g1, d, ρ', r.stq s1, d1.strict, e3, fun σ' r' _ _ => q G σ' H1 (r.grw s1) r'⟩⟩
theorem t_own {i : Nat} {e : E} {D : Ends} {σ : St} {H : Hp} (h : tS X.K Φ (.own i e) D σ H) : tAsg (tF X.K Φ e) (gName i) D σ H := by
  obtain ⟨G0, H0, G, ρ, g, g0, fl, g', q0, r, e1, q⟩ := h
  simp only [ex, Option.bind_eq_bind, Option.bind_eq_some_iff, Prod.exists] at e1
  obtain ⟨d, g1, e2, e3⟩ := e1
  split at e3
  · rename_i xs
    cases e3
    refine ⟨G0, H0, G, ρ, g, xs, _, r, e2, fun a vs H1 s1 ha d1 _ => ?_⟩
    exact q (G.addL a) _ _ ((r.grw s1).trans (Grw.addL ha)) ((r.stq s1).setL ha d1)
  · cases e3
theorem t_par {i j : Nat} {a b : E} {D : Ends} {σ : St} {H : Hp} (h : tS X.K Φ (.par i j a b) D σ H) : tPar i j (tA X.K Φ false (.cons a (.cons b .nil))) D σ H := by
  obtain ⟨G0, H0, G, ρ, g, g0, fl, g', q0, r, e1, q⟩ := h
  simp only [ex, Option.bind_eq_bind, Option.bind_eq_some_iff, Option.pure_def, Option.some.injEq, Prod.exists, Prod.mk.injEq] at e1
  obtain ⟨x, g1, e2, y, g2, e3, rfl, rfl⟩ := e1
  refine ⟨G0, H0, G, ρ, g, [x, y], g2, r, ?_, fun vs H1 s1 d1 => ?_⟩
  · simp only [evs, e2, e3, Option.bind_eq_bind, Option.bind_some, Option.pure_def]
  · obtain ⟨v, w, rfl, d2, d3⟩ := d1.two
    exact ⟨v, w, rfl, q G _ H1 (r.grw s1) (((r.stq s1).setV d2.strict).setV d3.strict)⟩
theorem sl_at {K : PySem.W.Frag} {G0 G : Gh} {H0 H : Hp} {σ : St} {ρ : List Slot} {g : GS} {i : Nat} {v : V} (h : (σ[i]?).getD none = some v) : σ[i]? = some (some v) := by
  cases hσ : σ[i]? with
  | none => rw [hσ] at h; cases h
  | some u => rw [hσ] at h; rw [← h]; rfl
theorem t_app {i : Nat} {e : E} {D : Ends} {σ : St} {H : Hp} (h : tS X.K Φ (.app i e) D σ H) : tDrop (tBM X.K "list" rAppend (tVar i) (tCons (tE X.K Φ false e) tNil)) D σ H := by
  obtain ⟨G0, H0, G, ρ, g, g0, fl, g', q0, r, e1, q⟩ := h
  simp only [ex] at e1
  split at e1
  · rename_i xs hs
    simp only [Option.bind_eq_bind, Option.bind_eq_some_iff, Prod.exists] at e1
    obtain ⟨d, g1, e2, e3⟩ := e1
    obtain ⟨hl, e4⟩ := lenOk_some e3
    cases e4
    obtain ⟨a, vs, hσ, ha, da, hls, n0⟩ := r.sl i _ hs
    refine ⟨.ref a, sl_at (K := X.K) (G0 := G0) (G := G) (H0 := H0) (H := H) (ρ := ρ) (g := g) hσ, .inl ⟨rfl, vs, .of ha⟩, G0, H0, G, ρ, g, d, _, r, e2, fun v H1 s1 d1 => ?_⟩
    have h1 : H1 a = some (.lst vs) := s1.st a _ ha (r.nwr n0)
    refine ⟨a, vs, v, rfl, rfl, h1, ?_, ?_⟩
    · rw [da.length]; exact Nat.lt_of_lt_of_le (Nat.lt_succ_self _) (Nat.le_trans hl lim_le)
    · exact q G σ _ ((r.grw s1).trans (Grw.updL (r.ok.lo a hls))) ((r.stq s1).updL q0 hs hσ h1 hls n0 ((da.stp r.wo s1.st).append (.cons d1.strict .nil)))
  · cases e1
theorem t_ext {i : Nat} {e : E} {D : Ends} {σ : St} {H : Hp} (h : tS X.K Φ (.ext i e) D σ H) : tDrop (tBM X.K "list" rExtend (tVar i) (tCons (tE X.K Φ true e) tNil)) D σ H := by
  obtain ⟨G0, H0, G, ρ, g, g0, fl, g', q0, r, e1, q⟩ := h
  simp only [ex] at e1
  split at e1
  · rename_i xs hs
    simp only [Option.bind_eq_bind, Option.bind_eq_some_iff, Prod.exists] at e1
    obtain ⟨d, g1, e2, e3⟩ := e1
    split at e3
    · rename_i ys
      obtain ⟨hl, e4⟩ := lenOk_some e3
      cases e4
      obtain ⟨a, vs, hσ, ha, da, hls, n0⟩ := r.sl i _ hs
      refine ⟨.ref a, sl_at (K := X.K) (G0 := G0) (G := G) (H0 := H0) (H := H) (ρ := ρ) (g := g) hσ, .inl ⟨rfl, vs, .of ha⟩, G0, H0, G, ρ, g, _, _, r, e2, fun v H1 s1 d1 => ?_⟩
      have h1 : H1 a = some (.lst vs) := s1.st a _ ha (r.nwr n0)
      obtain ⟨b, ws, rfl, hb, db⟩ := d1.list
      refine ⟨a, b, vs, ws, rfl, rfl, h1, hb, ?_, ?_⟩
      · rw [da.length, db.length]; exact Nat.le_trans hl lim_le
      · exact q G σ _ ((r.grw s1).trans (Grw.updL (r.ok.lo a hls))) ((r.stq s1).updL q0 hs hσ h1 hls n0 ((da.stp r.wo s1.st).append db))
    · cases e3
  · cases e1
theorem t_pop0 {j i : Nat} {D : Ends} {σ : St} {H : Hp} (h : tS X.K Φ (.pop0 j i) D σ H) : tAsg (tBM X.K "list" rPopAt (tVar i) (tCons (L2.tC (.int 0)) tNil)) (gName j) D σ H := by
  obtain ⟨G0, H0, G, ρ, g, g0, fl, g', q0, r, e1, q⟩ := h
  simp only [ex] at e1
  split at e1
  · rename_i x xs hs
    split at e1
    · cases e1
    · cases e1
      obtain ⟨a, vs, hσ, ha, da, hls, n0⟩ := r.sl i _ hs
      cases da with
      | cons dx dr =>
        rename_i v vs
        refine ⟨.ref a, sl_at (K := X.K) (G0 := G0) (G := G) (H0 := H0) (H := H) (ρ := ρ) (g := g) hσ, .inl ⟨rfl, _, .of ha⟩, a, v :: vs, 0, 0, v, rfl, rfl, ha, by decide, by decide, ?_, rfl, ?_⟩
        · unfold seqIndex?; simp
        · have r1 := r.updL q0 hs hσ ha hls n0 (ws := vs) dr
          have hao := r.ok.lo a hls
          exact q G _ _ (Grw.updL hao) (r1.setV (dx.mono (fun b o e n => ⟨by rw [upd_ne fun z => n (by rw [z]; exact hao)]; exact e, n⟩) rfl))
  · cases e1
theorem t_popL {j i : Nat} {D : Ends} {σ : St} {H : Hp} (h : tS X.K Φ (.popL j i) D σ H) : tAsg (tBM0 X.K "list" rPop (tVar i)) (gName j) D σ H := by
  obtain ⟨G0, H0, G, ρ, g, g0, fl, g', q0, r, e1, q⟩ := h
  simp only [ex] at e1
  split at e1
  · rename_i xs hs
    split at e1
    · cases e1
    · split at e1
      · rename_i x hx
        cases e1
        obtain ⟨a, vs, hσ, ha, da, hls, n0⟩ := r.sl i _ hs
        have hx' : xs[xs.length - 1]? = some x := by rw [← List.getLast?_eq_getElem?]; exact hx
        obtain ⟨v, hv, dv⟩ := da.get hx'
        refine ⟨.ref a, sl_at (K := X.K) (G0 := G0) (G := G) (H0 := H0) (H := H) (ρ := ρ) (g := g) hσ, .inl ⟨rfl, _, .of ha⟩, a, vs, v, rfl, rfl, ha, by rw [da.length]; exact hv, ?_⟩
        have dd : DrA X.K G H vs.dropLast xs.dropLast := by
          rw [List.dropLast_eq_take, List.dropLast_eq_take, da.length]
          exact da.take _
        have r1 := r.updL q0 hs hσ ha hls n0 dd
        have hao := r.ok.lo a hls
        exact q G _ _ (Grw.updL hao) (r1.setV (dv.mono (fun b o e n => ⟨by rw [upd_ne fun z => n (by rw [z]; exact hao)]; exact e, n⟩) rfl))
      · cases e1
  · cases e1
theorem t_ownD {i : Nat} {t : Bool} {D : Ends} {σ : St} {H : Hp} (h : tS X.K Φ (.ownD i t) D σ H) : tAsg (if t = true then tDNewT else tDNewK) (gName i) D σ H := by
  obtain ⟨G0, H0, G, ρ, g, g0, fl, g', q0, r, e1, q⟩ := h
  simp only [ex, Option.some.injEq, Prod.mk.injEq] at e1
  obtain ⟨rfl, rfl⟩ := e1
  cases t with
  | true => exact fun p hp => q (G.addL p) _ _ (Grw.addL hp) (r.setO hp (.t .nil))
  | false => exact fun p hp => q (G.addL p) _ _ (Grw.addL hp) (r.setO hp (.k .nil))
theorem t_put {i : Nat} {k e : E} {D : Ends} {σ : St} {H : Hp} (h : tS X.K Φ (.put i k e) D σ H) : sDPut (tVar i) (tE X.K Φ false k) (tE X.K Φ false e) D σ H := by
  obtain ⟨G0, H0, G, ρ, g, g0, fl, g', q0, r, e1, q⟩ := h
  simp only [ex, Option.bind_eq_bind, Option.bind_eq_some_iff, Prod.exists] at e1
  obtain ⟨d, g1, e2, y, g2, e3, e4⟩ := e1
  refine ⟨G0, H0, G, ρ, g, d, g1, r, e2, fun v H1 s1 d1 => ?_⟩
  have r1 := r.stq s1
  split at e4
  · rename_i kvs hs
    obtain ⟨z, hz, e5⟩ := Option.bind_eq_some_iff.mp (show (keyOf y).bind _ = some (fl, g') from e4)
    obtain ⟨hl, e6⟩ := lenOk_some e5
    cases e6
    obtain ⟨a, ks, hσ, ha, da, hls, n0⟩ := r1.sl i _ hs
    refine ⟨.ref a, sl_at (K := X.K) (G0 := G0) (G := G) (H0 := H0) (H := H) (ρ := ρ) (g := g) hσ, G0, H0, G, ρ, g1, y, _, r1, e3, fun w H2 s2 d2 => ?_⟩
    have h2 : H2 a = some (.dK ks) := s2.st a _ ha (r1.nwr n0)
    have := keyOf_is hz
    subst this
    have hw := d2.strict.key
    subst hw
    have r2 := r1.stq s2
    refine ⟨a, _, rfl, .k h2 (by rw [da.length]; exact Nat.lt_of_lt_of_le (Nat.lt_succ_self _) (Nat.le_trans hl lim_le)), ?_⟩
    have da2 : DrK X.K G H2 ks kvs := da.mono (fun b o e n => ⟨s2.st b o e fun z => n (r.wo b z), n⟩) rfl
    exact q G σ _ (((r.grw s1).trans (r1.grw s2)).trans (Grw.updL (r.ok.lo a hls))) (r2.updO q0 hs rfl hσ h2 hls n0 (.k (da2.put z (d1.strict.stp r.wo s2.st))))
  · rename_i kvs hs
    obtain ⟨z, hz, e5⟩ := Option.bind_eq_some_iff.mp (show (tkOf y).bind _ = some (fl, g') from e4)
    obtain ⟨hl, e6⟩ := lenOk_some e5
    cases e6
    obtain ⟨a, ks, hσ, ha, da, hls, n0⟩ := r1.sl i _ hs
    refine ⟨.ref a, sl_at (K := X.K) (G0 := G0) (G := G) (H0 := H0) (H := H) (ρ := ρ) (g := g) hσ, G0, H0, G, ρ, g1, y, _, r1, e3, fun w H2 s2 d2 => ?_⟩
    have h2 : H2 a = some (.dT ks) := s2.st a _ ha (r1.nwr n0)
    have := tkOf_is hz
    subst this
    obtain ⟨b, vs, rfl, hb, hd⟩ := d2.tuple
    have := hd.keys
    subst this
    have r2 := r1.stq s2
    refine ⟨a, _, rfl, .t h2 hb.1 (by rw [da.length]; exact Nat.lt_of_lt_of_le (Nat.lt_succ_self _) (Nat.le_trans hl lim_le)), ?_⟩
    have da2 : DrT X.K G H2 ks kvs := da.mono (fun b o e n => ⟨s2.st b o e fun z => n (r.wo b z), n⟩) rfl
    exact q G σ _ (((r.grw s1).trans (r1.grw s2)).trans (Grw.updL (r.ok.lo a hls))) (r2.updO q0 hs rfl hσ h2 hls n0 (.t (da2.put z (d1.strict.stp r.wo s2.st))))
  · cases e4
theorem upd_id {H : Hp} {a : Addr} {o : HO} (h : H a = some o) : upd H a o = H := by
  funext b
  unfold upd
  split
  · rename_i e; rw [e, h]
  · rfl
/-- an object of the def's own becomes data -/
theorem pss_frz {sts : List Stmt} {i : Nat} {b : S} (h : PSs X sts (tS X.K Φ b)) : PSs X sts (tS X.K Φ (.seq (.frz i) b)) := by
  refine ⟨fun pins s σ H D I hw => ?_⟩
  obtain ⟨G0, H0, G, ρ, g, g0, fl, g', q0, r, e1, q⟩ := hw
  simp only [ex] at e1
  have go : ∀ (sl : Slot), ρ[i]? = some sl → (∃ d : Dv.D, (∀ (o : HO) (dd : Dv.D), OwnO X.K G H o sl dd → dd = d) ∧ ex Φ b (ρ.set i (.v d)) g = some (fl, g')) → sl.isL = true → wpAny (model X.prog X.w) X.A (execs sts X.env) (SP X pins D) X.xe s := by
    intro sl hs ⟨d, hd, he⟩ hsl
    obtain ⟨a, o, dd, hσ, ha, w, f⟩ := r.frz q0 hs hsl
    have := hd o dd w
    subst this
    cases w with
    | l w =>
      obtain ⟨G', k, r'⟩ := f { cls := .none }
      have e : upd H a (frzO (.lst _) { cls := .none }) = H := upd_id ha
      rw [e] at k r'
      exact h.run pins s σ H D I ⟨G0, H0, G', _, g, g0, fl, g', q0, r', he, q.from k⟩
    | k w =>
      obtain ⟨od, I1⟩ := I.lock ha trivial
      obtain ⟨G', k, r'⟩ := f od
      exact h.run pins s σ _ D I1 ⟨G0, H0, G', _, g, g0, fl, g', q0, r', he, q.from k⟩
    | t w =>
      obtain ⟨od, I1⟩ := I.lock ha trivial
      obtain ⟨G', k, r'⟩ := f od
      exact h.run pins s σ _ D I1 ⟨G0, H0, G', _, g, g0, fl, g', q0, r', he, q.from k⟩
  cases hs : ρ[i]? with
  | none => rw [hs] at e1; cases e1
  | some sl =>
    rw [hs] at e1
    cases sl with
    | un => cases e1
    | v d => cases e1
    | l xs => exact go _ hs ⟨.list xs, fun o dd w => by cases w; rfl, e1⟩ rfl
    | d t kvs => exact go _ hs ⟨mkD t kvs, fun o dd w => by cases w <;> rfl, e1⟩ rfl
def augF : Operator → Int → Int → Int
  | .Sub => fun i j => i - j
  | _ => fun i j => i + j
theorem t_aug {i : Nat} {op : Operator} {e : E} {D : Ends} {σ : St} {H : Hp} (h : tS X.K Φ (.aug i op e) D σ H) : tAug i (tE X.K Φ true e) (ipI (augF op)) D σ H := by
  obtain ⟨G0, H0, G, ρ, g, g0, fl, g', q0, r, e1, q⟩ := h
  simp only [ex] at e1
  split at e1
  · rename_i x hs
    simp only [Option.bind_eq_bind, Option.bind_eq_some_iff, Option.pure_def, Option.some.injEq, Prod.exists, Prod.mk.injEq] at e1
    obtain ⟨y, g1, e2, z, e3, rfl, rfl⟩ := e1
    obtain ⟨v, hv, dv⟩ := r.sl i _ hs
    refine ⟨v, sl_at (K := X.K) (G0 := G0) (G := G) (H0 := H0) (H := H) (ρ := ρ) (g := g) hv, G0, H0, G, ρ, g, y, g1, r, e2, fun u H1 s1 d1 => ?_⟩
    have : ∃ a b, x = .int a ∧ y = .int b ∧ z = .int (augF op a b) := by
      unfold augD at e3
      split at e3
      · cases e3; exact ⟨_, _, rfl, rfl, rfl⟩
      · cases e3; exact ⟨_, _, rfl, rfl, rfl⟩
      · cases e3
    obtain ⟨a, b, rfl, rfl, rfl⟩ := this
    cases dv
    exact ⟨a, b, rfl, d1.int, q G _ H1 (r.grw s1) ((r.stq s1).setV (.int _))⟩
  · cases e1
/-! ### tests and loops -/
theorem t_iff {e : E} {a b : S} {D : Ends} {σ : St} {H : Hp} (h : tS X.K Φ (.iff e a b) D σ H) : tIfS (tT X.K Φ e) (tS X.K Φ a) (tS X.K Φ b) D σ H := by
  obtain ⟨G0, H0, G, ρ, g, g0, fl, g', q0, r, e1, q⟩ := h
  simp only [ex, Option.bind_eq_bind, Option.bind_eq_some_iff, Prod.exists] at e1
  obtain ⟨x, g1, e2, e3⟩ := e1
  split at e3
  · exact ⟨G0, H0, G, ρ, g, true, g1, r, e2, fun H1 s1 => iteT ⟨G0, H0, G, ρ, g1, g0, fl, g', q0, r.stq s1, e3, q.from (r.grw s1)⟩⟩
  · exact ⟨G0, H0, G, ρ, g, false, g1, r, e2, fun H1 s1 => iteF ⟨G0, H0, G, ρ, g1, g0, fl, g', q0, r.stq s1, e3, q.from (r.grw s1)⟩⟩
  · cases e3
theorem t_seq {a b : S} {D : Ends} {σ : St} {H : Hp} (h : tS X.K Φ (.seq a b) D σ H) : tSeq (tS X.K Φ a) (tS X.K Φ b) D σ H := by
  obtain ⟨G0, H0, G, ρ, g, g0, fl, g', q0, r, e1, q⟩ := h
  simp only [ex] at e1
  split at e1
  · rename_i ρ1 g1 ea
    exact ⟨G0, H0, G, ρ, g, g0, .nx ρ1, g1, q0, r, ea, fun G' σ' H' k r' => ⟨G0, H0, G', ρ1, g1, g0, fl, g', q0, r', e1, q.from k⟩⟩
  · rename_i hne
    refine ⟨G0, H0, G, ρ, g, g0, fl, g', q0, r, e1, ?_⟩
    cases fl with
    | nx ρ1 => exact absurd e1 (hne ρ1 g')
    | bk ρ1 => exact q
    | ct ρ1 => exact q
    | rt d => exact q
theorem forL_go {f : D → List Slot → GS → Ro} {x : D} {xs : List D} {ρ : List Slot} {g : GS} {fl : Fl} {g' : GS} (h : forL f (x :: xs) ρ g = some (fl, g')) : ∃ fl1 g1, f x ρ g = some (fl1, g1) ∧
    (match fl1 with
    | .nx ρ1 => forL f xs ρ1 g1 = some (fl, g')
    | .ct ρ1 => forL f xs ρ1 g1 = some (fl, g')
    | .bk ρ1 => fl = .nx ρ1 ∧ g' = g1
    | .rt d => fl = .rt d ∧ g' = g1) := by
  simp only [forL] at h
  split at h
  · rename_i e; exact ⟨_, _, e, h⟩
  · rename_i e; exact ⟨_, _, e, h⟩
  · rename_i e; cases h; exact ⟨_, _, e, rfl, rfl⟩
  · rename_i e; cases h; exact ⟨_, _, e, rfl, rfl⟩
  · cases h
theorem t_for {tg : Tg} {src : E} {body : S} {D : Ends} {σ : St} {H : Hp} (h : tS X.K Φ (.for_ tg src body) D σ H) : tFor (tI X.K Φ false src) (tG X.K tg) (tS X.K Φ body) D σ H := by
  obtain ⟨G0, H0, G, ρ, g, g0, fl, g', q0, r, e1, q⟩ := h
  simp only [ex, Option.bind_eq_bind, Option.bind_eq_some_iff, Prod.exists] at e1
  obtain ⟨x, g1, e2, xs, e3, e4⟩ := e1
  refine ⟨G0, H0, G, ρ, g, x, xs, g1, r, e2, e3, fun J H1 s1 it => ?_⟩
  have k1 := r.grw s1
  have r1 := r.stq s1
  generalize hf : (fun (d : Dv.D) (ρ : List Slot) (g : GS) => (Tg.asg tg d ρ).bind fun ρ' => ex Φ body ρ' g) = f at e4
  refine ⟨fun i m σ2 H2 => m = xs.length - i ∧ i ≤ xs.length ∧ ∃ G2 ρ2 g2, Grw G H1 G2 H2 ∧ Rel X.K G0 H0 G2 σ2 H2 ρ2 g2 ∧ forL f (xs.drop i) ρ2 g2 = some (fl, g'),
    ⟨xs.length, by simp, Nat.zero_le _, G, ρ, g1, Grw.refl, r1, e4⟩, ?_⟩
  rintro i m σ2 H2 ⟨rfl, hi, G2, ρ2, g2, k2, r2, e5⟩
  have mv : Mv false G H1 G2 H2 := ⟨k2, (fun _ _ _ z => nomatch z), r2.pl.trans r1.pl.symm, r2.ok.dom⟩
  obtain ⟨p1, p2⟩ := it G2 H2 mv
  by_cases hlt : i < xs.length
  · obtain ⟨d, hd⟩ : ∃ d, xs[i]? = some d := ⟨_, List.getElem?_eq_getElem hlt⟩
    have hdr : xs.drop i = d :: xs.drop (i + 1) := by
      rw [List.drop_eq_getElem_cons hlt]
      rw [List.getElem?_eq_getElem hlt] at hd
      cases hd
      rfl
    rw [hdr] at e5
    obtain ⟨fl1, g3, e6, e7⟩ := forL_go e5
    rw [← hf] at e6
    obtain ⟨ρ3, e8, e9⟩ := Option.bind_eq_some_iff.mp e6
    obtain ⟨go, yl⟩ := p2 i d hd
    refine .inr ⟨go, fun σ' H' => xs.length - (i + 1) = xs.length - (i + 1) ∧ i + 1 ≤ xs.length ∧ ∃ G2 ρ2 g2, Grw G H1 G2 H' ∧ Rel X.K G0 H0 G2 σ' H' ρ2 g2 ∧ forL f (xs.drop (i + 1)) ρ2 g2 = some (fl, g'),
      fun σ' H' z => ⟨xs.length - (i + 1), by omega, z⟩, fun v H' y => ?_⟩
    obtain ⟨rfl, dv⟩ := yl v H' y
    refine ⟨G0, H0, G2, ρ2, g2, d, ρ3, r2, dv, e8, fun σ3 r3 _ _ => ?_⟩
    refine ⟨G0, H0, G2, ρ3, g2, g0, fl1, g3, q0, r3, e9, ?_⟩
    cases fl1 with
    | nx ρ4 => exact fun G4 σ4 H4 k4 r4 => ⟨rfl, hlt, G4, ρ4, g3, k2.trans k4, r4, e7⟩
    | ct ρ4 => exact fun G4 σ4 H4 k4 r4 => ⟨rfl, hlt, G4, ρ4, g3, k2.trans k4, r4, e7⟩
    | bk ρ4 =>
      obtain ⟨rfl, rfl⟩ := e7
      exact fun G4 σ4 H4 k4 r4 => q G4 σ4 H4 ((k1.trans k2).trans k4) r4
    | rt d =>
      obtain ⟨rfl, rfl⟩ := e7
      exact q
  · have hie : i = xs.length := by omega
    subst hie
    rw [List.drop_length] at e5
    simp only [forL, Option.some.injEq, Prod.mk.injEq] at e5
    obtain ⟨rfl, rfl⟩ := e5
    exact .inl ⟨p1 _ (Nat.le_refl _), q G2 σ2 H2 (k1.trans k2) r2⟩
theorem t_whl {n : Nat} {e : E} {body : S} {D : Ends} {σ : St} {H : Hp} (h : tS X.K Φ (.whl n e body) D σ H) : tWhile (tT X.K Φ e) (tS X.K Φ body) D σ H := by
  obtain ⟨G0, H0, G, ρ, g, g0, fl, g', q0, r, e1, q⟩ := h
  simp only [ex] at e1
  refine ⟨fun m σ2 H2 => ∃ G2 ρ2 g2, Grw G H G2 H2 ∧ Rel X.K G0 H0 G2 σ2 H2 ρ2 g2 ∧ whlL (fun ρ g => ev Φ true e ρ g) (fun ρ g => ex Φ body ρ g) m ρ2 g2 = some (fl, g'), ⟨n, G, ρ, g, Grw.refl, r, e1⟩, ?_⟩
  rintro m σ2 H2 ⟨G2, ρ2, g2, k2, r2, e2⟩
  cases m with
  | zero => simp only [whlL] at e2; cases e2
  | succ m =>
    simp only [whlL] at e2
    split at e2
    · rename_i g3 ec
      refine ⟨G0, H0, G2, ρ2, g2, true, g3, r2, ec, fun H3 s3 => iteT ?_⟩
      have k3 := k2.trans (r2.grw s3)
      have r3 := r2.stq s3
      refine ⟨fun σ' H' => ∃ G2 ρ2 g2, Grw G H G2 H' ∧ Rel X.K G0 H0 G2 σ' H' ρ2 g2 ∧ whlL (fun ρ g => ev Φ true e ρ g) (fun ρ g => ex Φ body ρ g) m ρ2 g2 = some (fl, g'), fun σ' H' z => ⟨m, Nat.lt_succ_self _, z⟩, ?_⟩
      split at e2
      · rename_i ρ4 g4 eb
        exact ⟨G0, H0, G2, ρ2, g3, g0, .nx ρ4, g4, q0, r3, eb, fun G4 σ4 H4 k4 r4 => ⟨G4, ρ4, g4, k3.trans k4, r4, e2⟩⟩
      · rename_i ρ4 g4 eb
        exact ⟨G0, H0, G2, ρ2, g3, g0, .ct ρ4, g4, q0, r3, eb, fun G4 σ4 H4 k4 r4 => ⟨G4, ρ4, g4, k3.trans k4, r4, e2⟩⟩
      · rename_i ρ4 g4 eb
        cases e2
        exact ⟨G0, H0, G2, ρ2, g3, g0, .bk ρ4, _, q0, r3, eb, fun G4 σ4 H4 k4 r4 => q G4 σ4 H4 (k3.trans k4) r4⟩
      · rename_i d g4 eb
        cases e2
        exact ⟨G0, H0, G2, ρ2, g3, g0, .rt d, _, q0, r3, eb, q⟩
      · cases e2
    · rename_i g3 ec
      cases e2
      exact ⟨G0, H0, G2, ρ2, g2, false, _, r2, ec, fun H3 s3 => iteF (q G2 σ2 H3 (k2.trans (r2.grw s3)) (r2.stq s3))⟩
    · cases e2
theorem t_ret {e : E} {D : Ends} {σ : St} {H : Hp} (h : tS X.K Φ (.ret e) D σ H) : tRet (tE X.K Φ true e) D σ H := by
  obtain ⟨G0, H0, G, ρ, g, g0, fl, g', q0, r, e1, q⟩ := h
  simp only [ex, Option.bind_eq_bind, Option.bind_eq_some_iff, Option.pure_def, Option.some.injEq, Prod.exists, Prod.mk.injEq] at e1
  obtain ⟨d, g1, e2, rfl, rfl⟩ := e1
  exact ⟨G0, H0, G, ρ, g, d, g1, r, e2, fun v H1 s1 d1 => q v H1 ((r.stq s1).stq0 q0) ((r.stq s1).ret d1)⟩
end
end Dv
end
section
set_option linter.all false
set_option maxRecDepth 100000
set_option autoImplicit false
set_option maxHeartbeats 4000000
/-! Dv15: every checked body is sound. -/
namespace Dv
open PySem PySem.Spec PyProof.Rows L2
section
variable {X : Cx} {c : Ck} {Φ : List Fn} {lv : Nat} {pos py : Pos}
theorem back_all {cpos : Pos} {env : Env} {v : Expr} (h : nst v = true) : ((backTo cpos (starEach [v] env)).all (fun x => !x.1) && (backToKw cpos (keywordEach [] env)).all (fun x => x.1.isSome)
      && decide (([v] : List Expr).length + ([] : List Keyword).length + (if ([] : List Keyword).isEmpty then 0 else 1) < 30)) = true := by
  rw [star_cons h]; rfl
/-- the swapped stores of a pair -/
theorem par_sw {x y : Str} {px py pt : Pos} {u v : Expr} {kt k2 : Nat} {pt2 : Pos} {env : Env} (hk : env.scope.kind = .function) (hx : env.scope.names.lookup x = some .local) (hy : env.scope.names.lookup y = some .local) (hl : (px.line == py.line) = true)
    (hne : (x == y) = false) (h1 : [u, v].all (foldedForSure 8) = false) (h2 : [u, v].all (constantsAlone 8) = false) (s1 : nst u = true) (s2 : nst v = true) :
    swappedStores [.Tuple [.Name x px, .Name y py] kt pt] (.Tuple [u, v] k2 pt2) env = pure (some [x, y]) := by
  have hb : env.blockKind = .function := by unfold Env.blockKind; rw [hk]; rfl
  have kx : env.kindOf x = some .local := hx
  have ky : env.kindOf y = some .local := hy
  have hl' : py.line = px.line := (beq_iff_eq.mp hl).symm
  have hst : ([u, v].any fun | .Starred .. => true | _ => false) = false := by
    cases u <;> first | (simp [nst] at s1; done) | (cases v <;> first | rfl | (simp [nst] at s2))
  have hyx : (y == x) = false := by
    cases hq : y == x with
    | false => rfl
    | true => rw [beq_iff_eq.mp hq, beq_self_eq_true] at hne; cases hne
  have hd : ([x, y] : List Str).eraseDups.length = 2 := by
    simp [List.eraseDups_cons, hyx]
  unfold swappedStores
  simp only [hb, hst, List.length_cons, List.length_nil, List.head?_cons, Option.map_some, Option.getD_some, List.filterMap_cons, List.filterMap_nil, kx, ky, Expr.pos, hl', beq_self_eq_true, Bool.and_self, if_true, h1, h2]
  simp [hd]
  rintro (h | h)
  · cases u <;> first | (cases h; done) | (simp [nst] at s1; done)
  · cases v <;> first | (cases h; done) | (simp [nst] at s2; done)
theorem sS (Φ : List Fn) (lv : Nat) (C : CtxOk X c Φ lv) (hk : c.sc.kind = .function) : ∀ b : S, (∀ st, b.one = true → chkB c b [st] = true → PS X st (tS X.K Φ b)) ∧ (∀ sts, chkB c b sts = true → PSs X sts (tS X.K Φ b)) := by
  -- a form of one statement
  have one : ∀ b : S, (∀ sts, chkB c b sts = true → ∃ st, sts = [st]) → (∀ st, chkB c b [st] = true → PS X st (tS X.K Φ b)) → (∀ st, b.one = true → chkB c b [st] = true → PS X st (tS X.K Φ b)) ∧ (∀ sts, chkB c b sts = true → PSs X sts (tS X.K Φ b)) :=
    fun b h1 h2 => ⟨fun st _ h => h2 st h, fun sts h => by
      obtain ⟨st, rfl⟩ := h1 sts h
      exact pss_one (h2 st h)⟩
  have ln : ∀ (b : S) (sts : List Stmt), (chkB c b [] = false) → (∀ x y r, chkB c b (x :: y :: r) = false) → chkB c b sts = true → ∃ st, sts = [st] := fun b sts h0 h2 h => by
    match sts, h with
    | [], h => rw [h0] at h; cases h
    | [st], _ => exact ⟨st, rfl⟩
    | x :: y :: r, h => rw [h2] at h; cases h
  have hkX : X.env.scope.kind = .function := by rw [C.sc]; exact hk
  have pN : PassesOwn (model X.prog X.w) X.A X.env X.xe := by rw [C.xe]; exact PassesOwn.never
  intro b
  induction b with
  | asg tg e =>
    refine one _ (fun sts h => ln _ sts (by simp [chkB]) (by intro x y r; cases x <;> simp [chkB]) h) fun st h => ?_
    cases st with
    | Assign ts v p =>
      match ts, h with
      | [], h => simp [chkB] at h
      | _ :: _ :: _, h => simp [chkB] at h
      | [t], h =>
        cases tg with
        | n i =>
          cases t with
          | Name x px => exact (s_setE C hk (by simpa [chkB] using h)).imp fun D σ H q => t_setE q
          | _ => simp [chkB] at h
        | nil =>
          cases t with
          | Tuple us k q =>
            simp only [chkB, Bool.and_eq_true] at h
            obtain ⟨⟨⟨⟨h1, h2⟩, h3⟩, h4⟩, h5⟩ := h
            exact (ps_asg ((snd Φ lv e X c _ C h5).pe h4 false) (s_tg C .nil _ h1) (by exact sw_plain (v := v) (t := .Tuple us k q) (l := p.line) (env := X.env) h3) (by cases v <;> first | rfl | (simp [noTup] at h2)) rfl).imp fun D σ H q => t_asg q
          | _ => simp [chkB] at h
        | cons a r =>
          cases t with
          | Tuple us k q =>
            simp only [chkB, Bool.and_eq_true] at h
            obtain ⟨⟨⟨⟨h1, h2⟩, h3⟩, h4⟩, h5⟩ := h
            exact (ps_asg ((snd Φ lv e X c _ C h5).pe h4 false) (s_tg C (.cons a r) _ h1) (by exact sw_plain (v := v) (t := .Tuple us k q) (l := p.line) (env := X.env) h3) (by cases v <;> first | rfl | (simp [noTup] at h2)) rfl).imp fun D σ H q => t_asg q
          | _ => simp [chkB] at h
    | _ => simp [chkB] at h
  | par i j a b =>
    refine one _ (fun sts h => ln _ sts (by simp [chkB]) (by intro x y r; simp [chkB]) h) fun st h => ?_
    simp only [chkB] at h
    split at h
    · rename_i x px y py kt pt u v k2 pt2 p he
      cases he
      simp only [Bool.and_eq_true, Bool.not_eq_true'] at h
      obtain ⟨⟨⟨⟨⟨⟨⟨⟨⟨⟨⟨⟨n1, n2⟩, l1⟩, l2⟩, hl⟩, hne⟩, hij⟩, f1⟩, f2⟩, va⟩, ha⟩, vb⟩, hb⟩ := h
      obtain ⟨a1, a2, a3⟩ := nmB_parts n1
      obtain ⟨b1, b2, b3⟩ := nmB_parts n2
      have lx : X.env.scope.names.lookup x = some .local := by rw [C.sc]; exact lclB_is l1
      have ly : X.env.scope.names.lookup y = some .local := by rw [C.sc]; exact lclB_is l2
      have hA : PA X [u, v] (tA X.K Φ false (.cons a (.cons b .nil))) := snds Φ lv _ X c _ C (by simp only [chks, Bool.and_eq_true]; exact ⟨⟨va, ha⟩, ⟨vb, hb⟩, rfl⟩) false
      exact (ps_par C.calm C.nd (by rw [C.N]; exact a1) (by rw [C.N]; exact b1) (by simpa using hij) lx ly hA (par_sw hkX lx ly hl hne f1 f2 (chk_head ha).1 (chk_head hb).1) rfl).imp fun D σ H q => t_par q
    · cases h
  | own i e =>
    refine one _ (fun sts h => ln _ sts (by simp [chkB]) (by intro x y r; simp [chkB]) h) fun st h => ?_
    simp only [chkB] at h
    split at h
    · rename_i he
      cases he
      simp only [Bool.and_eq_true] at h
      exact (s_setF C hk h.1 h.2).imp fun D σ H q => t_own q
    · cases h
  | aug i op e =>
    refine one _ (fun sts h => ln _ sts (by simp [chkB]) (by intro x y r; simp [chkB]) h) fun st h => ?_
    simp only [chkB] at h
    split at h
    · rename_i he
      cases he
      simp only [Bool.and_eq_true, decide_eq_true_eq, Bool.or_eq_true] at h
      obtain ⟨⟨⟨⟨rfl, ho⟩, hn⟩, hv⟩, hc⟩ := h
      obtain ⟨a1, a2, a3⟩ := nmB_parts hn
      have hp : PIp X op (ipI (augF op)) := by
        rcases ho with rfl | rfl
        · exact ip_add
        · exact ip_sub
      exact (ps_aug C.nd (by rw [C.N]; exact a1) (by rw [C.sc]; exact locB_loc a2) ((snd Φ lv e X c _ C hc).pe hv true) hp (fnB_ok C a3)).imp fun D σ H q => t_aug q
    · cases h
  | app i e =>
    refine one _ (fun sts h => ln _ sts (by simp [chkB]) (by intro x y r; simp [chkB]) h) fun st h => ?_
    simp only [chkB] at h
    split at h
    · rename_i he
      cases he
      simp only [Bool.and_eq_true, decide_eq_true_eq] at h
      obtain ⟨⟨⟨⟨⟨⟨rfl, hn⟩, hv⟩, ho⟩, hl⟩, ve⟩, hc⟩ := h
      obtain ⟨o1, o2⟩ := okN_and ho
      have hs := star_cons (xs := []) (env := X.env) (chk_head hc).1
      exact (ps_expr (pe_bm PySem.F.plainAttrs_list PySem.F.slot_list_append PySem.F.type_list_append mt_append (pe_var (by rw [C.N]; exact hn) (by rw [C.sc]; exact visB_vis hv) o1 o2) (pa_cons ((snd Φ lv e X c _ C hc).pe ve false) pa_nil hs) rfl (back_all (chk_head hc).1) hl hs rfl) rfl).imp fun D σ H q => t_app q
    · cases h
  | ext i e =>
    refine one _ (fun sts h => ln _ sts (by simp [chkB]) (by intro x y r; simp [chkB]) h) fun st h => ?_
    simp only [chkB] at h
    split at h
    · rename_i he
      cases he
      simp only [Bool.and_eq_true, decide_eq_true_eq] at h
      obtain ⟨⟨⟨⟨⟨⟨rfl, hn⟩, hv⟩, ho⟩, hl⟩, ve⟩, hc⟩ := h
      obtain ⟨o1, o2⟩ := okN_and ho
      have hs := star_cons (xs := []) (env := X.env) (chk_head hc).1
      exact (ps_expr (pe_bm PySem.F.plainAttrs_list PySem.F.slot_list_extend PySem.F.type_list_extend mt_extend (pe_var (by rw [C.N]; exact hn) (by rw [C.sc]; exact visB_vis hv) o1 o2) (pa_cons ((snd Φ lv e X c _ C hc).pe ve true) pa_nil hs) rfl (back_all (chk_head hc).1) hl hs rfl) rfl).imp fun D σ H q => t_ext q
    · cases h
  | pop0 j i =>
    refine one _ (fun sts h => ln _ sts (by simp [chkB]) (by intro x y r; simp [chkB]) h) fun st h => ?_
    simp only [chkB] at h
    split at h
    · rename_i he
      cases he
      simp only [Bool.and_eq_true, decide_eq_true_eq] at h
      obtain ⟨⟨⟨⟨⟨⟨rfl, rfl⟩, hn1⟩, hn⟩, hv⟩, ho⟩, hl⟩ := h
      obtain ⟨o1, o2⟩ := okN_and ho
      obtain ⟨a1, a2, a3⟩ := nmB_parts hn1
      exact (ps_set C.nd (by rw [C.N]; exact a1) (by rw [C.sc]; exact locB_loc a2) (pe_bm PySem.F.plainAttrs_list PySem.F.slot_list_pop PySem.F.type_list_pop mt_popAt (pe_var (by rw [C.N]; exact hn) (by rw [C.sc]; exact visB_vis hv) o1 o2) (pa_cons pe_int pa_nil) rfl rfl hl rfl rfl) rfl (fnB_ok C a3)).imp fun D σ H q => t_pop0 q
    · cases h
  | popL j i =>
    refine one _ (fun sts h => ln _ sts (by simp [chkB]) (by intro x y r; simp [chkB]) h) fun st h => ?_
    simp only [chkB] at h
    split at h
    · rename_i he
      cases he
      simp only [Bool.and_eq_true, decide_eq_true_eq] at h
      obtain ⟨⟨⟨⟨⟨rfl, hn1⟩, hn⟩, hv⟩, ho⟩, hl⟩ := h
      obtain ⟨o1, o2⟩ := okN_and ho
      obtain ⟨a1, a2, a3⟩ := nmB_parts hn1
      exact (ps_set C.nd (by rw [C.N]; exact a1) (by rw [C.sc]; exact locB_loc a2) (pe_bm0 PySem.F.plainAttrs_list PySem.F.slot_list_pop PySem.F.type_list_pop mt_pop (pe_var (by rw [C.N]; exact hn) (by rw [C.sc]; exact visB_vis hv) o1 o2) rfl hl) rfl (fnB_ok C a3)).imp fun D σ H q => t_popL q
    · cases h
  | iff e a b iha ihb =>
    refine one _ (fun sts h => ln _ sts (by simp [chkB]) (by intro x y r; simp [chkB]) h) fun st h => ?_
    simp only [chkB] at h
    split at h
    · rename_i he
      cases he
      simp only [Bool.and_eq_true, Bool.not_eq_true'] at h
      obtain ⟨⟨⟨⟨hi, hv⟩, hc⟩, ha⟩, hb⟩ := h
      exact (ps_if ((snd Φ lv e X c _ C hc).pt hv hi) (iha.2 _ ha) (ihb.2 _ hb)).imp fun D σ H q => t_iff q
    · cases h
  | for_ tg src body ih =>
    refine one _ (fun sts h => ln _ sts (by simp [chkB]) (by intro x y r; simp [chkB]) h) fun st h => ?_
    simp only [chkB] at h
    split at h
    · rename_i he
      cases he
      simp only [Bool.and_eq_true] at h
      obtain ⟨⟨ht, hs⟩, hb⟩ := h
      exact (ps_for pN C.calm ((snd Φ lv src X c _ C hs).pi false _) (s_tg C tg _ ht) (ih.2 _ hb) (noSet_fold (chk_head hs).2.2 _)).imp fun D σ H q => t_for q
    · cases h
  | whl n e body ih =>
    refine one _ (fun sts h => ln _ sts (by simp [chkB]) (by intro x y r; simp [chkB]) h) fun st h => ?_
    simp only [chkB] at h
    split at h
    · rename_i he
      cases he
      simp only [Bool.and_eq_true, Bool.not_eq_true'] at h
      obtain ⟨⟨⟨hi, hv⟩, hc⟩, hb⟩ := h
      exact (ps_while pN ((snd Φ lv e X c _ C hc).pt hv hi) (ih.2 _ hb)).imp fun D σ H q => t_whl q
    · cases h
  | ret e =>
    refine one _ (fun sts h => ln _ sts (by simp [chkB]) (by intro x y r; simp [chkB]) h) fun st h => ?_
    simp only [chkB] at h
    split at h
    · rename_i he
      cases he
      simp only [Bool.and_eq_true] at h
      exact (ps_ret ((snd Φ lv e X c _ C h.2).pe h.1 true)).imp fun D σ H q => t_ret q
    · cases h
  | retN =>
    refine one _ (fun sts h => ln _ sts (by simp [chkB]) (by intro x y r; simp [chkB]) h) fun st h => ?_
    simp only [chkB] at h
    split at h
    · rename_i he
      cases he
      refine ps_retN.imp fun D σ H ⟨G0, H0, G, ρ, g, g0, fl, g', q0, r, e1, q⟩ => ?_
      simp only [ex, Option.some.injEq, Prod.mk.injEq] at e1
      obtain ⟨rfl, rfl⟩ := e1
      exact q .non H (r.stq0 q0) .non
    · cases h
  | brk =>
    refine one _ (fun sts h => ln _ sts (by simp [chkB]) (by intro x y r; simp [chkB]) h) fun st h => ?_
    simp only [chkB] at h
    split at h
    · rename_i he
      cases he
      refine ps_break.imp fun D σ H ⟨G0, H0, G, ρ, g, g0, fl, g', q0, r, e1, q⟩ => ?_
      simp only [ex, Option.some.injEq, Prod.mk.injEq] at e1
      obtain ⟨rfl, rfl⟩ := e1
      exact q G σ H Grw.refl r
    · cases h
  | cnt =>
    refine one _ (fun sts h => ln _ sts (by simp [chkB]) (by intro x y r; simp [chkB]) h) fun st h => ?_
    simp only [chkB] at h
    split at h
    · rename_i he
      cases he
      refine ps_continue.imp fun D σ H ⟨G0, H0, G, ρ, g, g0, fl, g', q0, r, e1, q⟩ => ?_
      simp only [ex, Option.some.injEq, Prod.mk.injEq] at e1
      obtain ⟨rfl, rfl⟩ := e1
      exact q G σ H Grw.refl r
    · cases h
  | pass =>
    have go : ∀ D σ H, tS X.K Φ .pass D σ H → tNext D σ H := fun D σ H ⟨G0, H0, G, ρ, g, g0, fl, g', q0, r, e1, q⟩ => by
      simp only [ex, Option.some.injEq, Prod.mk.injEq] at e1
      obtain ⟨rfl, rfl⟩ := e1
      exact q G σ H Grw.refl r
    refine one _ (fun sts h => ln _ sts (by simp [chkB]) (by intro x y r; cases x <;> simp [chkB]) h) fun st h => ?_
    simp only [chkB] at h
    split at h
    · rename_i he
      cases he
      exact ps_pass.imp go
    · rename_i x p he
      cases he
      cases x with
      | Constant k j q =>
        cases k with
        | str z => exact ps_doc.imp go
        | _ => simp [isDoc] at h
      | _ => simp [isDoc] at h
    · cases h
  | stuck =>
    have go : ∀ D σ H, tS X.K Φ .stuck D σ H → False := fun D σ H ⟨G0, H0, G, ρ, g, g0, fl, g', q0, r, e1, q⟩ => by
      simp only [ex] at e1
      cases e1
    exact ⟨fun st _ _ => ps_never.imp go, fun sts _ => pss_never.imp go⟩
  | ownD i t =>
    refine one _ (fun sts h => ln _ sts (by simp [chkB]) (by intro x y r; simp [chkB]) h) fun st h => ?_
    simp only [chkB] at h
    split at h
    · rename_i x px pd p he
      cases he
      obtain ⟨a1, a2, a3⟩ := nmB_parts h
      have PG' : PG X (.Name x px) (gName i) := pg_name C.nd (by rw [C.N]; exact a1) (by rw [C.sc]; exact locB_loc a2) (fnB_ok C a3)
      cases t with
      | true => exact (ps_asg pe_dnewT PG' (by exact sw_plain (v := .Dict [] [] pd) (t := .Name x px) (l := p.line) (env := X.env) rfl) rfl rfl).imp fun D σ H q => t_ownD q
      | false => exact (ps_asg pe_dnewK PG' (by exact sw_plain (v := .Dict [] [] pd) (t := .Name x px) (l := p.line) (env := X.env) rfl) rfl rfl).imp fun D σ H q => t_ownD q
    · cases h
  | put i k e =>
    refine one _ (fun sts h => ln _ sts (by simp [chkB]) (by intro x y r; simp [chkB]) h) fun st h => ?_
    simp only [chkB] at h
    split at h
    · rename_i x px y ps v p he
      cases he
      simp only [Bool.and_eq_true, decide_eq_true_eq] at h
      obtain ⟨⟨⟨⟨⟨⟨⟨⟨hn, hv⟩, ho⟩, hnc⟩, hns⟩, vk⟩, hk⟩, ve⟩, hc⟩ := h
      obtain ⟨o1, o2⟩ := okN_and ho
      exact (ps_dput (by have := C.hr.un; omega) (pe_var (by rw [C.N]; exact hn) (by rw [C.sc]; exact visB_vis hv) o1 o2) ((snd Φ lv k X c _ C hk).pe vk false) ((snd Φ lv e X c _ C hc).pe ve false) (sw_plain hnc)).imp fun D σ H q => t_put q
    · cases h
  | frz i => exact ⟨fun st h1 => (nomatch h1), fun sts h => by simp [chkB] at h⟩
  | nil =>
    refine ⟨fun st h1 => (nomatch h1), fun sts h => ?_⟩
    simp only [chkB, List.isEmpty_iff] at h
    subst h
    refine pss_nil.imp fun D σ H ⟨G0, H0, G, ρ, g, g0, fl, g', q0, r, e1, q⟩ => ?_
    simp only [ex, Option.some.injEq, Prod.mk.injEq] at e1
    obtain ⟨rfl, rfl⟩ := e1
    exact q G σ H Grw.refl r
  | seq a b iha ihb =>
    refine ⟨fun st h1 => (nomatch h1), fun sts h => ?_⟩
    have frz : a.isFrz = true → chkB c b sts = true → PSs X sts (tS X.K Φ (.seq a b)) := fun hf hb => by
      cases a <;> simp [S.isFrz] at hf
      exact pss_frz (ihb.2 _ hb)
    cases sts with
    | nil =>
      simp only [chkB, Bool.and_eq_true] at h
      exact frz h.1 h.2
    | cons x r =>
      simp only [chkB] at h
      split at h
      · rename_i hf; exact frz hf h
      · simp only [Bool.and_eq_true] at h
        exact (pss_cons (iha.1 x h.1.1 h.1.2) (ihb.2 r h.2)).imp fun D σ H q => t_seq q
end
end Dv
end
section
set_option linter.all false
set_option maxRecDepth 100000
set_option autoImplicit false
set_option maxHeartbeats 4000000
/-! Dv16: defs; the pool of draws. -/
namespace Dv
open PySem PySem.Spec PyProof.Rows L2
section
variable {P : Program} {w : World} {K : PySem.W.Frag} {mg : Str → Option Value} {base : Heap}
theorem CalleeOk.mono {j k : Nat} {x : Str} {F : Fn} (c : CalleeOk P w K mg base j x F) (h : j ≤ k) : CalleeOk P w K mg base k x F := by
  obtain ⟨f, fd, ps, F, r⟩ := c.ex
  exact ⟨f, fd, ps, F.mono h, r⟩
/-- what the checks say of a def's names -/
def scopeB (N P : List Str) (sc : Scope) : Bool := decide (sc.kind = .function) && !sc.isCoroutine && !sc.isGenerator && decide N.Nodup && decide (N.take P.length = P) && (P.all fun x => locB sc x) && (sc.names.all fun y => decide (y.2 ≠ .free))
theorem scope_ok {N P : List Str} {sc : Scope} (h : scopeB N P sc = true) : FnScope N P sc := by
  unfold scopeB at h
  simp only [Bool.and_eq_true, decide_eq_true_eq, List.all_eq_true, Bool.not_eq_true'] at h
  obtain ⟨⟨⟨⟨⟨⟨h1, h2⟩, h3⟩, h4⟩, h5⟩, h6⟩, h7⟩ := h
  exact ⟨h1, h2, h3, h4, h5, fun x hx => by rcases locB_loc (h6 x hx) with z | z; exact .inl z; exact .inr z, h7⟩
/-- the start of a def's body -/
theorem rel_start {G : Gh} {H : Hp} {g : GS} {N : List Str} {vs : List V} {ds : List D} (ok : GOk G H) (gs : GsOk K G H g) (da : DrA K G H vs ds) (hl : vs.length ≤ N.length) : Rel K G H G (L2.start N vs) H (ds.map .v ++ List.replicate (N.length - ds.length) .un) g := by
  have e := da.length
  refine ⟨ok, ok, Stp.refl, fun _ h => h, fun _ h n => absurd h n, rfl, rfl, ?_, fun i s hs => ?_, fun i j s t h1 h2 l1 l2 hij => ?_, gs⟩
  · unfold L2.start
    rw [List.length_append, List.length_append, List.length_map, List.length_map, List.length_replicate, List.length_replicate, e]
  · by_cases hi : i < ds.length
    · rw [List.getElem?_append_left (by rw [List.length_map]; exact hi), List.getElem?_map, List.getElem?_eq_getElem hi] at hs
      cases hs
      obtain ⟨v, hv, dv⟩ := da.get (List.getElem?_eq_getElem hi)
      refine ⟨v, ?_, dv⟩
      unfold L2.start
      rw [List.getElem?_append_left (by rw [List.length_map, e]; exact hi), List.getElem?_map, hv]
      rfl
    · rw [List.getElem?_append_right (by rw [List.length_map]; omega), List.getElem?_replicate] at hs
      split at hs
      · cases hs; trivial
      · cases hs
  · have nl : ∀ {m : Nat} {q : Slot}, (ds.map Slot.v ++ List.replicate (N.length - ds.length) .un)[m]? = some q → q.isL = false := fun {m q} h => by
      rcases List.mem_append.mp (List.mem_of_getElem? h) with z | z
      · obtain ⟨d, _, rfl⟩ := List.mem_map.mp z; rfl
      · rw [(List.mem_replicate.mp z).2]; rfl
    rw [nl h1] at l1; cases l1
/-- THE RULE: a def whose body the check knows keeps the promise of the evaluator's function -/
theorem fn_dv {x qual : Str} {st : Stmt} {f : Addr} {fd : FuncData} {N ps : List Str} {n p lv : Nat} {Φ : List Fn} {fs : List Str} {body : S} (F : Fun K x qual st f fd) (hs : scopeB N ps (defScope st) = true) (hn : n = N.length) (hp : p = ps.length) (hc : chkB ⟨N, defScope st, none, fs⟩ body (defBody st) = true)
    (fns : ∀ (k : Nat) (F : Fn), Φ[k]? = some F → ∃ x, fs[k]? = some x ∧ CalleeOk P w K mg base lv x F) (blt : ∀ x ∈ bltN, mg x = none) : FnOk P w K mg base CX0 (lv + 1) f fd ps (spD K (runFn Φ p n body)) := by
  have S := scope_ok hs
  have len : ∀ vs H Q E, spD K (runFn Φ p n body) vs H Q E → vs.length = ps.length := fun vs H Q E ⟨G, ds, g, d, g', ok, gs, da, e, q⟩ => by
    rw [da.length]
    unfold runFn at e
    split at e
    · rename_i h; rw [h, hp]
    · cases e
  refine F.ok S len fun cdv A outer s H vs Q E hr h => ?_
  have hl := len vs H Q E h
  obtain ⟨G, ds, g, d, g', ok, gs, da, e, q⟩ := h
  unfold runFn at e
  split at e
  case isFalse => cases e
  rename_i hd
  have hpl : ps.length ≤ N.length := by have := congrArg List.length S.pre; rw [List.length_take] at this; omega
  let X : Cx := (cxOf CX0 P w K mg base N qual (defScope st) f cdv A outer s H E).nox
  have C : CtxOk X ⟨N, defScope st, none, fs⟩ Φ lv := ⟨rfl, rfl, S.nd, rfl, fun _ => rfl, rfl, hr, fns, blt⟩
  refine ⟨_, (sS Φ lv C S.kind body).2 (defBody st) hc, ?_⟩
  have r := rel_start (N := N) ok gs da (by omega)
  rw [← hd, hn] at e
  split at e
  · rename_i dd gg he
    cases e
    exact ⟨G, H, G, _, g, g, _, _, gs, r, he, fun v H' s' dv => q v H' s' dv⟩
  · rename_i ρ gg he
    cases e
    exact ⟨G, H, G, _, g, g, _, _, gs, r, he, fun G' σ' H' k r' => q .non H' (r'.stq0 gs) .non⟩
  · cases e
theorem callee_dv {x qual : Str} {st : Stmt} {f : Addr} {fd : FuncData} {N ps : List Str} {n p lv : Nat} {Φ : List Fn} {fs : List Str} {body : S} (F : Fun K x qual st f fd) (hb : Binds K fd ps []) (hm : mg x = some (.ref f)) (hs : scopeB N ps (defScope st) = true) (hn : n = N.length) (hp : p = ps.length) (hc : chkB ⟨N, defScope st, none, fs⟩ body (defBody st) = true)
    (fns : ∀ (k : Nat) (F : Fn), Φ[k]? = some F → ∃ x, fs[k]? = some x ∧ CalleeOk P w K mg base lv x F) (blt : ∀ x ∈ bltN, mg x = none) : CalleeOk P w K mg base (lv + 1) x (runFn Φ p n body) := ⟨⟨f, fd, ps, fn_dv F hs hn hp hc fns blt, hm, F.kp, hb⟩⟩
/-- a promise that promises nothing -/
theorem callee_none {x qual : Str} {st : Stmt} {f : Addr} {fd : FuncData} {ps : List Str} {lv : Nat} (F : Fun K x qual st f fd) (hb : Binds K fd ps []) (hm : mg x = some (.ref f)) : CalleeOk P w K mg base lv x (fun _ _ => none) :=
  ⟨⟨f, fd, ps, ⟨(fun vs H Q E ⟨_, _, _, _, _, _, _, _, e, _⟩ => nomatch e), fun _ _ _ _ _ _ _ _ _ _ _ _ _ ⟨_, _, _, _, _, _, _, _, e, _⟩ => (nomatch e)⟩, hm, F.kp, hb⟩⟩
/-- the callees of a def as a list -/
inductive AllOk (P : Program) (w : World) (K : PySem.W.Frag) (mg : Str → Option Value) (base : Heap) (lv : Nat) : List Fn → List Str → Prop
  | nil : AllOk P w K mg base lv [] []
  | cons {F : Fn} {x : Str} {Φ : List Fn} {fs : List Str} : CalleeOk P w K mg base lv x F → AllOk P w K mg base lv Φ fs → AllOk P w K mg base lv (F :: Φ) (x :: fs)
theorem AllOk.get {lv : Nat} : ∀ {Φ : List Fn} {fs : List Str}, AllOk P w K mg base lv Φ fs → ∀ (k : Nat) (F : Fn), Φ[k]? = some F → ∃ x, fs[k]? = some x ∧ CalleeOk P w K mg base lv x F
  | _, _, .nil, k, F, h => by simp at h
  | _, _, .cons (x := x) c _, 0, F, h => by simp at h; subst h; exact ⟨x, rfl, c⟩
  | _, _, .cons _ t, k + 1, F, h => by
    obtain ⟨x, h1, h2⟩ := AllOk.get t k F (by simpa using h)
    exact ⟨x, by simpa using h1, h2⟩

/-! ### the law's own def: from the script to the pool -/
/-- the pool's token in, the state of draws beside it -/
def pick : Fn := fun ds g => match ds, g.pool with
  | [.dict [(.dict [], .none)], .int m], some (rows, at_) =>
    if 0 < m ∧ 0 ≤ at_ ∧ at_ < 2 ^ 31 ∧ 0 < rows.length ∧ rows.length < 2 ^ 31 then
      match rows[(at_ % rows.length).toNat]? with
      | some r => some (.int ((r + at_ / rows.length * 1009 + at_ / rows.length * at_) % m), ⟨some (rows, at_ + 1)⟩)
      | none => none
    else none
  | _, _ => none
end
end Dv
end
section
set_option linter.all false
set_option maxRecDepth 100000
set_option autoImplicit false
set_option maxHeartbeats 4000000
/-! Dv17: the pick by hand: one draw of the pool. -/
namespace Dv
open PySem PySem.Spec PyProof.Rows L2
/-- the text of the pick, at any places -/
abbrev pickB (p1 p2 p3 p4 p5 p6 p7 p8 p9 p10 p11 p12 p13 p14 p15 p16 p17 p18 p19 p20 p21 p22 p23 p24 p25 p26 p27 p28 p29 p30 p31 p32 p33 p34 p35 p36 p37 p38 p39 p40 p41 p42 p43 p44 p45 p46 p47 p48 p49 : Pos) : List Stmt :=
  [ (PySem.Stmt.Assign (targets := [(PySem.Expr.Name "at" p1)]) (value := (PySem.Expr.Subscript (value := (PySem.Expr.Subscript (value := (PySem.Expr.Name "pool" p2)) (slice := (PySem.Expr.Constant (PySem.Const.int 1) 0 p3)) (pos := p4))) (slice := (PySem.Expr.Constant (PySem.Const.int 0) 0 p5)) (pos := p6))) (pos := p7)), (PySem.Stmt.Assign (targets := [ (PySem.Expr.Subscript (value := (PySem.Expr.Subscript (value := (PySem.Expr.Name "pool" p8)) (slice := (PySem.Expr.Constant (PySem.Const.int 1) 0 p9)) (pos := p10))) (slice := (PySem.Expr.Constant (PySem.Const.int 0) 0 p11)) (pos := p12))]) (value := (PySem.Expr.BinOp (left := (PySem.Expr.Name "at" p13)) (op := PySem.Operator.Add) (right := (PySem.Expr.Constant (PySem.Const.int 1) 0 p14)) (pos := p15))) (pos := p16)), (PySem.Stmt.Assign (targets := [(PySem.Expr.Name "turn" p17)]) (value := (PySem.Expr.BinOp (left := (PySem.Expr.Name "at" p18)) (op := PySem.Operator.FloorDiv) (right := (PySem.Expr.Call (func := (PySem.Expr.Name "len" p19)) (args := [ (PySem.Expr.Subscript (value := (PySem.Expr.Name "pool" p20)) (slice := (PySem.Expr.Constant (PySem.Const.int 0) 0 p21)) (pos := p22))]) (keywords := []) (pos := p23))) (pos := p24))) (pos := p25)), (PySem.Stmt.Return (value := (some (PySem.Expr.BinOp (left := (PySem.Expr.Call (func := (PySem.Expr.Name "int" p26)) (args := [ (PySem.Expr.BinOp (left := (PySem.Expr.BinOp (left := (PySem.Expr.Subscript (value := (PySem.Expr.Subscript (value := (PySem.Expr.Name "pool" p27)) (slice := (PySem.Expr.Constant (PySem.Const.int 0) 0 p28)) (pos := p29))) (slice := (PySem.Expr.BinOp (left := (PySem.Expr.Name "at" p30)) (op := PySem.Operator.Mod) (right := (PySem.Expr.Call (func := (PySem.Expr.Name "len" p31)) (args := [ (PySem.Expr.Subscript (value := (PySem.Expr.Name "pool" p32)) (slice := (PySem.Expr.Constant (PySem.Const.int 0) 0 p33)) (pos := p34))]) (keywords := []) (pos := p35))) (pos := p36))) (pos := p37))) (op := PySem.Operator.Add) (right := (PySem.Expr.BinOp (left := (PySem.Expr.Name "turn" p38)) (op := PySem.Operator.Mult) (right := (PySem.Expr.Constant (PySem.Const.int 1009) 0 p39)) (pos := p40))) (pos := p41))) (op := PySem.Operator.Add) (right := (PySem.Expr.BinOp (left := (PySem.Expr.Name "turn" p42)) (op := PySem.Operator.Mult) (right := (PySem.Expr.Name "at" p43)) (pos := p44))) (pos := p45))]) (keywords := []) (pos := p46))) (op := PySem.Operator.Mod) (right := (PySem.Expr.Name "amount" p47)) (pos := p48)))) (pos := p49))]
def pickSc : Scope := { kind := .function, names := [("pool", .local), ("amount", .local), ("at", .local), ("turn", .local), ("len", .globalImplicit), ("int", .globalImplicit)], isGenerator := false, isCoroutine := false, more := [] }
theorem pickScope : FnScope ["pool", "amount", "at", "turn"] ["pool", "amount"] pickSc := ⟨rfl, rfl, rfl, by decide +kernel, rfl, by decide +kernel, by decide +kernel⟩
section
variable {P : Program} {w : World} {K : PySem.W.Frag} {mg : Str → Option Value} {base : Heap}
theorem pick_some {ds : List D} {g g' : GS} {d : D} (h : pick ds g = some (d, g')) : ∃ (m : Int) (rows : List Int) (at_ r : Int), ds = [.dict [(.dict [], .none)], .int m] ∧ g.pool = some (rows, at_) ∧ 0 < m ∧ 0 ≤ at_ ∧ at_ < 2 ^ 31 ∧ 0 < rows.length ∧ rows.length < 2 ^ 31 ∧ rows[(at_ % rows.length).toNat]? = some r ∧
    d = .int ((r + at_ / rows.length * 1009 + at_ / rows.length * at_) % m) ∧ g' = ⟨some (rows, at_ + 1)⟩ := by
  unfold pick at h
  split at h
  · rename_i m rows at_ e
    split at h
    · rename_i hc
      split at h
      · rename_i r hr
        cases h
        exact ⟨m, rows, at_, r, rfl, e, hc.1, hc.2.1, hc.2.2.1, hc.2.2.2.1, hc.2.2.2.2, hr, rfl, rfl⟩
      · cases h
    · cases h
  · cases h
theorem atI_int {α : Type} {xs : List α} {i : Int} {v : α} (h0 : 0 ≤ i) (h : xs[i.toNat]? = some v) : atI xs i = some v := by
  have := atI_nat h
  rwa [Int.toNat_of_nonneg h0] at this
theorem Dr.poolV {G : Gh} {H : Hp} {v : V} (h : Dr K G H v (.dict [(.dict [], .none)])) : ∃ p r c, G.pl = some (p, r, c) ∧ v = .ref p := by
  cases h with
  | dk _ _ h3 => exact h3.noDict.elim
  | pool h => exact ⟨_, _, _, h, rfl⟩
theorem ok_pick {p1 p2 p3 p4 p5 p6 p7 p8 p9 p10 p11 p12 p13 p14 p15 p16 p17 p18 p19 p20 p21 p22 p23 p24 p25 p26 p27 p28 p29 p30 p31 p32 p33 p34 p35 p36 p37 p38 p39 p40 p41 p42 p43 p44 p45 p46 p47 p48 p49 : Pos} {st : Stmt} {f : Addr} {fd : FuncData} (F : Fun K "_law_pick" "_law_pick" st f fd) (hsc : defScope st = pickSc) (hb : defBody st = pickB p1 p2 p3 p4 p5 p6 p7 p8 p9 p10 p11 p12 p13 p14 p15 p16 p17 p18 p19 p20 p21 p22 p23 p24 p25 p26 p27 p28 p29 p30 p31 p32 p33 p34 p35 p36 p37 p38 p39 p40 p41 p42 p43 p44 p45 p46 p47 p48 p49) (ml : mg "len" = none) (mi : mg "int" = none) : FnOk P w K mg base CX0 1 f fd ["pool", "amount"] (spD K pick) := by
  refine F.ok (hsc ▸ pickScope) (fun vs H Q E h => ?_) (fun cdv A outer s H vs Q E hr h => ?_)
  · obtain ⟨G, ds, g, d, g', ok, gs, da, e, q⟩ := h
    obtain ⟨m, rows, at_, r, rfl, _⟩ := pick_some e
    rw [da.length]; rfl
  · rw [hb, hsc]
    refine ⟨_, pss_cons (ps_set (i := 2) pickScope.nd rfl (.inl rfl) (pe_ix ix_list (pe_ix ix_list (pv 0) pe_int (fun _ _ => rfl)) pe_int (fun _ _ => rfl)))
      (pss_cons (ps_asg (pe_op op_add (pv 2) pe_int) (pg_sub (pe_ix ix_list (pv 0) pe_int (fun _ _ => rfl)) pe_int set_list))
      (pss_cons (ps_set (i := 3) pickScope.nd rfl (.inl rfl) (pe_op op_fdivW (pv 2) (pe_callB call_len_seq (by rfl) ml PySem.boot_len (pa_cons (pe_ix ix_list (pv 0) pe_int (fun _ _ => rfl)) pa_nil))))
      (pss_one (ps_ret (pe_op op_mod (pe_callTy call_int1 (by rfl) mi (by decide +kernel) (pa_cons (pe_op op_add (pe_op op_add (pe_ix ix_list (pe_ix ix_list (pv 0) pe_int (fun _ _ => rfl)) (pe_op op_mod (pv 2) (pe_callB call_len_seq (by rfl) ml PySem.boot_len (pa_cons (pe_ix ix_list (pv 0) pe_int (fun _ _ => rfl)) pa_nil))) (fun _ _ => rfl)) (pe_op op_mul (pv 3) pe_int)) (pe_op op_mul (pv 3) (pv 2))) pa_nil)) (pv 1)))))), ?_⟩
    obtain ⟨G, ds, g, d, g', ok, gs, da, e, q⟩ := h
    obtain ⟨m, rows, at_, r, rfl, hp, hm, h0, h1, h2, h3, hrw, rfl, rfl⟩ := pick_some e
    obtain ⟨pl⟩ := g
    cases hp
    obtain ⟨p, ra, c, e1, e2, e3, e4, e5, e6, e7, e8, e9, e10⟩ := gs
    cases da with
    | cons d1 da =>
      cases da with
      | cons d2 da =>
        cases da
        cases d2
        obtain ⟨p', ra', c', e1', rfl⟩ := d1.poolV
        rw [e1] at e1'
        cases e1'
        have npc : p ≠ c := fun z => e9 (by rw [z]; exact e8)
        have nrc : ra ≠ c := fun z => e10 (by rw [z]; exact e8)
        have k2 : (L2.upd H c (.lst [.int (at_ + 1)])) p = some (.lst [.ref ra, .ref c]) := by rw [upd_ne npc]; exact e2
        have k3 : (L2.upd H c (.lst [.int (at_ + 1)])) ra = some (.lst (rows.map V.int)) := by rw [upd_ne nrc]; exact e3
        have hlen : (rows.map V.int).length = rows.length := List.length_map ..
        have hdiv : CDivW at_ ((rows.map V.int).length : Int) := by
          rw [hlen]
          refine ⟨by omega, ?_⟩
          have h5 : rows.length.log2 ≤ rows.length := by
            by_cases hz : rows.length = 0
            · omega
            · exact Nat.le_trans (Nat.le_of_lt (Nat.lt_pow_self (n := rows.length.log2) (by decide : 1 < 2))) (Nat.log2_self_le hz)
          have h6 : rows.length.log2 < 31 := (Nat.log2_lt (by omega)).mpr h3
          show ((rows.length : Int).natAbs).log2 < 9000
          rw [Int.natAbs_natCast]
          omega
        have hpos : (0 : Int) < ((rows.map V.int).length : Int) := by rw [hlen]; omega
        have hrow : atI (rows.map V.int) (at_ % ((rows.map V.int).length : Int)) = some (.int r) := by
          rw [hlen]
          exact atI_int (Int.emod_nonneg _ (by omega)) (by rw [List.getElem?_map, hrw]; rfl)
        have st : Stq K G H (L2.upd H c (.lst [.int (at_ + 1)])) ⟨some (rows, at_ + 1)⟩ := by
          refine ⟨fun a o ea n => ?_, ⟨p, ra, c, e1, k2, k3, upd_same, e5, e6, e7, e8, e9, e10⟩, fun a ha => ?_⟩
          · rw [upd_ne fun z => n (by rw [z]; exact e8)]; exact ea
          · by_cases hac : a = c
            · rw [hac]; exact ⟨_, upd_same, rfl⟩
            · obtain ⟨o, eo, no⟩ := ok.dom a ha
              exact ⟨o, by rw [upd_ne hac]; exact eo, no⟩
        refine ⟨.ref p, rfl, p, _, 1, .ref c, rfl, rfl, .of e2, rfl, c, _, 0, .int at_, rfl, rfl, .of e4, rfl, ?_⟩
        refine ⟨.int at_, rfl, at_, 1, rfl, rfl, .ref p, rfl, p, _, 1, .ref c, rfl, rfl, .of e2, rfl, c, _, 0, 0, rfl, rfl, e4, rfl, ?_⟩
        refine ⟨.int at_, rfl, .ref p, rfl, p, _, 0, .ref ra, rfl, rfl, .of k2, rfl, ra, _, rfl, .inl (.of k3), at_, _, rfl, rfl, hdiv, ?_⟩
        refine ⟨.ref p, rfl, p, _, 0, .ref ra, rfl, rfl, .of k2, rfl, .int at_, rfl, .ref p, rfl, p, _, 0, .ref ra, rfl, rfl, .of k2, rfl, ra, _, rfl, .inl (.of k3), at_, _, rfl, rfl, hpos, ra, _, _, .int r, rfl, rfl, .of k3, hrow, ?_⟩
        refine ⟨_, rfl, _, _, rfl, rfl, .inr (by decide), r, _, rfl, rfl, _, rfl, _, rfl, _, _, rfl, rfl, .inr (by omega), _, _, rfl, rfl, .inl ⟨_, rfl, .int m, rfl, _, m, rfl, rfl, hm, ?_⟩⟩
        rw [hlen]
        exact q _ _ st (.int _)
end
end Dv
end
section
set_option linter.all false
set_option maxRecDepth 100000
set_option autoImplicit false
set_option maxHeartbeats 4000000
/-! Dv18: the law's own def. -/
namespace Dv
open PySem PySem.Spec PyProof.Rows L2
section
variable {P : Program} {w : World} {K : PySem.W.Frag} {mg : Str → Option Value} {base : Heap}
def spLaw (K : PySem.W.Frag) : Sp := fun vs H Q _ => ∃ (a : Addr) (ns : List Int), vs = [.ref a] ∧ SqL K H a (ns.map V.int) ∧ ns.length ≤ 63 ∧ ∀ H', Q (.bl true) H'
/-- the names behind the first statement: the pool alone -/
def ρ0 (n : Nat) : List Slot := (List.replicate n Slot.un).set 1 (.v poolD)
theorem DrA.intsV {G : Gh} {H : Hp} : ∀ {vs : List V} {ns : List Int}, DrA K G H vs (ns.map PyData.int) → vs = ns.map V.int
  | _, [], .nil => rfl
  | _, n :: r, .cons h t => by cases h; rw [DrA.intsV t]; rfl
/-- what the law says of the evaluator -/
def LawRuns (poolF : Fn) (Φ : List Fn) (n : Nat) (body : S) : Prop := ∀ ns : List Int, ns.length ≤ 63 → ∃ (rows : List Int) (g' : GS), poolF [scrD (ns.map PyData.int)] ⟨none⟩ = some (.list [.list (rows.map PyData.int), .list [.int 0]], ⟨none⟩) ∧ 1 < rows.length ∧
  ex Φ body (ρ0 n) ⟨some (rows, 0)⟩ = some (.rt (.bool true), g')
theorem law_dv {st : Stmt} {f : Addr} {fd : FuncData} {N : List Str} {n lv : Nat} {poolF : Fn} {Φ : List Fn} {fs : List Str} {body : S} {st0 : Stmt} {rest : List Stmt} (F : Fun K "law" "law" st f fd) (hs : scopeB N ["script"] (defScope st) = true) (hn : n = N.length) (hn2 : 2 ≤ n) (hb : defBody st = st0 :: rest)
    (hc0 : chkB ⟨N, defScope st, none, "_law_pool" :: fs⟩ (.asg (.n 1) (.call 0 (.cons (.var 0) .nil))) [st0] = true) (hc : chkB ⟨N, defScope st, none, "_law_pool" :: fs⟩ body rest = true)
    (fns : AllOk P w K mg base lv (poolF :: Φ) ("_law_pool" :: fs)) (blt : ∀ x ∈ bltN, mg x = none) (run : LawRuns poolF (poolF :: Φ) n body) : FnOk P w K mg base CX0 (lv + 1) f fd ["script"] (spLaw K) := by
  have S := scope_ok hs
  refine F.ok S (fun vs H Q E h => ?_) fun cdv A outer s H vs Q E hr h => ?_
  · obtain ⟨a, ns, rfl, _⟩ := h; rfl
  obtain ⟨a, ns, rfl, hS, hl, q⟩ := h
  obtain ⟨rows, g', hp, hrl, he⟩ := run ns hl
  let X : Cx := (cxOf CX0 P w K mg base N "law" (defScope st) f cdv A outer s H E).nox
  have C : CtxOk X ⟨N, defScope st, none, "_law_pool" :: fs⟩ (poolF :: Φ) lv := ⟨rfl, rfl, S.nd, rfl, fun _ => rfl, rfl, hr, fns.get, blt⟩
  have P1 : PS X st0 (tS X.K (poolF :: Φ) (.asg (.n 1) (.call 0 (.cons (.var 0) .nil)))) := (sS (poolF :: Φ) lv C S.kind _).1 st0 rfl hc0
  have P2 : PSs X rest (tS X.K (poolF :: Φ) body) := (sS (poolF :: Φ) lv C S.kind body).2 rest hc
  rw [hb]
  refine ⟨_, pss_cons P1 P2, ?_⟩
  let G : Gh := ⟨[], [], [], none⟩
  have ok : GOk G H := ⟨fun a z => absurd z (by simp [G]), fun a z => absurd z (by simp [G]), fun a z => absurd z (by simp [G])⟩
  have gs : GsOk K G H ⟨none⟩ := rfl
  have dS : DrA K G H [.ref a] [scrD (ns.map PyData.int)] := .cons (.scr (xs := ns.map V.int) (by
    rcases hS with hS | hS
    · exact .inl ⟨hS, by simp [G]⟩
    · exact .inr hS) (.ofInts ns)) .nil
  have r := rel_start (N := N) ok gs dS (by show 1 ≤ N.length; omega)
  have e0 : ex (poolF :: Φ) (.asg (.n 1) (.call 0 (.cons (.var 0) .nil))) (([scrD (ns.map PyData.int)] : List D).map Slot.v ++ List.replicate (N.length - ([scrD (ns.map PyData.int)] : List D).length) Slot.un) ⟨none⟩ =
      some (.nx ((([scrD (ns.map PyData.int)] : List D).map Slot.v ++ List.replicate (N.length - ([scrD (ns.map PyData.int)] : List D).length) Slot.un).set 1 (.v (.list [.list (rows.map PyData.int), .list [.int 0]]))), ⟨none⟩) := by
    simp only [ex, ev, evs, Tg.asg, List.map_cons, List.map_nil, List.cons_append, List.getElem?_cons_zero, Option.bind_eq_bind, Option.bind_some, Option.pure_def, hp]
  refine ⟨G, H, G, _, ⟨none⟩, ⟨none⟩, _, _, gs, r, e0, fun G1 σ1 H1 k1 r1 => ?_⟩
  -- the pool is opened
  obtain ⟨v, hv, dv⟩ := r1.sl 1 (.v (.list [.list (rows.map PyData.int), .list [.int 0]])) (by rw [List.getElem?_set_self]; simp; omega)
  have r1l := r1.len
  obtain ⟨p, vs, rfl, hpp, dvs⟩ := (Dl.of (pk := true) (H0 := H) dv).list
  cases dvs with
  | cons d1 dvs =>
    cases dvs with
    | cons d2 dvs =>
      cases dvs
      obtain ⟨ra, xs, rfl, hra, dxs⟩ := (Dl.of (pk := true) (H0 := H) d1).list
      obtain ⟨c, ys, rfl, hcc, dys⟩ := (Dl.of (pk := true) (H0 := H) d2).list
      have := dxs.intsV
      subst this
      have : ys = [V.int 0] := by
        cases dys with
        | cons a b => cases b; cases a; rfl
      subst this
      have npc : p ≠ c := fun z => by
        subst z
        rw [hpp] at hcc
        cases hcc
      have nrc : ra ≠ c := fun z => by
        subst z
        rw [hra] at hcc
        have : rows.map V.int = [V.int 0] := by injection hcc with h; injection h
        have := congrArg List.length this
        rw [List.length_map, List.length_singleton] at this
        omega
      let G2 : Gh := ⟨[p, ra, c], [], [c], some (p, ra, c)⟩
      have ok2 : GOk G2 H1 := by
        refine ⟨fun b hb => ?_, fun b hb => ?_, fun b z => absurd z (by simp [G2])⟩
        · simp only [G2, List.mem_cons, List.not_mem_nil, or_false] at hb
          rcases hb with rfl | rfl | rfl
          · exact ⟨_, hpp, rfl⟩
          · exact ⟨_, hra, rfl⟩
          · exact ⟨_, hcc, rfl⟩
        · simp only [G2, List.mem_cons, List.not_mem_nil, or_false] at hb ⊢
          exact .inr (.inr hb)
      have gs2 : GsOk K G2 H1 ⟨some (rows, 0)⟩ := ⟨p, ra, c, rfl, hpp, hra, hcc, by simp [G2], by simp [G2], by simp [G2], by simp [G2], by simp [G2]; exact npc, by simp [G2]; exact nrc⟩
      have r2 : Rel K G2 H1 G2 σ1 H1 (ρ0 n) ⟨some (rows, 0)⟩ := by
        refine ⟨ok2, ok2, Stp.refl, fun _ h => h, fun _ h n => absurd h n, rfl, rfl, ?_, fun i s hs => ?_, fun i j s t h1 h2 l1 l2 hij => ?_, gs2⟩
        · rw [← r1l]
          unfold ρ0
          simp
          omega
        · unfold ρ0 at hs
          by_cases hi : i = 1
          · subst hi
            rw [List.getElem?_set_self (by rw [List.length_replicate]; omega)] at hs
            cases hs
            exact ⟨.ref p, hv, .pool rfl⟩
          · rw [List.getElem?_set_ne (fun z => hi z.symm), List.getElem?_replicate] at hs
            split at hs
            · cases hs; trivial
            · cases hs
        · have nl : s.isL = false := by
            rcases List.mem_or_eq_of_mem_set (List.mem_of_getElem? h1) with z | z
            · rw [(List.mem_replicate.mp z).2]; rfl
            · rw [z]; rfl
          rw [nl] at l1; cases l1
      refine ⟨G2, H1, G2, ρ0 n, _, _, _, _, gs2, r2, he, fun v H' s' dv => ?_⟩
      cases dv
      exact q H'
end
end Dv
end
section
set_option maxRecDepth 100000
set_option autoImplicit false
set_option linter.all false
/-! LibF: printed by gen2.py: the trees of the defs, and their functions. -/
namespace Dv
open PySem L2
/-! is_whole(value): names 0=value; calls  -/
def Nf_is_whole : List Str := ["value"]
def bf_is_whole : S :=
  (.seq (.ret (.and (.isi .int (.var 0)) (.not (.isi .bool (.var 0))))) .nil)
def f_is_whole : Fn := runFn [] 1 1 bf_is_whole
/-! is_numbers(value): names 0=value 1=item; calls is_whole -/
def Nf_is_numbers : List Str := ["value", "item"]
def bf_is_numbers : S :=
  (.seq (.ret (.and (.isi .tuple (.var 0)) (.bfn .all (.cons (.lc (.call 0 (.cons (.var 1) .nil)) (.n 1) (.var 0) .no) .nil)))) .nil)
def f_is_numbers : Fn := runFn [f_is_whole] 1 2 bf_is_numbers
/-! is_from(value, low, high): names 0=value 1=low 2=high; calls is_whole -/
def Nf_is_from : List Str := ["value", "low", "high"]
def bf_is_from : S :=
  (.seq (.ret (.and (.call 0 (.cons (.var 0) .nil)) (.chn .LtE .LtE (.var 1) (.var 0) (.var 2)))) .nil)
def f_is_from : Fn := runFn [f_is_whole] 3 3 bf_is_from
/-! rises(items): names 0=items 1=k; calls  -/
def Nf_rises : List Str := ["items", "k"]
def bf_rises : S :=
  (.seq (.ret (.bfn .all (.cons (.lc (.cmp .Lt (.idx (.var 0) (.var 1)) (.idx (.var 0) (.bin .Add (.var 1) (.int 1)))) (.n 1) (.rng .no (.bin .Sub (.bfn .len (.cons (.var 0) .nil)) (.int 1))) .no) .nil))) .nil)
def f_rises : Fn := runFn [] 1 2 bf_rises
/-! is_points(value, n): names 0=value 1=n 2=item; calls is_numbers rises -/
def Nf_is_points : List Str := ["value", "n", "item"]
def bf_is_points : S :=
  (.seq (.ret (.and (.call 0 (.cons (.var 0) .nil)) (.and (.call 1 (.cons (.var 0) .nil)) (.bfn .all (.cons (.lc (.chn .LtE .Lt (.int 0) (.var 2) (.var 1)) (.n 2) (.var 0) .no) .nil))))) .nil)
def f_is_points : Fn := runFn [f_is_numbers, f_rises] 2 3 bf_is_points
/-! is_lots(value, n): names 0=value 1=n 2=lot; calls is_points rises -/
def Nf_is_lots : List Str := ["value", "n", "lot"]
def bf_is_lots : S :=
  (.seq (.ret (.and (.isi .tuple (.var 0)) (.and (.bfn .all (.cons (.lc (.call 0 (.cons (.var 2) (.cons (.var 1) .nil))) (.n 2) (.var 0) .no) .nil)) (.call 1 (.cons (.var 0) .nil))))) .nil)
def f_is_lots : Fn := runFn [f_is_points, f_rises] 2 3 bf_is_lots
/-! subsets(items): names 0=items 1=found 2=item 3=row; calls  -/
def Nf_subsets : List Str := ["items", "found", "item", "row"]
def bf_subsets : S :=
  (.seq (.own 1 (.lst (.cons (.tup .nil) .nil))) (.seq (.for_ (.n 2) (.var 0) (.seq (.ext 1 (.lc (.bin .Add (.var 3) (.tup (.cons (.var 2) .nil))) (.n 3) (.var 1) .no)) .nil)) (.seq (.ret (.bfn .sorted (.cons (.var 1) .nil))) .nil)))
def f_subsets : Fn := runFn [] 1 4 bf_subsets
/-! of_size(items, size): names 0=items 1=size 2=row; calls subsets -/
def Nf_of_size : List Str := ["items", "size", "row"]
def bf_of_size : S :=
  (.seq (.ret (.lc (.var 2) (.n 2) (.call 0 (.cons (.var 0) .nil)) (.cmp .Eq (.bfn .len (.cons (.var 2) .nil)) (.var 1)))) .nil)
def f_of_size : Fn := runFn [f_subsets] 2 3 bf_of_size
/-! without(items, others): names 0=items 1=others 2=item; calls  -/
def Nf_without : List Str := ["items", "others", "item"]
def bf_without : S :=
  (.seq (.ret (.bfn .tuple (.cons (.lc (.var 2) (.n 2) (.var 0) (.cmp .NotIn (.var 2) (.var 1))) .nil))) .nil)
def f_without : Fn := runFn [] 2 3 bf_without
/-! common(items, others): names 0=items 1=others 2=item; calls  -/
def Nf_common : List Str := ["items", "others", "item"]
def bf_common : S :=
  (.seq (.ret (.bfn .tuple (.cons (.lc (.var 2) (.n 2) (.var 0) (.cmp .In (.var 2) (.var 1))) .nil))) .nil)
def f_common : Fn := runFn [] 2 3 bf_common
/-! is_inside(items, others): names 0=items 1=others 2=item; calls  -/
def Nf_is_inside : List Str := ["items", "others", "item"]
def bf_is_inside : S :=
  (.seq (.ret (.bfn .all (.cons (.lc (.cmp .In (.var 2) (.var 1)) (.n 2) (.var 0) .no) .nil))) .nil)
def f_is_inside : Fn := runFn [] 2 3 bf_is_inside
/-! points_of(matroid): names 0=matroid; calls  -/
def Nf_points_of : List Str := ["matroid"]
def bf_points_of : S :=
  (.seq (.ret (.bfr true (.rng .no (.idx (.var 0) (.int 0))))) .nil)
def f_points_of : Fn := runFn [] 1 1 bf_points_of
/-! rank_of(matroid): names 0=matroid; calls  -/
def Nf_rank_of : List Str := ["matroid"]
def bf_rank_of : S :=
  (.seq (.ret (.bfn .len (.cons (.idx (.idx (.var 0) (.int 1)) (.int 0)) .nil))) .nil)
def f_rank_of : Fn := runFn [] 1 1 bf_rank_of
/-! rank(matroid, points): names 0=matroid 1=points 2=base; calls common -/
def Nf_rank : List Str := ["matroid", "points", "base"]
def bf_rank : S :=
  (.seq (.ret (.bfn .max (.cons (.lc (.bfn .len (.cons (.call 0 (.cons (.var 1) (.cons (.var 2) .nil))) .nil)) (.n 2) (.idx (.var 0) (.int 1)) .no) .nil))) .nil)
def f_rank : Fn := runFn [f_common] 2 3 bf_rank
/-! is_free(matroid, points): names 0=matroid 1=points 2=base; calls is_inside -/
def Nf_is_free : List Str := ["matroid", "points", "base"]
def bf_is_free : S :=
  (.seq (.ret (.bfn .any (.cons (.lc (.call 0 (.cons (.var 1) (.cons (.var 2) .nil))) (.n 2) (.idx (.var 0) (.int 1)) .no) .nil))) .nil)
def f_is_free : Fn := runFn [f_is_inside] 2 3 bf_is_free
/-! is_spanning(matroid, points): names 0=matroid 1=points 2=base; calls is_inside -/
def Nf_is_spanning : List Str := ["matroid", "points", "base"]
def bf_is_spanning : S :=
  (.seq (.ret (.bfn .any (.cons (.lc (.call 0 (.cons (.var 2) (.cons (.var 1) .nil))) (.n 2) (.idx (.var 0) (.int 1)) .no) .nil))) .nil)
def f_is_spanning : Fn := runFn [f_is_inside] 2 3 bf_is_spanning
/-! free_sets(matroid): names 0=matroid 1=lot; calls subsets points_of is_free -/
def Nf_free_sets : List Str := ["matroid", "lot"]
def bf_free_sets : S :=
  (.seq (.ret (.lc (.var 1) (.n 1) (.call 0 (.cons (.call 1 (.cons (.var 0) .nil)) .nil)) (.call 2 (.cons (.var 0) (.cons (.var 1) .nil))))) .nil)
def f_free_sets : Fn := runFn [f_subsets, f_points_of, f_is_free] 1 2 bf_free_sets
/-! circuits(matroid): names 0=matroid 1=bound 2=lot 3=x; calls subsets points_of is_free without -/
def Nf_circuits : List Str := ["matroid", "bound", "lot", "x"]
def bf_circuits : S :=
  (.seq (.asg (.n 1) (.lc (.var 2) (.n 2) (.call 0 (.cons (.call 1 (.cons (.var 0) .nil)) .nil)) (.not (.call 2 (.cons (.var 0) (.cons (.var 2) .nil)))))) (.seq (.ret (.lc (.var 2) (.n 2) (.var 1) (.bfn .all (.cons (.lc (.call 2 (.cons (.var 0) (.cons (.call 3 (.cons (.var 2) (.cons (.tup (.cons (.var 3) .nil)) .nil))) .nil))) (.n 3) (.var 2) .no) .nil)))) .nil))
def f_circuits : Fn := runFn [f_subsets, f_points_of, f_is_free, f_without] 1 4 bf_circuits
/-! coloops(matroid): names 0=matroid 1=x 2=base; calls  -/
def Nf_coloops : List Str := ["matroid", "x", "base"]
def bf_coloops : S :=
  (.seq (.ret (.bfn .tuple (.cons (.lc (.var 1) (.n 1) (.rng .no (.idx (.var 0) (.int 0))) (.bfn .all (.cons (.lc (.cmp .In (.var 1) (.var 2)) (.n 2) (.idx (.var 0) (.int 1)) .no) .nil))) .nil))) .nil)
def f_coloops : Fn := runFn [] 1 3 bf_coloops
/-! dual(matroid): names 0=matroid 1=base; calls without points_of -/
def Nf_dual : List Str := ["matroid", "base"]
def bf_dual : S :=
  (.seq (.ret (.tup (.cons (.idx (.var 0) (.int 0)) (.cons (.bfn .tuple (.cons (.bfn .sorted (.cons (.lc (.call 0 (.cons (.call 1 (.cons (.var 0) .nil)) (.cons (.var 1) .nil))) (.n 1) (.idx (.var 0) (.int 1)) .no) .nil)) .nil)) .nil)))) .nil)
def f_dual : Fn := runFn [f_without, f_points_of] 1 2 bf_dual
/-! cocircuits(matroid): names 0=matroid; calls circuits dual -/
def Nf_cocircuits : List Str := ["matroid"]
def bf_cocircuits : S :=
  (.seq (.ret (.call 0 (.cons (.call 1 (.cons (.var 0) .nil)) .nil))) .nil)
def f_cocircuits : Fn := runFn [f_circuits, f_dual] 1 1 bf_cocircuits
/-! bases_of(matroid, points): names 0=matroid 1=points 2=lot; calls of_size rank is_free -/
def Nf_bases_of : List Str := ["matroid", "points", "lot"]
def bf_bases_of : S :=
  (.seq (.ret (.lc (.var 2) (.n 2) (.call 0 (.cons (.var 1) (.cons (.call 1 (.cons (.var 0) (.cons (.var 1) .nil))) .nil))) (.call 2 (.cons (.var 0) (.cons (.var 2) .nil))))) .nil)
def f_bases_of : Fn := runFn [f_of_size, f_rank, f_is_free] 2 3 bf_bases_of
/-! renamed(matroid, names): names 0=matroid 1=names 2=base 3=x; calls  -/
def Nf_renamed : List Str := ["matroid", "names", "base", "x"]
def bf_renamed : S :=
  (.seq (.ret (.tup (.cons (.idx (.var 0) (.int 0)) (.cons (.bfn .tuple (.cons (.bfn .sorted (.cons (.lc (.bfn .tuple (.cons (.bfn .sorted (.cons (.lc (.idx (.var 1) (.var 3)) (.n 3) (.var 2) .no) .nil)) .nil)) (.n 2) (.idx (.var 0) (.int 1)) .no) .nil)) .nil)) .nil)))) .nil)
def f_renamed : Fn := runFn [] 2 4 bf_renamed
/-! greatest(family): names 0=family 1=size 2=lot; calls  -/
def Nf_greatest : List Str := ["family", "size", "lot"]
def bf_greatest : S :=
  (.seq (.asg (.n 1) (.bfn .max (.cons (.lc (.bfn .len (.cons (.var 2) .nil)) (.n 2) (.var 0) .no) .nil))) (.seq (.ret (.bfn .tuple (.cons (.lc (.var 2) (.n 2) (.var 0) (.cmp .Eq (.bfn .len (.cons (.var 2) .nil)) (.var 1))) .nil))) .nil))
def f_greatest : Fn := runFn [] 1 3 bf_greatest
/-! uniform(size, n): names 0=size 1=n; calls of_size -/
def Nf_uniform : List Str := ["size", "n"]
def bf_uniform : S :=
  (.seq (.ret (.tup (.cons (.var 1) (.cons (.bfn .tuple (.cons (.call 0 (.cons (.bfr true (.rng .no (.var 1))) (.cons (.var 0) .nil))) .nil)) .nil)))) .nil)
def f_uniform : Fn := runFn [f_of_size] 2 2 bf_uniform
/-! roots_of(vertices, edges): names 0=vertices 1=edges 2=found 3=_ 4=a 5=b 6=least 7=root; calls  -/
def Nf_roots_of : List Str := ["vertices", "edges", "found", "_", "a", "b", "least", "root"]
def bf_roots_of : S :=
  (.seq (.asg (.n 2) (.bfr false (.rng .no (.var 0)))) (.seq (.for_ (.n 3) (.rng .no (.var 0)) (.seq (.for_ (.cons (.n 4) (.cons (.n 5) .nil)) (.var 1) (.seq (.asg (.n 6) (.bfn .min2 (.cons (.idx (.var 2) (.var 4)) (.cons (.idx (.var 2) (.var 5)) .nil)))) (.seq (.asg (.n 2) (.lc (.ife (.cmp .In (.var 7) (.tup (.cons (.idx (.var 2) (.var 4)) (.cons (.idx (.var 2) (.var 5)) .nil)))) (.var 6) (.var 7)) (.n 7) (.var 2) .no)) .nil))) .nil)) (.seq (.ret (.var 2)) .nil)))
def f_roots_of : Fn := runFn [] 2 8 bf_roots_of
/-! inverse(a, p): names 0=a 1=p 2=b; calls  -/
def Nf_inverse : List Str := ["a", "p", "b"]
def bf_inverse : S :=
  (.seq (.ret (.idx (.lc (.var 2) (.n 2) (.rng (.int 1) (.var 1)) (.cmp .Eq (.bin .Mod (.bin .Mult (.var 0) (.var 2)) (.var 1)) (.int 1))) (.int 0))) .nil)
def f_inverse : Fn := runFn [] 2 3 bf_inverse
/-! cleared(other, row, place, p): names 0=other 1=row 2=place 3=p 4=k; calls  -/
def Nf_cleared : List Str := ["other", "row", "place", "p", "k"]
def bf_cleared : S :=
  (.seq (.ret (.lc (.bin .Mod (.bin .Sub (.idx (.var 0) (.var 4)) (.bin .Mult (.idx (.var 0) (.var 2)) (.idx (.var 1) (.var 4)))) (.var 3)) (.n 4) (.rng .no (.bfn .len (.cons (.var 1) .nil))) .no)) .nil)
def f_cleared : Fn := runFn [] 4 5 bf_cleared
/-! can_match(lot, sets, taken): names 0=lot 1=sets 2=taken 3=k; calls can_match -/
def Nf_can_match : List Str := ["lot", "sets", "taken", "k"]
def bf_can_match : S :=
  (.seq (.iff (.cmp .Eq (.bfn .len (.cons (.var 0) .nil)) (.int 0)) (.seq (.ret (.bool true)) .nil) .nil) (.seq (.for_ (.n 3) (.rng .no (.bfn .len (.cons (.var 1) .nil))) (.seq (.iff (.and (.cmp .NotIn (.var 3) (.var 2)) (.and (.cmp .In (.idx (.var 0) (.int 0)) (.idx (.var 1) (.var 3))) (.call 0 (.cons (.slc (.var 0) (.int 1) .no) (.cons (.var 1) (.cons (.bin .Add (.var 2) (.tup (.cons (.var 3) .nil))) .nil)))))) (.seq (.ret (.bool true)) .nil) .nil) .nil)) (.seq (.ret (.bool false)) .nil)))
def f_can_match : Nat → Fn
  | 0 => fun _ _ => none
  | k + 1 => runFn [f_can_match k] 3 4 bf_can_match
/-! of_sets(n, sets): names 0=n 1=sets 2=lot; calls greatest subsets can_match -/
def Nf_of_sets : List Str := ["n", "sets", "lot"]
def bf_of_sets : S :=
  (.seq (.ret (.tup (.cons (.var 0) (.cons (.call 0 (.cons (.bfn .tuple (.cons (.lc (.var 2) (.n 2) (.call 1 (.cons (.bfr true (.rng .no (.var 0))) .nil)) (.call 2 (.cons (.var 2) (.cons (.var 1) (.cons (.tup .nil) .nil))))) .nil)) .nil)) .nil)))) .nil)
def f_of_sets : Fn := runFn [f_greatest, f_subsets, f_can_match 12] 2 3 bf_of_sets
/-! shortened(matroid): names 0=matroid 1=size 2=lot; calls rank_of of_size points_of is_free -/
def Nf_shortened : List Str := ["matroid", "size", "lot"]
def bf_shortened : S :=
  (.seq (.asg (.n 1) (.call 0 (.cons (.var 0) .nil))) (.seq (.iff (.cmp .Eq (.var 1) (.int 0)) (.seq (.ret (.var 0)) .nil) .nil) (.seq (.ret (.tup (.cons (.idx (.var 0) (.int 0)) (.cons (.bfn .tuple (.cons (.lc (.var 2) (.n 2) (.call 1 (.cons (.call 2 (.cons (.var 0) .nil)) (.cons (.bin .Sub (.var 1) (.int 1)) .nil))) (.call 3 (.cons (.var 0) (.cons (.var 2) .nil)))) .nil)) .nil)))) .nil)))
def f_shortened : Fn := runFn [f_rank_of, f_of_size, f_points_of, f_is_free] 1 3 bf_shortened
/-! fits(one, two, begun): names 0=one 1=two 2=begun 3=at 4=lot 5=points 6=x; calls subsets rank -/
def Nf_fits : List Str := ["one", "two", "begun", "at", "lot", "points", "x"]
def bf_fits : S :=
  (.seq (.asg (.n 3) (.bin .Sub (.bfn .len (.cons (.var 2) .nil)) (.int 1))) (.seq (.for_ (.n 4) (.call 0 (.cons (.bfr true (.rng .no (.var 3))) .nil)) (.seq (.asg (.n 5) (.bin .Add (.var 4) (.tup (.cons (.var 3) .nil)))) (.seq (.iff (.cmp .NotEq (.call 1 (.cons (.var 0) (.cons (.var 5) .nil))) (.call 1 (.cons (.var 1) (.cons (.bfn .tuple (.cons (.bfn .sorted (.cons (.lc (.idx (.var 2) (.var 6)) (.n 6) (.var 5) .no) .nil)) .nil)) .nil)))) (.seq (.ret (.bool false)) .nil) .nil) .nil))) (.seq (.ret (.bool true)) .nil)))
def f_fits : Fn := runFn [f_subsets, f_rank] 3 7 bf_fits
/-! determinant(rows): names 0=rows 1=found 2=k 3=rest 4=row; calls determinant -/
def Nf_determinant : List Str := ["rows", "found", "k", "rest", "row"]
def bf_determinant : S :=
  (.seq (.iff (.cmp .Eq (.bfn .len (.cons (.var 0) .nil)) (.int 0)) (.seq (.ret (.int 1)) .nil) .nil) (.seq (.asg (.n 1) (.int 0)) (.seq (.for_ (.n 2) (.rng .no (.bfn .len (.cons (.var 0) .nil))) (.seq (.iff (.cmp .NotEq (.idx (.idx (.var 0) (.int 0)) (.var 2)) (.int 0)) (.seq (.asg (.n 3) (.lc (.bin .Add (.slc (.var 4) .no (.var 2)) (.slc (.var 4) (.bin .Add (.var 2) (.int 1)) .no)) (.n 4) (.slc (.var 0) (.int 1) .no) .no)) (.seq (.aug 1 .Add (.bin .Mult (.bin .Mult (.ife (.cmp .Eq (.bin .Mod (.var 2) (.int 2)) (.int 0)) (.int 1) (.neg (.int 1))) (.idx (.idx (.var 0) (.int 0)) (.var 2))) (.call 0 (.cons (.var 3) .nil)))) .nil)) .nil) .nil)) (.seq (.ret (.var 1)) .nil))))
def f_determinant : Nat → Fn
  | 0 => fun _ _ => none
  | k + 1 => runFn [f_determinant k] 1 5 bf_determinant
/-! is_signs(matroid, value): names 0=matroid 1=value 2=size 3=lot 4=number 5=row 6=x 7=item; calls rank_of is_numbers of_size points_of determinant -/
def Nf_is_signs : List Str := ["matroid", "value", "size", "lot", "number", "row", "x", "item"]
def bf_is_signs : S :=
  (.seq (.asg (.n 2) (.call 0 (.cons (.var 0) .nil))) (.seq (.iff (.or (.not (.isi .tuple (.var 1))) (.or (.cmp .NotEq (.bfn .len (.cons (.var 1) .nil)) (.idx (.var 0) (.int 0))) (.not (.bfn .all (.cons (.lc (.call 1 (.cons (.var 5) .nil)) (.n 5) (.var 1) .no) .nil))))) (.seq (.ret (.bool false)) .nil) .nil) (.seq (.iff (.not (.bfn .all (.cons (.lc (.and (.cmp .Eq (.bfn .len (.cons (.var 5) .nil)) (.var 2)) (.bfn .all (.cons (.lc (.chn .LtE .LtE (.neg (.int 1)) (.var 7) (.int 1)) (.n 7) (.var 5) .no) .nil))) (.n 5) (.var 1) .no) .nil))) (.seq (.ret (.bool false)) .nil) .nil) (.seq (.for_ (.n 3) (.call 2 (.cons (.call 3 (.cons (.var 0) .nil)) (.cons (.var 2) .nil))) (.seq (.asg (.n 4) (.call 4 (.cons (.lc (.idx (.var 1) (.var 6)) (.n 6) (.var 3) .no) .nil))) (.seq (.iff (.cmp .NotEq (.bfn .abs (.cons (.var 4) .nil)) (.bfn .int (.cons (.cmp .In (.var 3) (.idx (.var 0) (.int 1))) .nil))) (.seq (.ret (.bool false)) .nil) .nil) .nil))) (.seq (.ret (.bool true)) .nil)))))
def f_is_signs : Fn := runFn [f_rank_of, f_is_numbers, f_of_size, f_points_of, f_determinant 12] 2 8 bf_is_signs
/-! parts(matroid): names 0=matroid 1=found 2=circuit 3=mine 4=x 5=lot; calls circuits -/
def Nf_parts : List Str := ["matroid", "found", "circuit", "mine", "x", "lot"]
def bf_parts : S :=
  (.seq (.asg (.n 1) (.lc (.tup (.cons (.var 4) .nil)) (.n 4) (.rng .no (.idx (.var 0) (.int 0))) .no)) (.seq (.for_ (.n 2) (.call 0 (.cons (.var 0) .nil)) (.seq (.asg (.n 3) (.lc (.var 5) (.n 5) (.var 1) (.bfn .any (.cons (.lc (.cmp .In (.var 4) (.var 2)) (.n 4) (.var 5) .no) .nil)))) (.seq (.asg (.n 1) (.bin .Add (.lc (.var 5) (.n 5) (.var 1) (.cmp .NotIn (.var 5) (.var 3))) (.lst (.cons (.bfn .tuple (.cons (.bfn .sorted (.cons (.lc2 (.var 4) (.n 5) (.var 3) .no (.n 4) (.var 5) .no) .nil)) .nil)) .nil)))) .nil))) (.seq (.ret (.bfn .sorted (.cons (.var 1) .nil))) .nil)))
def f_parts : Fn := runFn [f_circuits] 1 6 bf_parts
/-! tidy(table): names 0=table 1=place; calls  -/
def Nf_tidy : List Str := ["table", "place"]
def bf_tidy : S :=
  (.seq (.ret (.bfn .tuple (.cons (.bfn .sorted (.cons (.lc (.tup (.cons (.var 1) (.cons (.idx (.var 0) (.var 1)) .nil))) (.n 1) (.var 0) (.cmp .NotEq (.idx (.var 0) (.var 1)) (.int 0))) .nil)) .nil))) .nil)
def f_tidy : Fn := runFn [] 1 2 bf_tidy
/-! times(one, two): names 0=one 1=two 2=found 3=p 4=a 5=b 6=q 7=c 8=d; calls tidy -/
def Nf_times : List Str := ["one", "two", "found", "p", "a", "b", "q", "c", "d"]
def bf_times : S :=
  (.seq (.ownD 2 true) (.seq (.for_ (.cons (.cons (.n 4) (.cons (.n 5) .nil)) (.cons (.n 3) .nil)) (.var 0) (.seq (.for_ (.cons (.cons (.n 7) (.cons (.n 8) .nil)) (.cons (.n 6) .nil)) (.var 1) (.seq (.put 2 (.tup (.cons (.bin .Add (.var 4) (.var 7)) (.cons (.bin .Add (.var 5) (.var 8)) .nil))) (.bin .Add (.get (.var 2) (.tup (.cons (.bin .Add (.var 4) (.var 7)) (.cons (.bin .Add (.var 5) (.var 8)) .nil))) (.int 0)) (.bin .Mult (.var 3) (.var 6)))) .nil)) .nil)) (.seq (.frz 2) (.seq (.ret (.call 0 (.cons (.var 2) .nil))) .nil))))
def f_times : Fn := runFn [f_tidy] 2 9 bf_times
/-! plus(one, two): names 0=one 1=two 2=found 3=place 4=number; calls tidy -/
def Nf_plus : List Str := ["one", "two", "found", "place", "number"]
def bf_plus : S :=
  (.seq (.ownD 2 true) (.seq (.for_ (.cons (.n 3) (.cons (.n 4) .nil)) (.bin .Add (.var 0) (.var 1)) (.seq (.put 2 (.var 3) (.bin .Add (.get (.var 2) (.var 3) (.int 0)) (.var 4))) .nil)) (.seq (.frz 2) (.seq (.ret (.call 0 (.cons (.var 2) .nil))) .nil))))
def f_plus : Fn := runFn [f_tidy] 2 5 bf_plus
/-! can_take(matroids, lots, k, x, y): names 0=matroids 1=lots 2=k 3=x 4=y 5=lot 6=z; calls is_free -/
def Nf_can_take : List Str := ["matroids", "lots", "k", "x", "y", "lot", "z"]
def bf_can_take : S :=
  (.seq (.asg (.n 5) (.bfn .tuple (.cons (.bfn .sorted (.cons (.bin .Add (.lc (.var 6) (.n 6) (.idx (.var 1) (.var 2)) (.cmp .NotEq (.var 6) (.var 4))) (.lst (.cons (.var 3) .nil))) .nil)) .nil))) (.seq (.ret (.call 0 (.cons (.idx (.var 0) (.var 2)) (.cons (.var 5) .nil)))) .nil))
def f_can_take : Fn := runFn [f_is_free] 5 7 bf_can_take
/-! _law_cell(script, k): names 0=script 1=k; calls  -/
def Nf_law_cell : List Str := ["script", "k"]
def bf_law_cell : S :=
  (.seq (.iff (.cmp .Lt (.var 1) (.bfn .len (.cons (.var 0) .nil))) (.seq (.ret (.idx (.var 0) (.var 1))) .nil) .nil) (.seq (.ret (.int 0)) .nil))
def f_law_cell : Fn := runFn [] 2 2 bf_law_cell
/-! _law_draws(cell, amount): names 0=cell 1=amount 2=rows 3=left 4=k 5=blended; calls  -/
def Nf_law_draws : List Str := ["cell", "amount", "rows", "left", "k", "blended"]
def bf_law_draws : S :=
  (.seq (.own 2 (.lst .nil)) (.seq (.asg (.n 3) (.var 0)) (.seq (.for_ (.n 4) (.rng .no (.var 1)) (.seq (.iff (.and (.cmp .GtE (.var 0) (.bin .Pow (.int 10) (.int 18))) (.cmp .Gt (.var 3) (.int 0))) (.seq (.app 2 (.bin .Mod (.bfn .int (.cons (.var 3) .nil)) (.int 4096))) (.seq (.asg (.n 3) (.bin .FloorDiv (.var 3) (.int 4096))) .nil)) (.seq (.asg (.n 5) (.bin .Mod (.bfn .int (.cons (.bin .Add (.bin .Mult (.var 0) (.int 48271)) (.bin .Mult (.bin .Add (.var 4) (.int 1)) (.int 69621))) .nil)) (.int 2147483647))) (.seq (.asg (.n 5) (.bin .Mod (.bfn .int (.cons (.bin .Add (.bin .Add (.bin .Mult (.var 5) (.var 5)) (.bin .Mult (.var 5) (.int 16807))) (.bin .Mult (.var 4) (.int 7919))) .nil)) (.int 2147483629))) (.seq (.asg (.n 5) (.bin .Mod (.bfn .int (.cons (.bin .Add (.bin .Add (.bin .Mult (.var 5) (.var 5)) (.var 0)) (.bin .Mult (.int 13) (.var 4))) .nil)) (.int 2147483587))) (.seq (.app 2 (.bin .Mod (.bin .FloorDiv (.var 5) (.int 7)) (.int 4096))) .nil))))) .nil)) (.seq (.ret (.var 2)) .nil))))
def f_law_draws : Fn := runFn [] 2 6 bf_law_draws
/-! _law_is_int(x): names 0=x; calls  -/
def Nf_law_is_int : List Str := ["x"]
def bf_law_is_int : S :=
  (.seq (.ret (.and (.isi .int (.var 0)) (.not (.isi .bool (.var 0))))) .nil)
def f_law_is_int : Fn := runFn [] 1 1 bf_law_is_int
/-! _law_kind(x): names 0=x; calls  -/
def Nf_law_kind : List Str := ["x"]
def bf_law_kind : S :=
  (.seq (.iff (.isi .bool (.var 0)) (.seq (.ret (.int 1)) .nil) .nil) (.seq (.iff (.isi .int (.var 0)) (.seq (.ret (.int 2)) .nil) .nil) (.seq (.iff (.isi .str (.var 0)) (.seq (.ret (.int 3)) .nil) .nil) (.seq (.iff (.isi .tuple (.var 0)) (.seq (.ret (.int 4)) .nil) .nil) (.seq (.iff (.isi .list (.var 0)) (.seq (.ret (.int 5)) .nil) .nil) (.seq (.iff (.isi .dict (.var 0)) (.seq (.ret (.int 6)) .nil) .nil) (.seq (.ret (.int 0)) .nil)))))))
def f_law_kind : Fn := runFn [] 1 1 bf_law_kind
/-! _law_equal(x, due): names 0=x 1=due 2=key 3=k 4=other; calls _law_kind _law_equal -/
def Nf_law_equal : List Str := ["x", "due", "key", "k", "other"]
def bf_law_equal : S :=
  (.seq (.iff (.cmp .NotEq (.call 0 (.cons (.var 0) .nil)) (.call 0 (.cons (.var 1) .nil))) (.seq (.ret (.bool false)) .nil) .nil) (.seq (.iff (.or (.isi .tuple (.var 1)) (.isi .list (.var 1))) (.seq (.iff (.cmp .NotEq (.bfn .len (.cons (.var 0) .nil)) (.bfn .len (.cons (.var 1) .nil))) (.seq (.ret (.bool false)) .nil) .nil) (.seq (.ret (.cmp .Eq (.bfn .len (.cons (.lc (.var 3) (.n 3) (.rng .no (.bfn .len (.cons (.var 1) .nil))) (.not (.call 1 (.cons (.idx (.var 0) (.var 3)) (.cons (.idx (.var 1) (.var 3)) .nil))))) .nil)) (.int 0))) .nil)) .nil) (.seq (.iff (.isi .dict (.var 1)) (.seq (.iff (.cmp .NotEq (.bfn .len (.cons (.var 0) .nil)) (.bfn .len (.cons (.var 1) .nil))) (.seq (.ret (.bool false)) .nil) .nil) (.seq (.for_ (.n 2) (.var 0) (.seq (.iff (.or (.cmp .NotIn (.var 2) (.var 1)) (.not (.call 1 (.cons (.idx (.var 0) (.var 2)) (.cons (.idx (.var 1) (.var 2)) .nil))))) (.seq (.ret (.bool false)) .nil) .nil) (.seq (.iff (.cmp .Eq (.bfn .len (.cons (.lc (.var 4) (.n 4) (.var 1) (.and (.cmp .Eq (.var 4) (.var 2)) (.call 1 (.cons (.var 2) (.cons (.var 4) .nil))))) .nil)) (.int 0)) (.seq (.ret (.bool false)) .nil) .nil) .nil))) (.seq (.ret (.bool true)) .nil))) .nil) (.seq (.ret (.cmp .Eq (.var 0) (.var 1))) .nil))))
def f_law_equal : Nat → Fn
  | 0 => fun _ _ => none
  | k + 1 => runFn [f_law_kind, f_law_equal k] 2 5 bf_law_equal
/-! _law_pool(script): names 0=script 1=rows 2=k; calls _law_draws _law_cell -/
def Nf_law_pool : List Str := ["script", "rows", "k"]
def bf_law_pool : S :=
  (.seq (.asg (.n 1) (.lst .nil)) (.seq (.for_ (.n 2) (.rng .no (.bfn .min2 (.cons (.int 4) (.cons (.bfn .max2 (.cons (.int 1) (.cons (.bfn .len (.cons (.var 0) .nil)) .nil))) .nil)))) (.seq (.asg (.n 1) (.bin .Add (.var 1) (.call 0 (.cons (.bin .Add (.call 1 (.cons (.var 0) (.cons (.var 2) .nil))) (.bin .Mult (.int 7) (.var 2))) (.cons (.int 20) .nil))))) .nil)) (.seq (.ret (.lst (.cons (.var 1) (.cons (.lst (.cons (.int 0) .nil)) .nil)))) .nil)))
def f_law_pool : Fn := runFn [f_law_draws, f_law_cell] 1 3 bf_law_pool
/-! _law_set(value, n): names 0=value 1=n 2=k 3=x; calls _law_is_int -/
def Nf_law_set : List Str := ["value", "n", "k", "x"]
def bf_law_set : S :=
  (.seq (.iff (.or (.not (.isi .tuple (.var 0))) (.cmp .Gt (.bfn .len (.cons (.lc (.var 3) (.n 3) (.var 0) (.or (.not (.call 0 (.cons (.var 3) .nil))) (.not (.chn .LtE .Lt (.int 0) (.var 3) (.var 1))))) .nil)) (.int 0))) (.seq (.ret (.bool false)) .nil) .nil) (.seq (.ret (.cmp .Eq (.bfn .len (.cons (.lc (.var 2) (.n 2) (.rng .no (.bin .Sub (.bfn .len (.cons (.var 0) .nil)) (.int 1))) (.cmp .GtE (.idx (.var 0) (.var 2)) (.idx (.var 0) (.bin .Add (.var 2) (.int 1))))) .nil)) (.int 0))) .nil))
def f_law_set : Fn := runFn [f_law_is_int] 2 4 bf_law_set
/-! _law_inside(one, two): names 0=one 1=two 2=x; calls  -/
def Nf_law_inside : List Str := ["one", "two", "x"]
def bf_law_inside : S :=
  (.seq (.ret (.cmp .Eq (.bfn .len (.cons (.lc (.var 2) (.n 2) (.var 0) (.cmp .NotIn (.var 2) (.var 1))) .nil)) (.int 0))) .nil)
def f_law_inside : Fn := runFn [] 2 3 bf_law_inside
/-! _law_unlike(items): names 0=items 1=found 2=item; calls  -/
def Nf_law_unlike : List Str := ["items", "found", "item"]
def bf_law_unlike : S :=
  (.seq (.own 1 (.lst .nil)) (.seq (.for_ (.n 2) (.bfn .sorted (.cons (.var 0) .nil)) (.seq (.iff (.cmp .NotIn (.var 2) (.var 1)) (.seq (.app 1 (.var 2)) .nil) .nil) .nil)) (.seq (.ret (.bfn .tuple (.cons (.var 1) .nil))) .nil)))
def f_law_unlike : Fn := runFn [] 1 3 bf_law_unlike
/-! _law_lots(n): names 0=n 1=found 2=number 3=x; calls  -/
def Nf_law_lots : List Str := ["n", "found", "number", "x"]
def bf_law_lots : S :=
  (.seq (.own 1 (.lst .nil)) (.seq (.for_ (.n 2) (.rng .no (.bin .LShift (.int 1) (.var 0))) (.seq (.app 1 (.bfn .tuple (.cons (.lc (.var 3) (.n 3) (.rng .no (.var 0)) (.cmp .Eq (.bin .BitAnd (.bin .RShift (.var 2) (.var 3)) (.int 1)) (.int 1))) .nil))) .nil)) (.seq (.ret (.bfn .sorted (.cons (.var 1) .nil))) .nil)))
def f_law_lots : Fn := runFn [] 1 4 bf_law_lots
/-! _law_of_size(n, size): names 0=n 1=size 2=lot; calls _law_lots -/
def Nf_law_of_size : List Str := ["n", "size", "lot"]
def bf_law_of_size : S :=
  (.seq (.ret (.lc (.var 2) (.n 2) (.call 0 (.cons (.var 0) .nil)) (.cmp .Eq (.bfn .len (.cons (.var 2) .nil)) (.var 1)))) .nil)
def f_law_of_size : Fn := runFn [f_law_lots] 2 3 bf_law_of_size
/-! _law_put(lot, x): names 0=lot 1=x 2=y; calls  -/
def Nf_law_put : List Str := ["lot", "x", "y"]
def bf_law_put : S :=
  (.seq (.ret (.bfn .tuple (.cons (.bfn .sorted (.cons (.bin .Add (.lc (.var 2) (.n 2) (.var 0) (.cmp .NotEq (.var 2) (.var 1))) (.lst (.cons (.var 1) .nil))) .nil)) .nil))) .nil)
def f_law_put : Fn := runFn [] 2 3 bf_law_put
/-! _law_drop(lot, x): names 0=lot 1=x 2=y; calls  -/
def Nf_law_drop : List Str := ["lot", "x", "y"]
def bf_law_drop : S :=
  (.seq (.ret (.bfn .tuple (.cons (.lc (.var 2) (.n 2) (.var 0) (.cmp .NotEq (.var 2) (.var 1))) .nil))) .nil)
def f_law_drop : Fn := runFn [] 2 3 bf_law_drop
/-! _law_rest(lot, n): names 0=lot 1=n 2=x; calls  -/
def Nf_law_rest : List Str := ["lot", "n", "x"]
def bf_law_rest : S :=
  (.seq (.ret (.bfn .tuple (.cons (.lc (.var 2) (.n 2) (.rng .no (.var 1)) (.cmp .NotIn (.var 2) (.var 0))) .nil))) .nil)
def f_law_rest : Fn := runFn [] 2 3 bf_law_rest
/-! _law_both(one, two): names 0=one 1=two 2=x; calls  -/
def Nf_law_both : List Str := ["one", "two", "x"]
def bf_law_both : S :=
  (.seq (.ret (.bfn .tuple (.cons (.bfn .sorted (.cons (.bin .Add (.lc (.var 2) (.n 2) (.var 0) .no) (.lc (.var 2) (.n 2) (.var 1) (.cmp .NotIn (.var 2) (.var 0)))) .nil)) .nil))) .nil)
def f_law_both : Fn := runFn [] 2 3 bf_law_both
/-! _law_meet(one, two): names 0=one 1=two 2=x; calls  -/
def Nf_law_meet : List Str := ["one", "two", "x"]
def bf_law_meet : S :=
  (.seq (.ret (.bfn .tuple (.cons (.lc (.var 2) (.n 2) (.var 0) (.cmp .In (.var 2) (.var 1))) .nil))) .nil)
def f_law_meet : Fn := runFn [] 2 3 bf_law_meet
/-! _law_family(value, n): names 0=value 1=n 2=k 3=lot; calls _law_set -/
def Nf_law_family : List Str := ["value", "n", "k", "lot"]
def bf_law_family : S :=
  (.seq (.iff (.or (.not (.isi .tuple (.var 0))) (.cmp .Gt (.bfn .len (.cons (.lc (.var 3) (.n 3) (.var 0) (.not (.call 0 (.cons (.var 3) (.cons (.var 1) .nil))))) .nil)) (.int 0))) (.seq (.ret (.bool false)) .nil) .nil) (.seq (.ret (.cmp .Eq (.bfn .len (.cons (.lc (.var 2) (.n 2) (.rng .no (.bin .Sub (.bfn .len (.cons (.var 0) .nil)) (.int 1))) (.cmp .GtE (.idx (.var 0) (.var 2)) (.idx (.var 0) (.bin .Add (.var 2) (.int 1))))) .nil)) (.int 0))) .nil))
def f_law_family : Fn := runFn [f_law_set] 2 4 bf_law_family
/-! _law_stuck(family, one, two, x): names 0=family 1=one 2=two 3=x 4=y; calls _law_put _law_drop -/
def Nf_law_stuck : List Str := ["family", "one", "two", "x", "y"]
def bf_law_stuck : S :=
  (.seq (.ret (.cmp .Eq (.bfn .len (.cons (.lc (.var 4) (.n 4) (.var 2) (.and (.cmp .NotIn (.var 4) (.var 1)) (.cmp .In (.call 0 (.cons (.call 1 (.cons (.var 1) (.cons (.var 3) .nil))) (.cons (.var 4) .nil))) (.var 0)))) .nil)) (.int 0))) .nil)
def f_law_stuck : Fn := runFn [f_law_put, f_law_drop] 4 5 bf_law_stuck
/-! _law_bases(n, family): names 0=n 1=family 2=one 3=two 4=lot 5=x; calls _law_family _law_stuck -/
def Nf_law_bases : List Str := ["n", "family", "one", "two", "lot", "x"]
def bf_law_bases : S :=
  (.seq (.iff (.or (.not (.call 0 (.cons (.var 1) (.cons (.var 0) .nil)))) (.or (.cmp .Eq (.bfn .len (.cons (.var 1) .nil)) (.int 0)) (.cmp .Gt (.bfn .len (.cons (.lc (.var 4) (.n 4) (.var 1) (.cmp .NotEq (.bfn .len (.cons (.var 4) .nil)) (.bfn .len (.cons (.idx (.var 1) (.int 0)) .nil)))) .nil)) (.int 0)))) (.seq (.ret (.bool false)) .nil) .nil) (.seq (.for_ (.n 2) (.var 1) (.seq (.for_ (.n 3) (.var 1) (.seq (.iff (.cmp .Gt (.bfn .len (.cons (.lc (.var 5) (.n 5) (.var 2) (.and (.cmp .NotIn (.var 5) (.var 3)) (.call 1 (.cons (.var 1) (.cons (.var 2) (.cons (.var 3) (.cons (.var 5) .nil))))))) .nil)) (.int 0)) (.seq (.ret (.bool false)) .nil) .nil) .nil)) .nil)) (.seq (.ret (.bool true)) .nil)))
def f_law_bases : Fn := runFn [f_law_family, f_law_stuck] 2 6 bf_law_bases
/-! _law_rank(m, lot): names 0=m 1=lot 2=base; calls _law_meet -/
def Nf_law_rank : List Str := ["m", "lot", "base"]
def bf_law_rank : S :=
  (.seq (.ret (.bfn .max (.cons (.lc (.bfn .len (.cons (.call 0 (.cons (.var 1) (.cons (.var 2) .nil))) .nil)) (.n 2) (.idx (.var 0) (.int 1)) .no) .nil))) .nil)
def f_law_rank : Fn := runFn [f_law_meet] 2 3 bf_law_rank
/-! _law_free(m, lot): names 0=m 1=lot 2=base; calls _law_inside -/
def Nf_law_free : List Str := ["m", "lot", "base"]
def bf_law_free : S :=
  (.seq (.ret (.cmp .Gt (.bfn .len (.cons (.lc (.var 2) (.n 2) (.idx (.var 0) (.int 1)) (.call 0 (.cons (.var 1) (.cons (.var 2) .nil)))) .nil)) (.int 0))) .nil)
def f_law_free : Fn := runFn [f_law_inside] 2 3 bf_law_free
/-! _law_closure(m, lot): names 0=m 1=lot 2=size 3=x; calls _law_rank _law_put -/
def Nf_law_closure : List Str := ["m", "lot", "size", "x"]
def bf_law_closure : S :=
  (.seq (.asg (.n 2) (.call 0 (.cons (.var 0) (.cons (.var 1) .nil)))) (.seq (.ret (.bfn .tuple (.cons (.lc (.var 3) (.n 3) (.rng .no (.idx (.var 0) (.int 0))) (.cmp .Eq (.call 0 (.cons (.var 0) (.cons (.call 1 (.cons (.var 1) (.cons (.var 3) .nil))) .nil))) (.var 2))) .nil))) .nil))
def f_law_closure : Fn := runFn [f_law_rank, f_law_put] 2 4 bf_law_closure
/-! _law_circuits(m): names 0=m 1=bound 2=lot 3=x; calls _law_lots _law_free _law_drop -/
def Nf_law_circuits : List Str := ["m", "bound", "lot", "x"]
def bf_law_circuits : S :=
  (.seq (.asg (.n 1) (.lc (.var 2) (.n 2) (.call 0 (.cons (.idx (.var 0) (.int 0)) .nil)) (.not (.call 1 (.cons (.var 0) (.cons (.var 2) .nil)))))) (.seq (.ret (.lc (.var 2) (.n 2) (.var 1) (.cmp .Eq (.bfn .len (.cons (.lc (.var 3) (.n 3) (.var 2) (.not (.call 1 (.cons (.var 0) (.cons (.call 2 (.cons (.var 2) (.cons (.var 3) .nil))) .nil))))) .nil)) (.int 0)))) .nil))
def f_law_circuits : Fn := runFn [f_law_lots, f_law_free, f_law_drop] 1 4 bf_law_circuits
/-! _law_dual(m): names 0=m 1=base; calls _law_rest -/
def Nf_law_dual : List Str := ["m", "base"]
def bf_law_dual : S :=
  (.seq (.ret (.tup (.cons (.idx (.var 0) (.int 0)) (.cons (.bfn .tuple (.cons (.bfn .sorted (.cons (.lc (.call 0 (.cons (.var 1) (.cons (.idx (.var 0) (.int 0)) .nil))) (.n 1) (.idx (.var 0) (.int 1)) .no) .nil)) .nil)) .nil)))) .nil)
def f_law_dual : Fn := runFn [f_law_rest] 1 2 bf_law_dual
/-! _law_flats(m): names 0=m 1=lot; calls _law_lots _law_closure -/
def Nf_law_flats : List Str := ["m", "lot"]
def bf_law_flats : S :=
  (.seq (.ret (.lc (.var 1) (.n 1) (.call 0 (.cons (.idx (.var 0) (.int 0)) .nil)) (.cmp .Eq (.call 1 (.cons (.var 0) (.cons (.var 1) .nil))) (.var 1)))) .nil)
def f_law_flats : Fn := runFn [f_law_lots, f_law_closure] 1 2 bf_law_flats
/-! _law_from_frees(n, frees): names 0=n 1=frees 2=most 3=lot; calls  -/
def Nf_law_from_frees : List Str := ["n", "frees", "most", "lot"]
def bf_law_from_frees : S :=
  (.seq (.asg (.n 2) (.bfn .max (.cons (.lc (.bfn .len (.cons (.var 3) .nil)) (.n 3) (.var 1) .no) .nil))) (.seq (.ret (.tup (.cons (.var 0) (.cons (.bfn .tuple (.cons (.bfn .sorted (.cons (.lc (.var 3) (.n 3) (.var 1) (.cmp .Eq (.bfn .len (.cons (.var 3) .nil)) (.var 2))) .nil)) .nil)) .nil)))) .nil))
def f_law_from_frees : Fn := runFn [] 2 4 bf_law_from_frees
/-! _law_renamed(m, names): names 0=m 1=names 2=base 3=x; calls  -/
def Nf_law_renamed : List Str := ["m", "names", "base", "x"]
def bf_law_renamed : S :=
  (.seq (.ret (.tup (.cons (.idx (.var 0) (.int 0)) (.cons (.bfn .tuple (.cons (.bfn .sorted (.cons (.lc (.bfn .tuple (.cons (.bfn .sorted (.cons (.lc (.idx (.var 1) (.var 3)) (.n 3) (.var 2) .no) .nil)) .nil)) (.n 2) (.idx (.var 0) (.int 1)) .no) .nil)) .nil)) .nil)))) .nil)
def f_law_renamed : Fn := runFn [] 2 4 bf_law_renamed
/-! _law_pieces(vertices, ties): names 0=vertices 1=ties 2=roots 3=turn 4=a 5=b 6=tie 7=low 8=high 9=root; calls  -/
def Nf_law_pieces : List Str := ["vertices", "ties", "roots", "turn", "a", "b", "tie", "low", "high", "root"]
def bf_law_pieces : S :=
  (.seq (.asg (.n 2) (.bfr false (.rng .no (.var 0)))) (.seq (.for_ (.n 3) (.rng .no (.var 0)) (.seq (.for_ (.cons (.n 4) (.cons (.n 5) .nil)) (.lc (.tup (.cons (.idx (.var 6) (.int 0)) (.cons (.idx (.var 6) (.int 1)) .nil))) (.n 6) (.var 1) .no) (.seq (.par 7 8 (.bfn .min2 (.cons (.idx (.var 2) (.var 4)) (.cons (.idx (.var 2) (.var 5)) .nil))) (.bfn .max2 (.cons (.idx (.var 2) (.var 4)) (.cons (.idx (.var 2) (.var 5)) .nil)))) (.seq (.asg (.n 2) (.lc (.idx (.lst (.cons (.var 9) (.cons (.var 7) .nil))) (.bfn .int (.cons (.cmp .Eq (.var 9) (.var 8)) .nil))) (.n 9) (.var 2) .no)) .nil))) .nil)) (.seq (.ret (.var 2)) .nil)))
def f_law_pieces : Fn := runFn [] 2 10 bf_law_pieces
/-! _law_graph(vertices, ties): names 0=vertices 1=ties 2=frees 3=lot 4=roots 5=k; calls _law_lots _law_pieces _law_unlike _law_from_frees -/
def Nf_law_graph : List Str := ["vertices", "ties", "frees", "lot", "roots", "k"]
def bf_law_graph : S :=
  (.seq (.own 2 (.lst .nil)) (.seq (.for_ (.n 3) (.call 0 (.cons (.bfn .len (.cons (.var 1) .nil)) .nil)) (.seq (.asg (.n 4) (.call 1 (.cons (.var 0) (.cons (.lc (.idx (.var 1) (.var 5)) (.n 5) (.var 3) .no) .nil)))) (.seq (.iff (.cmp .Eq (.bfn .len (.cons (.call 2 (.cons (.var 4) .nil)) .nil)) (.bin .Sub (.var 0) (.bfn .len (.cons (.var 3) .nil)))) (.seq (.app 2 (.var 3)) .nil) .nil) .nil))) (.seq (.frz 2) (.seq (.ret (.call 3 (.cons (.bfn .len (.cons (.var 1) .nil)) (.cons (.var 2) .nil)))) .nil))))
def f_law_graph : Fn := runFn [f_law_lots, f_law_pieces, f_law_unlike, f_law_from_frees] 2 6 bf_law_graph
/-! _law_span(rows, p, width): names 0=rows 1=p 2=width 3=found 4=row 5=more 6=a 7=word 8=k; calls  -/
def Nf_law_span : List Str := ["rows", "p", "width", "found", "row", "more", "a", "word", "k"]
def bf_law_span : S :=
  (.seq (.asg (.n 3) (.lst (.cons (.bin .Mult (.tup (.cons (.int 0) .nil)) (.var 2)) .nil))) (.seq (.for_ (.n 4) (.var 0) (.seq (.iff (.cmp .NotIn (.bfn .tuple (.cons (.var 4) .nil)) (.var 3)) (.seq (.asg (.n 5) (.lst .nil)) (.seq (.for_ (.n 6) (.rng .no (.var 1)) (.seq (.asg (.n 5) (.bin .Add (.var 5) (.lc (.bfn .tuple (.cons (.lc (.bin .Mod (.bin .Add (.idx (.var 7) (.var 8)) (.bin .Mult (.var 6) (.idx (.var 4) (.var 8)))) (.var 1)) (.n 8) (.rng .no (.var 2)) .no) .nil)) (.n 7) (.var 3) .no))) .nil)) (.seq (.asg (.n 3) (.var 5)) .nil))) .nil) .nil)) (.seq (.ret (.var 3)) .nil)))
def f_law_span : Fn := runFn [] 3 9 bf_law_span
/-! _law_vectors(vectors, p): names 0=vectors 1=p 2=width 3=frees 4=lot 5=good 6=x 7=y; calls _law_lots _law_span _law_from_frees -/
def Nf_law_vectors : List Str := ["vectors", "p", "width", "frees", "lot", "good", "x", "y"]
def bf_law_vectors : S :=
  (.seq (.asg (.n 2) (.bfn .len (.cons (.idx (.var 0) (.int 0)) .nil))) (.seq (.own 3 (.lst .nil)) (.seq (.for_ (.n 4) (.call 0 (.cons (.bfn .len (.cons (.var 0) .nil)) .nil)) (.seq (.asg (.n 5) (.bool true)) (.seq (.for_ (.n 6) (.var 4) (.seq (.iff (.and (.var 5) (.cmp .In (.idx (.var 0) (.var 6)) (.call 1 (.cons (.lc (.idx (.var 0) (.var 7)) (.n 7) (.var 4) (.cmp .Lt (.var 7) (.var 6))) (.cons (.var 1) (.cons (.var 2) .nil)))))) (.seq (.asg (.n 5) (.bool false)) .nil) .nil) .nil)) (.seq (.iff (.var 5) (.seq (.app 3 (.var 4)) .nil) .nil) .nil)))) (.seq (.frz 3) (.seq (.ret (.call 2 (.cons (.bfn .len (.cons (.var 0) .nil)) (.cons (.var 3) .nil)))) .nil)))))
def f_law_vectors : Fn := runFn [f_law_lots, f_law_span, f_law_from_frees] 2 8 bf_law_vectors
/-! _law_matches(lot, sets, taken): names 0=lot 1=sets 2=taken 3=k; calls _law_matches -/
def Nf_law_matches : List Str := ["lot", "sets", "taken", "k"]
def bf_law_matches : S :=
  (.seq (.iff (.cmp .Eq (.var 0) (.tup .nil)) (.seq (.ret (.bool true)) .nil) .nil) (.seq (.for_ (.n 3) (.rng .no (.bfn .len (.cons (.var 1) .nil))) (.seq (.iff (.and (.cmp .NotIn (.var 3) (.var 2)) (.and (.cmp .In (.idx (.var 0) (.int 0)) (.idx (.var 1) (.var 3))) (.call 0 (.cons (.slc (.var 0) (.int 1) .no) (.cons (.var 1) (.cons (.bin .Add (.var 2) (.tup (.cons (.var 3) .nil))) .nil)))))) (.seq (.ret (.bool true)) .nil) .nil) .nil)) (.seq (.ret (.bool false)) .nil)))
def f_law_matches : Nat → Fn
  | 0 => fun _ _ => none
  | k + 1 => runFn [f_law_matches k] 3 4 bf_law_matches
/-! _law_of_sets(n, sets): names 0=n 1=sets 2=lot; calls _law_from_frees _law_lots _law_matches -/
def Nf_law_of_sets : List Str := ["n", "sets", "lot"]
def bf_law_of_sets : S :=
  (.seq (.ret (.call 0 (.cons (.var 0) (.cons (.lc (.var 2) (.n 2) (.call 1 (.cons (.var 0) .nil)) (.call 2 (.cons (.var 2) (.cons (.var 1) (.cons (.tup .nil) .nil))))) .nil)))) .nil)
def f_law_of_sets : Fn := runFn [f_law_from_frees, f_law_lots, f_law_matches 12] 2 3 bf_law_of_sets
/-! _law_special(number): names 0=number 1=four 2=square 3=six 4=lines 5=five 6=twins 7=lot; calls _law_of_size _law_graph -/
def Nf_law_special : List Str := ["number", "four", "square", "six", "lines", "five", "twins", "lot"]
def bf_law_special : S :=
  (.seq (.asg (.n 1) (.tup (.cons (.int 4) (.cons (.bfn .tuple (.cons (.call 0 (.cons (.int 4) (.cons (.int 2) .nil))) .nil)) .nil)))) (.seq (.asg (.n 2) (.call 1 (.cons (.int 4) (.cons (.tup (.cons (.tup (.cons (.int 0) (.cons (.int 1) .nil))) (.cons (.tup (.cons (.int 0) (.cons (.int 2) .nil))) (.cons (.tup (.cons (.int 0) (.cons (.int 3) .nil))) (.cons (.tup (.cons (.int 1) (.cons (.int 2) .nil))) (.cons (.tup (.cons (.int 1) (.cons (.int 3) .nil))) (.cons (.tup (.cons (.int 2) (.cons (.int 3) .nil))) .nil))))))) .nil)))) (.seq (.asg (.n 3) (.tup (.cons (.int 6) (.cons (.bfn .tuple (.cons (.lc (.var 7) (.n 7) (.call 0 (.cons (.int 6) (.cons (.int 3) .nil))) (.cmp .NotIn (.var 7) (.tup (.cons (.tup (.cons (.int 0) (.cons (.int 1) (.cons (.int 3) .nil)))) (.cons (.tup (.cons (.int 1) (.cons (.int 2) (.cons (.int 4) .nil)))) (.cons (.tup (.cons (.int 0) (.cons (.int 2) (.cons (.int 5) .nil)))) .nil)))))) .nil)) .nil)))) (.seq (.asg (.n 4) (.tup (.cons (.int 6) (.cons (.bfn .tuple (.cons (.lc (.var 7) (.n 7) (.call 0 (.cons (.int 6) (.cons (.int 3) .nil))) (.cmp .NotIn (.var 7) (.tup (.cons (.tup (.cons (.int 0) (.cons (.int 1) (.cons (.int 2) .nil)))) (.cons (.tup (.cons (.int 2) (.cons (.int 3) (.cons (.int 4) .nil)))) (.cons (.tup (.cons (.int 0) (.cons (.int 4) (.cons (.int 5) .nil)))) (.cons (.tup (.cons (.int 1) (.cons (.int 3) (.cons (.int 5) .nil)))) .nil))))))) .nil)) .nil)))) (.seq (.asg (.n 5) (.tup (.cons (.int 5) (.cons (.bfn .tuple (.cons (.call 0 (.cons (.int 5) (.cons (.int 2) .nil))) .nil)) .nil)))) (.seq (.asg (.n 6) (.tup (.cons (.int 4) (.cons (.tup (.cons (.tup (.cons (.int 0) (.cons (.int 2) .nil))) (.cons (.tup (.cons (.int 0) (.cons (.int 3) .nil))) (.cons (.tup (.cons (.int 1) (.cons (.int 2) .nil))) (.cons (.tup (.cons (.int 1) (.cons (.int 3) .nil))) .nil))))) .nil)))) (.seq (.ret (.idx (.lst (.cons (.var 1) (.cons (.var 2) (.cons (.var 3) (.cons (.var 4) (.cons (.var 5) (.cons (.var 6) (.cons (.tup (.cons (.int 5) (.cons (.bfn .tuple (.cons (.call 0 (.cons (.int 5) (.cons (.int 3) .nil))) .nil)) .nil))) (.cons (.tup (.cons (.int 1) (.cons (.tup (.cons (.tup .nil) .nil)) .nil))) (.cons (.tup (.cons (.int 1) (.cons (.tup (.cons (.tup (.cons (.int 0) .nil)) .nil)) .nil))) (.cons (.tup (.cons (.int 3) (.cons (.tup (.cons (.tup (.cons (.int 0) .nil)) (.cons (.tup (.cons (.int 1) .nil)) .nil))) .nil))) .nil))))))))))) (.bin .Mod (.var 0) (.int 10)))) .nil)))))))
def f_law_special : Fn := runFn [f_law_of_size, f_law_graph] 1 8 bf_law_special
/-! _law_some(pool, n): names 0=pool 1=n 2=x; calls _law_pick -/
def Nf_law_some : List Str := ["pool", "n", "x"]
def bf_law_some : S :=
  (.seq (.ret (.bfn .tuple (.cons (.lc (.var 2) (.n 2) (.rng .no (.var 1)) (.cmp .Eq (.call 0 (.cons (.var 0) (.cons (.int 2) .nil))) (.int 0))) .nil))) .nil)
def f_law_some : Fn := runFn [pick] 2 3 bf_law_some
/-! _law_word(lots): names 0=lots; calls  -/
def Nf_law_word : List Str := ["lots"]
def bf_law_word : S :=
  (.seq (.ret (.lst (.cons (.idx (.lst (.cons (.str "few") (.cons (.str "bases") .nil))) (.bfn .int (.cons (.var 0) .nil))) .nil))) .nil)
def f_law_word : Fn := runFn [] 1 1 bf_law_word
/-! likenesses(one, two, begun): names 0=one 1=two 2=begun 3=at 4=name 5=found; calls renamed fits likenesses -/
def Nf_likenesses : List Str := ["one", "two", "begun", "at", "name", "found"]
def bf_likenesses : S :=
  (.seq (.asg (.n 3) (.bfn .len (.cons (.var 2) .nil))) (.seq (.iff (.cmp .Eq (.var 3) (.idx (.var 0) (.int 0))) (.seq (.ret (.ife (.cmp .Eq (.call 0 (.cons (.var 0) (.cons (.var 2) .nil))) (.var 1)) (.var 2) .non)) .nil) .nil) (.seq (.for_ (.n 4) (.rng .no (.idx (.var 0) (.int 0))) (.seq (.iff (.and (.cmp .NotIn (.var 4) (.var 2)) (.call 1 (.cons (.var 0) (.cons (.var 1) (.cons (.bin .Add (.var 2) (.tup (.cons (.var 4) .nil))) .nil))))) (.seq (.asg (.n 5) (.call 2 (.cons (.var 0) (.cons (.var 1) (.cons (.bin .Add (.var 2) (.tup (.cons (.var 4) .nil))) .nil))))) (.seq (.iff (.isN true (.var 5)) (.seq (.ret (.var 5)) .nil) .nil) .nil)) .nil) .nil)) (.seq (.ret .non) .nil))))
def f_likenesses : Nat → Fn
  | 0 => fun _ _ => none
  | k + 1 => runFn [f_renamed, f_fits, f_likenesses k] 3 6 bf_likenesses
/-! likeness(one, two): names 0=one 1=two; calls rank_of likenesses -/
def Nf_likeness : List Str := ["one", "two"]
def bf_likeness : S :=
  (.seq (.iff (.or (.cmp .NotEq (.idx (.var 0) (.int 0)) (.idx (.var 1) (.int 0))) (.or (.cmp .NotEq (.bfn .len (.cons (.idx (.var 0) (.int 1)) .nil)) (.bfn .len (.cons (.idx (.var 1) (.int 1)) .nil))) (.cmp .NotEq (.call 0 (.cons (.var 0) .nil)) (.call 0 (.cons (.var 1) .nil))))) (.seq (.ret .non) .nil) .nil) (.seq (.ret (.call 1 (.cons (.var 0) (.cons (.var 1) (.cons (.tup .nil) .nil))))) .nil))
def f_likeness : Fn := runFn [f_rank_of, f_likenesses 12] 2 2 bf_likeness
/-! worth(weights, points): names 0=weights 1=points 2=x; calls  -/
def Nf_worth : List Str := ["weights", "points", "x"]
def bf_worth : S :=
  (.seq (.ret (.bfn .sum (.cons (.lc (.idx (.var 0) (.var 2)) (.n 2) (.var 1) .no) .nil))) .nil)
def f_worth : Fn := runFn [] 2 3 bf_worth
/-! table_of(matroid, values): names 0=matroid 1=values 2=k; calls  -/
def Nf_table_of : List Str := ["matroid", "values", "k"]
def bf_table_of : S :=
  (.seq (.ret (.dcp (.idx (.idx (.var 0) (.int 1)) (.var 2)) (.idx (.var 1) (.var 2)) (.n 2) (.rng .no (.bfn .len (.cons (.var 1) .nil))) .no)) .nil)
def f_table_of : Fn := runFn [] 2 3 bf_table_of
/-! sums_of(matroid, weights): names 0=matroid 1=weights 2=base 3=x; calls  -/
def Nf_sums_of : List Str := ["matroid", "weights", "base", "x"]
def bf_sums_of : S :=
  (.seq (.ret (.bfn .tuple (.cons (.lc (.bfn .sum (.cons (.lc (.idx (.var 1) (.var 3)) (.n 3) (.var 2) .no) .nil)) (.n 2) (.idx (.var 0) (.int 1)) .no) .nil))) .nil)
def f_sums_of : Fn := runFn [] 2 4 bf_sums_of
/-! best_bases(matroid, values, weights): names 0=matroid 1=values 2=weights 3=rows 4=most 5=k 6=x; calls  -/
def Nf_best_bases : List Str := ["matroid", "values", "weights", "rows", "most", "k", "x"]
def bf_best_bases : S :=
  (.seq (.asg (.n 3) (.lc (.bin .Add (.idx (.var 1) (.var 5)) (.bfn .sum (.cons (.lc (.idx (.var 2) (.var 6)) (.n 6) (.idx (.idx (.var 0) (.int 1)) (.var 5)) .no) .nil))) (.n 5) (.rng .no (.bfn .len (.cons (.var 1) .nil))) .no)) (.seq (.asg (.n 4) (.bfn .max (.cons (.var 3) .nil))) (.seq (.ret (.bfn .tuple (.cons (.lc (.idx (.idx (.var 0) (.int 1)) (.var 5)) (.n 5) (.rng .no (.bfn .len (.cons (.var 3) .nil))) (.cmp .Eq (.idx (.var 3) (.var 5)) (.var 4))) .nil))) .nil)))
def f_best_bases : Fn := runFn [] 3 7 bf_best_bases
/-! _law_weights(pool, n): names 0=pool 1=n 2=top 3=k; calls _law_pick -/
def Nf_law_weights : List Str := ["pool", "n", "top", "k"]
def bf_law_weights : S :=
  (.seq (.asg (.n 2) (.idx (.lst (.cons (.int 3) (.cons (.int 7) (.cons (.int 41) .nil)))) (.call 0 (.cons (.var 0) (.cons (.int 3) .nil))))) (.seq (.ret (.bfn .tuple (.cons (.lc (.bin .Sub (.call 0 (.cons (.var 0) (.cons (.var 2) .nil))) (.bin .FloorDiv (.var 2) (.int 2))) (.n 3) (.rng .no (.var 1)) .no) .nil))) .nil))
def f_law_weights : Fn := runFn [pick] 2 4 bf_law_weights
/-! value_at(polynomial, x, y): names 0=polynomial 1=x 2=y 3=total 4=number 5=_ 6=a 7=b; calls  -/
def Nf_value_at : List Str := ["polynomial", "x", "y", "total", "number", "_", "a", "b"]
def bf_value_at : S :=
  (.seq (.asg (.n 3) (.int 0)) (.seq (.for_ (.cons (.cons (.n 6) (.cons (.n 7) .nil)) (.cons (.n 4) .nil)) (.var 0) (.seq (.for_ (.n 5) (.rng .no (.var 6)) (.seq (.aug 4 .Mult (.var 1)) .nil)) (.seq (.for_ (.n 5) (.rng .no (.var 7)) (.seq (.aug 4 .Mult (.var 2)) .nil)) (.seq (.aug 3 .Add (.var 4)) .nil)))) (.seq (.ret (.var 3)) .nil)))
def f_value_at : Fn := runFn [] 3 8 bf_value_at
/-! signed_power(number, many): names 0=number 1=many 2=found 3=_; calls  -/
def Nf_signed_power : List Str := ["number", "many", "found", "_"]
def bf_signed_power : S :=
  (.seq (.asg (.n 2) (.int 1)) (.seq (.for_ (.n 3) (.rng .no (.var 1)) (.seq (.aug 2 .Mult (.var 0)) .nil)) (.seq (.ret (.var 2)) .nil)))
def f_signed_power : Fn := runFn [] 2 4 bf_signed_power
/-! sign_of(number): names 0=number; calls  -/
def Nf_sign_of : List Str := ["number"]
def bf_sign_of : S :=
  (.seq (.ret (.bin .Sub (.cmp .Gt (.var 0) (.int 0)) (.cmp .Lt (.var 0) (.int 0)))) .nil)
def f_sign_of : Fn := runFn [] 1 1 bf_sign_of
/-! put_together(one, two): names 0=one 1=two 2=k; calls  -/
def Nf_put_together : List Str := ["one", "two", "k"]
def bf_put_together : S :=
  (.seq (.ret (.bfn .tuple (.cons (.lc (.ife (.cmp .NotEq (.idx (.var 0) (.var 2)) (.int 0)) (.idx (.var 0) (.var 2)) (.idx (.var 1) (.var 2))) (.n 2) (.rng .no (.bfn .len (.cons (.var 0) .nil))) .no) .nil))) .nil)
def f_put_together : Fn := runFn [] 2 3 bf_put_together
/-! _law_is_bool(x, due): names 0=x 1=due; calls  -/
def Nf_law_is_bool : List Str := ["x", "due"]
def bf_law_is_bool : S :=
  (.seq (.iff (.var 1) (.seq (.ret (.isB false true (.var 0))) .nil) .nil) (.seq (.ret (.isB false false (.var 0))) .nil))
def f_law_is_bool : Fn := runFn [] 2 2 bf_law_is_bool
/-! _wall(k): names 0=k; calls  -/
def Nf_wall : List Str := ["k"]
def bf_wall : S :=
  (.seq (.whl 1000000 (.bool true) (.seq .pass .nil)) .nil)
def f_wall : Fn := runFn [] 1 1 bf_wall
/-! lengthened(matroid): names 0=matroid; calls dual shortened -/
def Nf_lengthened : List Str := ["matroid"]
def bf_lengthened : S :=
  (.seq (.ret (.call 0 (.cons (.call 1 (.cons (.call 0 (.cons (.var 0) .nil)) .nil)) .nil))) .nil)
def f_lengthened : Fn := runFn [f_dual, f_shortened] 1 1 bf_lengthened
/-! is_named(value, word, size): names 0=value 1=word 2=size; calls  -/
def Nf_is_named : List Str := ["value", "word", "size"]
def bf_is_named : S :=
  (.seq (.ret (.and (.isi .tuple (.var 0)) (.and (.cmp .Eq (.bfn .len (.cons (.var 0) .nil)) (.var 2)) (.and (.isi .str (.idx (.var 0) (.int 0))) (.cmp .Eq (.idx (.var 0) (.int 0)) (.var 1)))))) .nil)
def f_is_named : Fn := runFn [] 3 3 bf_is_named
/-! fraction(p, q): names 0=p 1=q 2=sign 3=a 4=b; calls  -/
def Nf_fraction : List Str := ["p", "q", "sign", "a", "b"]
def bf_fraction : S :=
  (.seq (.par 3 4 (.bfn .abs (.cons (.var 0) .nil)) (.bfn .abs (.cons (.var 1) .nil))) (.seq (.whl 1000000 (.cmp .Gt (.var 4) (.int 0)) (.seq (.par 3 4 (.var 4) (.bin .Mod (.var 3) (.var 4))) .nil)) (.seq (.asg (.n 2) (.ife (.cmp .Lt (.var 1) (.int 0)) (.neg (.int 1)) (.int 1))) (.seq (.ret (.tup (.cons (.bin .FloorDiv (.bin .Mult (.var 2) (.var 0)) (.var 3)) (.cons (.bin .FloorDiv (.bin .Mult (.var 2) (.var 1)) (.var 3)) .nil)))) .nil))))
def f_fraction : Fn := runFn [] 2 5 bf_fraction
/-! total(amounts, points): names 0=amounts 1=points 2=x; calls  -/
def Nf_total : List Str := ["amounts", "points", "x"]
def bf_total : S :=
  (.seq (.ret (.bfn .sum (.cons (.lc (.idx (.var 0) (.var 2)) (.n 2) (.var 1) .no) .nil))) .nil)
def f_total : Fn := runFn [] 2 3 bf_total
/-! broken_set(matroid, amounts, q): names 0=matroid 1=amounts 2=q 3=x 4=lot; calls subsets points_of total rank rank_of -/
def Nf_broken_set : List Str := ["matroid", "amounts", "q", "x", "lot"]
def bf_broken_set : S :=
  (.seq (.for_ (.n 3) (.rng .no (.idx (.var 0) (.int 0))) (.seq (.iff (.cmp .Lt (.idx (.var 1) (.var 3)) (.int 0)) (.seq (.ret (.tup (.cons (.str "below") (.cons (.var 3) .nil)))) .nil) .nil) .nil)) (.seq (.for_ (.n 4) (.call 0 (.cons (.call 1 (.cons (.var 0) .nil)) .nil)) (.seq (.iff (.cmp .Gt (.call 2 (.cons (.var 1) (.cons (.var 4) .nil))) (.bin .Mult (.var 2) (.call 3 (.cons (.var 0) (.cons (.var 4) .nil))))) (.seq (.ret (.tup (.cons (.str "over") (.cons (.var 4) .nil)))) .nil) .nil) .nil)) (.seq (.ret (.ife (.cmp .Lt (.call 2 (.cons (.var 1) (.cons (.call 1 (.cons (.var 0) .nil)) .nil))) (.bin .Mult (.var 2) (.call 4 (.cons (.var 0) .nil)))) (.tup (.cons (.str "short") .nil)) .non)) .nil)))
def f_broken_set : Fn := runFn [f_subsets, f_points_of, f_total, f_rank, f_rank_of] 3 5 bf_broken_set
/-! tight_sets(matroid, amounts, q): names 0=matroid 1=amounts 2=q 3=lot; calls subsets points_of total rank -/
def Nf_tight_sets : List Str := ["matroid", "amounts", "q", "lot"]
def bf_tight_sets : S :=
  (.seq (.ret (.lc (.var 3) (.n 3) (.call 0 (.cons (.call 1 (.cons (.var 0) .nil)) .nil)) (.cmp .Eq (.call 2 (.cons (.var 1) (.cons (.var 3) .nil))) (.bin .Mult (.var 2) (.call 3 (.cons (.var 0) (.cons (.var 3) .nil))))))) .nil)
def f_tight_sets : Fn := runFn [f_subsets, f_points_of, f_total, f_rank] 3 4 bf_tight_sets
/-! base_on(matroid, amounts, q): names 0=matroid 1=amounts 2=q 3=rows 4=base 5=x 6=lot; calls tight_sets common rank -/
def Nf_base_on : List Str := ["matroid", "amounts", "q", "rows", "base", "x", "lot"]
def bf_base_on : S :=
  (.seq (.asg (.n 3) (.call 0 (.cons (.var 0) (.cons (.var 1) (.cons (.var 2) .nil))))) (.seq (.for_ (.n 4) (.idx (.var 0) (.int 1)) (.seq (.iff (.bfn .all (.cons (.lc (.cmp .Gt (.idx (.var 1) (.var 5)) (.int 0)) (.n 5) (.var 4) .no) .nil)) (.seq (.iff (.bfn .all (.cons (.lc (.cmp .Eq (.bfn .len (.cons (.call 1 (.cons (.var 4) (.cons (.var 6) .nil))) .nil)) (.call 2 (.cons (.var 0) (.cons (.var 6) .nil)))) (.n 6) (.var 3) .no) .nil)) (.seq (.ret (.var 4)) .nil) .nil) .nil) .nil) .nil)) (.seq (.ret .non) .nil)))
def f_base_on : Fn := runFn [f_tight_sets, f_common, f_rank] 3 7 bf_base_on
/-! most_of(matroid, amounts, q, base): names 0=matroid 1=amounts 2=q 3=base 4=best 5=lot 6=size 7=gap 8=slack 9=x; calls subsets points_of rank common total -/
def Nf_most_of : List Str := ["matroid", "amounts", "q", "base", "best", "lot", "size", "gap", "slack", "x"]
def bf_most_of : S :=
  (.seq (.asg (.n 4) (.ife (.cmp .Gt (.bfn .len (.cons (.var 3) .nil)) (.int 0)) (.tup (.cons (.bfn .min (.cons (.lc (.idx (.var 1) (.var 9)) (.n 9) (.var 3) .no) .nil)) (.cons (.int 1) .nil))) (.tup (.cons (.var 2) (.cons (.int 1) .nil))))) (.seq (.for_ (.n 5) (.call 0 (.cons (.call 1 (.cons (.var 0) .nil)) .nil)) (.seq (.asg (.n 6) (.call 2 (.cons (.var 0) (.cons (.var 5) .nil)))) (.seq (.asg (.n 7) (.bin .Sub (.var 6) (.bfn .len (.cons (.call 3 (.cons (.var 3) (.cons (.var 5) .nil))) .nil)))) (.seq (.iff (.cmp .Gt (.var 7) (.int 0)) (.seq (.asg (.n 8) (.bin .Sub (.bin .Mult (.var 2) (.var 6)) (.call 4 (.cons (.var 1) (.cons (.var 5) .nil))))) (.seq (.iff (.cmp .Lt (.bin .Mult (.var 8) (.idx (.var 4) (.int 1))) (.bin .Mult (.idx (.var 4) (.int 0)) (.var 7))) (.seq (.asg (.n 4) (.tup (.cons (.var 8) (.cons (.var 7) .nil)))) .nil) .nil) .nil)) .nil) .nil)))) (.seq (.ret (.ife (.cmp .Gt (.idx (.var 4) (.int 0)) (.bin .Mult (.var 2) (.idx (.var 4) (.int 1)))) (.tup (.cons (.var 2) (.cons (.int 1) .nil))) (.var 4))) .nil)))
def f_most_of : Fn := runFn [f_subsets, f_points_of, f_rank, f_common, f_total] 4 10 bf_most_of
/-! is_share(value): names 0=value; calls is_numbers fraction -/
def Nf_is_share : List Str := ["value"]
def bf_is_share : S :=
  (.seq (.iff (.or (.not (.call 0 (.cons (.var 0) .nil))) (.or (.cmp .NotEq (.bfn .len (.cons (.var 0) .nil)) (.int 2)) (.or (.cmp .Lt (.idx (.var 0) (.int 0)) (.int 1)) (.cmp .Lt (.idx (.var 0) (.int 1)) (.int 1))))) (.seq (.ret (.bool false)) .nil) .nil) (.seq (.ret (.cmp .Eq (.call 1 (.cons (.idx (.var 0) (.int 0)) (.cons (.idx (.var 0) (.int 1)) .nil))) (.var 0))) .nil))
def f_is_share : Fn := runFn [f_is_numbers, f_fraction] 1 1 bf_is_share
/-! sum_of(fractions): names 0=fractions 1=found 2=p 3=q; calls fraction -/
def Nf_sum_of : List Str := ["fractions", "found", "p", "q"]
def bf_sum_of : S :=
  (.seq (.asg (.n 1) (.tup (.cons (.int 0) (.cons (.int 1) .nil)))) (.seq (.for_ (.cons (.n 2) (.cons (.n 3) .nil)) (.var 0) (.seq (.asg (.n 1) (.call 0 (.cons (.bin .Add (.bin .Mult (.idx (.var 1) (.int 0)) (.var 3)) (.bin .Mult (.var 2) (.idx (.var 1) (.int 1)))) (.cons (.bin .Mult (.idx (.var 1) (.int 1)) (.var 3)) .nil)))) .nil)) (.seq (.ret (.var 1)) .nil)))
def f_sum_of : Fn := runFn [f_fraction] 1 4 bf_sum_of
/-! over_set(matroid, k, amounts): names 0=matroid 1=k 2=amounts 3=lot; calls subsets points_of total rank rank_of -/
def Nf_over_set : List Str := ["matroid", "k", "amounts", "lot"]
def bf_over_set : S :=
  (.seq (.for_ (.n 3) (.call 0 (.cons (.call 1 (.cons (.var 0) .nil)) .nil)) (.seq (.iff (.cmp .Gt (.call 2 (.cons (.var 2) (.cons (.var 3) .nil))) (.bin .Mult (.var 1) (.call 3 (.cons (.var 0) (.cons (.var 3) .nil))))) (.seq (.ret (.tup (.cons (.str "over") (.cons (.var 3) .nil)))) .nil) .nil) .nil)) (.seq (.iff (.cmp .Lt (.call 2 (.cons (.var 2) (.cons (.call 1 (.cons (.var 0) .nil)) .nil))) (.bin .Mult (.var 1) (.call 4 (.cons (.var 0) .nil)))) (.seq (.ret (.tup (.cons (.str "short") .nil))) .nil) .nil) (.seq (.ret .non) .nil)))
def f_over_set : Fn := runFn [f_subsets, f_points_of, f_total, f_rank, f_rank_of] 3 4 bf_over_set
/-! less_base(amounts, base): names 0=amounts 1=base 2=x; calls  -/
def Nf_less_base : List Str := ["amounts", "base", "x"]
def bf_less_base : S :=
  (.seq (.ret (.bfn .tuple (.cons (.lc (.bin .Sub (.idx (.var 0) (.var 2)) (.bfn .int (.cons (.cmp .In (.var 2) (.var 1)) .nil))) (.n 2) (.rng .no (.bfn .len (.cons (.var 0) .nil))) .no) .nil))) .nil)
def f_less_base : Fn := runFn [] 2 3 bf_less_base
/-! fits(matroid, k, amounts): names 0=matroid 1=k 2=amounts; calls over_set -/
def Nf_fits_2 : List Str := ["matroid", "k", "amounts"]
def bf_fits_2 : S :=
  (.seq (.ret (.and (.cmp .GtE (.bfn .min (.cons (.var 2) .nil)) (.int 0)) (.isN false (.call 0 (.cons (.var 0) (.cons (.var 1) (.cons (.var 2) .nil))))))) .nil)
def f_fits_2 : Fn := runFn [f_over_set] 3 3 bf_fits_2
/-! check_sum(matroid, k, amounts, value): names 0=matroid 1=k 2=amounts 3=value 4=n 5=x 6=base; calls is_named is_points total rank points_of rank_of -/
def Nf_check_sum : List Str := ["matroid", "k", "amounts", "value", "n", "x", "base"]
def bf_check_sum : S :=
  (.seq (.asg (.n 4) (.idx (.var 0) (.int 0))) (.seq (.iff (.call 0 (.cons (.var 3) (.cons (.str "over") (.cons (.int 2) .nil)))) (.seq (.ret (.and (.call 1 (.cons (.idx (.var 3) (.int 1)) (.cons (.var 4) .nil))) (.cmp .Gt (.call 2 (.cons (.var 2) (.cons (.idx (.var 3) (.int 1)) .nil))) (.bin .Mult (.var 1) (.call 3 (.cons (.var 0) (.cons (.idx (.var 3) (.int 1)) .nil))))))) .nil) .nil) (.seq (.iff (.call 0 (.cons (.var 3) (.cons (.str "short") (.cons (.int 1) .nil)))) (.seq (.ret (.cmp .Lt (.call 2 (.cons (.var 2) (.cons (.call 4 (.cons (.var 0) .nil)) .nil))) (.bin .Mult (.var 1) (.call 5 (.cons (.var 0) .nil))))) .nil) .nil) (.seq (.iff (.or (.not (.call 0 (.cons (.var 3) (.cons (.str "bases") (.cons (.int 2) .nil))))) (.or (.not (.isi .tuple (.idx (.var 3) (.int 1)))) (.cmp .NotEq (.bfn .len (.cons (.idx (.var 3) (.int 1)) .nil)) (.var 1)))) (.seq (.ret (.bool false)) .nil) .nil) (.seq (.iff (.not (.bfn .all (.cons (.lc (.and (.call 1 (.cons (.var 6) (.cons (.var 4) .nil))) (.cmp .In (.var 6) (.idx (.var 0) (.int 1)))) (.n 6) (.idx (.var 3) (.int 1)) .no) .nil))) (.seq (.ret (.bool false)) .nil) .nil) (.seq (.ret (.bfn .all (.cons (.lc (.cmp .Eq (.bfn .len (.cons (.lc (.var 6) (.n 6) (.idx (.var 3) (.int 1)) (.cmp .In (.var 5) (.var 6))) .nil)) (.idx (.var 2) (.var 5))) (.n 5) (.rng .no (.var 4)) .no) .nil))) .nil))))))
def f_check_sum : Fn := runFn [f_is_named, f_is_points, f_total, f_rank, f_points_of, f_rank_of] 4 7 bf_check_sum
/-! density(matroid): names 0=matroid 1=points 2=best 3=lot 4=size; calls subsets points_of rank fraction -/
def Nf_density : List Str := ["matroid", "points", "best", "lot", "size"]
def bf_density : S :=
  (.seq (.par 2 3 (.tup (.cons (.int 0) (.cons (.int 1) .nil))) (.tup .nil)) (.seq (.for_ (.n 1) (.call 0 (.cons (.call 1 (.cons (.var 0) .nil)) .nil)) (.seq (.asg (.n 4) (.call 2 (.cons (.var 0) (.cons (.var 1) .nil)))) (.seq (.iff (.and (.cmp .Gt (.var 4) (.int 0)) (.cmp .Gt (.bin .Mult (.bfn .len (.cons (.var 1) .nil)) (.idx (.var 2) (.int 1))) (.bin .Mult (.idx (.var 2) (.int 0)) (.var 4)))) (.seq (.par 2 3 (.call 3 (.cons (.bfn .len (.cons (.var 1) .nil)) (.cons (.var 4) .nil))) (.var 1)) .nil) .nil) .nil))) (.seq (.ret (.tup (.cons (.var 2) (.cons (.var 3) .nil)))) .nil)))
def f_density : Fn := runFn [f_subsets, f_points_of, f_rank, f_fraction] 1 5 bf_density
/-! strength(matroid): names 0=matroid 1=points 2=best 3=lot 4=lack 5=rest; calls subsets points_of rank_of rank without fraction -/
def Nf_strength : List Str := ["matroid", "points", "best", "lot", "lack", "rest"]
def bf_strength : S :=
  (.seq (.par 2 3 .non .non) (.seq (.for_ (.n 1) (.call 0 (.cons (.call 1 (.cons (.var 0) .nil)) .nil)) (.seq (.asg (.n 4) (.bin .Sub (.call 2 (.cons (.var 0) .nil)) (.call 3 (.cons (.var 0) (.cons (.var 1) .nil))))) (.seq (.asg (.n 5) (.bfn .len (.cons (.call 4 (.cons (.call 1 (.cons (.var 0) .nil)) (.cons (.var 1) .nil))) .nil))) (.seq (.iff (.and (.cmp .Gt (.var 4) (.int 0)) (.or (.isN false (.var 2)) (.cmp .Lt (.bin .Mult (.var 5) (.idx (.var 2) (.int 1))) (.bin .Mult (.idx (.var 2) (.int 0)) (.var 4))))) (.seq (.par 2 3 (.call 5 (.cons (.var 5) (.cons (.var 4) .nil))) (.var 1)) .nil) .nil) .nil)))) (.seq (.ret (.tup (.cons (.var 2) (.cons (.var 3) .nil)))) .nil)))
def f_strength : Fn := runFn [f_subsets, f_points_of, f_rank_of, f_rank, f_without, f_fraction] 1 6 bf_strength
/-! is_mix(matroid, amounts, q, value): names 0=matroid 1=amounts 2=q 3=value 4=x 5=row 6=base 7=share 8=_; calls is_points is_share sum_of fraction -/
def Nf_is_mix : List Str := ["matroid", "amounts", "q", "value", "x", "row", "base", "share", "_"]
def bf_is_mix : S :=
  (.seq (.iff (.or (.not (.isi .tuple (.var 3))) (.not (.bfn .all (.cons (.lc (.and (.isi .tuple (.var 5)) (.cmp .Eq (.bfn .len (.cons (.var 5) .nil)) (.int 2))) (.n 5) (.var 3) .no) .nil)))) (.seq (.ret (.bool false)) .nil) .nil) (.seq (.iff (.not (.bfn .all (.cons (.lc (.and (.call 0 (.cons (.var 6) (.cons (.idx (.var 0) (.int 0)) .nil))) (.and (.cmp .In (.var 6) (.idx (.var 0) (.int 1))) (.call 1 (.cons (.var 7) .nil)))) (.cons (.n 6) (.cons (.n 7) .nil)) (.var 3) .no) .nil))) (.seq (.ret (.bool false)) .nil) .nil) (.seq (.iff (.cmp .NotEq (.call 2 (.cons (.lc (.var 7) (.cons (.n 8) (.cons (.n 7) .nil)) (.var 3) .no) .nil)) (.tup (.cons (.int 1) (.cons (.int 1) .nil)))) (.seq (.ret (.bool false)) .nil) .nil) (.seq (.for_ (.n 4) (.rng .no (.idx (.var 0) (.int 0))) (.seq (.iff (.cmp .NotEq (.call 2 (.cons (.lc (.var 7) (.cons (.n 6) (.cons (.n 7) .nil)) (.var 3) (.cmp .In (.var 4) (.var 6))) .nil)) (.call 3 (.cons (.idx (.var 1) (.var 4)) (.cons (.var 2) .nil)))) (.seq (.ret (.bool false)) .nil) .nil) .nil)) (.seq (.ret (.bool true)) .nil)))))
def f_is_mix : Fn := runFn [f_is_points, f_is_share, f_sum_of, f_fraction] 4 9 bf_is_mix
/-! check_mix(matroid, amounts, q, value): names 0=matroid 1=amounts 2=q 3=value 4=n; calls is_named is_from is_points total rank points_of rank_of is_mix -/
def Nf_check_mix : List Str := ["matroid", "amounts", "q", "value", "n"]
def bf_check_mix : S :=
  (.seq (.asg (.n 4) (.idx (.var 0) (.int 0))) (.seq (.iff (.call 0 (.cons (.var 3) (.cons (.str "below") (.cons (.int 2) .nil)))) (.seq (.ret (.and (.call 1 (.cons (.idx (.var 3) (.int 1)) (.cons (.int 0) (.cons (.bin .Sub (.var 4) (.int 1)) .nil)))) (.cmp .Lt (.idx (.var 1) (.idx (.var 3) (.int 1))) (.int 0)))) .nil) .nil) (.seq (.iff (.call 0 (.cons (.var 3) (.cons (.str "over") (.cons (.int 2) .nil)))) (.seq (.ret (.and (.call 2 (.cons (.idx (.var 3) (.int 1)) (.cons (.var 4) .nil))) (.cmp .Gt (.call 3 (.cons (.var 1) (.cons (.idx (.var 3) (.int 1)) .nil))) (.bin .Mult (.var 2) (.call 4 (.cons (.var 0) (.cons (.idx (.var 3) (.int 1)) .nil))))))) .nil) .nil) (.seq (.iff (.call 0 (.cons (.var 3) (.cons (.str "short") (.cons (.int 1) .nil)))) (.seq (.ret (.cmp .Lt (.call 3 (.cons (.var 1) (.cons (.call 5 (.cons (.var 0) .nil)) .nil))) (.bin .Mult (.var 2) (.call 6 (.cons (.var 0) .nil))))) .nil) .nil) (.seq (.ret (.and (.call 0 (.cons (.var 3) (.cons (.str "mix") (.cons (.int 2) .nil)))) (.call 7 (.cons (.var 0) (.cons (.var 1) (.cons (.var 2) (.cons (.idx (.var 3) (.int 1)) .nil))))))) .nil)))))
def f_check_mix : Fn := runFn [f_is_named, f_is_from, f_is_points, f_total, f_rank, f_points_of, f_rank_of, f_is_mix] 4 5 bf_check_mix
/-! sum_paper(matroid, k, amounts): names 0=matroid 1=k 2=amounts 3=found 4=bases 5=left 6=j 7=base 8=b; calls over_set fits less_base -/
def Nf_sum_paper : List Str := ["matroid", "k", "amounts", "found", "bases", "left", "j", "base", "b"]
def bf_sum_paper : S :=
  (.seq (.asg (.n 3) (.call 0 (.cons (.var 0) (.cons (.var 1) (.cons (.var 2) .nil))))) (.seq (.iff (.isN true (.var 3)) (.seq (.ret (.var 3)) .nil) .nil) (.seq (.own 4 (.lst .nil)) (.seq (.asg (.n 5) (.bfn .tuple (.cons (.var 2) .nil))) (.seq (.for_ (.n 6) (.rng .no (.var 1)) (.seq (.asg (.n 7) (.idx (.lc (.var 8) (.n 8) (.idx (.var 0) (.int 1)) (.call 1 (.cons (.var 0) (.cons (.bin .Sub (.bin .Sub (.var 1) (.var 6)) (.int 1)) (.cons (.call 2 (.cons (.var 5) (.cons (.var 8) .nil))) .nil))))) (.int 0))) (.seq (.app 4 (.var 7)) (.seq (.asg (.n 5) (.call 2 (.cons (.var 5) (.cons (.var 7) .nil)))) .nil)))) (.seq (.ret (.tup (.cons (.str "bases") (.cons (.bfn .tuple (.cons (.var 4) .nil)) .nil)))) .nil))))))
def f_sum_paper : Fn := runFn [f_over_set, f_fits_2, f_less_base] 3 9 bf_sum_paper
/-! free_from(matroid, sets, begun): names 0=matroid 1=sets 2=begun 3=x 4=found; calls is_free free_from -/
def Nf_free_from : List Str := ["matroid", "sets", "begun", "x", "found"]
def bf_free_from : S :=
  (.seq (.iff (.cmp .Eq (.bfn .len (.cons (.var 2) .nil)) (.bfn .len (.cons (.var 1) .nil))) (.seq (.ret (.var 2)) .nil) .nil) (.seq (.for_ (.n 3) (.idx (.var 1) (.bfn .len (.cons (.var 2) .nil))) (.seq (.iff (.and (.cmp .NotIn (.var 3) (.var 2)) (.call 0 (.cons (.var 0) (.cons (.bfn .tuple (.cons (.bfn .sorted (.cons (.bin .Add (.var 2) (.tup (.cons (.var 3) .nil))) .nil)) .nil)) .nil)))) (.seq (.asg (.n 4) (.call 1 (.cons (.var 0) (.cons (.var 1) (.cons (.bin .Add (.var 2) (.tup (.cons (.var 3) .nil))) .nil))))) (.seq (.iff (.isN true (.var 4)) (.seq (.ret (.var 4)) .nil) .nil) .nil)) .nil) .nil)) (.seq (.ret .non) .nil)))
def f_free_from : Nat → Fn
  | 0 => fun _ _ => none
  | k + 1 => runFn [f_is_free, f_free_from k] 3 5 bf_free_from
/-! crowded_day(days, points): names 0=days 1=points 2=day 3=x; calls  -/
def Nf_crowded_day : List Str := ["days", "points", "day", "x"]
def bf_crowded_day : S :=
  (.seq (.for_ (.n 2) (.rng .no (.bin .Add (.maxd (.var 0) 0) (.int 1))) (.seq (.iff (.cmp .Gt (.bfn .len (.cons (.lc (.var 3) (.n 3) (.var 1) (.cmp .LtE (.idx (.var 0) (.var 3)) (.var 2))) .nil)) (.var 2)) (.seq (.ret (.var 2)) .nil) .nil) .nil)) (.seq (.ret .non) .nil))
def f_crowded_day : Fn := runFn [] 2 4 bf_crowded_day
/-! of_days(days): names 0=days 1=n 2=lot; calls greatest subsets crowded_day -/
def Nf_of_days : List Str := ["days", "n", "lot"]
def bf_of_days : S :=
  (.seq (.asg (.n 1) (.bfn .len (.cons (.var 0) .nil))) (.seq (.ret (.tup (.cons (.var 1) (.cons (.call 0 (.cons (.bfn .tuple (.cons (.lc (.var 2) (.n 2) (.call 1 (.cons (.bfr true (.rng .no (.var 1))) .nil)) (.isN false (.call 2 (.cons (.var 0) (.cons (.var 2) .nil))))) .nil)) .nil)) .nil)))) .nil))
def f_of_days : Fn := runFn [f_greatest, f_subsets, f_crowded_day] 1 3 bf_of_days
/-! turned_over(points, way): names 0=points 1=way 2=x; calls  -/
def Nf_turned_over : List Str := ["points", "way", "x"]
def bf_turned_over : S :=
  (.seq (.ret (.bfn .tuple (.cons (.bfn .sorted (.cons (.bin .Add (.lc (.var 2) (.n 2) (.var 0) (.cmp .NotIn (.var 2) (.var 1))) (.lc (.var 2) (.n 2) (.var 1) (.cmp .NotIn (.var 2) (.var 0)))) .nil)) .nil))) .nil)
def f_turned_over : Fn := runFn [] 2 3 bf_turned_over
/-! chosen(rest, taken): names 0=rest 1=taken 2=x; calls chosen -/
def Nf_chosen : List Str := ["rest", "taken", "x"]
def bf_chosen : S :=
  (.seq (.iff (.cmp .Eq (.bfn .len (.cons (.var 0) .nil)) (.int 0)) (.seq (.ret (.bool true)) .nil) .nil) (.seq (.ret (.bfn .any (.cons (.lc (.call 0 (.cons (.slc (.var 0) (.int 1) .no) (.cons (.bin .Add (.var 1) (.tup (.cons (.var 2) .nil))) .nil))) (.n 2) (.idx (.var 0) (.int 0)) (.cmp .NotIn (.var 2) (.var 1))) .nil))) .nil))
def f_chosen : Nat → Fn
  | 0 => fun _ _ => none
  | k + 1 => runFn [f_chosen k] 2 3 bf_chosen
/-! free_points(matroid, sets): names 0=matroid 1=sets; calls free_from -/
def Nf_free_points : List Str := ["matroid", "sets"]
def bf_free_points : S :=
  (.seq (.ret (.call 0 (.cons (.var 0) (.cons (.var 1) (.cons (.tup .nil) .nil))))) .nil)
def f_free_points : Fn := runFn [f_free_from 12] 2 2 bf_free_points
/-! can_go_on(sets, begun): names 0=sets 1=begun 2=rest; calls chosen -/
def Nf_can_go_on : List Str := ["sets", "begun", "rest"]
def bf_can_go_on : S :=
  (.seq (.asg (.n 2) (.slc (.var 0) (.bfn .len (.cons (.var 1) .nil)) .no)) (.seq (.ret (.call 0 (.cons (.var 2) (.cons (.var 1) .nil)))) .nil))
def f_can_go_on : Fn := runFn [f_chosen 12] 2 3 bf_can_go_on
/-! dealt_points(sets): names 0=sets 1=found 2=k 3=good 4=x; calls can_go_on -/
def Nf_dealt_points : List Str := ["sets", "found", "k", "good", "x"]
def bf_dealt_points : S :=
  (.seq (.asg (.n 1) (.tup .nil)) (.seq (.for_ (.n 2) (.rng .no (.bfn .len (.cons (.var 0) .nil))) (.seq (.asg (.n 3) (.lc (.var 4) (.n 4) (.idx (.var 0) (.var 2)) (.and (.cmp .NotIn (.var 4) (.var 1)) (.call 0 (.cons (.var 0) (.cons (.bin .Add (.var 1) (.tup (.cons (.var 4) .nil))) .nil)))))) (.seq (.iff (.cmp .Eq (.bfn .len (.cons (.var 3) .nil)) (.int 0)) (.seq (.ret .non) .nil) .nil) (.seq (.aug 1 .Add (.tup (.cons (.idx (.var 3) (.int 0)) .nil))) .nil)))) (.seq (.ret (.var 1)) .nil)))
def f_dealt_points : Fn := runFn [f_can_go_on] 1 5 bf_dealt_points
/-! is_between(low, high, lot): names 0=low 1=high 2=lot 3=k; calls  -/
def Nf_is_between : List Str := ["low", "high", "lot", "k"]
def bf_is_between : S :=
  (.seq (.ret (.bfn .all (.cons (.lc (.chn .LtE .LtE (.idx (.var 0) (.var 3)) (.idx (.var 2) (.var 3)) (.idx (.var 1) (.var 3))) (.n 3) (.rng .no (.bfn .len (.cons (.var 2) .nil))) .no) .nil))) .nil)
def f_is_between : Fn := runFn [] 3 4 bf_is_between
/-! of_ladder(n, low, high): names 0=n 1=low 2=high 3=lots 4=lot; calls of_size is_between -/
def Nf_of_ladder : List Str := ["n", "low", "high", "lots", "lot"]
def bf_of_ladder : S :=
  (.seq (.asg (.n 3) (.call 0 (.cons (.bfr true (.rng .no (.var 0))) (.cons (.bfn .len (.cons (.var 1) .nil)) .nil)))) (.seq (.ret (.tup (.cons (.var 0) (.cons (.bfn .tuple (.cons (.lc (.var 4) (.n 4) (.var 3) (.call 1 (.cons (.var 1) (.cons (.var 2) (.cons (.var 4) .nil))))) .nil)) .nil)))) .nil))
def f_of_ladder : Fn := runFn [f_of_size, f_is_between] 3 5 bf_of_ladder
/-! count_ways(low, high): names 0=low 1=high 2=rows 3=k 4=after 5=x 6=y; calls  -/
def Nf_count_ways : List Str := ["low", "high", "rows", "k", "after", "x", "y"]
def bf_count_ways : S :=
  (.seq (.iff (.cmp .Eq (.bfn .len (.cons (.var 0) .nil)) (.int 0)) (.seq (.ret (.int 1)) .nil) .nil) (.seq (.asg (.n 2) (.dcp (.var 5) (.int 1) (.n 5) (.rng (.idx (.var 0) (.int 0)) (.bin .Add (.idx (.var 1) (.int 0)) (.int 1))) .no)) (.seq (.for_ (.n 3) (.rng (.int 1) (.bfn .len (.cons (.var 0) .nil))) (.seq (.ownD 4 false) (.seq (.for_ (.n 5) (.rng (.idx (.var 0) (.var 3)) (.bin .Add (.idx (.var 1) (.var 3)) (.int 1))) (.seq (.put 4 (.var 5) (.bfn .sum (.cons (.lc (.idx (.var 2) (.var 6)) (.n 6) (.var 2) (.cmp .Lt (.var 6) (.var 5))) .nil))) .nil)) (.seq (.frz 4) (.seq (.asg (.n 2) (.var 4)) .nil))))) (.seq (.ret (.bfn .sum (.cons (.lc (.idx (.var 2) (.var 5)) (.n 5) (.var 2) .no) .nil))) .nil))))
def f_count_ways : Fn := runFn [] 2 7 bf_count_ways
/-! rank_break(one, two): names 0=one 1=two 2=lots 3=high 4=low; calls subsets points_of rank -/
def Nf_rank_break : List Str := ["one", "two", "lots", "high", "low"]
def bf_rank_break : S :=
  (.seq (.asg (.n 2) (.call 0 (.cons (.call 1 (.cons (.var 0) .nil)) .nil))) (.seq (.for_ (.n 3) (.var 2) (.seq (.for_ (.n 4) (.call 0 (.cons (.var 3) .nil)) (.seq (.iff (.cmp .Gt (.bin .Sub (.call 2 (.cons (.var 1) (.cons (.var 3) .nil))) (.call 2 (.cons (.var 1) (.cons (.var 4) .nil)))) (.bin .Sub (.call 2 (.cons (.var 0) (.cons (.var 3) .nil))) (.call 2 (.cons (.var 0) (.cons (.var 4) .nil))))) (.seq (.ret (.tup (.cons (.var 4) (.cons (.var 3) .nil)))) .nil) .nil) .nil)) .nil)) (.seq (.ret .non) .nil)))
def f_rank_break : Fn := runFn [f_subsets, f_points_of, f_rank] 2 5 bf_rank_break
/-! major(one, two): names 0=one 1=two 2=n 3=more 4=extra 5=size 6=bases 7=lot 8=inner 9=added; calls rank_of of_size points_of common rank -/
def Nf_major : List Str := ["one", "two", "n", "more", "extra", "size", "bases", "lot", "inner", "added"]
def bf_major : S :=
  (.seq (.asg (.n 2) (.idx (.var 0) (.int 0))) (.seq (.asg (.n 3) (.bin .Sub (.call 0 (.cons (.var 0) .nil)) (.call 0 (.cons (.var 1) .nil)))) (.seq (.asg (.n 4) (.bfr true (.rng (.var 2) (.bin .Add (.var 2) (.var 3))))) (.seq (.asg (.n 5) (.bfn .min2 (.cons (.bin .Add (.call 0 (.cons (.var 0) .nil)) (.var 3)) (.cons (.bin .Add (.call 0 (.cons (.var 1) .nil)) (.var 3)) .nil)))) (.seq (.own 6 (.lst .nil)) (.seq (.for_ (.n 7) (.call 1 (.cons (.bin .Add (.call 2 (.cons (.var 0) .nil)) (.var 4)) (.cons (.var 5) .nil))) (.seq (.asg (.n 8) (.call 3 (.cons (.var 7) (.cons (.call 2 (.cons (.var 0) .nil)) .nil)))) (.seq (.asg (.n 9) (.bin .Sub (.bfn .len (.cons (.var 7) .nil)) (.bfn .len (.cons (.var 8) .nil)))) (.seq (.iff (.cmp .Eq (.bfn .min2 (.cons (.bin .Add (.call 4 (.cons (.var 0) (.cons (.var 8) .nil))) (.var 9)) (.cons (.bin .Add (.call 4 (.cons (.var 1) (.cons (.var 8) .nil))) (.var 3)) .nil))) (.var 5)) (.seq (.app 6 (.var 7)) .nil) .nil) .nil)))) (.seq (.ret (.tup (.cons (.bin .Add (.var 2) (.var 3)) (.cons (.bfn .tuple (.cons (.bfn .sorted (.cons (.var 6) .nil)) .nil)) .nil)))) .nil)))))))
def f_major : Fn := runFn [f_rank_of, f_of_size, f_points_of, f_common, f_rank] 2 10 bf_major
/-! beside_point(matroid, x): names 0=matroid 1=x 2=n 3=more 4=base 5=y; calls  -/
def Nf_beside_point : List Str := ["matroid", "x", "n", "more", "base", "y"]
def bf_beside_point : S :=
  (.seq (.asg (.n 2) (.idx (.var 0) (.int 0))) (.seq (.asg (.n 3) (.lc (.bfn .tuple (.cons (.bfn .sorted (.cons (.lc (.ife (.cmp .Eq (.var 5) (.var 1)) (.var 2) (.var 5)) (.n 5) (.var 4) .no) .nil)) .nil)) (.n 4) (.idx (.var 0) (.int 1)) (.cmp .In (.var 1) (.var 4)))) (.seq (.ret (.tup (.cons (.bin .Add (.var 2) (.int 1)) (.cons (.bfn .tuple (.cons (.bfn .sorted (.cons (.bin .Add (.bfn .list (.cons (.idx (.var 0) (.int 1)) .nil)) (.var 3)) .nil)) .nil)) .nil)))) .nil)))
def f_beside_point : Fn := runFn [] 2 6 bf_beside_point
/-! numbers_of(n, table): names 0=n 1=table 2=lots 3=k; calls subsets -/
def Nf_numbers_of : List Str := ["n", "table", "lots", "k"]
def bf_numbers_of : S :=
  (.seq (.asg (.n 2) (.call 0 (.cons (.bfr true (.rng .no (.var 0))) .nil))) (.seq (.ret (.dcp (.idx (.var 2) (.var 3)) (.idx (.var 1) (.var 3)) (.n 3) (.rng .no (.bfn .len (.cons (.var 2) .nil))) .no)) .nil))
def f_numbers_of : Fn := runFn [f_subsets] 2 4 bf_numbers_of
/-! under_break(n, low, high): names 0=n 1=low 2=high 3=rows 4=f 5=g 6=lot; calls numbers_of subsets -/
def Nf_under_break : List Str := ["n", "low", "high", "rows", "f", "g", "lot"]
def bf_under_break : S :=
  (.seq (.par 4 5 (.call 0 (.cons (.var 0) (.cons (.var 2) .nil))) (.call 0 (.cons (.var 0) (.cons (.var 1) .nil)))) (.seq (.asg (.n 3) (.lc (.var 6) (.n 6) (.call 1 (.cons (.bfr true (.rng .no (.var 0))) .nil)) (.cmp .Gt (.idx (.var 5) (.var 6)) (.idx (.var 4) (.var 6))))) (.seq (.ret (.ife (.cmp .Gt (.bfn .len (.cons (.var 3) .nil)) (.int 0)) (.idx (.var 3) (.int 0)) .non)) .nil)))
def f_under_break : Fn := runFn [f_numbers_of, f_subsets] 3 7 bf_under_break
/-! check_between(n, low, high, value): names 0=n 1=low 2=high 3=value 4=f 5=g 6=lot 7=x; calls numbers_of is_named is_points is_numbers -/
def Nf_check_between : List Str := ["n", "low", "high", "value", "f", "g", "lot", "x"]
def bf_check_between : S :=
  (.seq (.par 4 5 (.call 0 (.cons (.var 0) (.cons (.var 2) .nil))) (.call 0 (.cons (.var 0) (.cons (.var 1) .nil)))) (.seq (.iff (.call 1 (.cons (.var 3) (.cons (.str "cross") (.cons (.int 2) .nil)))) (.seq (.ret (.and (.call 2 (.cons (.idx (.var 3) (.int 1)) (.cons (.var 0) .nil))) (.cmp .Gt (.idx (.var 5) (.idx (.var 3) (.int 1))) (.idx (.var 4) (.idx (.var 3) (.int 1)))))) .nil) .nil) (.seq (.iff (.or (.not (.call 1 (.cons (.var 3) (.cons (.str "between") (.cons (.int 3) .nil))))) (.or (.not (.call 3 (.cons (.tup (.cons (.idx (.var 3) (.int 1)) .nil)) .nil))) (.not (.call 3 (.cons (.idx (.var 3) (.int 2)) .nil))))) (.seq (.ret (.bool false)) .nil) .nil) (.seq (.iff (.cmp .NotEq (.bfn .len (.cons (.idx (.var 3) (.int 2)) .nil)) (.var 0)) (.seq (.ret (.bool false)) .nil) .nil) (.seq (.ret (.bfn .all (.cons (.lc (.chn .LtE .LtE (.idx (.var 5) (.var 6)) (.bin .Add (.idx (.var 3) (.int 1)) (.bfn .sum (.cons (.lc (.idx (.idx (.var 3) (.int 2)) (.var 7)) (.n 7) (.var 6) .no) .nil))) (.idx (.var 4) (.var 6))) (.n 6) (.var 4) .no) .nil))) .nil)))))
def f_check_between : Fn := runFn [f_numbers_of, f_is_named, f_is_points, f_is_numbers] 4 8 bf_check_between
/-! is_growing(n, table): names 0=n 1=table 2=f 3=one 4=two; calls numbers_of is_inside -/
def Nf_is_growing : List Str := ["n", "table", "f", "one", "two"]
def bf_is_growing : S :=
  (.seq (.asg (.n 2) (.call 0 (.cons (.var 0) (.cons (.var 1) .nil)))) (.seq (.ret (.bfn .all (.cons (.lc2 (.cmp .LtE (.idx (.var 2) (.var 3)) (.idx (.var 2) (.var 4))) (.n 3) (.var 2) .no (.n 4) (.var 2) (.call 1 (.cons (.var 3) (.cons (.var 4) .nil)))) .nil))) .nil))
def f_is_growing : Fn := runFn [f_numbers_of, f_is_inside] 2 5 bf_is_growing
/-! least_parting(f, points): names 0=f 1=points 2=best 3=lot 4=first 5=rest 6=part 7=others 8=x; calls least_parting subsets -/
def Nf_least_parting : List Str := ["f", "points", "best", "lot", "first", "rest", "part", "others", "x"]
def bf_least_parting : S :=
  (.seq (.iff (.cmp .Eq (.bfn .len (.cons (.var 1) .nil)) (.int 0)) (.seq (.ret (.int 0)) .nil) .nil) (.seq (.par 4 5 (.idx (.var 1) (.int 0)) (.slc (.var 1) (.int 1) .no)) (.seq (.asg (.n 2) (.bin .Add (.int 1) (.call 0 (.cons (.var 0) (.cons (.var 5) .nil))))) (.seq (.for_ (.n 3) (.call 1 (.cons (.var 5) .nil)) (.seq (.asg (.n 6) (.bin .Add (.tup (.cons (.var 4) .nil)) (.var 3))) (.seq (.asg (.n 7) (.bfn .tuple (.cons (.lc (.var 8) (.n 8) (.var 5) (.cmp .NotIn (.var 8) (.var 3))) .nil))) (.seq (.asg (.n 2) (.bfn .min2 (.cons (.var 2) (.cons (.bin .Add (.bfn .max2 (.cons (.int 0) (.cons (.idx (.var 0) (.var 6)) .nil))) (.call 0 (.cons (.var 0) (.cons (.var 7) .nil)))) .nil)))) .nil)))) (.seq (.ret (.var 2)) .nil)))))
def f_least_parting : Nat → Fn
  | 0 => fun _ _ => none
  | k + 1 => runFn [f_least_parting k, f_subsets] 2 9 bf_least_parting
/-! rank_by(n, table, points): names 0=n 1=table 2=points 3=f; calls numbers_of least_parting -/
def Nf_rank_by : List Str := ["n", "table", "points", "f"]
def bf_rank_by : S :=
  (.seq (.asg (.n 3) (.call 0 (.cons (.var 0) (.cons (.var 1) .nil)))) (.seq (.ret (.call 1 (.cons (.var 3) (.cons (.var 2) .nil)))) .nil))
def f_rank_by : Fn := runFn [f_numbers_of, f_least_parting 12] 3 4 bf_rank_by
/-! permutations(n): names 0=n 1=found 2=_ 3=row 4=item; calls  -/
def Nf_permutations : List Str := ["n", "found", "_", "row", "item"]
def bf_permutations : S :=
  (.seq (.asg (.n 1) (.lst (.cons (.tup .nil) .nil))) (.seq (.for_ (.n 2) (.rng .no (.var 0)) (.seq (.asg (.n 1) (.lc2 (.bin .Add (.var 3) (.tup (.cons (.var 4) .nil))) (.n 3) (.var 1) .no (.n 4) (.rng .no (.var 0)) (.cmp .NotIn (.var 4) (.var 3)))) .nil)) (.seq (.ret (.var 1)) .nil)))
def f_permutations : Fn := runFn [] 1 5 bf_permutations
/-! turnings_from(matroid, begun): names 0=matroid 1=begun 2=found 3=name; calls renamed fits turnings_from -/
def Nf_turnings_from : List Str := ["matroid", "begun", "found", "name"]
def bf_turnings_from : S :=
  (.seq (.iff (.cmp .Eq (.bfn .len (.cons (.var 1) .nil)) (.idx (.var 0) (.int 0))) (.seq (.ret (.ife (.cmp .Eq (.call 0 (.cons (.var 0) (.cons (.var 1) .nil))) (.var 0)) (.lst (.cons (.var 1) .nil)) (.lst .nil))) .nil) .nil) (.seq (.own 2 (.lst .nil)) (.seq (.for_ (.n 3) (.rng .no (.idx (.var 0) (.int 0))) (.seq (.iff (.and (.cmp .NotIn (.var 3) (.var 1)) (.call 1 (.cons (.var 0) (.cons (.var 0) (.cons (.bin .Add (.var 1) (.tup (.cons (.var 3) .nil))) .nil))))) (.seq (.ext 2 (.call 2 (.cons (.var 0) (.cons (.bin .Add (.var 1) (.tup (.cons (.var 3) .nil))) .nil)))) .nil) .nil) .nil)) (.seq (.ret (.var 2)) .nil))))
def f_turnings_from : Nat → Fn
  | 0 => fun _ _ => none
  | k + 1 => runFn [f_renamed, f_fits, f_turnings_from k] 2 4 bf_turnings_from
/-! turnings(matroid): names 0=matroid; calls turnings_from -/
def Nf_turnings : List Str := ["matroid"]
def bf_turnings : S :=
  (.seq (.ret (.call 0 (.cons (.var 0) (.cons (.tup .nil) .nil)))) .nil)
def f_turnings : Fn := runFn [f_turnings_from 12] 1 1 bf_turnings
/-! plain(matroid): names 0=matroid 1=names; calls renamed permutations -/
def Nf_plain : List Str := ["matroid", "names"]
def bf_plain : S :=
  (.seq (.ret (.bfn .min (.cons (.lc (.call 0 (.cons (.var 0) (.cons (.var 1) .nil))) (.n 1) (.call 1 (.cons (.idx (.var 0) (.int 0)) .nil)) .no) .nil))) .nil)
def f_plain : Fn := runFn [f_renamed, f_permutations] 1 2 bf_plain
/-! rank_pattern(matroid): names 0=matroid 1=n 2=table 3=number 4=lot 5=place 6=x; calls rank -/
def Nf_rank_pattern : List Str := ["matroid", "n", "table", "number", "lot", "place", "x"]
def bf_rank_pattern : S :=
  (.seq (.asg (.n 1) (.idx (.var 0) (.int 0))) (.seq (.ownD 2 true) (.seq (.for_ (.n 3) (.rng .no (.bin .LShift (.int 1) (.var 1))) (.seq (.asg (.n 4) (.bfn .tuple (.cons (.lc (.var 6) (.n 6) (.rng .no (.var 1)) (.cmp .Eq (.bin .BitAnd (.bin .RShift (.var 3) (.var 6)) (.int 1)) (.int 1))) .nil))) (.seq (.asg (.n 5) (.tup (.cons (.bfn .len (.cons (.var 4) .nil)) (.cons (.call 0 (.cons (.var 0) (.cons (.var 4) .nil))) .nil)))) (.seq (.put 2 (.var 5) (.bin .Add (.get (.var 2) (.var 5) (.int 0)) (.int 1))) .nil)))) (.seq (.frz 2) (.seq (.ret (.bfn .tuple (.cons (.bfn .sorted (.cons (.lc (.tup (.cons (.var 5) (.cons (.idx (.var 2) (.var 5)) .nil))) (.n 5) (.var 2) .no) .nil)) .nil))) .nil)))))
def f_rank_pattern : Fn := runFn [f_rank] 1 7 bf_rank_pattern
/-! _law_orders(n): names 0=n 1=rows 2=k 3=more 4=row 5=x; calls  -/
def Nf_law_orders : List Str := ["n", "rows", "k", "more", "row", "x"]
def bf_law_orders : S :=
  (.seq (.asg (.n 1) (.lst (.cons (.tup .nil) .nil))) (.seq (.for_ (.n 2) (.rng .no (.var 0)) (.seq (.asg (.n 3) (.lst .nil)) (.seq (.for_ (.n 4) (.var 1) (.seq (.asg (.n 3) (.bin .Add (.var 3) (.lc (.bin .Add (.var 4) (.tup (.cons (.var 5) .nil))) (.n 5) (.rng .no (.var 0)) (.cmp .NotIn (.var 5) (.var 4))))) .nil)) (.seq (.asg (.n 1) (.var 3)) .nil)))) (.seq (.ret (.bfn .sorted (.cons (.var 1) .nil))) .nil)))
def f_law_orders : Fn := runFn [] 1 6 bf_law_orders
/-! is_order(value, n): names 0=value 1=n; calls is_numbers -/
def Nf_is_order : List Str := ["value", "n"]
def bf_is_order : S :=
  (.seq (.ret (.and (.call 0 (.cons (.var 0) .nil)) (.cmp .Eq (.bfn .sorted (.cons (.var 0) .nil)) (.bfr false (.rng .no (.var 1)))))) .nil)
def f_is_order : Fn := runFn [f_is_numbers] 2 2 bf_is_order
/-! _law_draw_list(pool): names 0=pool 1=k; calls _law_pick -/
def Nf_law_draw_list : List Str := ["pool", "k"]
def bf_law_draw_list : S :=
  (.seq (.ret (.lc (.call 0 (.cons (.var 0) (.cons (.int 4096) .nil))) (.n 1) (.rng .no (.int 40)) .no)) .nil)
def f_law_draw_list : Fn := runFn [pick] 1 2 bf_law_draw_list
/-! folded(edges, a, b): names 0=edges 1=a 2=b 3=found 4=low 5=high 6=x 7=y 8=ends 9=v; calls  -/
def Nf_folded : List Str := ["edges", "a", "b", "found", "low", "high", "x", "y", "ends", "v"]
def bf_folded : S :=
  (.seq (.par 4 5 (.bfn .min2 (.cons (.var 1) (.cons (.var 2) .nil))) (.bfn .max2 (.cons (.var 1) (.cons (.var 2) .nil)))) (.seq (.own 3 (.lst .nil)) (.seq (.for_ (.cons (.n 6) (.cons (.n 7) .nil)) (.var 0) (.seq (.asg (.n 8) (.lc (.ife (.cmp .Eq (.var 9) (.var 5)) (.var 4) (.var 9)) (.n 9) (.tup (.cons (.var 6) (.cons (.var 7) .nil))) .no)) (.seq (.app 3 (.bfn .tuple (.cons (.lc (.ife (.cmp .Gt (.var 9) (.var 5)) (.bin .Sub (.var 9) (.int 1)) (.var 9)) (.n 9) (.var 8) .no) .nil))) .nil))) (.seq (.ret (.bfn .tuple (.cons (.var 3) .nil))) .nil))))
def f_folded : Fn := runFn [] 3 10 bf_folded
/-! product_of(weights, lot): names 0=weights 1=lot 2=found 3=x; calls  -/
def Nf_product_of : List Str := ["weights", "lot", "found", "x"]
def bf_product_of : S :=
  (.seq (.asg (.n 2) (.int 1)) (.seq (.for_ (.n 3) (.var 1) (.seq (.aug 2 .Mult (.idx (.var 0) (.var 3))) .nil)) (.seq (.ret (.var 2)) .nil)))
def f_product_of : Fn := runFn [] 2 4 bf_product_of
/-! whole(matroid, weights): names 0=matroid 1=weights 2=base; calls product_of -/
def Nf_whole : List Str := ["matroid", "weights", "base"]
def bf_whole : S :=
  (.seq (.ret (.bfn .sum (.cons (.lc (.call 0 (.cons (.var 1) (.cons (.var 2) .nil))) (.n 2) (.idx (.var 0) (.int 1)) .no) .nil))) .nil)
def f_whole : Fn := runFn [f_product_of] 2 3 bf_whole
/-! part_with(matroid, weights, lot): names 0=matroid 1=weights 2=lot 3=base; calls product_of is_inside -/
def Nf_part_with : List Str := ["matroid", "weights", "lot", "base"]
def bf_part_with : S :=
  (.seq (.ret (.bfn .sum (.cons (.lc (.call 0 (.cons (.var 1) (.cons (.var 3) .nil))) (.n 3) (.idx (.var 0) (.int 1)) (.call 1 (.cons (.var 2) (.cons (.var 3) .nil)))) .nil))) .nil)
def f_part_with : Fn := runFn [f_product_of, f_is_inside] 3 4 bf_part_with
/-! chance(matroid, weights, lot): names 0=matroid 1=weights 2=lot; calls fraction whole part_with -/
def Nf_chance : List Str := ["matroid", "weights", "lot"]
def bf_chance : S :=
  (.seq (.ret (.call 0 (.cons (.call 2 (.cons (.var 0) (.cons (.var 1) (.cons (.var 2) .nil)))) (.cons (.call 1 (.cons (.var 0) (.cons (.var 1) .nil))) .nil)))) .nil)
def f_chance : Fn := runFn [f_fraction, f_whole, f_part_with] 3 3 bf_chance
/-! repel(matroid, weights, x, y): names 0=matroid 1=weights 2=x 3=y 4=both; calls part_with whole -/
def Nf_repel : List Str := ["matroid", "weights", "x", "y", "both"]
def bf_repel : S :=
  (.seq (.asg (.n 4) (.call 0 (.cons (.var 0) (.cons (.var 1) (.cons (.tup (.cons (.bfn .min2 (.cons (.var 2) (.cons (.var 3) .nil))) (.cons (.bfn .max2 (.cons (.var 2) (.cons (.var 3) .nil))) .nil))) .nil))))) (.seq (.ret (.cmp .LtE (.bin .Mult (.var 4) (.call 1 (.cons (.var 0) (.cons (.var 1) .nil)))) (.bin .Mult (.call 0 (.cons (.var 0) (.cons (.var 1) (.cons (.tup (.cons (.var 2) .nil)) .nil)))) (.call 0 (.cons (.var 0) (.cons (.var 1) (.cons (.tup (.cons (.var 3) .nil)) .nil))))))) .nil))
def f_repel : Fn := runFn [f_part_with, f_whole] 4 5 bf_repel
/-! expected_size(matroid, weights, lot): names 0=matroid 1=weights 2=lot 3=total 4=x; calls part_with fraction whole -/
def Nf_expected_size : List Str := ["matroid", "weights", "lot", "total", "x"]
def bf_expected_size : S :=
  (.seq (.asg (.n 3) (.bfn .sum (.cons (.lc (.call 0 (.cons (.var 0) (.cons (.var 1) (.cons (.tup (.cons (.var 4) .nil)) .nil)))) (.n 4) (.var 2) .no) .nil))) (.seq (.ret (.call 1 (.cons (.var 3) (.cons (.call 2 (.cons (.var 0) (.cons (.var 1) .nil))) .nil)))) .nil))
def f_expected_size : Fn := runFn [f_part_with, f_fraction, f_whole] 3 5 bf_expected_size
/-! sum_for(rows, lot): names 0=rows 1=lot 2=inner 3=size 4=places 5=short 6=found 7=k 8=x 9=minor 10=row 11=number; calls of_size determinant -/
def Nf_sum_for : List Str := ["rows", "lot", "inner", "size", "places", "short", "found", "k", "x", "minor", "row", "number"]
def bf_sum_for : S :=
  (.seq (.asg (.n 2) (.lc (.idx (.var 0) (.var 8)) (.n 8) (.var 1) .no)) (.seq (.asg (.n 3) (.bin .Sub (.bfn .len (.cons (.var 1) .nil)) (.int 1))) (.seq (.for_ (.n 4) (.call 0 (.cons (.bfr true (.rng .no (.bfn .len (.cons (.idx (.var 0) (.int 0)) .nil)))) (.cons (.var 3) .nil))) (.seq (.asg (.n 5) (.lc (.lc (.idx (.var 10) (.var 7)) (.n 7) (.var 4) .no) (.n 10) (.var 2) .no)) (.seq (.own 6 (.lst .nil)) (.seq (.for_ (.n 7) (.rng .no (.bfn .len (.cons (.var 1) .nil))) (.seq (.asg (.n 9) (.call 1 (.cons (.bin .Add (.slc (.var 5) .no (.var 7)) (.slc (.var 5) (.bin .Add (.var 7) (.int 1)) .no)) .nil))) (.seq (.app 6 (.ife (.cmp .Eq (.bin .Mod (.var 7) (.int 2)) (.int 0)) (.var 9) (.neg (.var 9)))) .nil))) (.seq (.iff (.bfn .any (.cons (.lc (.cmp .NotEq (.var 11) (.int 0)) (.n 11) (.var 6) .no) .nil)) (.seq (.ret (.var 6)) .nil) .nil) .nil))))) (.seq (.ret (.bin .Mult (.lst (.cons (.int 1) .nil)) (.bfn .len (.cons (.var 1) .nil)))) .nil))))
def f_sum_for : Fn := runFn [f_of_size, f_determinant 12] 2 12 bf_sum_for
/-! fits_circuit(signs, colours): names 0=signs 1=colours 2=k; calls  -/
def Nf_fits_circuit : List Str := ["signs", "colours", "k"]
def bf_fits_circuit : S :=
  (.seq (.for_ (.n 2) (.rng .no (.bfn .len (.cons (.var 0) .nil))) (.seq (.iff (.or (.and (.cmp .Eq (.idx (.var 1) (.var 2)) (.str "white")) (.cmp .Lt (.idx (.var 0) (.var 2)) (.int 0))) (.and (.cmp .Eq (.idx (.var 1) (.var 2)) (.str "black")) (.cmp .NotEq (.idx (.var 0) (.var 2)) (.int 0)))) (.seq (.ret (.bool false)) .nil) .nil) .nil)) (.seq (.ret (.bool true)) .nil))
def f_fits_circuit : Fn := runFn [] 2 3 bf_fits_circuit
/-! fits_cut(signs, colours): names 0=signs 1=colours 2=k; calls  -/
def Nf_fits_cut : List Str := ["signs", "colours", "k"]
def bf_fits_cut : S :=
  (.seq (.for_ (.n 2) (.rng .no (.bfn .len (.cons (.var 0) .nil))) (.seq (.iff (.or (.and (.cmp .Eq (.idx (.var 1) (.var 2)) (.str "white")) (.cmp .Lt (.idx (.var 0) (.var 2)) (.int 0))) (.and (.cmp .Eq (.idx (.var 1) (.var 2)) (.str "red")) (.cmp .NotEq (.idx (.var 0) (.var 2)) (.int 0)))) (.seq (.ret (.bool false)) .nil) .nil) .nil)) (.seq (.ret (.bool true)) .nil))
def f_fits_cut : Fn := runFn [] 2 3 bf_fits_cut
/-! lines_of(matroid, weights, slopes): names 0=matroid 1=weights 2=slopes 3=found 4=base 5=key; calls worth -/
def Nf_lines_of : List Str := ["matroid", "weights", "slopes", "found", "base", "key"]
def bf_lines_of : S :=
  (.seq (.ownD 3 true) (.seq (.for_ (.n 4) (.idx (.var 0) (.int 1)) (.seq (.asg (.n 5) (.tup (.cons (.call 0 (.cons (.var 2) (.cons (.var 4) .nil))) (.cons (.call 0 (.cons (.var 1) (.cons (.var 4) .nil))) .nil)))) (.seq (.iff (.cmp .NotIn (.var 5) (.var 3)) (.seq (.put 3 (.var 5) (.var 4)) .nil) .nil) .nil))) (.seq (.frz 3) (.seq (.ret (.lc (.tup (.cons (.idx (.var 5) (.int 0)) (.cons (.idx (.var 5) (.int 1)) (.cons (.idx (.var 3) (.var 5)) .nil)))) (.n 5) (.bfn .sorted (.cons (.var 3) .nil)) .no)) .nil))))
def f_lines_of : Fn := runFn [f_worth] 3 6 bf_lines_of
/-! is_sooner(one, two): names 0=one 1=two; calls  -/
def Nf_is_sooner : List Str := ["one", "two"]
def bf_is_sooner : S :=
  (.seq (.ret (.cmp .Lt (.bin .Mult (.idx (.var 0) (.int 0)) (.idx (.var 1) (.int 1))) (.bin .Mult (.idx (.var 1) (.int 0)) (.idx (.var 0) (.int 1))))) .nil)
def f_is_sooner : Fn := runFn [] 2 2 bf_is_sooner
/-! next_line(lines, here): names 0=lines 1=here 2=line 3=best 4=found 5=time; calls fraction is_sooner -/
def Nf_next_line : List Str := ["lines", "here", "line", "best", "found", "time"]
def bf_next_line : S :=
  (.seq (.par 3 4 .non .non) (.seq (.for_ (.n 2) (.var 0) (.seq (.iff (.cmp .Gt (.idx (.var 2) (.int 0)) (.idx (.var 1) (.int 0))) (.seq (.asg (.n 5) (.call 0 (.cons (.bin .Sub (.idx (.var 1) (.int 1)) (.idx (.var 2) (.int 1))) (.cons (.bin .Sub (.idx (.var 2) (.int 0)) (.idx (.var 1) (.int 0))) .nil)))) (.seq (.iff (.or (.isN false (.var 3)) (.or (.call 1 (.cons (.var 5) (.cons (.var 3) .nil))) (.and (.cmp .Eq (.var 5) (.var 3)) (.cmp .Gt (.idx (.var 2) (.int 0)) (.idx (.var 4) (.int 0)))))) (.seq (.par 3 4 (.var 5) (.var 2)) .nil) .nil) .nil)) .nil) .nil)) (.seq (.ret (.ife (.isN false (.var 4)) .non (.tup (.cons (.var 3) (.cons (.var 4) .nil))))) .nil)))
def f_next_line : Fn := runFn [f_fraction, f_is_sooner] 2 6 bf_next_line
/-! piece_at(found, p, q): names 0=found 1=p 2=q 3=base 4=time 5=other; calls is_sooner -/
def Nf_piece_at : List Str := ["found", "p", "q", "base", "time", "other"]
def bf_piece_at : S :=
  (.seq (.asg (.n 3) (.idx (.idx (.var 0) (.int 0)) (.int 1))) (.seq (.for_ (.cons (.n 4) (.cons (.n 5) .nil)) (.slc (.var 0) (.int 1) .no) (.seq (.iff (.not (.call 0 (.cons (.tup (.cons (.var 1) (.cons (.var 2) .nil))) (.cons (.var 4) .nil)))) (.seq (.asg (.n 3) (.var 5)) .nil) .nil) .nil)) (.seq (.ret (.var 3)) .nil)))
def f_piece_at : Fn := runFn [f_is_sooner] 3 6 bf_piece_at
/-! worth_at(weights, slopes, points, p, q): names 0=weights 1=slopes 2=points 3=p 4=q; calls fraction worth -/
def Nf_worth_at : List Str := ["weights", "slopes", "points", "p", "q"]
def bf_worth_at : S :=
  (.seq (.ret (.call 0 (.cons (.bin .Add (.bin .Mult (.call 1 (.cons (.var 0) (.cons (.var 2) .nil))) (.var 4)) (.bin .Mult (.call 1 (.cons (.var 1) (.cons (.var 2) .nil))) (.var 3))) (.cons (.var 4) .nil)))) .nil)
def f_worth_at : Fn := runFn [f_fraction, f_worth] 5 5 bf_worth_at
/-! is_best_at(matroid, weights, slopes, base, time): names 0=matroid 1=weights 2=slopes 3=base 4=time 5=rows 6=p 7=q 8=other; calls worth -/
def Nf_is_best_at : List Str := ["matroid", "weights", "slopes", "base", "time", "rows", "p", "q", "other"]
def bf_is_best_at : S :=
  (.seq (.asg (.cons (.n 6) (.cons (.n 7) .nil)) (.var 4)) (.seq (.asg (.n 5) (.lc (.bin .Add (.bin .Mult (.call 0 (.cons (.var 1) (.cons (.var 8) .nil))) (.var 7)) (.bin .Mult (.call 0 (.cons (.var 2) (.cons (.var 8) .nil))) (.var 6))) (.n 8) (.idx (.var 0) (.int 1)) .no)) (.seq (.ret (.cmp .Eq (.bin .Add (.bin .Mult (.call 0 (.cons (.var 1) (.cons (.var 3) .nil))) (.var 7)) (.bin .Mult (.call 0 (.cons (.var 2) (.cons (.var 3) .nil))) (.var 6))) (.bfn .max (.cons (.var 5) .nil)))) .nil)))
def f_is_best_at : Fn := runFn [f_worth] 5 9 bf_is_best_at
/-! _law_numbers_in(value, amount): names 0=value 1=amount 2=item; calls _law_is_int -/
def Nf_law_numbers_in : List Str := ["value", "amount", "item"]
def bf_law_numbers_in : S :=
  (.seq (.iff (.or (.not (.isi .tuple (.var 0))) (.cmp .NotEq (.bfn .len (.cons (.var 0) .nil)) (.var 1))) (.seq (.ret (.bool false)) .nil) .nil) (.seq (.ret (.cmp .Eq (.bfn .len (.cons (.lc (.var 2) (.n 2) (.var 0) (.not (.call 0 (.cons (.var 2) .nil)))) .nil)) (.int 0))) .nil))
def f_law_numbers_in : Fn := runFn [f_law_is_int] 2 3 bf_law_numbers_in
/-! _law_worth(weights, lot): names 0=weights 1=lot 2=x; calls  -/
def Nf_law_worth : List Str := ["weights", "lot", "x"]
def bf_law_worth : S :=
  (.seq (.ret (.bfn .sum (.cons (.lc (.idx (.var 0) (.var 2)) (.n 2) (.var 1) .no) .nil))) .nil)
def f_law_worth : Fn := runFn [] 2 3 bf_law_worth
/-! _law_at(weights, slopes, lot, p, q): names 0=weights 1=slopes 2=lot 3=p 4=q; calls _law_worth -/
def Nf_law_at : List Str := ["weights", "slopes", "lot", "p", "q"]
def bf_law_at : S :=
  (.seq (.ret (.bin .Add (.bin .Mult (.call 0 (.cons (.var 0) (.cons (.var 2) .nil))) (.var 4)) (.bin .Mult (.call 0 (.cons (.var 1) (.cons (.var 2) .nil))) (.var 3)))) .nil)
def f_law_at : Fn := runFn [f_law_worth] 5 5 bf_law_at
/-! _law_firm(m, weights, slopes, base): names 0=m 1=weights 2=slopes 3=base 4=rows 5=other; calls _law_worth -/
def Nf_law_firm : List Str := ["m", "weights", "slopes", "base", "rows", "other"]
def bf_law_firm : S :=
  (.seq (.asg (.n 4) (.lc (.var 5) (.n 5) (.idx (.var 0) (.int 1)) (.and (.cmp .Eq (.call 0 (.cons (.var 1) (.cons (.var 5) .nil))) (.call 0 (.cons (.var 1) (.cons (.var 3) .nil)))) (.cmp .Eq (.call 0 (.cons (.var 2) (.cons (.var 5) .nil))) (.call 0 (.cons (.var 2) (.cons (.var 3) .nil))))))) (.seq (.ret (.cmp .Eq (.var 3) (.idx (.var 4) (.int 0)))) .nil))
def f_law_firm : Fn := runFn [f_law_worth] 4 6 bf_law_firm
/-! meets_all(family, lot): names 0=family 1=lot 2=other; calls common -/
def Nf_meets_all : List Str := ["family", "lot", "other"]
def bf_meets_all : S :=
  (.seq (.ret (.bfn .all (.cons (.lc (.cmp .Gt (.bfn .len (.cons (.call 0 (.cons (.var 1) (.cons (.var 2) .nil))) .nil)) (.int 0)) (.n 2) (.var 0) .no) .nil))) .nil)
def f_meets_all : Fn := runFn [f_common] 2 3 bf_meets_all
/-! all_rows(width, p): names 0=width 1=p 2=found 3=_ 4=row 5=a; calls  -/
def Nf_all_rows : List Str := ["width", "p", "found", "_", "row", "a"]
def bf_all_rows : S :=
  (.seq (.asg (.n 2) (.lst (.cons (.tup .nil) .nil))) (.seq (.for_ (.n 3) (.rng .no (.var 0)) (.seq (.asg (.n 2) (.lc2 (.bin .Add (.var 4) (.tup (.cons (.var 5) .nil))) (.n 4) (.var 2) .no (.n 5) (.rng .no (.var 1)) .no)) .nil)) (.seq (.ret (.var 2)) .nil)))
def f_all_rows : Fn := runFn [] 2 6 bf_all_rows
/-! product(row, vector, p): names 0=row 1=vector 2=p 3=k; calls  -/
def Nf_product : List Str := ["row", "vector", "p", "k"]
def bf_product : S :=
  (.seq (.ret (.bin .Mod (.bfn .sum (.cons (.lc (.bin .Mult (.idx (.var 0) (.var 3)) (.idx (.var 1) (.var 3))) (.n 3) (.rng .no (.bfn .len (.cons (.var 1) .nil))) .no) .nil)) (.var 2))) .nil)
def f_product : Fn := runFn [] 3 4 bf_product
/-! dealt(vectors, p, seed): names 0=vectors 1=p 2=seed 3=vector; calls product -/
def Nf_dealt : List Str := ["vectors", "p", "seed", "vector"]
def bf_dealt : S :=
  (.seq (.ret (.bfn .tuple (.cons (.lc (.call 0 (.cons (.var 2) (.cons (.var 3) (.cons (.var 1) .nil)))) (.n 3) (.var 0) .no) .nil))) .nil)
def f_dealt : Fn := runFn [f_product] 3 4 bf_dealt
/-! mixed(vectors, p, points, factors): names 0=vectors 1=p 2=points 3=factors 4=width 5=rows 6=j 7=k 8=row; calls  -/
def Nf_mixed : List Str := ["vectors", "p", "points", "factors", "width", "rows", "j", "k", "row"]
def bf_mixed : S :=
  (.seq (.asg (.n 4) (.bfn .len (.cons (.idx (.var 0) (.int 0)) .nil))) (.seq (.asg (.n 5) (.lc (.lc (.bin .Mult (.idx (.var 3) (.var 6)) (.idx (.idx (.var 0) (.idx (.var 2) (.var 6))) (.var 7))) (.n 7) (.rng .no (.var 4)) .no) (.n 6) (.rng .no (.bfn .len (.cons (.var 2) .nil))) .no)) (.seq (.ret (.bfn .tuple (.cons (.lc (.bin .Mod (.bfn .sum (.cons (.lc (.idx (.var 8) (.var 7)) (.n 8) (.var 5) .no) .nil)) (.var 1)) (.n 7) (.rng .no (.var 4)) .no) .nil))) .nil)))
def f_mixed : Fn := runFn [] 4 9 bf_mixed
/-! factors_for(vectors, p, e, points): names 0=vectors 1=p 2=e 3=points 4=factors; calls all_rows mixed -/
def Nf_factors_for : List Str := ["vectors", "p", "e", "points", "factors"]
def bf_factors_for : S :=
  (.seq (.for_ (.n 4) (.call 0 (.cons (.bfn .len (.cons (.var 3) .nil)) (.cons (.var 1) .nil))) (.seq (.iff (.cmp .Eq (.call 1 (.cons (.var 0) (.cons (.var 1) (.cons (.var 3) (.cons (.var 4) .nil))))) (.bfn .tuple (.cons (.idx (.var 0) (.var 2)) .nil))) (.seq (.ret (.var 4)) .nil) .nil) .nil)) (.seq (.ret .non) .nil))
def f_factors_for : Fn := runFn [f_all_rows, f_mixed] 4 5 bf_factors_for
/-! blinding(vectors, p, e, points): names 0=vectors 1=p 2=e 3=points 4=seed 5=x; calls all_rows product -/
def Nf_blinding : List Str := ["vectors", "p", "e", "points", "seed", "x"]
def bf_blinding : S :=
  (.seq (.for_ (.n 4) (.call 0 (.cons (.bfn .len (.cons (.idx (.var 0) (.int 0)) .nil)) (.cons (.var 1) .nil))) (.seq (.iff (.and (.cmp .Eq (.call 1 (.cons (.var 4) (.cons (.idx (.var 0) (.var 2)) (.cons (.var 1) .nil)))) (.int 1)) (.bfn .all (.cons (.lc (.cmp .Eq (.call 1 (.cons (.var 4) (.cons (.idx (.var 0) (.var 5)) (.cons (.var 1) .nil)))) (.int 0)) (.n 5) (.var 3) .no) .nil))) (.seq (.ret (.var 4)) .nil) .nil) .nil)) (.seq (.ret .non) .nil))
def f_blinding : Fn := runFn [f_all_rows, f_product] 4 6 bf_blinding
/-! open_paper(vectors, p, e, points): names 0=vectors 1=p 2=e 3=points 4=factors; calls factors_for blinding -/
def Nf_open_paper : List Str := ["vectors", "p", "e", "points", "factors"]
def bf_open_paper : S :=
  (.seq (.asg (.n 4) (.call 0 (.cons (.var 0) (.cons (.var 1) (.cons (.var 2) (.cons (.var 3) .nil)))))) (.seq (.iff (.isN true (.var 4)) (.seq (.ret (.tup (.cons (.str "factors") (.cons (.var 4) .nil)))) .nil) .nil) (.seq (.ret (.tup (.cons (.str "seed") (.cons (.call 1 (.cons (.var 0) (.cons (.var 1) (.cons (.var 2) (.cons (.var 3) .nil))))) .nil)))) .nil)))
def f_open_paper : Fn := runFn [f_factors_for, f_blinding] 4 5 bf_open_paper
/-! is_row(value, width, p): names 0=value 1=width 2=p 3=a; calls is_numbers -/
def Nf_is_row : List Str := ["value", "width", "p", "a"]
def bf_is_row : S :=
  (.seq (.ret (.and (.call 0 (.cons (.var 0) .nil)) (.and (.cmp .Eq (.bfn .len (.cons (.var 0) .nil)) (.var 1)) (.bfn .all (.cons (.lc (.chn .LtE .Lt (.int 0) (.var 3) (.var 2)) (.n 3) (.var 0) .no) .nil))))) .nil)
def f_is_row : Fn := runFn [f_is_numbers] 3 4 bf_is_row
/-! check_open(vectors, p, e, points, value): names 0=vectors 1=p 2=e 3=points 4=value 5=x; calls is_named is_row mixed product -/
def Nf_check_open : List Str := ["vectors", "p", "e", "points", "value", "x"]
def bf_check_open : S :=
  (.seq (.iff (.call 0 (.cons (.var 4) (.cons (.str "factors") (.cons (.int 2) .nil)))) (.seq (.ret (.and (.call 1 (.cons (.idx (.var 4) (.int 1)) (.cons (.bfn .len (.cons (.var 3) .nil)) (.cons (.var 1) .nil)))) (.cmp .Eq (.call 2 (.cons (.var 0) (.cons (.var 1) (.cons (.var 3) (.cons (.idx (.var 4) (.int 1)) .nil))))) (.bfn .tuple (.cons (.idx (.var 0) (.var 2)) .nil))))) .nil) .nil) (.seq (.iff (.or (.not (.call 0 (.cons (.var 4) (.cons (.str "seed") (.cons (.int 2) .nil))))) (.not (.call 1 (.cons (.idx (.var 4) (.int 1)) (.cons (.bfn .len (.cons (.idx (.var 0) (.int 0)) .nil)) (.cons (.var 1) .nil)))))) (.seq (.ret (.bool false)) .nil) .nil) (.seq (.ret (.and (.cmp .Eq (.call 3 (.cons (.idx (.var 4) (.int 1)) (.cons (.idx (.var 0) (.var 2)) (.cons (.var 1) .nil)))) (.int 1)) (.bfn .all (.cons (.lc (.cmp .Eq (.call 3 (.cons (.idx (.var 4) (.int 1)) (.cons (.idx (.var 0) (.var 5)) (.cons (.var 1) .nil)))) (.int 0)) (.n 5) (.var 3) .no) .nil)))) .nil)))
def f_check_open : Fn := runFn [f_is_named, f_is_row, f_mixed, f_product] 5 6 bf_check_open
/-! opened(p, factors, points, shares): names 0=p 1=factors 2=points 3=shares 4=j; calls  -/
def Nf_opened : List Str := ["p", "factors", "points", "shares", "j"]
def bf_opened : S :=
  (.seq (.ret (.bin .Mod (.bfn .sum (.cons (.lc (.bin .Mult (.idx (.var 1) (.var 4)) (.idx (.var 3) (.idx (.var 2) (.var 4)))) (.n 4) (.rng .no (.bfn .len (.cons (.var 2) .nil))) .no) .nil)) (.var 0))) .nil)
def f_opened : Fn := runFn [] 4 5 bf_opened
/-! _law_named(value, word, amount): names 0=value 1=word 2=amount; calls  -/
def Nf_law_named : List Str := ["value", "word", "amount"]
def bf_law_named : S :=
  (.seq (.ret (.and (.isi .tuple (.var 0)) (.and (.cmp .Eq (.bfn .len (.cons (.var 0) .nil)) (.var 2)) (.and (.isi .str (.idx (.var 0) (.int 0))) (.cmp .Eq (.idx (.var 0) (.int 0)) (.var 1)))))) .nil)
def f_law_named : Fn := runFn [] 3 3 bf_law_named
/-! _law_sum(row, vector, p): names 0=row 1=vector 2=p 3=k; calls  -/
def Nf_law_sum : List Str := ["row", "vector", "p", "k"]
def bf_law_sum : S :=
  (.seq (.ret (.bin .Mod (.bfn .sum (.cons (.lc (.bin .Mult (.idx (.var 0) (.var 3)) (.idx (.var 1) (.var 3))) (.n 3) (.rng .no (.bfn .len (.cons (.var 1) .nil))) .no) .nil)) (.var 2))) .nil)
def f_law_sum : Fn := runFn [] 3 4 bf_law_sum
/-! _law_right(vectors, p, e, points, value): names 0=vectors 1=p 2=e 3=points 4=value 5=width 6=k 7=a 8=x 9=j; calls _law_named _law_numbers_in _law_sum -/
def Nf_law_right : List Str := ["vectors", "p", "e", "points", "value", "width", "k", "a", "x", "j"]
def bf_law_right : S :=
  (.seq (.asg (.n 5) (.bfn .len (.cons (.idx (.var 0) (.int 0)) .nil))) (.seq (.iff (.call 0 (.cons (.var 4) (.cons (.str "factors") (.cons (.int 2) .nil)))) (.seq (.iff (.or (.not (.call 1 (.cons (.idx (.var 4) (.int 1)) (.cons (.bfn .len (.cons (.var 3) .nil)) .nil)))) (.cmp .Gt (.bfn .len (.cons (.lc (.var 7) (.n 7) (.idx (.var 4) (.int 1)) (.not (.chn .LtE .Lt (.int 0) (.var 7) (.var 1)))) .nil)) (.int 0))) (.seq (.ret (.bool false)) .nil) .nil) (.seq (.ret (.cmp .Eq (.bfn .tuple (.cons (.lc (.bin .Mod (.bfn .sum (.cons (.lc (.bin .Mult (.idx (.idx (.var 4) (.int 1)) (.var 9)) (.idx (.idx (.var 0) (.idx (.var 3) (.var 9))) (.var 6))) (.n 9) (.rng .no (.bfn .len (.cons (.var 3) .nil))) .no) .nil)) (.var 1)) (.n 6) (.rng .no (.var 5)) .no) .nil)) (.idx (.var 0) (.var 2)))) .nil)) .nil) (.seq (.iff (.or (.not (.call 0 (.cons (.var 4) (.cons (.str "seed") (.cons (.int 2) .nil))))) (.or (.not (.call 1 (.cons (.idx (.var 4) (.int 1)) (.cons (.var 5) .nil)))) (.cmp .Gt (.bfn .len (.cons (.lc (.var 7) (.n 7) (.idx (.var 4) (.int 1)) (.not (.chn .LtE .Lt (.int 0) (.var 7) (.var 1)))) .nil)) (.int 0)))) (.seq (.ret (.bool false)) .nil) .nil) (.seq (.ret (.and (.cmp .Eq (.call 2 (.cons (.idx (.var 4) (.int 1)) (.cons (.idx (.var 0) (.var 2)) (.cons (.var 1) .nil)))) (.int 1)) (.cmp .Eq (.bfn .len (.cons (.lc (.var 8) (.n 8) (.var 3) (.cmp .NotEq (.call 2 (.cons (.idx (.var 4) (.int 1)) (.cons (.idx (.var 0) (.var 8)) (.cons (.var 1) .nil)))) (.int 0))) .nil)) (.int 0)))) .nil))))
def f_law_right : Fn := runFn [f_law_named, f_law_numbers_in, f_law_sum] 5 10 bf_law_right
/-! check_meet(one, two, value): names 0=one 1=two 2=value 3=points 4=cover 5=lot; calls is_points is_free rank without points_of -/
def Nf_check_meet : List Str := ["one", "two", "value", "points", "cover", "lot"]
def bf_check_meet : S :=
  (.seq (.iff (.or (.not (.isi .tuple (.var 2))) (.or (.cmp .NotEq (.bfn .len (.cons (.var 2) .nil)) (.int 2)) (.not (.bfn .all (.cons (.lc (.call 0 (.cons (.var 5) (.cons (.idx (.var 0) (.int 0)) .nil))) (.n 5) (.var 2) .no) .nil))))) (.seq (.ret (.bool false)) .nil) .nil) (.seq (.asg (.cons (.n 3) (.cons (.n 4) .nil)) (.var 2)) (.seq (.iff (.or (.not (.call 1 (.cons (.var 0) (.cons (.var 3) .nil)))) (.not (.call 1 (.cons (.var 1) (.cons (.var 3) .nil))))) (.seq (.ret (.bool false)) .nil) .nil) (.seq (.ret (.cmp .Eq (.bfn .len (.cons (.var 3) .nil)) (.bin .Add (.call 2 (.cons (.var 0) (.cons (.var 4) .nil))) (.call 2 (.cons (.var 1) (.cons (.call 3 (.cons (.call 4 (.cons (.var 0) .nil)) (.cons (.var 4) .nil))) .nil)))))) .nil))))
def f_check_meet : Fn := runFn [f_is_points, f_is_free, f_rank, f_without, f_points_of] 3 6 bf_check_meet
/-! of_lots(lots, limits): names 0=lots 1=limits 2=n 3=good 4=points 5=k 6=x; calls subsets greatest -/
def Nf_of_lots : List Str := ["lots", "limits", "n", "good", "points", "k", "x"]
def bf_of_lots : S :=
  (.seq (.asg (.n 2) (.bfn .len (.cons (.var 0) .nil))) (.seq (.own 3 (.lst .nil)) (.seq (.for_ (.n 4) (.call 0 (.cons (.bfr true (.rng .no (.var 2))) .nil)) (.seq (.iff (.bfn .all (.cons (.lc (.cmp .LtE (.bfn .len (.cons (.lc (.var 6) (.n 6) (.var 4) (.cmp .Eq (.idx (.var 0) (.var 6)) (.var 5))) .nil)) (.idx (.var 1) (.var 5))) (.n 5) (.rng .no (.bfn .len (.cons (.var 1) .nil))) .no) .nil)) (.seq (.app 3 (.var 4)) .nil) .nil) .nil)) (.seq (.ret (.tup (.cons (.var 2) (.cons (.call 1 (.cons (.bfn .tuple (.cons (.var 3) .nil)) .nil)) .nil)))) .nil))))
def f_of_lots : Fn := runFn [f_subsets, f_greatest] 2 7 bf_of_lots
/-! check_cover(matroid, k, value): names 0=matroid 1=k 2=value 3=n 4=lot 5=x; calls is_named is_points rank is_free -/
def Nf_check_cover : List Str := ["matroid", "k", "value", "n", "lot", "x"]
def bf_check_cover : S :=
  (.seq (.asg (.n 3) (.idx (.var 0) (.int 0))) (.seq (.iff (.call 0 (.cons (.var 2) (.cons (.str "dense") (.cons (.int 2) .nil)))) (.seq (.ret (.and (.call 1 (.cons (.idx (.var 2) (.int 1)) (.cons (.var 3) .nil))) (.cmp .Gt (.bfn .len (.cons (.idx (.var 2) (.int 1)) .nil)) (.bin .Mult (.var 1) (.call 2 (.cons (.var 0) (.cons (.idx (.var 2) (.int 1)) .nil))))))) .nil) .nil) (.seq (.iff (.or (.not (.call 0 (.cons (.var 2) (.cons (.str "sets") (.cons (.int 2) .nil))))) (.or (.not (.isi .tuple (.idx (.var 2) (.int 1)))) (.cmp .NotEq (.bfn .len (.cons (.idx (.var 2) (.int 1)) .nil)) (.var 1)))) (.seq (.ret (.bool false)) .nil) .nil) (.seq (.iff (.not (.bfn .all (.cons (.lc (.and (.call 1 (.cons (.var 4) (.cons (.var 3) .nil))) (.call 3 (.cons (.var 0) (.cons (.var 4) .nil)))) (.n 4) (.idx (.var 2) (.int 1)) .no) .nil))) (.seq (.ret (.bool false)) .nil) .nil) (.seq (.ret (.cmp .Eq (.bfn .sorted (.cons (.lc2 (.var 5) (.n 4) (.idx (.var 2) (.int 1)) .no (.n 5) (.var 4) .no) .nil)) (.bfr false (.rng .no (.var 3))))) .nil)))))
def f_check_cover : Fn := runFn [f_is_named, f_is_points, f_rank, f_is_free] 3 6 bf_check_cover
/-! shortest(weights, family): names 0=weights 1=family 2=lot 3=x; calls  -/
def Nf_shortest : List Str := ["weights", "family", "lot", "x"]
def bf_shortest : S :=
  (.seq (.ret (.bfn .min (.cons (.lc (.bfn .sum (.cons (.lc (.idx (.var 0) (.var 3)) (.n 3) (.var 2) .no) .nil)) (.n 2) (.var 1) .no) .nil))) .nil)
def f_shortest : Fn := runFn [] 2 4 bf_shortest
/-! widest(weights, family): names 0=weights 1=family 2=lot 3=x; calls  -/
def Nf_widest : List Str := ["weights", "family", "lot", "x"]
def bf_widest : S :=
  (.seq (.ret (.bfn .max (.cons (.lc (.bfn .min (.cons (.lc (.idx (.var 0) (.var 3)) (.n 3) (.var 2) .no) .nil)) (.n 2) (.var 1) .no) .nil))) .nil)
def f_widest : Fn := runFn [] 2 4 bf_widest
/-! narrowest(weights, family): names 0=weights 1=family 2=lot 3=x; calls  -/
def Nf_narrowest : List Str := ["weights", "family", "lot", "x"]
def bf_narrowest : S :=
  (.seq (.ret (.bfn .min (.cons (.lc (.bfn .max (.cons (.lc (.idx (.var 0) (.var 3)) (.n 3) (.var 2) .no) .nil)) (.n 2) (.var 1) .no) .nil))) .nil)
def f_narrowest : Fn := runFn [] 2 4 bf_narrowest
/-! is_nest(lots): names 0=lots 1=a 2=b; calls common is_inside -/
def Nf_is_nest : List Str := ["lots", "a", "b"]
def bf_is_nest : S :=
  (.seq (.ret (.bfn .all (.cons (.lc2 (.or (.cmp .Eq (.bfn .len (.cons (.call 0 (.cons (.var 1) (.cons (.var 2) .nil))) .nil)) (.int 0)) (.or (.call 1 (.cons (.var 1) (.cons (.var 2) .nil))) (.call 1 (.cons (.var 2) (.cons (.var 1) .nil))))) (.n 1) (.var 0) .no (.n 2) (.var 0) .no) .nil))) .nil)
def f_is_nest : Fn := runFn [f_common, f_is_inside] 1 3 bf_is_nest
/-! of_nest(n, lots, limits): names 0=n 1=lots 2=limits 3=good 4=points 5=k; calls is_nest subsets common greatest -/
def Nf_of_nest : List Str := ["n", "lots", "limits", "good", "points", "k"]
def bf_of_nest : S :=
  (.seq (.iff (.not (.call 0 (.cons (.var 1) .nil))) (.seq .stuck .nil) .nil) (.seq (.own 3 (.lst .nil)) (.seq (.for_ (.n 4) (.call 1 (.cons (.bfr true (.rng .no (.var 0))) .nil)) (.seq (.iff (.bfn .all (.cons (.lc (.cmp .LtE (.bfn .len (.cons (.call 2 (.cons (.var 4) (.cons (.idx (.var 1) (.var 5)) .nil))) .nil)) (.idx (.var 2) (.var 5))) (.n 5) (.rng .no (.bfn .len (.cons (.var 1) .nil))) .no) .nil)) (.seq (.app 3 (.var 4)) .nil) .nil) .nil)) (.seq (.ret (.tup (.cons (.var 0) (.cons (.call 3 (.cons (.bfn .tuple (.cons (.var 3) .nil)) .nil)) .nil)))) .nil))))
def f_of_nest : Fn := runFn [f_is_nest, f_subsets, f_common, f_greatest] 3 6 bf_of_nest
/-! of_limits(n, order, high): names 0=n 1=order 2=high 3=place 4=limits 5=found 6=lot 7=places 8=k 9=x; calls of_size -/
def Nf_of_limits : List Str := ["n", "order", "high", "place", "limits", "found", "lot", "places", "k", "x"]
def bf_of_limits : S :=
  (.seq (.asg (.n 3) (.dcp (.idx (.var 1) (.var 8)) (.var 8) (.n 8) (.rng .no (.var 0)) .no)) (.seq (.asg (.n 4) (.bfn .sorted (.cons (.lc (.idx (.var 3) (.var 9)) (.n 9) (.var 2) .no) .nil))) (.seq (.own 5 (.lst .nil)) (.seq (.for_ (.n 6) (.call 0 (.cons (.bfr true (.rng .no (.var 0))) (.cons (.bfn .len (.cons (.var 2) .nil)) .nil))) (.seq (.asg (.n 7) (.bfn .sorted (.cons (.lc (.idx (.var 3) (.var 9)) (.n 9) (.var 6) .no) .nil))) (.seq (.iff (.bfn .all (.cons (.lc (.cmp .LtE (.idx (.var 7) (.var 8)) (.idx (.var 4) (.var 8))) (.n 8) (.rng .no (.bfn .len (.cons (.var 4) .nil))) .no) .nil)) (.seq (.app 5 (.var 6)) .nil) .nil) .nil))) (.seq (.ret (.tup (.cons (.var 0) (.cons (.bfn .tuple (.cons (.var 5) .nil)) .nil)))) .nil)))))
def f_of_limits : Fn := runFn [f_of_size] 3 10 bf_of_limits
end Dv
end
section
set_option maxRecDepth 100000
set_option autoImplicit false
set_option linter.all false
namespace Dv.K91
open PySem PySem.Spec PyProof.Rows L2 Dv
def prog := PySem.Challenge.pw_baseworker_k91_whole_jobs_and_nests
def top (i : Nat) : Stmt := prog.main.body.getD i (.Pass ⟨0, 0, 0, 0⟩)
theorem sf_subsets : scopeB Nf_subsets ["items"] (defScope (top 4)) = true := by decide +kernel
theorem cf_subsets : chkB ⟨Nf_subsets, defScope (top 4), none, []⟩ bf_subsets (defBody (top 4)) = true := by decide +kernel
theorem sf_of_size : scopeB Nf_of_size ["items", "size"] (defScope (top 5)) = true := by decide +kernel
theorem cf_of_size : chkB ⟨Nf_of_size, defScope (top 5), none, ["subsets"]⟩ bf_of_size (defBody (top 5)) = true := by decide +kernel
theorem sf_common : scopeB Nf_common ["items", "others"] (defScope (top 6)) = true := by decide +kernel
theorem cf_common : chkB ⟨Nf_common, defScope (top 6), none, []⟩ bf_common (defBody (top 6)) = true := by decide +kernel
theorem sf_is_inside : scopeB Nf_is_inside ["items", "others"] (defScope (top 7)) = true := by decide +kernel
theorem cf_is_inside : chkB ⟨Nf_is_inside, defScope (top 7), none, []⟩ bf_is_inside (defBody (top 7)) = true := by decide +kernel
theorem sf_greatest : scopeB Nf_greatest ["family"] (defScope (top 9)) = true := by decide +kernel
theorem cf_greatest : chkB ⟨Nf_greatest, defScope (top 9), none, []⟩ bf_greatest (defBody (top 9)) = true := by decide +kernel
theorem sf_is_nest : scopeB Nf_is_nest ["lots"] (defScope (top 11)) = true := by decide +kernel
theorem cf_is_nest : chkB ⟨Nf_is_nest, defScope (top 11), none, ["common", "is_inside"]⟩ bf_is_nest (defBody (top 11)) = true := by decide +kernel
theorem sf_of_nest : scopeB Nf_of_nest ["n", "lots", "limits"] (defScope (top 12)) = true := by decide +kernel
theorem cf_of_nest : chkB ⟨Nf_of_nest, defScope (top 12), none, ["is_nest", "subsets", "common", "greatest"]⟩ bf_of_nest (defBody (top 12)) = true := by decide +kernel
theorem sf_of_lots : scopeB Nf_of_lots ["lots", "limits"] (defScope (top 14)) = true := by decide +kernel
theorem cf_of_lots : chkB ⟨Nf_of_lots, defScope (top 14), none, ["subsets", "greatest"]⟩ bf_of_lots (defBody (top 14)) = true := by decide +kernel
theorem sf_crowded_day : scopeB Nf_crowded_day ["days", "points"] (defScope (top 16)) = true := by decide +kernel
theorem cf_crowded_day : chkB ⟨Nf_crowded_day, defScope (top 16), none, []⟩ bf_crowded_day (defBody (top 16)) = true := by decide +kernel
theorem sf_of_days : scopeB Nf_of_days ["days"] (defScope (top 17)) = true := by decide +kernel
theorem cf_of_days : chkB ⟨Nf_of_days, defScope (top 17), none, ["greatest", "subsets", "crowded_day"]⟩ bf_of_days (defBody (top 17)) = true := by decide +kernel
theorem sf_is_between : scopeB Nf_is_between ["low", "high", "lot"] (defScope (top 19)) = true := by decide +kernel
theorem cf_is_between : chkB ⟨Nf_is_between, defScope (top 19), none, []⟩ bf_is_between (defBody (top 19)) = true := by decide +kernel
theorem sf_of_ladder : scopeB Nf_of_ladder ["n", "low", "high"] (defScope (top 20)) = true := by decide +kernel
theorem cf_of_ladder : chkB ⟨Nf_of_ladder, defScope (top 20), none, ["of_size", "is_between"]⟩ bf_of_ladder (defBody (top 20)) = true := by decide +kernel
theorem sf_of_limits : scopeB Nf_of_limits ["n", "order", "high"] (defScope (top 21)) = true := by decide +kernel
theorem cf_of_limits : chkB ⟨Nf_of_limits, defScope (top 21), none, ["of_size"]⟩ bf_of_limits (defBody (top 21)) = true := by decide +kernel
theorem sf_law_cell : scopeB Nf_law_cell ["script", "k"] (defScope (top 23)) = true := by decide +kernel
theorem cf_law_cell : chkB ⟨Nf_law_cell, defScope (top 23), none, []⟩ bf_law_cell (defBody (top 23)) = true := by decide +kernel
theorem sf_law_draws : scopeB Nf_law_draws ["cell", "amount"] (defScope (top 24)) = true := by decide +kernel
theorem cf_law_draws : chkB ⟨Nf_law_draws, defScope (top 24), none, []⟩ bf_law_draws (defBody (top 24)) = true := by decide +kernel
theorem sf_law_kind : scopeB Nf_law_kind ["x"] (defScope (top 25)) = true := by decide +kernel
theorem cf_law_kind : chkB ⟨Nf_law_kind, defScope (top 25), none, []⟩ bf_law_kind (defBody (top 25)) = true := by decide +kernel
theorem sf_law_equal : scopeB Nf_law_equal ["x", "due"] (defScope (top 26)) = true := by decide +kernel
theorem cf_law_equal : chkB ⟨Nf_law_equal, defScope (top 26), none, ["_law_kind", "_law_equal"]⟩ bf_law_equal (defBody (top 26)) = true := by decide +kernel
theorem sf_law_pool : scopeB Nf_law_pool ["script"] (defScope (top 27)) = true := by decide +kernel
theorem cf_law_pool : chkB ⟨Nf_law_pool, defScope (top 27), none, ["_law_draws", "_law_cell"]⟩ bf_law_pool (defBody (top 27)) = true := by decide +kernel
theorem sf_law_lots : scopeB Nf_law_lots ["n"] (defScope (top 29)) = true := by decide +kernel
theorem cf_law_lots : chkB ⟨Nf_law_lots, defScope (top 29), none, []⟩ bf_law_lots (defBody (top 29)) = true := by decide +kernel
theorem sf_law_of_size : scopeB Nf_law_of_size ["n", "size"] (defScope (top 30)) = true := by decide +kernel
theorem cf_law_of_size : chkB ⟨Nf_law_of_size, defScope (top 30), none, ["_law_lots"]⟩ bf_law_of_size (defBody (top 30)) = true := by decide +kernel
def Nf_law : List Str := ["script", "pool", "n", "days", "nest", "lots", "limits", "rows", "size", "high", "order", "x", "d", "k"]
def bf_law : S :=
  (.seq (.asg (.n 2) (.bin .Add (.int 1) (.call 1 (.cons (.var 1) (.cons (.int 6) .nil))))) (.seq (.asg (.n 3) (.bfn .tuple (.cons (.lc (.call 1 (.cons (.var 1) (.cons (.int 7) .nil))) (.n 11) (.rng .no (.var 2)) .no) .nil))) (.seq (.asg (.n 4) (.bfn .tuple (.cons (.lc (.bfn .tuple (.cons (.lc (.var 11) (.n 11) (.rng .no (.var 2)) (.cmp .LtE (.idx (.var 3) (.var 11)) (.var 12))) .nil)) (.n 12) (.rng .no (.int 7)) .no) .nil))) (.seq (.iff (.or (.isB true true (.call 2 (.cons (.var 4) .nil))) (.not (.call 3 (.cons (.call 5 (.cons (.var 2) (.cons (.var 4) (.cons (.bfr true (.rng .no (.int 7))) .nil)))) (.cons (.call 4 (.cons (.var 3) .nil)) .nil))))) (.seq (.ret (.bool false)) .nil) .nil) (.seq (.asg (.n 5) (.bfn .tuple (.cons (.lc (.call 1 (.cons (.var 1) (.cons (.int 3) .nil))) (.n 11) (.rng .no (.var 2)) .no) .nil))) (.seq (.asg (.n 6) (.bfn .tuple (.cons (.lc (.call 1 (.cons (.var 1) (.cons (.int 4) .nil))) (.n 13) (.rng .no (.int 3)) .no) .nil))) (.seq (.asg (.n 7) (.bfn .tuple (.cons (.lc (.bfn .tuple (.cons (.lc (.var 11) (.n 11) (.rng .no (.var 2)) (.cmp .Eq (.idx (.var 5) (.var 11)) (.var 13))) .nil)) (.n 13) (.rng .no (.int 3)) .no) .nil))) (.seq (.iff (.not (.call 3 (.cons (.call 5 (.cons (.var 2) (.cons (.var 7) (.cons (.var 6) .nil)))) (.cons (.call 6 (.cons (.var 5) (.cons (.var 6) .nil))) .nil)))) (.seq (.ret (.bool false)) .nil) .nil) (.seq (.asg (.n 8) (.call 1 (.cons (.var 1) (.cons (.bin .Add (.var 2) (.int 1)) .nil)))) (.seq (.asg (.n 9) (.idx (.call 7 (.cons (.var 2) (.cons (.var 8) .nil))) (.call 1 (.cons (.var 1) (.cons (.bfn .len (.cons (.call 7 (.cons (.var 2) (.cons (.var 8) .nil))) .nil)) .nil))))) (.seq (.asg (.n 10) (.bfr true (.rng .no (.var 2)))) (.seq (.ret (.call 3 (.cons (.call 9 (.cons (.var 2) (.cons (.bfr true (.rng .no (.var 8))) (.cons (.var 9) .nil)))) (.cons (.call 8 (.cons (.var 2) (.cons (.var 10) (.cons (.var 9) .nil)))) .nil)))) .nil))))))))))))
theorem sf_law : scopeB Nf_law ["script"] (defScope (top 31)) = true := by decide +kernel
theorem cf_law : chkB ⟨Nf_law, defScope (top 31), none, ["_law_pool", "_law_pick", "is_nest", "_law_equal", "of_days", "of_nest", "of_lots", "_law_of_size", "of_limits", "of_ladder"]⟩ bf_law (defBody (top 31)).tail = true := by decide +kernel
theorem df_law : chkB ⟨Nf_law, defScope (top 31), none, ["_law_pool", "_law_pick", "is_nest", "_law_equal", "of_days", "of_nest", "of_lots", "_law_of_size", "of_limits", "of_ladder"]⟩ (.asg (.n 1) (.call 0 (.cons (.var 0) .nil))) [(defBody (top 31)).headD (.Pass ⟨0, 0, 0, 0⟩)] = true := by decide +kernel
def Φ_law : List Fn := [pick, f_is_nest, f_law_equal 12, f_of_days, f_of_nest, f_of_lots, f_law_of_size, f_of_limits, f_of_ladder]
structure DefAt (K : PySem.W.Frag) (mg : Str → Option Value) (x : Str) (i : Nat) (ps : List Str) : Prop where
  ex : ∃ (f : Addr) (fd : FuncData), Fun K x x (top i) f fd ∧ mg x = some (.ref f) ∧ Binds K fd ps []
structure Top (K : PySem.W.Frag) (mg : Str → Option Value) : Prop where
  blt : ∀ x ∈ bltN, mg x = none
  af_subsets : DefAt K mg "subsets" 4 ["items"]
  af_of_size : DefAt K mg "of_size" 5 ["items", "size"]
  af_common : DefAt K mg "common" 6 ["items", "others"]
  af_is_inside : DefAt K mg "is_inside" 7 ["items", "others"]
  af_greatest : DefAt K mg "greatest" 9 ["family"]
  af_is_nest : DefAt K mg "is_nest" 11 ["lots"]
  af_of_nest : DefAt K mg "of_nest" 12 ["n", "lots", "limits"]
  af_of_lots : DefAt K mg "of_lots" 14 ["lots", "limits"]
  af_crowded_day : DefAt K mg "crowded_day" 16 ["days", "points"]
  af_of_days : DefAt K mg "of_days" 17 ["days"]
  af_is_between : DefAt K mg "is_between" 19 ["low", "high", "lot"]
  af_of_ladder : DefAt K mg "of_ladder" 20 ["n", "low", "high"]
  af_of_limits : DefAt K mg "of_limits" 21 ["n", "order", "high"]
  af_law_cell : DefAt K mg "_law_cell" 23 ["script", "k"]
  af_law_draws : DefAt K mg "_law_draws" 24 ["cell", "amount"]
  af_law_kind : DefAt K mg "_law_kind" 25 ["x"]
  af_law_equal : DefAt K mg "_law_equal" 26 ["x", "due"]
  af_law_pool : DefAt K mg "_law_pool" 27 ["script"]
  apick : DefAt K mg "_law_pick" 28 ["pool", "amount"]
  af_law_lots : DefAt K mg "_law_lots" 29 ["n"]
  af_law_of_size : DefAt K mg "_law_of_size" 30 ["n", "size"]
section
variable {P : Program} {w : World} {K : PySem.W.Frag} {mg : Str → Option Value} {base : Heap}
theorem kpick (T : Top K mg) : CalleeOk P w K mg base 1 "_law_pick" pick := by
  obtain ⟨f, fd, F, hm, hb⟩ := T.apick.ex
  exact ⟨⟨f, fd, _, ok_pick F (by decide +kernel) rfl (T.blt _ (by decide +kernel)) (T.blt _ (by decide +kernel)), hm, F.kp, hb⟩⟩
theorem kf_subsets (T : Top K mg) : CalleeOk P w K mg base 1 "subsets" f_subsets := by
  obtain ⟨f, fd, F, hm, hb⟩ := T.af_subsets.ex
  have A : AllOk P w K mg base 0 [] [] := .nil
  exact callee_dv F hb hm sf_subsets rfl rfl cf_subsets A.get T.blt
theorem kf_of_size (T : Top K mg) : CalleeOk P w K mg base 2 "of_size" f_of_size := by
  obtain ⟨f, fd, F, hm, hb⟩ := T.af_of_size.ex
  have A : AllOk P w K mg base 1 [f_subsets] ["subsets"] := (.cons ((kf_subsets T).mono (by decide)) .nil)
  exact callee_dv F hb hm sf_of_size rfl rfl cf_of_size A.get T.blt
theorem kf_common (T : Top K mg) : CalleeOk P w K mg base 1 "common" f_common := by
  obtain ⟨f, fd, F, hm, hb⟩ := T.af_common.ex
  have A : AllOk P w K mg base 0 [] [] := .nil
  exact callee_dv F hb hm sf_common rfl rfl cf_common A.get T.blt
theorem kf_is_inside (T : Top K mg) : CalleeOk P w K mg base 1 "is_inside" f_is_inside := by
  obtain ⟨f, fd, F, hm, hb⟩ := T.af_is_inside.ex
  have A : AllOk P w K mg base 0 [] [] := .nil
  exact callee_dv F hb hm sf_is_inside rfl rfl cf_is_inside A.get T.blt
theorem kf_greatest (T : Top K mg) : CalleeOk P w K mg base 1 "greatest" f_greatest := by
  obtain ⟨f, fd, F, hm, hb⟩ := T.af_greatest.ex
  have A : AllOk P w K mg base 0 [] [] := .nil
  exact callee_dv F hb hm sf_greatest rfl rfl cf_greatest A.get T.blt
theorem kf_is_nest (T : Top K mg) : CalleeOk P w K mg base 2 "is_nest" f_is_nest := by
  obtain ⟨f, fd, F, hm, hb⟩ := T.af_is_nest.ex
  have A : AllOk P w K mg base 1 [f_common, f_is_inside] ["common", "is_inside"] := (.cons ((kf_common T).mono (by decide)) (.cons ((kf_is_inside T).mono (by decide)) .nil))
  exact callee_dv F hb hm sf_is_nest rfl rfl cf_is_nest A.get T.blt
theorem kf_of_nest (T : Top K mg) : CalleeOk P w K mg base 3 "of_nest" f_of_nest := by
  obtain ⟨f, fd, F, hm, hb⟩ := T.af_of_nest.ex
  have A : AllOk P w K mg base 2 [f_is_nest, f_subsets, f_common, f_greatest] ["is_nest", "subsets", "common", "greatest"] := (.cons ((kf_is_nest T).mono (by decide)) (.cons ((kf_subsets T).mono (by decide)) (.cons ((kf_common T).mono (by decide)) (.cons ((kf_greatest T).mono (by decide)) .nil))))
  exact callee_dv F hb hm sf_of_nest rfl rfl cf_of_nest A.get T.blt
theorem kf_of_lots (T : Top K mg) : CalleeOk P w K mg base 2 "of_lots" f_of_lots := by
  obtain ⟨f, fd, F, hm, hb⟩ := T.af_of_lots.ex
  have A : AllOk P w K mg base 1 [f_subsets, f_greatest] ["subsets", "greatest"] := (.cons ((kf_subsets T).mono (by decide)) (.cons ((kf_greatest T).mono (by decide)) .nil))
  exact callee_dv F hb hm sf_of_lots rfl rfl cf_of_lots A.get T.blt
theorem kf_crowded_day (T : Top K mg) : CalleeOk P w K mg base 1 "crowded_day" f_crowded_day := by
  obtain ⟨f, fd, F, hm, hb⟩ := T.af_crowded_day.ex
  have A : AllOk P w K mg base 0 [] [] := .nil
  exact callee_dv F hb hm sf_crowded_day rfl rfl cf_crowded_day A.get T.blt
theorem kf_of_days (T : Top K mg) : CalleeOk P w K mg base 2 "of_days" f_of_days := by
  obtain ⟨f, fd, F, hm, hb⟩ := T.af_of_days.ex
  have A : AllOk P w K mg base 1 [f_greatest, f_subsets, f_crowded_day] ["greatest", "subsets", "crowded_day"] := (.cons ((kf_greatest T).mono (by decide)) (.cons ((kf_subsets T).mono (by decide)) (.cons ((kf_crowded_day T).mono (by decide)) .nil)))
  exact callee_dv F hb hm sf_of_days rfl rfl cf_of_days A.get T.blt
theorem kf_is_between (T : Top K mg) : CalleeOk P w K mg base 1 "is_between" f_is_between := by
  obtain ⟨f, fd, F, hm, hb⟩ := T.af_is_between.ex
  have A : AllOk P w K mg base 0 [] [] := .nil
  exact callee_dv F hb hm sf_is_between rfl rfl cf_is_between A.get T.blt
theorem kf_of_ladder (T : Top K mg) : CalleeOk P w K mg base 3 "of_ladder" f_of_ladder := by
  obtain ⟨f, fd, F, hm, hb⟩ := T.af_of_ladder.ex
  have A : AllOk P w K mg base 2 [f_of_size, f_is_between] ["of_size", "is_between"] := (.cons ((kf_of_size T).mono (by decide)) (.cons ((kf_is_between T).mono (by decide)) .nil))
  exact callee_dv F hb hm sf_of_ladder rfl rfl cf_of_ladder A.get T.blt
theorem kf_of_limits (T : Top K mg) : CalleeOk P w K mg base 3 "of_limits" f_of_limits := by
  obtain ⟨f, fd, F, hm, hb⟩ := T.af_of_limits.ex
  have A : AllOk P w K mg base 2 [f_of_size] ["of_size"] := (.cons ((kf_of_size T).mono (by decide)) .nil)
  exact callee_dv F hb hm sf_of_limits rfl rfl cf_of_limits A.get T.blt
theorem kf_law_cell (T : Top K mg) : CalleeOk P w K mg base 1 "_law_cell" f_law_cell := by
  obtain ⟨f, fd, F, hm, hb⟩ := T.af_law_cell.ex
  have A : AllOk P w K mg base 0 [] [] := .nil
  exact callee_dv F hb hm sf_law_cell rfl rfl cf_law_cell A.get T.blt
theorem kf_law_draws (T : Top K mg) : CalleeOk P w K mg base 1 "_law_draws" f_law_draws := by
  obtain ⟨f, fd, F, hm, hb⟩ := T.af_law_draws.ex
  have A : AllOk P w K mg base 0 [] [] := .nil
  exact callee_dv F hb hm sf_law_draws rfl rfl cf_law_draws A.get T.blt
theorem kf_law_kind (T : Top K mg) : CalleeOk P w K mg base 1 "_law_kind" f_law_kind := by
  obtain ⟨f, fd, F, hm, hb⟩ := T.af_law_kind.ex
  have A : AllOk P w K mg base 0 [] [] := .nil
  exact callee_dv F hb hm sf_law_kind rfl rfl cf_law_kind A.get T.blt
theorem rf_law_equal (T : Top K mg) : ∀ n : Nat, CalleeOk P w K mg base (1 + n) "_law_equal" (f_law_equal n)
  | 0 => by
    obtain ⟨f, fd, F, hm, hb⟩ := T.af_law_equal.ex
    exact callee_none F hb hm
  | n + 1 => by
    have ih : CalleeOk P w K mg base (1 + n) "_law_equal" (f_law_equal n) := rf_law_equal T n
    obtain ⟨f, fd, F, hm, hb⟩ := T.af_law_equal.ex
    have A : AllOk P w K mg base (1 + n) [f_law_kind, f_law_equal n] ["_law_kind", "_law_equal"] := (.cons ((kf_law_kind T).mono (by omega)) (.cons ih .nil))
    exact callee_dv F hb hm sf_law_equal rfl rfl cf_law_equal A.get T.blt
theorem kf_law_equal (T : Top K mg) : CalleeOk P w K mg base 13 "_law_equal" (f_law_equal 12) := rf_law_equal T 12
theorem kf_law_pool (T : Top K mg) : CalleeOk P w K mg base 2 "_law_pool" f_law_pool := by
  obtain ⟨f, fd, F, hm, hb⟩ := T.af_law_pool.ex
  have A : AllOk P w K mg base 1 [f_law_draws, f_law_cell] ["_law_draws", "_law_cell"] := (.cons ((kf_law_draws T).mono (by decide)) (.cons ((kf_law_cell T).mono (by decide)) .nil))
  exact callee_dv F hb hm sf_law_pool rfl rfl cf_law_pool A.get T.blt
theorem kf_law_lots (T : Top K mg) : CalleeOk P w K mg base 1 "_law_lots" f_law_lots := by
  obtain ⟨f, fd, F, hm, hb⟩ := T.af_law_lots.ex
  have A : AllOk P w K mg base 0 [] [] := .nil
  exact callee_dv F hb hm sf_law_lots rfl rfl cf_law_lots A.get T.blt
theorem kf_law_of_size (T : Top K mg) : CalleeOk P w K mg base 2 "_law_of_size" f_law_of_size := by
  obtain ⟨f, fd, F, hm, hb⟩ := T.af_law_of_size.ex
  have A : AllOk P w K mg base 1 [f_law_lots] ["_law_lots"] := (.cons ((kf_law_lots T).mono (by decide)) .nil)
  exact callee_dv F hb hm sf_law_of_size rfl rfl cf_law_of_size A.get T.blt
theorem k_law {f : Addr} {fd : FuncData} (T : Top K mg) (F : Fun K "law" "law" (top 31) f fd) (run : LawRuns f_law_pool (f_law_pool :: Φ_law) 14 bf_law) : FnOk P w K mg base CX0 14 f fd ["script"] (spLaw K) := by
  have A : AllOk P w K mg base 13 (f_law_pool :: Φ_law) ("_law_pool" :: ["_law_pick", "is_nest", "_law_equal", "of_days", "of_nest", "of_lots", "_law_of_size", "of_limits", "of_ladder"]) := (.cons ((kf_law_pool T).mono (by decide)) (.cons ((kpick T).mono (by decide)) (.cons ((kf_is_nest T).mono (by decide)) (.cons ((kf_law_equal T).mono (by decide)) (.cons ((kf_of_days T).mono (by decide)) (.cons ((kf_of_nest T).mono (by decide)) (.cons ((kf_of_lots T).mono (by decide)) (.cons ((kf_law_of_size T).mono (by decide)) (.cons ((kf_of_limits T).mono (by decide)) (.cons ((kf_of_ladder T).mono (by decide)) .nil))))))))))
  exact law_dv F sf_law rfl (by decide) rfl df_law cf_law A T.blt run
end
theorem all_mk {w : World} {K : PySem.W.Frag} {h : Heap} {mg : Str → Option Value} {fa : Addr} (X : K.In h) (G : h.Ns mainGlobals mg) (hfa : mg "law" = some (.ref fa)) (run : LawRuns f_law_pool (f_law_pool :: Φ_law) 14 bf_law)
    {f0 : Addr} {od0 an0 : Option Addr} {sl0 : Array (Option Value)} {oc0 kV0 dc0 pm0 cd0 ct0 : Value} {f1 : Addr} {od1 an1 : Option Addr} {sl1 : Array (Option Value)} {oc1 kV1 dc1 pm1 cd1 ct1 : Value} {f2 : Addr} {od2 an2 : Option Addr} {sl2 : Array (Option Value)} {oc2 kV2 dc2 pm2 cd2 ct2 : Value} {f3 : Addr} {od3 an3 : Option Addr} {sl3 : Array (Option Value)} {oc3 kV3 dc3 pm3 cd3 ct3 : Value} {f4 : Addr} {od4 an4 : Option Addr} {sl4 : Array (Option Value)} {oc4 kV4 dc4 pm4 cd4 ct4 : Value} {f5 : Addr} {od5 an5 : Option Addr} {sl5 : Array (Option Value)} {oc5 kV5 dc5 pm5 cd5 ct5 : Value} {f6 : Addr} {od6 an6 : Option Addr} {sl6 : Array (Option Value)} {oc6 kV6 dc6 pm6 cd6 ct6 : Value} {f7 : Addr} {od7 an7 : Option Addr} {sl7 : Array (Option Value)} {oc7 kV7 dc7 pm7 cd7 ct7 : Value} {f8 : Addr} {od8 an8 : Option Addr} {sl8 : Array (Option Value)} {oc8 kV8 dc8 pm8 cd8 ct8 : Value} {f9 : Addr} {od9 an9 : Option Addr} {sl9 : Array (Option Value)} {oc9 kV9 dc9 pm9 cd9 ct9 : Value} {f10 : Addr} {od10 an10 : Option Addr} {sl10 : Array (Option Value)} {oc10 kV10 dc10 pm10 cd10 ct10 : Value} {f11 : Addr} {od11 an11 : Option Addr} {sl11 : Array (Option Value)} {oc11 kV11 dc11 pm11 cd11 ct11 : Value} {f12 : Addr} {od12 an12 : Option Addr} {sl12 : Array (Option Value)} {oc12 kV12 dc12 pm12 cd12 ct12 : Value} {f13 : Addr} {od13 an13 : Option Addr} {sl13 : Array (Option Value)} {oc13 kV13 dc13 pm13 cd13 ct13 : Value} {f14 : Addr} {od14 an14 : Option Addr} {sl14 : Array (Option Value)} {oc14 kV14 dc14 pm14 cd14 ct14 : Value} {f15 : Addr} {od15 an15 : Option Addr} {sl15 : Array (Option Value)} {oc15 kV15 dc15 pm15 cd15 ct15 : Value} {f16 : Addr} {od16 an16 : Option Addr} {sl16 : Array (Option Value)} {oc16 kV16 dc16 pm16 cd16 ct16 : Value} {f17 : Addr} {od17 an17 : Option Addr} {sl17 : Array (Option Value)} {oc17 kV17 dc17 pm17 cd17 ct17 : Value} {f18 : Addr} {od18 an18 : Option Addr} {sl18 : Array (Option Value)} {oc18 kV18 dc18 pm18 cd18 ct18 : Value} {f19 : Addr} {od19 an19 : Option Addr} {sl19 : Array (Option Value)} {oc19 kV19 dc19 pm19 cd19 ct19 : Value} {f20 : Addr} {od20 an20 : Option Addr} {sl20 : Array (Option Value)} {oc20 kV20 dc20 pm20 cd20 ct20 : Value} {f21 : Addr} {od21 an21 : Option Addr} {sl21 : Array (Option Value)} {oc21 kV21 dc21 pm21 cd21 ct21 : Value}
    (a0 : PySem.W.nsIn K mainGlobals "subsets" = some (some (.ref f0))) (l0 : K.lookup f0 = some ⟨oc0, od0, .func (PySem.W.fnOf "subsets" "subsets" (defArgs (top 4)) (defBody (top 4)) (defScope (top 4)) .none kV0 dc0 pm0 an0 cd0 ct0), sl0⟩) (c0 : PySem.W.codeIn K cd0 "subsets" = true) (k0 : PySem.W.keepIn K (.ref f0) = true)
    (a1 : PySem.W.nsIn K mainGlobals "of_size" = some (some (.ref f1))) (l1 : K.lookup f1 = some ⟨oc1, od1, .func (PySem.W.fnOf "of_size" "of_size" (defArgs (top 5)) (defBody (top 5)) (defScope (top 5)) .none kV1 dc1 pm1 an1 cd1 ct1), sl1⟩) (c1 : PySem.W.codeIn K cd1 "of_size" = true) (k1 : PySem.W.keepIn K (.ref f1) = true)
    (a2 : PySem.W.nsIn K mainGlobals "common" = some (some (.ref f2))) (l2 : K.lookup f2 = some ⟨oc2, od2, .func (PySem.W.fnOf "common" "common" (defArgs (top 6)) (defBody (top 6)) (defScope (top 6)) .none kV2 dc2 pm2 an2 cd2 ct2), sl2⟩) (c2 : PySem.W.codeIn K cd2 "common" = true) (k2 : PySem.W.keepIn K (.ref f2) = true)
    (a3 : PySem.W.nsIn K mainGlobals "is_inside" = some (some (.ref f3))) (l3 : K.lookup f3 = some ⟨oc3, od3, .func (PySem.W.fnOf "is_inside" "is_inside" (defArgs (top 7)) (defBody (top 7)) (defScope (top 7)) .none kV3 dc3 pm3 an3 cd3 ct3), sl3⟩) (c3 : PySem.W.codeIn K cd3 "is_inside" = true) (k3 : PySem.W.keepIn K (.ref f3) = true)
    (a4 : PySem.W.nsIn K mainGlobals "greatest" = some (some (.ref f4))) (l4 : K.lookup f4 = some ⟨oc4, od4, .func (PySem.W.fnOf "greatest" "greatest" (defArgs (top 9)) (defBody (top 9)) (defScope (top 9)) .none kV4 dc4 pm4 an4 cd4 ct4), sl4⟩) (c4 : PySem.W.codeIn K cd4 "greatest" = true) (k4 : PySem.W.keepIn K (.ref f4) = true)
    (a5 : PySem.W.nsIn K mainGlobals "is_nest" = some (some (.ref f5))) (l5 : K.lookup f5 = some ⟨oc5, od5, .func (PySem.W.fnOf "is_nest" "is_nest" (defArgs (top 11)) (defBody (top 11)) (defScope (top 11)) .none kV5 dc5 pm5 an5 cd5 ct5), sl5⟩) (c5 : PySem.W.codeIn K cd5 "is_nest" = true) (k5 : PySem.W.keepIn K (.ref f5) = true)
    (a6 : PySem.W.nsIn K mainGlobals "of_nest" = some (some (.ref f6))) (l6 : K.lookup f6 = some ⟨oc6, od6, .func (PySem.W.fnOf "of_nest" "of_nest" (defArgs (top 12)) (defBody (top 12)) (defScope (top 12)) .none kV6 dc6 pm6 an6 cd6 ct6), sl6⟩) (c6 : PySem.W.codeIn K cd6 "of_nest" = true) (k6 : PySem.W.keepIn K (.ref f6) = true)
    (a7 : PySem.W.nsIn K mainGlobals "of_lots" = some (some (.ref f7))) (l7 : K.lookup f7 = some ⟨oc7, od7, .func (PySem.W.fnOf "of_lots" "of_lots" (defArgs (top 14)) (defBody (top 14)) (defScope (top 14)) .none kV7 dc7 pm7 an7 cd7 ct7), sl7⟩) (c7 : PySem.W.codeIn K cd7 "of_lots" = true) (k7 : PySem.W.keepIn K (.ref f7) = true)
    (a8 : PySem.W.nsIn K mainGlobals "crowded_day" = some (some (.ref f8))) (l8 : K.lookup f8 = some ⟨oc8, od8, .func (PySem.W.fnOf "crowded_day" "crowded_day" (defArgs (top 16)) (defBody (top 16)) (defScope (top 16)) .none kV8 dc8 pm8 an8 cd8 ct8), sl8⟩) (c8 : PySem.W.codeIn K cd8 "crowded_day" = true) (k8 : PySem.W.keepIn K (.ref f8) = true)
    (a9 : PySem.W.nsIn K mainGlobals "of_days" = some (some (.ref f9))) (l9 : K.lookup f9 = some ⟨oc9, od9, .func (PySem.W.fnOf "of_days" "of_days" (defArgs (top 17)) (defBody (top 17)) (defScope (top 17)) .none kV9 dc9 pm9 an9 cd9 ct9), sl9⟩) (c9 : PySem.W.codeIn K cd9 "of_days" = true) (k9 : PySem.W.keepIn K (.ref f9) = true)
    (a10 : PySem.W.nsIn K mainGlobals "is_between" = some (some (.ref f10))) (l10 : K.lookup f10 = some ⟨oc10, od10, .func (PySem.W.fnOf "is_between" "is_between" (defArgs (top 19)) (defBody (top 19)) (defScope (top 19)) .none kV10 dc10 pm10 an10 cd10 ct10), sl10⟩) (c10 : PySem.W.codeIn K cd10 "is_between" = true) (k10 : PySem.W.keepIn K (.ref f10) = true)
    (a11 : PySem.W.nsIn K mainGlobals "of_ladder" = some (some (.ref f11))) (l11 : K.lookup f11 = some ⟨oc11, od11, .func (PySem.W.fnOf "of_ladder" "of_ladder" (defArgs (top 20)) (defBody (top 20)) (defScope (top 20)) .none kV11 dc11 pm11 an11 cd11 ct11), sl11⟩) (c11 : PySem.W.codeIn K cd11 "of_ladder" = true) (k11 : PySem.W.keepIn K (.ref f11) = true)
    (a12 : PySem.W.nsIn K mainGlobals "of_limits" = some (some (.ref f12))) (l12 : K.lookup f12 = some ⟨oc12, od12, .func (PySem.W.fnOf "of_limits" "of_limits" (defArgs (top 21)) (defBody (top 21)) (defScope (top 21)) .none kV12 dc12 pm12 an12 cd12 ct12), sl12⟩) (c12 : PySem.W.codeIn K cd12 "of_limits" = true) (k12 : PySem.W.keepIn K (.ref f12) = true)
    (a13 : PySem.W.nsIn K mainGlobals "_law_cell" = some (some (.ref f13))) (l13 : K.lookup f13 = some ⟨oc13, od13, .func (PySem.W.fnOf "_law_cell" "_law_cell" (defArgs (top 23)) (defBody (top 23)) (defScope (top 23)) .none kV13 dc13 pm13 an13 cd13 ct13), sl13⟩) (c13 : PySem.W.codeIn K cd13 "_law_cell" = true) (k13 : PySem.W.keepIn K (.ref f13) = true)
    (a14 : PySem.W.nsIn K mainGlobals "_law_draws" = some (some (.ref f14))) (l14 : K.lookup f14 = some ⟨oc14, od14, .func (PySem.W.fnOf "_law_draws" "_law_draws" (defArgs (top 24)) (defBody (top 24)) (defScope (top 24)) .none kV14 dc14 pm14 an14 cd14 ct14), sl14⟩) (c14 : PySem.W.codeIn K cd14 "_law_draws" = true) (k14 : PySem.W.keepIn K (.ref f14) = true)
    (a15 : PySem.W.nsIn K mainGlobals "_law_kind" = some (some (.ref f15))) (l15 : K.lookup f15 = some ⟨oc15, od15, .func (PySem.W.fnOf "_law_kind" "_law_kind" (defArgs (top 25)) (defBody (top 25)) (defScope (top 25)) .none kV15 dc15 pm15 an15 cd15 ct15), sl15⟩) (c15 : PySem.W.codeIn K cd15 "_law_kind" = true) (k15 : PySem.W.keepIn K (.ref f15) = true)
    (a16 : PySem.W.nsIn K mainGlobals "_law_equal" = some (some (.ref f16))) (l16 : K.lookup f16 = some ⟨oc16, od16, .func (PySem.W.fnOf "_law_equal" "_law_equal" (defArgs (top 26)) (defBody (top 26)) (defScope (top 26)) .none kV16 dc16 pm16 an16 cd16 ct16), sl16⟩) (c16 : PySem.W.codeIn K cd16 "_law_equal" = true) (k16 : PySem.W.keepIn K (.ref f16) = true)
    (a17 : PySem.W.nsIn K mainGlobals "_law_pool" = some (some (.ref f17))) (l17 : K.lookup f17 = some ⟨oc17, od17, .func (PySem.W.fnOf "_law_pool" "_law_pool" (defArgs (top 27)) (defBody (top 27)) (defScope (top 27)) .none kV17 dc17 pm17 an17 cd17 ct17), sl17⟩) (c17 : PySem.W.codeIn K cd17 "_law_pool" = true) (k17 : PySem.W.keepIn K (.ref f17) = true)
    (a18 : PySem.W.nsIn K mainGlobals "_law_pick" = some (some (.ref f18))) (l18 : K.lookup f18 = some ⟨oc18, od18, .func (PySem.W.fnOf "_law_pick" "_law_pick" (defArgs (top 28)) (defBody (top 28)) (defScope (top 28)) .none kV18 dc18 pm18 an18 cd18 ct18), sl18⟩) (c18 : PySem.W.codeIn K cd18 "_law_pick" = true) (k18 : PySem.W.keepIn K (.ref f18) = true)
    (a19 : PySem.W.nsIn K mainGlobals "_law_lots" = some (some (.ref f19))) (l19 : K.lookup f19 = some ⟨oc19, od19, .func (PySem.W.fnOf "_law_lots" "_law_lots" (defArgs (top 29)) (defBody (top 29)) (defScope (top 29)) .none kV19 dc19 pm19 an19 cd19 ct19), sl19⟩) (c19 : PySem.W.codeIn K cd19 "_law_lots" = true) (k19 : PySem.W.keepIn K (.ref f19) = true)
    (a20 : PySem.W.nsIn K mainGlobals "_law_of_size" = some (some (.ref f20))) (l20 : K.lookup f20 = some ⟨oc20, od20, .func (PySem.W.fnOf "_law_of_size" "_law_of_size" (defArgs (top 30)) (defBody (top 30)) (defScope (top 30)) .none kV20 dc20 pm20 an20 cd20 ct20), sl20⟩) (c20 : PySem.W.codeIn K cd20 "_law_of_size" = true) (k20 : PySem.W.keepIn K (.ref f20) = true)
    (a21 : PySem.W.nsIn K mainGlobals "law" = some (some (.ref f21))) (l21 : K.lookup f21 = some ⟨oc21, od21, .func (PySem.W.fnOf "law" "law" (defArgs (top 31)) (defBody (top 31)) (defScope (top 31)) .none kV21 dc21 pm21 an21 cd21 ct21), sl21⟩) (c21 : PySem.W.codeIn K cd21 "law" = true) (k21 : PySem.W.keepIn K (.ref f21) = true)
    (z0 : PySem.W.nsIn K mainGlobals "len" = some none)
    (z1 : PySem.W.nsIn K mainGlobals "list" = some none)
    (z2 : PySem.W.nsIn K mainGlobals "tuple" = some none)
    (z3 : PySem.W.nsIn K mainGlobals "sorted" = some none)
    (z4 : PySem.W.nsIn K mainGlobals "max" = some none)
    (z5 : PySem.W.nsIn K mainGlobals "min" = some none)
    (z6 : PySem.W.nsIn K mainGlobals "sum" = some none)
    (z7 : PySem.W.nsIn K mainGlobals "abs" = some none)
    (z8 : PySem.W.nsIn K mainGlobals "int" = some none)
    (z9 : PySem.W.nsIn K mainGlobals "all" = some none)
    (z10 : PySem.W.nsIn K mainGlobals "any" = some none)
    (z11 : PySem.W.nsIn K mainGlobals "set" = some none)
    (z12 : PySem.W.nsIn K mainGlobals "range" = some none)
    (z13 : PySem.W.nsIn K mainGlobals "isinstance" = some none)
    (z14 : PySem.W.nsIn K mainGlobals "bool" = some none)
    (z15 : PySem.W.nsIn K mainGlobals "str" = some none)
    (z16 : PySem.W.nsIn K mainGlobals "dict" = some none) :
    ∃ fd : FuncData, (∀ (s : Shared) (v : Value), BindsTo s fd ⟨[v], []⟩ [("script", v)]) ∧ ∀ base : Heap, K.In base → base.Ns mainGlobals mg → FnOk prog w K mg base CX0 14 fa fd ["script"] (spLaw K) := by
  have e := hfa.symm.trans (PySem.W.mg_of X G a21)
  cases e
  have B : ∀ x ∈ bltN, mg x = none := by
    intro x hx
    simp only [bltN, List.mem_cons, List.not_mem_nil, or_false] at hx
    rcases hx with rfl | rfl | rfl | rfl | rfl | rfl | rfl | rfl | rfl | rfl | rfl | rfl | rfl | rfl | rfl | rfl | rfl
    · exact PySem.W.mg_none_of X G z0
    · exact PySem.W.mg_none_of X G z1
    · exact PySem.W.mg_none_of X G z2
    · exact PySem.W.mg_none_of X G z3
    · exact PySem.W.mg_none_of X G z4
    · exact PySem.W.mg_none_of X G z5
    · exact PySem.W.mg_none_of X G z6
    · exact PySem.W.mg_none_of X G z7
    · exact PySem.W.mg_none_of X G z8
    · exact PySem.W.mg_none_of X G z9
    · exact PySem.W.mg_none_of X G z10
    · exact PySem.W.mg_none_of X G z11
    · exact PySem.W.mg_none_of X G z12
    · exact PySem.W.mg_none_of X G z13
    · exact PySem.W.mg_none_of X G z14
    · exact PySem.W.mg_none_of X G z15
    · exact PySem.W.mg_none_of X G z16
  have T : Top K mg := ⟨B, ⟨⟨f0, _, fun_mk l0 c0 k0, PySem.W.mg_of X G a0, (fun_mk l0 c0 k0).binds (ps := ["items"]) fun _ _ _ _ _ _ us hl => match us, hl with | [_], _ => rfl⟩⟩, ⟨⟨f1, _, fun_mk l1 c1 k1, PySem.W.mg_of X G a1, (fun_mk l1 c1 k1).binds (ps := ["items", "size"]) fun _ _ _ _ _ _ us hl => match us, hl with | [_, _], _ => rfl⟩⟩, ⟨⟨f2, _, fun_mk l2 c2 k2, PySem.W.mg_of X G a2, (fun_mk l2 c2 k2).binds (ps := ["items", "others"]) fun _ _ _ _ _ _ us hl => match us, hl with | [_, _], _ => rfl⟩⟩, ⟨⟨f3, _, fun_mk l3 c3 k3, PySem.W.mg_of X G a3, (fun_mk l3 c3 k3).binds (ps := ["items", "others"]) fun _ _ _ _ _ _ us hl => match us, hl with | [_, _], _ => rfl⟩⟩, ⟨⟨f4, _, fun_mk l4 c4 k4, PySem.W.mg_of X G a4, (fun_mk l4 c4 k4).binds (ps := ["family"]) fun _ _ _ _ _ _ us hl => match us, hl with | [_], _ => rfl⟩⟩, ⟨⟨f5, _, fun_mk l5 c5 k5, PySem.W.mg_of X G a5, (fun_mk l5 c5 k5).binds (ps := ["lots"]) fun _ _ _ _ _ _ us hl => match us, hl with | [_], _ => rfl⟩⟩, ⟨⟨f6, _, fun_mk l6 c6 k6, PySem.W.mg_of X G a6, (fun_mk l6 c6 k6).binds (ps := ["n", "lots", "limits"]) fun _ _ _ _ _ _ us hl => match us, hl with | [_, _, _], _ => rfl⟩⟩, ⟨⟨f7, _, fun_mk l7 c7 k7, PySem.W.mg_of X G a7, (fun_mk l7 c7 k7).binds (ps := ["lots", "limits"]) fun _ _ _ _ _ _ us hl => match us, hl with | [_, _], _ => rfl⟩⟩, ⟨⟨f8, _, fun_mk l8 c8 k8, PySem.W.mg_of X G a8, (fun_mk l8 c8 k8).binds (ps := ["days", "points"]) fun _ _ _ _ _ _ us hl => match us, hl with | [_, _], _ => rfl⟩⟩, ⟨⟨f9, _, fun_mk l9 c9 k9, PySem.W.mg_of X G a9, (fun_mk l9 c9 k9).binds (ps := ["days"]) fun _ _ _ _ _ _ us hl => match us, hl with | [_], _ => rfl⟩⟩, ⟨⟨f10, _, fun_mk l10 c10 k10, PySem.W.mg_of X G a10, (fun_mk l10 c10 k10).binds (ps := ["low", "high", "lot"]) fun _ _ _ _ _ _ us hl => match us, hl with | [_, _, _], _ => rfl⟩⟩, ⟨⟨f11, _, fun_mk l11 c11 k11, PySem.W.mg_of X G a11, (fun_mk l11 c11 k11).binds (ps := ["n", "low", "high"]) fun _ _ _ _ _ _ us hl => match us, hl with | [_, _, _], _ => rfl⟩⟩, ⟨⟨f12, _, fun_mk l12 c12 k12, PySem.W.mg_of X G a12, (fun_mk l12 c12 k12).binds (ps := ["n", "order", "high"]) fun _ _ _ _ _ _ us hl => match us, hl with | [_, _, _], _ => rfl⟩⟩, ⟨⟨f13, _, fun_mk l13 c13 k13, PySem.W.mg_of X G a13, (fun_mk l13 c13 k13).binds (ps := ["script", "k"]) fun _ _ _ _ _ _ us hl => match us, hl with | [_, _], _ => rfl⟩⟩, ⟨⟨f14, _, fun_mk l14 c14 k14, PySem.W.mg_of X G a14, (fun_mk l14 c14 k14).binds (ps := ["cell", "amount"]) fun _ _ _ _ _ _ us hl => match us, hl with | [_, _], _ => rfl⟩⟩, ⟨⟨f15, _, fun_mk l15 c15 k15, PySem.W.mg_of X G a15, (fun_mk l15 c15 k15).binds (ps := ["x"]) fun _ _ _ _ _ _ us hl => match us, hl with | [_], _ => rfl⟩⟩, ⟨⟨f16, _, fun_mk l16 c16 k16, PySem.W.mg_of X G a16, (fun_mk l16 c16 k16).binds (ps := ["x", "due"]) fun _ _ _ _ _ _ us hl => match us, hl with | [_, _], _ => rfl⟩⟩, ⟨⟨f17, _, fun_mk l17 c17 k17, PySem.W.mg_of X G a17, (fun_mk l17 c17 k17).binds (ps := ["script"]) fun _ _ _ _ _ _ us hl => match us, hl with | [_], _ => rfl⟩⟩, ⟨⟨f18, _, fun_mk l18 c18 k18, PySem.W.mg_of X G a18, (fun_mk l18 c18 k18).binds (ps := ["pool", "amount"]) fun _ _ _ _ _ _ us hl => match us, hl with | [_, _], _ => rfl⟩⟩, ⟨⟨f19, _, fun_mk l19 c19 k19, PySem.W.mg_of X G a19, (fun_mk l19 c19 k19).binds (ps := ["n"]) fun _ _ _ _ _ _ us hl => match us, hl with | [_], _ => rfl⟩⟩, ⟨⟨f20, _, fun_mk l20 c20 k20, PySem.W.mg_of X G a20, (fun_mk l20 c20 k20).binds (ps := ["n", "size"]) fun _ _ _ _ _ _ us hl => match us, hl with | [_, _], _ => rfl⟩⟩⟩
  exact ⟨_, fun s v => .of_eq rfl, fun base _ _ => k_law T (fun_mk l21 c21 k21) run⟩
end Dv.K91
end
section
set_option linter.all false
set_option maxRecDepth 100000
set_option autoImplicit false
set_option maxHeartbeats 4000000
/-! Pl0: the evaluator in plain words: one rule a form, comprehensions and loops by their items. -/
namespace Dv
open PySem L2
universe u
/-! strict sequencing: simp looks at the first part alone (what follows stands in a type, so it is left as it is) -/
inductive Kp {α : Sort u} (a : α) : Type
  | mk
def ob {α β : Type} (o : Option α) (f : α → Option β) (_ : Kp f := .mk) : Option β := o.bind f
@[simp] theorem ob_some {α β : Type} {a : α} {f : α → Option β} : ob (some a) f = f a := Eq.trans rfl rfl
@[simp] theorem ob_none {α β : Type} {f : α → Option β} : ob none f = none := Eq.trans rfl rfl
/-- by a bool -/
def selB {β : Type} (d : D) (a b : Unit → Option β) (_ : Kp a := .mk) (_ : Kp b := .mk) : Option β := match d with
  | .bool true => a ()
  | .bool false => b ()
  | _ => none
@[simp] theorem selB_t {β : Type} {a b : Unit → Option β} : selB (.bool true) a b = a () := Eq.trans rfl rfl
@[simp] theorem selB_f {β : Type} {a b : Unit → Option β} : selB (.bool false) a b = b () := Eq.trans rfl rfl
theorem selB_b {β : Type} {c : Bool} {a b : Unit → Option β} : selB (.bool c) a b = if c = true then a () else b () := by cases c <;> rfl
/-- behind a statement -/
def sq (r : Ro) (k : List Slot → GS → Ro) (_ : Kp k := .mk) : Ro := match r with
  | some (.nx ρ, g) => k ρ g
  | r => r
@[simp] theorem sq_nx {ρ : List Slot} {g : GS} {k : List Slot → GS → Ro} : sq (some (.nx ρ, g)) k = k ρ g := Eq.trans rfl rfl
@[simp] theorem sq_rt {d : D} {g : GS} {k : List Slot → GS → Ro} : sq (some (.rt d, g)) k = some (.rt d, g) := Eq.trans rfl rfl
@[simp] theorem sq_bk {ρ : List Slot} {g : GS} {k : List Slot → GS → Ro} : sq (some (.bk ρ, g)) k = some (.bk ρ, g) := Eq.trans rfl rfl
@[simp] theorem sq_ct {ρ : List Slot} {g : GS} {k : List Slot → GS → Ro} : sq (some (.ct ρ, g)) k = some (.ct ρ, g) := Eq.trans rfl rfl
@[simp] theorem sq_none {k : List Slot → GS → Ro} : sq none k = none := Eq.trans rfl rfl
/-- a def's end -/
def fin (r : Ro) : Option (D × GS) := match r with
  | some (.rt d, g) => some (d, g)
  | some (.nx _, g) => some (.none, g)
  | _ => none
@[simp] theorem fin_rt {d : D} {g : GS} : fin (some (.rt d, g)) = some (d, g) := Eq.trans rfl rfl
@[simp] theorem fin_nx {ρ : List Slot} {g : GS} : fin (some (.nx ρ, g)) = some (.none, g) := Eq.trans rfl rfl
theorem run_eq {Φ : List Fn} {p n : Nat} {body : S} {ds : List D} {g : GS} (h : ds.length = p) : runFn Φ p n body ds g = fin (ex Φ body (ds.map .v ++ List.replicate (n - p) .un) g) := by
  unfold runFn fin
  rw [if_pos h]
  all_goals rfl
/-- a name's value -/
def lk (pk : Bool) (s : Option Slot) (g : GS) : Option (D × GS) := match s with
  | some (.v d) => some (d, g)
  | some (.l xs) => if pk = true then some (.list xs, g) else none
  | _ => none
@[simp] theorem lk_v {pk : Bool} {d : D} {g : GS} : lk pk (some (.v d)) g = some (d, g) := Eq.trans rfl rfl
@[simp] theorem lk_l {xs : List D} {g : GS} : lk true (some (.l xs)) g = some (.list xs, g) := Eq.trans rfl rfl
def olk (s : Option Slot) : Option D := match s with
  | some (.d t kvs) => some (mkD t kvs)
  | _ => none
@[simp] theorem olk_v {d : D} : olk (some (.v d)) = none := Eq.trans rfl rfl
@[simp] theorem olk_l {xs : List D} : olk (some (.l xs)) = none := Eq.trans rfl rfl
@[simp] theorem olk_d {t : Bool} {kvs : List (D × D)} : olk (some (.d t kvs)) = some (mkD t kvs) := Eq.trans rfl rfl
def onI {β : Type} (d : D) (f : Int → Option β) (_ : Kp f := .mk) : Option β := match d with
  | .int i => f i
  | _ => none
@[simp] theorem onI_int {β : Type} {i : Int} {f : Int → Option β} : onI (.int i) f = f i := Eq.trans rfl rfl
def onL {β : Type} (d : D) (f : List D → Option β) (_ : Kp f := .mk) : Option β := match d with
  | .list i => f i
  | _ => none
@[simp] theorem onL_list {β : Type} {i : List D} {f : List D → Option β} : onL (.list i) f = f i := Eq.trans rfl rfl
def onB {β : Type} (d : D) (f : Bool → Option β) (_ : Kp f := .mk) : Option β := match d with
  | .bool i => f i
  | _ => none
@[simp] theorem onB_bool {β : Type} {i : Bool} {f : Bool → Option β} : onB (.bool i) f = f i := Eq.trans rfl rfl
def slV {β : Type} (s : Option Slot) (f : D → Option β) (_ : Kp f := .mk) : Option β := match s with
  | some (.v x) => f x
  | _ => none
@[simp] theorem slV_v {β : Type} {x : D} {f : D → Option β} : slV (some (.v x)) f = f x := Eq.trans rfl rfl
def slL {β : Type} (s : Option Slot) (f : List D → Option β) (_ : Kp f := .mk) : Option β := match s with
  | some (.l x) => f x
  | _ => none
@[simp] theorem slL_l {β : Type} {x : List D} {f : List D → Option β} : slL (some (.l x)) f = f x := Eq.trans rfl rfl
section
variable {Φ : List Fn} {pk : Bool} {ρ : List Slot} {g : GS}
@[simp] theorem ev_var {i : Nat} : ev Φ pk (.var i) ρ g = lk pk ρ[i]? g := by simp only [ev] <;> rfl
@[simp] theorem ev_int {k : Int} : ev Φ pk (.int k) ρ g = some (.int k, g) := by simp only [ev]
@[simp] theorem ev_bool {k : Bool} : ev Φ pk (.bool k) ρ g = some (.bool k, g) := by simp only [ev]
@[simp] theorem ev_non : ev Φ pk .non ρ g = some (.none, g) := by simp only [ev]
@[simp] theorem ev_str {k : Str} : ev Φ pk (.str k) ρ g = some (.str k, g) := by simp only [ev]
@[simp] theorem ev_no : ev Φ pk .no ρ g = some (.none, g) := by simp only [ev]
@[simp] theorem ev_tup {es : Es} : ev Φ pk (.tup es) ρ g = ob (evs Φ false es ρ g) fun r => lenOk r.1.length (.tuple r.1, r.2) := by simp only [ev] <;> rfl
@[simp] theorem ev_lst {es : Es} : ev Φ pk (.lst es) ρ g = ob (evs Φ false es ρ g) fun r => lenOk r.1.length (.list r.1, r.2) := by simp only [ev] <;> rfl
@[simp] theorem ev_bin {op : Operator} {a b : E} : ev Φ pk (.bin op a b) ρ g = ob (ev Φ true a ρ g) fun x => ob (ev Φ true b ρ x.2) fun y => ob (binD op x.1 y.1) fun z => some (z, y.2) := by simp only [ev] <;> rfl
@[simp] theorem ev_neg {a : E} : ev Φ pk (.neg a) ρ g = ob (ev Φ true a ρ g) fun x => onI x.1 fun i => some (.int (-i), x.2) := by simp only [ev] <;> rfl
@[simp] theorem ev_not {a : E} : ev Φ pk (.not a) ρ g = ob (ev Φ true a ρ g) fun x => onB x.1 fun i => some (.bool !i, x.2) := by simp only [ev] <;> rfl
@[simp] theorem ev_and {a b : E} : ev Φ pk (.and a b) ρ g = ob (ev Φ true a ρ g) fun x => selB x.1 (fun _ => asB (ev Φ true b ρ x.2)) fun _ => some (.bool false, x.2) := by simp only [ev] <;> rfl
@[simp] theorem ev_or {a b : E} : ev Φ pk (.or a b) ρ g = ob (ev Φ true a ρ g) fun x => selB x.1 (fun _ => some (.bool true, x.2)) fun _ => asB (ev Φ true b ρ x.2) := by simp only [ev] <;> rfl
@[simp] theorem asB_bool {b : Bool} : asB (some (.bool b, g)) = some (.bool b, g) := Eq.trans rfl rfl
@[simp] theorem ev_ife {c a b : E} : ev Φ pk (.ife c a b) ρ g = ob (ev Φ true c ρ g) fun x => selB x.1 (fun _ => ev Φ false a ρ x.2) fun _ => ev Φ false b ρ x.2 := by simp only [ev] <;> rfl
@[simp] theorem ev_cmp {op : CmpOp} {a b : E} : ev Φ pk (.cmp op a b) ρ g = ob (ev Φ true a ρ g) fun x => ob (orD (odv b ρ) x.2 (ev Φ true b ρ x.2)) fun y => ob (cmpD op x.1 y.1) fun z => some (.bool z, y.2) := by simp only [ev] <;> rfl
@[simp] theorem ev_isN {n : Bool} {a : E} : ev Φ pk (.isN n a) ρ g = ob (ev Φ true a ρ g) fun x => some (.bool (n != isNoneD x.1), x.2) := by simp only [ev] <;> rfl
@[simp] theorem ev_isB {n b : Bool} {a : E} : ev Φ pk (.isB n b a) ρ g = ob (ev Φ true a ρ g) fun x => onB x.1 fun c => some (.bool (n != (c == b)), x.2) := by simp only [ev] <;> rfl
@[simp] theorem ev_chn {o1 o2 : CmpOp} {a b c : E} : ev Φ pk (.chn o1 o2 a b c) ρ g = ob (ev Φ true a ρ g) fun x => ob (ev Φ true b ρ x.2) fun y => ob (cmpD o1 x.1 y.1) fun z => selB (.bool z) (fun _ => ob (ev Φ true c ρ y.2) fun u => ob (cmpD o2 y.1 u.1) fun w => some (.bool w, u.2)) fun _ => some (.bool false, y.2) := by 
  simp only [ev]
  refine congrArg (Option.bind _) (funext fun x => congrArg (Option.bind _) (funext fun y => congrArg (Option.bind _) (funext fun z => ?_)))
  cases z <;> rfl
@[simp] theorem ev_idx {a b : E} : ev Φ pk (.idx a b) ρ g = ob (orD (odv a ρ) g (ev Φ true a ρ g)) fun x => ob (ev Φ true b ρ x.2) fun y => ob (idxD x.1 y.1) fun z => some (z, y.2) := by simp only [ev] <;> rfl
@[simp] theorem ev_slc {a lo hi : E} : ev Φ pk (.slc a lo hi) ρ g = ob (ev Φ true a ρ g) fun x => ob (ev Φ true lo ρ x.2) fun l => ob (ev Φ true hi ρ l.2) fun h => ob (optI (condE lo) l.1) fun lo' => ob (optI (condE hi) h.1) fun hi' => ob (slcD x.1 lo' hi') fun z => some (z, h.2) := by simp only [ev] <;> rfl
@[simp] theorem ev_call {k : Nat} {es : Es} : ev Φ pk (.call k es) ρ g = ob (evs Φ false es ρ g) fun x => ob (Φ[k]?) fun f => f x.1 x.2 := by simp only [ev] <;> rfl
@[simp] theorem ev_bfn {f : Bf} {es : Es} : ev Φ pk (.bfn f es) ρ g = ob (evs Φ true es ρ g) fun x => ob (bfD f x.1) fun z => some (z, x.2) := by simp only [ev] <;> rfl
@[simp] theorem ev_bfr {t : Bool} {r : E} : ev Φ pk (.bfr t r) ρ g = ob (ev Φ true r ρ g) fun z => ob (seqOf z.1) fun xs => lenOk xs.length (if t = true then .tuple xs else .list xs, z.2) := by simp only [ev] <;> rfl
@[simp] theorem ev_isi {t : Ty} {a : E} : ev Φ pk (.isi t a) ρ g = ob (ev Φ true a ρ g) fun x => ob (tyD t x.1) fun b => some (.bool b, x.2) := by simp only [ev] <;> rfl
@[simp] theorem ev_rng {a b : E} : ev Φ pk (.rng a b) ρ g = ob (ev Φ true a ρ g) fun x => ob (ev Φ true b ρ x.2) fun y => ob (rngD (condE a) x.1 y.1) fun z => some (z, y.2) := by simp only [ev] <;> rfl
@[simp] theorem ev_maxd {a : E} {k : Int} : ev Φ pk (.maxd a k) ρ g = ob (ev Φ true a ρ g) fun x => ob (seqOf x.1) fun xs => ob (maxDef k xs) fun z => some (z, x.2) := by simp only [ev] <;> rfl
@[simp] theorem ev_get {a k z : E} : ev Φ pk (.get a k z) ρ g = ob (orD (odv a ρ) g (ev Φ true a ρ g)) fun x => ob (ev Φ true k ρ x.2) fun y => ob (ev Φ false z ρ y.2) fun u => ob (lookD x.1 y.1) fun o => some (o.getD u.1, u.2) := by simp only [ev] <;> rfl
@[simp] theorem evs_nil : evs Φ pk .nil ρ g = some ([], g) := by simp only [evs]
@[simp] theorem evs_cons {e : E} {r : Es} : evs Φ pk (.cons e r) ρ g = ob (ev Φ pk e ρ g) fun x => ob (evs Φ pk r ρ x.2) fun xs => some (x.1 :: xs.1, xs.2) := by simp only [evs] <;> rfl
@[simp] theorem odv_var {i : Nat} : odv (.var i) ρ = olk ρ[i]? := Eq.trans rfl rfl
@[simp] theorem odv_int {k : Int} : odv (.int k) ρ = none := Eq.trans rfl rfl
@[simp] theorem odv_bin {op : Operator} {a b : E} : odv (.bin op a b) ρ = none := Eq.trans rfl rfl
@[simp] theorem odv_idx {a b : E} : odv (.idx a b) ρ = none := Eq.trans rfl rfl
@[simp] theorem odv_call {k : Nat} {es : Es} : odv (.call k es) ρ = none := Eq.trans rfl rfl
@[simp] theorem odv_bfn {f : Bf} {es : Es} : odv (.bfn f es) ρ = none := Eq.trans rfl rfl
@[simp] theorem odv_tup {es : Es} : odv (.tup es) ρ = none := Eq.trans rfl rfl
@[simp] theorem odv_lst {es : Es} : odv (.lst es) ρ = none := Eq.trans rfl rfl
@[simp] theorem odv_slc {a b c : E} : odv (.slc a b c) ρ = none := Eq.trans rfl rfl
@[simp] theorem odv_neg {a : E} : odv (.neg a) ρ = none := Eq.trans rfl rfl
@[simp] theorem odv_bool {b : Bool} : odv (.bool b) ρ = none := Eq.trans rfl rfl
@[simp] theorem odv_non : odv .non ρ = none := Eq.trans rfl rfl
@[simp] theorem odv_str {s : Str} : odv (.str s) ρ = none := Eq.trans rfl rfl
@[simp] theorem odv_lc {a : E} {t : Tg} {b c : E} : odv (.lc a t b c) ρ = none := Eq.trans rfl rfl
@[simp] theorem odv_cmp {o : CmpOp} {a b : E} : odv (.cmp o a b) ρ = none := Eq.trans rfl rfl
@[simp] theorem odv_ife {c a b : E} : odv (.ife c a b) ρ = none := Eq.trans rfl rfl
@[simp] theorem orD_none {r : Option (D × GS)} : orD none g r = r := Eq.trans rfl rfl
@[simp] theorem orD_some {d : D} {r : Option (D × GS)} : orD (some d) g r = some (d, g) := Eq.trans rfl rfl
/-! ### statements -/
@[simp] theorem ex_nil : ex Φ .nil ρ g = some (.nx ρ, g) := by simp only [ex]
@[simp] theorem ex_seq {a b : S} : ex Φ (.seq a b) ρ g = sq (ex Φ a ρ g) fun ρ g => ex Φ b ρ g := by simp only [ex] <;> rfl
@[simp] theorem ex_asg {tg : Tg} {e : E} : ex Φ (.asg tg e) ρ g = ob (ev Φ false e ρ g) fun d => ob (tg.asg d.1 ρ) fun ρ' => some (.nx ρ', d.2) := by simp only [ex] <;> rfl
@[simp] theorem ex_par {i j : Nat} {a b : E} : ex Φ (.par i j a b) ρ g = ob (ev Φ false a ρ g) fun x => ob (ev Φ false b ρ x.2) fun y => some (.nx ((ρ.set i (.v x.1)).set j (.v y.1)), y.2) := by simp only [ex] <;> rfl
@[simp] theorem ex_own {i : Nat} {e : E} : ex Φ (.own i e) ρ g = ob (ev Φ false e ρ g) fun d => onL d.1 fun xs => some (.nx (ρ.set i (.l xs)), d.2) := by simp only [ex] <;> rfl
@[simp] theorem ex_aug {i : Nat} {op : Operator} {e : E} : ex Φ (.aug i op e) ρ g = slV ρ[i]? fun x => ob (ev Φ true e ρ g) fun y => ob (augD op x y.1) fun z => some (.nx (ρ.set i (.v z)), y.2) := by simp only [ex] <;> rfl
@[simp] theorem ex_app {i : Nat} {e : E} : ex Φ (.app i e) ρ g = slL ρ[i]? fun xs => ob (ev Φ false e ρ g) fun d => lenOk (xs.length + 1) (.nx (ρ.set i (.l (xs ++ [d.1]))), d.2) := by simp only [ex] <;> rfl
@[simp] theorem ex_ext {i : Nat} {e : E} : ex Φ (.ext i e) ρ g = slL ρ[i]? fun xs => ob (ev Φ true e ρ g) fun d => onL d.1 fun ys => lenOk (xs.length + ys.length) (.nx (ρ.set i (.l (xs ++ ys))), d.2) := by simp only [ex] <;> rfl
@[simp] theorem ex_iff {c : E} {a b : S} : ex Φ (.iff c a b) ρ g = ob (ev Φ true c ρ g) fun x => selB x.1 (fun _ => ex Φ a ρ x.2) fun _ => ex Φ b ρ x.2 := by simp only [ex] <;> rfl
@[simp] theorem ex_for {tg : Tg} {src : E} {body : S} : ex Φ (.for_ tg src body) ρ g = ob (ev Φ false src ρ g) fun x => ob (itOf x.1) fun xs => forL (fun d ρ g => ob (tg.asg d ρ) fun ρ' => ex Φ body ρ' g) xs ρ x.2 := by simp only [ex] <;> rfl
@[simp] theorem ex_whl {n : Nat} {c : E} {body : S} : ex Φ (.whl n c body) ρ g = whlL (fun ρ g => ev Φ true c ρ g) (fun ρ g => ex Φ body ρ g) n ρ g := by simp only [ex]
@[simp] theorem ex_ret {e : E} : ex Φ (.ret e) ρ g = ob (ev Φ true e ρ g) fun d => some (.rt d.1, d.2) := by simp only [ex] <;> rfl
@[simp] theorem ex_retN : ex Φ .retN ρ g = some (.rt .none, g) := by simp only [ex]
@[simp] theorem ex_brk : ex Φ .brk ρ g = some (.bk ρ, g) := by simp only [ex]
@[simp] theorem ex_cnt : ex Φ .cnt ρ g = some (.ct ρ, g) := by simp only [ex]
@[simp] theorem ex_pass : ex Φ .pass ρ g = some (.nx ρ, g) := by simp only [ex]
@[simp] theorem ex_frz {i : Nat} : ex Φ (.frz i) ρ g = (match ρ[i]? with | some (.l xs) => some (.nx (ρ.set i (.v (.list xs))), g) | some (.d t kvs) => some (.nx (ρ.set i (.v (mkD t kvs))), g) | _ => none) := by simp only [ex] <;> rfl
@[simp] theorem ex_ownD {i : Nat} {t : Bool} : ex Φ (.ownD i t) ρ g = some (.nx (ρ.set i (.d t [])), g) := by simp only [ex]
@[simp] theorem tg_n {i : Nat} {d : D} : (Tg.n i).asg d ρ = some (ρ.set i (.v d)) := by simp only [Tg.asg]
@[simp] theorem tg_cons {a r : Tg} {x : D} {xs : List D} : (Tg.cons a r).asg (.tuple (x :: xs)) ρ = ob (Tg.asg a x ρ) fun ρ' => Tg.asgs r xs ρ' := by simp only [Tg.asg] <;> rfl
@[simp] theorem tgs_cons {a r : Tg} {x : D} {xs : List D} : (Tg.cons a r).asgs (x :: xs) ρ = ob (Tg.asg a x ρ) fun ρ' => Tg.asgs r xs ρ' := by simp only [Tg.asgs] <;> rfl
@[simp] theorem tgs_nil : Tg.nil.asgs [] ρ = some ρ := by simp only [Tg.asgs]
@[simp] theorem ixs_n {i : Nat} : (Tg.n i).ixs = [i] := Eq.trans rfl rfl
@[simp] theorem ixs_nil : Tg.nil.ixs = [] := Eq.trans rfl rfl
@[simp] theorem ixs_cons {a r : Tg} : (Tg.cons a r).ixs = a.ixs ++ r.ixs := Eq.trans rfl rfl
@[simp] theorem wipe_nil : wipeS ρ [] = ρ := Eq.trans rfl rfl
@[simp] theorem wipe_cons {i : Nat} {r : List Nat} : wipeS ρ (i :: r) = (wipeS ρ r).set i .un := Eq.trans rfl rfl
@[simp] theorem condE_no : condE .no = true := Eq.trans rfl rfl
@[simp] theorem tst_no {d : D} : tstD true d = some true := Eq.trans rfl rfl
@[simp] theorem tst_b {b : Bool} : tstD false (.bool b) = some b := Eq.trans rfl rfl
/-! ### values -/
@[simp] theorem itOf_list {xs : List D} : itOf (.list xs) = some xs := Eq.trans rfl rfl
@[simp] theorem itOf_tuple {xs : List D} : itOf (.tuple xs) = some xs := Eq.trans rfl rfl
@[simp] theorem seqOf_list {xs : List D} : seqOf (.list xs) = some xs := Eq.trans rfl rfl
@[simp] theorem seqOf_tuple {xs : List D} : seqOf (.tuple xs) = some xs := Eq.trans rfl rfl
@[simp] theorem lenD_list {xs : List D} : lenD (.list xs) = some xs.length := Eq.trans rfl rfl
@[simp] theorem lenD_tuple {xs : List D} : lenD (.tuple xs) = some xs.length := Eq.trans rfl rfl
@[simp] theorem lenD_scr {xs : List D} : lenD (scrD xs) = some xs.length := Eq.trans rfl rfl
@[simp] theorem idxD_list {xs : List D} {i : Int} : idxD (.list xs) (.int i) = atI xs i := Eq.trans rfl rfl
@[simp] theorem idxD_tuple {xs : List D} {i : Int} : idxD (.tuple xs) (.int i) = atI xs i := Eq.trans rfl rfl
@[simp] theorem idxD_scr {xs : List D} {i : Int} : idxD (scrD xs) (.int i) = atI xs i := Eq.trans rfl rfl
@[simp] theorem bf_len {x : D} : bfD .len [x] = (lenD x).map fun (m : Nat) => PyData.int (m : Int) := Eq.trans rfl rfl
@[simp] theorem bf_list {x : D} : bfD .list [x] = (seqOf x).map .list := Eq.trans rfl rfl
@[simp] theorem bf_tuple {x : D} : bfD .tuple [x] = (seqOf x).map .tuple := Eq.trans rfl rfl
@[simp] theorem bf_sorted {xs : List D} : bfD .sorted [.list xs] = (sortD xs).map PyData.list := by
  simp only [bfD]
  cases sortD xs <;> rfl
@[simp] theorem bf_max {x : D} : bfD .max [x] = (seqOf x).bind maxDs := Eq.trans rfl rfl
@[simp] theorem bf_min {x : D} : bfD .min [x] = (seqOf x).bind minDs := Eq.trans rfl rfl
@[simp] theorem bf_sum {xs : List D} : bfD .sum [.list xs] = (intsOf xs).map fun ns => .int ns.sum := Eq.trans rfl rfl
@[simp] theorem bf_abs {i : Int} : bfD .abs [.int i] = some (.int (if i < 0 then -i else i)) := Eq.trans rfl rfl
@[simp] theorem bf_int {i : Int} : bfD .int [.int i] = some (.int i) := Eq.trans rfl rfl
@[simp] theorem bf_intb {b : Bool} : bfD .int [.bool b] = some (.int (if b then 1 else 0)) := Eq.trans rfl rfl
@[simp] theorem bf_all {xs : List D} : bfD .all [.list xs] = (boolsOf xs).map fun bs => .bool (bs.all id) := Eq.trans rfl rfl
@[simp] theorem bf_any {xs : List D} : bfD .any [.list xs] = (boolsOf xs).map fun bs => .bool (bs.any id) := Eq.trans rfl rfl
@[simp] theorem bf_max2 {i j : Int} : bfD .max2 [.int i, .int j] = some (.int (if j > i then j else i)) := Eq.trans rfl rfl
@[simp] theorem bf_min2 {i j : Int} : bfD .min2 [.int i, .int j] = some (.int (if j < i then j else i)) := Eq.trans rfl rfl
@[simp] theorem bin_add {i j : Int} : binD .Add (.int i) (.int j) = some (.int (i + j)) := Eq.trans rfl rfl
@[simp] theorem bin_sub {i j : Int} : binD .Sub (.int i) (.int j) = some (.int (i - j)) := Eq.trans rfl rfl
@[simp] theorem bin_addT {xs ys : List D} : binD .Add (.tuple xs) (.tuple ys) = lenOk (xs.length + ys.length) (.tuple (xs ++ ys)) := Eq.trans rfl rfl
@[simp] theorem bin_addL {xs ys : List D} : binD .Add (.list xs) (.list ys) = lenOk (xs.length + ys.length) (.list (xs ++ ys)) := Eq.trans rfl rfl
@[simp] theorem rng_no {j : Int} {x : D} : rngD true x (.int j) = if rngOk j = true then some (.list (rngL 0 j)) else none := by cases x <;> simp [rngD]
@[simp] theorem rng_two {i j : Int} : rngD false (.int i) (.int j) = if rngOk i = true ∧ rngOk j = true then some (.list (rngL i j)) else none := by simp [rngD]
theorem rngL_nat (n : Nat) : rngL 0 (n : Int) = (List.range n).map fun (k : Nat) => PyData.int (k : Int) := by unfold rngL; simp
theorem lim_eq : lim = 1000000 := rfl
theorem rngOk_nat {n : Nat} (h : n < 2 ^ 62) : rngOk (n : Int) = true := by unfold rngOk; simp; omega
theorem rngOk_lim {n : Nat} (h : n ≤ lim) : rngOk (n : Int) = true := rngOk_nat (by rw [lim_eq] at h; omega)
@[simp] theorem ty_tt {xs : List D} : tyD .tuple (.tuple xs) = some true := Eq.trans rfl rfl
@[simp] theorem ty_tl {xs : List D} : tyD .tuple (.list xs) = some false := Eq.trans rfl rfl
@[simp] theorem ty_ti {i : Int} : tyD .tuple (.int i) = some false := Eq.trans rfl rfl
@[simp] theorem ty_tb {i : Bool} : tyD .tuple (.bool i) = some false := Eq.trans rfl rfl
@[simp] theorem ty_tn : tyD .tuple .none = some false := Eq.trans rfl rfl
@[simp] theorem ty_ts {i : Str} : tyD .tuple (.str i) = some false := Eq.trans rfl rfl
@[simp] theorem ty_lt {xs : List D} : tyD .list (.tuple xs) = some false := Eq.trans rfl rfl
@[simp] theorem ty_ll {xs : List D} : tyD .list (.list xs) = some true := Eq.trans rfl rfl
@[simp] theorem ty_li {i : Int} : tyD .list (.int i) = some false := Eq.trans rfl rfl
@[simp] theorem ty_lb {i : Bool} : tyD .list (.bool i) = some false := Eq.trans rfl rfl
@[simp] theorem ty_ln : tyD .list .none = some false := Eq.trans rfl rfl
@[simp] theorem ty_ls {i : Str} : tyD .list (.str i) = some false := Eq.trans rfl rfl
@[simp] theorem ty_it {xs : List D} : tyD .int (.tuple xs) = some false := Eq.trans rfl rfl
@[simp] theorem ty_il {xs : List D} : tyD .int (.list xs) = some false := Eq.trans rfl rfl
@[simp] theorem ty_ii {i : Int} : tyD .int (.int i) = some true := Eq.trans rfl rfl
@[simp] theorem ty_ib {i : Bool} : tyD .int (.bool i) = some true := Eq.trans rfl rfl
@[simp] theorem ty_in : tyD .int .none = some false := Eq.trans rfl rfl
@[simp] theorem ty_is {i : Str} : tyD .int (.str i) = some false := Eq.trans rfl rfl
@[simp] theorem ty_bt {xs : List D} : tyD .bool (.tuple xs) = some false := Eq.trans rfl rfl
@[simp] theorem ty_bl {xs : List D} : tyD .bool (.list xs) = some false := Eq.trans rfl rfl
@[simp] theorem ty_bi {i : Int} : tyD .bool (.int i) = some false := Eq.trans rfl rfl
@[simp] theorem ty_bb {i : Bool} : tyD .bool (.bool i) = some true := Eq.trans rfl rfl
@[simp] theorem ty_bn : tyD .bool .none = some false := Eq.trans rfl rfl
@[simp] theorem ty_bs {i : Str} : tyD .bool (.str i) = some false := Eq.trans rfl rfl
@[simp] theorem ty_st {xs : List D} : tyD .str (.tuple xs) = some false := Eq.trans rfl rfl
@[simp] theorem ty_sl {xs : List D} : tyD .str (.list xs) = some false := Eq.trans rfl rfl
@[simp] theorem ty_si {i : Int} : tyD .str (.int i) = some false := Eq.trans rfl rfl
@[simp] theorem ty_sb {i : Bool} : tyD .str (.bool i) = some false := Eq.trans rfl rfl
@[simp] theorem ty_sn : tyD .str .none = some false := Eq.trans rfl rfl
@[simp] theorem ty_ss {i : Str} : tyD .str (.str i) = some true := Eq.trans rfl rfl
@[simp] theorem ty_dt {xs : List D} : tyD .dict (.tuple xs) = some false := Eq.trans rfl rfl
@[simp] theorem ty_dl {xs : List D} : tyD .dict (.list xs) = some false := Eq.trans rfl rfl
@[simp] theorem ty_di {i : Int} : tyD .dict (.int i) = some false := Eq.trans rfl rfl
@[simp] theorem ty_db {i : Bool} : tyD .dict (.bool i) = some false := Eq.trans rfl rfl
@[simp] theorem ty_dn : tyD .dict .none = some false := Eq.trans rfl rfl
@[simp] theorem ty_ds {i : Str} : tyD .dict (.str i) = some false := Eq.trans rfl rfl
@[simp] theorem cmp_eq {x y : D} : cmpD .Eq x y = eqD x y := Eq.trans rfl rfl
@[simp] theorem cmp_ne {x y : D} : cmpD .NotEq x y = (eqD x y).map (!·) := Eq.trans rfl rfl
@[simp] theorem cmp_in {x y : D} : cmpD .In x y = inD x y := Eq.trans rfl rfl
@[simp] theorem cmp_nin {x y : D} : cmpD .NotIn x y = (inD x y).map (!·) := Eq.trans rfl rfl
@[simp] theorem cmp_lt {i j : Int} : cmpD .Lt (.int i) (.int j) = some (decide (i < j)) := Eq.trans rfl rfl
@[simp] theorem cmp_le {i j : Int} : cmpD .LtE (.int i) (.int j) = some (decide (i ≤ j)) := Eq.trans rfl rfl
@[simp] theorem cmp_gt {i j : Int} : cmpD .Gt (.int i) (.int j) = some (decide (j < i)) := Eq.trans rfl rfl
@[simp] theorem cmp_ge {i j : Int} : cmpD .GtE (.int i) (.int j) = some (decide (j ≤ i)) := Eq.trans rfl rfl
end
@[simp] theorem lenOk_small {β : Type} {n : Nat} {x : β} (h : n ≤ 1000) : lenOk n x = some x := lenOk_of (Nat.le_trans h (by rw [lim_eq]; decide))
/-! ### comprehensions and loops by their items -/
section
variable {α : Type}
theorem compL_items {β : Type} {enc : α → D} {f : D → β → Option (Option D × β)} {g : β} (p : α → Bool) (h : α → D) : ∀ {xs : List α}, (∀ x ∈ xs, f (enc x) g = some (if p x = true then some (h x) else none, g)) → compL f (xs.map enc) g = some ((xs.filter p).map h, g)
  | [], _ => rfl
  | x :: xs, hf => by
    have h1 := hf x List.mem_cons_self
    have h2 := compL_items p h fun y hy => hf y (List.mem_cons_of_mem _ hy)
    simp only [List.map_cons, compL, h1, h2, Option.bind_eq_bind, Option.bind_some, Option.pure_def]
    cases hp : p x
    · simp [List.filter_cons, hp]
    · simp [List.filter_cons, hp]
variable {Φ : List Fn} {pk : Bool} {ρ : List Slot} {g : GS}
/-- [el for x in src if cd], nothing drawn -/
theorem lc_items {el : E} {i : Nat} {src cd : E} {s : D} {enc : α → D} {xs : List α} (p : α → Bool) (h : α → D) (cv : α → D) (hs : ev Φ true src ρ g = some (s, g)) (hi : itOf s = some (xs.map enc)) (hl : xs.length ≤ lim)
    (hc : ∀ x ∈ xs, ev Φ true cd ((ρ.set i .un).set i (.v (enc x))) g = some (cv x, g) ∧ tstD (condE cd) (cv x) = some (p x))
    (he : ∀ x ∈ xs, p x = true → ev Φ false el ((ρ.set i .un).set i (.v (enc x))) g = some (h x, g)) : ev Φ pk (.lc el (.n i) src cd) ρ g = some (.list ((xs.filter p).map h), g) := by
  simp only [ev, hs, hi, Option.bind_eq_bind, Option.bind_some, ixs_n, wipe_cons, wipe_nil, Tg.asg]
  rw [compL_items (enc := enc) (g := g) p h]
  · simp only [Option.bind_some]
    rw [lenOk_of]
    rw [List.length_map]
    exact Nat.le_trans (List.length_filter_le _ _) hl
  · intro x hx
    obtain ⟨h1, h2⟩ := hc x hx
    simp only [h1, h2, Option.bind_some]
    cases hp : p x with
    | true => simp only [he x hx hp, if_true, Option.bind_some, Option.pure_def]
    | false => simp
/-- without a test -/
theorem lc_all {el : E} {i : Nat} {src : E} {s : D} {enc : α → D} {xs : List α} (h : α → D) (hs : ev Φ true src ρ g = some (s, g)) (hi : itOf s = some (xs.map enc)) (hl : xs.length ≤ lim)
    (he : ∀ x ∈ xs, ev Φ false el ((ρ.set i .un).set i (.v (enc x))) g = some (h x, g)) : ev Φ pk (.lc el (.n i) src .no) ρ g = some (.list (xs.map h), g) := by
  have := lc_items (pk := pk) (fun _ => true) h (fun _ => .none) hs hi hl (fun x hx => ⟨ev_no, rfl⟩) fun x hx _ => he x hx
  rwa [List.filter_eq_self.mpr (fun _ _ => rfl)] at this
/-- the items that a test keeps -/
theorem lc_keep {i : Nat} {src cd : E} {s : D} {enc : α → D} {xs : List α} (p : α → Bool) (hi0 : i < ρ.length) (hs : ev Φ true src ρ g = some (s, g)) (hi : itOf s = some (xs.map enc)) (hl : xs.length ≤ lim) (hcd : condE cd = false)
    (hc : ∀ x ∈ xs, ev Φ true cd ((ρ.set i .un).set i (.v (enc x))) g = some (.bool (p x), g)) : ev Φ pk (.lc (.var i) (.n i) src cd) ρ g = some (.list ((xs.filter p).map enc), g) := by
  refine lc_items p enc (fun x => .bool (p x)) hs hi hl (fun x hx => ⟨hc x hx, by rw [hcd]; rfl⟩) fun x hx _ => ?_
  rw [ev_var, List.set_set, List.getElem?_set_self hi0, lk_v]
theorem bools_map (p : α → Bool) : ∀ xs : List α, boolsOf (xs.map fun x => PyData.bool (p x)) = some (xs.map p)
  | [] => rfl
  | x :: xs => by simp [boolsOf, bools_map p xs]
theorem ints_map (p : α → Int) : ∀ xs : List α, intsOf (xs.map fun x => PyData.int (p x)) = some (xs.map p)
  | [] => rfl
  | x :: xs => by simp [intsOf, ints_map p xs]
/-- a loop with an invariant by the items -/
theorem forL_items {β : Type} {enc : α → D} {f : D → List Slot → GS → Ro} {R : β → List Slot → GS → Prop} {step : β → α → β} : ∀ {xs : List α} {b : β} {ρ : List Slot} {g : GS}, (∀ x ∈ xs, ∀ b ρ g, R b ρ g → ∃ ρ' g', f (enc x) ρ g = some (.nx ρ', g') ∧ R (step b x) ρ' g') → R b ρ g →
    ∃ ρ' g', forL f (xs.map enc) ρ g = some (.nx ρ', g') ∧ R (xs.foldl step b) ρ' g'
  | [], b, ρ, g, _, h => ⟨ρ, g, rfl, h⟩
  | x :: xs, b, ρ, g, hf, h => by
    obtain ⟨ρ1, g1, e1, h1⟩ := hf x List.mem_cons_self b ρ g h
    obtain ⟨ρ2, g2, e2, h2⟩ := forL_items (fun y hy => hf y (List.mem_cons_of_mem _ hy)) h1
    refine ⟨ρ2, g2, ?_, h2⟩
    rw [List.map_cons]
    simp only [forL, e1]
    exact e2
/-- a loop, then the rest -/
theorem for_then {β : Type} {enc : α → D} {xs : List α} {f : D → List Slot → GS → Ro} {R : β → List Slot → GS → Prop} {step : β → α → β} {b : β} {ρ : List Slot} {g : GS} {k : List Slot → GS → Ro} {kp : Kp k} {P : Ro → Prop}
    (hf : ∀ x ∈ xs, ∀ b ρ g, R b ρ g → ∃ ρ' g', f (enc x) ρ g = some (.nx ρ', g') ∧ R (step b x) ρ' g') (h0 : R b ρ g) (h1 : ∀ ρ' g', R (xs.foldl step b) ρ' g' → P (k ρ' g')) : P (sq (forL f (xs.map enc) ρ g) k kp) := by
  obtain ⟨ρ', g', e, h⟩ := forL_items hf h0
  rw [e]
  exact h1 ρ' g' h
/-- a loop over a list, by the place -/
theorem forL_at {enc : α → D} {f : D → List Slot → GS → Ro} {R : Nat → List Slot → GS → Prop} : ∀ {xs : List α} {k : Nat} {ρ : List Slot} {g : GS}, (∀ (i : Nat) (x : α), xs[i]? = some x → ∀ ρ g, R (k + i) ρ g → ∃ ρ' g', f (enc x) ρ g = some (.nx ρ', g') ∧ R (k + i + 1) ρ' g') → R k ρ g →
    ∃ ρ' g', forL f (xs.map enc) ρ g = some (.nx ρ', g') ∧ R (k + xs.length) ρ' g'
  | [], k, ρ, g, _, h => ⟨ρ, g, rfl, h⟩
  | x :: xs, k, ρ, g, hf, h => by
    obtain ⟨ρ1, g1, e1, h1⟩ := hf 0 x rfl ρ g h
    obtain ⟨ρ2, g2, e2, h2⟩ := forL_at (R := R) (k := k + 1) (fun i y hy ρ g hr => by
      have := hf (i + 1) y hy ρ g (by rw [show k + (i + 1) = k + 1 + i by omega]; exact hr)
      rwa [show k + (i + 1) = k + 1 + i by omega] at this) h1
    refine ⟨ρ2, g2, ?_, by rw [List.length_cons, show k + (xs.length + 1) = k + 1 + xs.length by omega]; exact h2⟩
    rw [List.map_cons]
    simp only [forL, e1]
    exact e2
theorem for_at {enc : α → D} {xs : List α} {f : D → List Slot → GS → Ro} {R : Nat → List Slot → GS → Prop} {ρ : List Slot} {g : GS} {k : List Slot → GS → Ro} {kp : Kp k} {P : Ro → Prop}
    (hf : ∀ (i : Nat) (x : α), xs[i]? = some x → ∀ ρ g, R i ρ g → ∃ ρ' g', f (enc x) ρ g = some (.nx ρ', g') ∧ R (i + 1) ρ' g') (h0 : R 0 ρ g) (h1 : ∀ ρ' g', R xs.length ρ' g' → P (k ρ' g')) : P (sq (forL f (xs.map enc) ρ g) k kp) := by
  obtain ⟨ρ', g', e, h⟩ := forL_at (R := R) (k := 0) (fun i x hx ρ g hr => by rw [Nat.zero_add] at hr ⊢; exact hf i x hx ρ g hr) h0
  rw [e]
  rw [Nat.zero_add] at h
  exact h1 ρ' g' h
end
end Dv
end
section
set_option linter.all false
set_option maxRecDepth 100000
set_option autoImplicit false
set_option maxHeartbeats 4000000
/-! Pl1: the laws' own helpers in plain words: the pool, the pick, equality, lots. -/
namespace Dv
open PySem L2
/-! ### encodings -/
abbrev nI (n : Nat) : D := .int (n : Int)
abbrev tupN (xs : List Nat) : D := .tuple (xs.map nI)
theorem lim_big {n : Nat} (h : n ≤ 1000000) : n ≤ lim := h
/-- ints and texts nested in lists and tuples to a depth -/
inductive Pln : Nat → D → Prop
  | int (k : Nat) (i : Int) : Pln k (.int i)
  | bool (k : Nat) (b : Bool) : Pln k (.bool b)
  | none (k : Nat) : Pln k .none
  | tuple (k : Nat) {xs : List D} : xs.length ≤ lim → (∀ x ∈ xs, Pln k x) → Pln (k + 1) (.tuple xs)
  | list (k : Nat) {xs : List D} : xs.length ≤ lim → (∀ x ∈ xs, Pln k x) → Pln (k + 1) (.list xs)
theorem Pln.up {k : Nat} {d : D} (h : Pln k d) : ∀ {j : Nat}, k ≤ j → Pln j d := by
  induction h with
  | int k i => intro j _; exact .int j i
  | bool k i => intro j _; exact .bool j i
  | none k => intro j _; exact .none j
  | tuple k hl h ih =>
    intro j hj
    obtain ⟨i, rfl⟩ : ∃ i, j = i + 1 := ⟨j - 1, by omega⟩
    exact .tuple i hl fun x hx => ih x hx (by omega)
  | list k hl h ih =>
    intro j hj
    obtain ⟨i, rfl⟩ : ∃ i, j = i + 1 := ⟨j - 1, by omega⟩
    exact .list i hl fun x hx => ih x hx (by omega)
theorem canAll {xs : List D} (h : ∀ x ∈ xs, x.canLay0 = true) : PyData.canLayAll0 xs = true := canLayAll_of h
theorem Pln.lay {k : Nat} {d : D} (h : Pln k d) : d.canLay0 = true := by
  induction h with
  | int k i => simp [PyData.canLay0]
  | bool k i => simp [PyData.canLay0]
  | none k => simp [PyData.canLay0]
  | tuple k hl h ih => simp only [PyData.canLay0]; exact canAll ih
  | list k hl h ih => simp only [PyData.canLay0]; exact canAll ih
theorem depthAllLe {k : Nat} : ∀ {ds : List D}, (∀ d ∈ ds, d.depth ≤ k) → PyData.depthAll ds ≤ k
  | [], _ => by simp [PyData.depthAll]
  | d :: r, h => by
    have h1 := h d List.mem_cons_self
    have h2 := depthAllLe fun e he => h e (List.mem_cons_of_mem _ he)
    simp only [PyData.depthAll]
    omega
theorem Pln.dep {k : Nat} {d : D} (h : Pln k d) : d.depth ≤ k := by
  induction h with
  | int k i => simp [PyData.depth]
  | bool k i => simp [PyData.depth]
  | none k => simp [PyData.depth]
  | tuple k hl h ih =>
    have := depthAllLe ih
    simp only [PyData.depth]; omega
  | list k hl h ih =>
    have := depthAllLe ih
    simp only [PyData.depth]; omega
theorem Pln.shp {k : Nat} {d : D} (h : Pln k d) (hk : k ≤ 64) : shp d = true := by
  unfold Dv.shp PySem.SeqAt.shaped
  rw [h.lay]
  simp only [Bool.true_and, decide_eq_true_eq]
  exact Nat.le_trans h.dep hk
@[simp] theorem shp_int (i : Int) : shp (.int i) = true := (Pln.int 0 i).shp (by decide)
@[simp] theorem shp_bool (i : Bool) : shp (.bool i) = true := (Pln.bool 0 i).shp (by decide)
@[simp] theorem shp_none : shp .none = true := (Pln.none 0).shp (by decide)
theorem pln_tupN {xs : List Nat} (h : xs.length ≤ lim) : Pln 1 (tupN xs) := .tuple 0 (by rw [List.length_map]; exact h) fun x hx => by
  obtain ⟨n, _, rfl⟩ := List.mem_map.mp hx
  exact .int 0 _
@[simp] theorem shp_tupN (xs : List Nat) : shp (.tuple (xs.map nI)) = true := by
  unfold Dv.shp PySem.SeqAt.shaped
  have h1 : PyData.canLayAll0 (xs.map nI) = true := canAll fun x hx => by
    obtain ⟨n, _, rfl⟩ := List.mem_map.mp hx
    simp [PyData.canLay0]
  have h2 : PyData.depthAll (xs.map nI) ≤ 0 := depthAllLe fun x hx => by
    obtain ⟨n, _, rfl⟩ := List.mem_map.mp hx
    simp [PyData.depth]
  simp only [PyData.canLay0, PyData.depth, h1, Bool.true_and, decide_eq_true_eq]
  exact decide_eq_true (Nat.le_trans (Nat.succ_le_succ h2) (show 0 + 1 ≤ 64 by decide))
theorem eqv_self {d : D} {k : Nat} (h : Pln k d) : PyData.eqv d d = true := by
  induction h with
  | int k i => simp [PyData.eqv]
  | bool k i => simp [PyData.eqv]
  | none k => simp [PyData.eqv]
  | tuple k hl h ih =>
    rename_i xs
    simp only [PyData.eqv]
    clear h hl
    induction xs with
    | nil => simp [PyData.eqvAll]
    | cons x r ih2 => simp only [PyData.eqvAll, Bool.and_eq_true]; exact ⟨ih x List.mem_cons_self, ih2 fun y hy => ih y (List.mem_cons_of_mem _ hy)⟩
  | list k hl h ih =>
    rename_i xs
    simp only [PyData.eqv]
    clear h hl
    induction xs with
    | nil => simp [PyData.eqvAll]
    | cons x r ih2 => simp only [PyData.eqvAll, Bool.and_eq_true]; exact ⟨ih x List.mem_cons_self, ih2 fun y hy => ih y (List.mem_cons_of_mem _ hy)⟩
@[simp] theorem eqv_int (i j : Int) : PyData.eqv (.int i) (.int j) = decide (i = j) := by
  simp only [PyData.eqv]
  by_cases h : i = j
  · simp [h]
  · simp [h]
@[simp] theorem eqD_int (i j : Int) : eqD (.int i) (.int j) = some (decide (i = j)) := by simp [eqD]
theorem eqD_self {d : D} {k : Nat} (h : Pln k d) (hk : k ≤ 64 := by decide) : eqD d d = some true := by
  unfold eqD
  rw [if_pos ⟨h.shp hk, h.shp hk⟩, eqv_self h]
theorem eqvAll_N : ∀ xs ys : List Nat, PyData.eqvAll (xs.map nI) (ys.map nI) = decide (xs = ys)
  | [], [] => by simp [PyData.eqvAll]
  | [], y :: ys => by simp [PyData.eqvAll]
  | x :: xs, [] => by simp [PyData.eqvAll]
  | x :: xs, y :: ys => by
    simp only [List.map_cons, PyData.eqvAll, eqvAll_N xs ys, eqv_int, List.cons.injEq, Bool.decide_and]
    congr 1
    exact decide_eq_decide.mpr (by omega)
theorem eqv_tupN (xs ys : List Nat) : PyData.eqv (tupN xs) (tupN ys) = decide (xs = ys) := by
  show PyData.eqv (.tuple _) (.tuple _) = _
  simp only [PyData.eqv]
  exact eqvAll_N xs ys
theorem any_N (x : Nat) (ys : List Nat) : ((ys.map nI).any fun z => PyData.eqv z (nI x)) = decide (x ∈ ys) := by
  rw [List.any_map]
  induction ys with
  | nil => simp
  | cons y r ih =>
    rw [List.any_cons, ih]
    show (PyData.eqv (.int _) (.int _) || _) = _
    rw [eqv_int]
    by_cases h : y = x
    · subst h; simp
    · have h' : ¬ x = y := fun z => h z.symm
      have h2 : ¬ (y : Int) = (x : Int) := by omega
      simp [h', h2]
@[simp] theorem inD_N (x : Nat) (ys : List Nat) : inD (.int (x : Int)) (.tuple (ys.map nI)) = some (decide (x ∈ ys)) := by
  show (if shp (nI x) = true ∧ shp (tupN ys) = true then some _ else none) = _
  rw [if_pos ⟨shp_int _, shp_tupN ys⟩]
  exact congrArg some (any_N x ys)
/-! ### _law_equal -/
theorem kind_ok (d : D) (h : (∃ k, Pln k d)) (g : GS) : ∃ i : Int, f_law_kind [d] g = some (.int i, g) := by
  obtain ⟨k, h⟩ := h
  cases h <;> (simp [f_law_kind, run_eq, bf_law_kind])
theorem kind_seq (d : D) (h : ∃ k, Pln k d) (g : GS) : ∃ i : Int, f_law_kind [d] g = some (.int i, g) := kind_ok d h g
theorem atI_self {xs : List D} {k : Nat} (h : k < xs.length) : atI xs (k : Int) = some xs[k] := atI_nat (List.getElem?_eq_getElem h)
/-- equal things are equal -/
theorem equal_refl (g : GS) {k : Nat} {d : D} (h : Pln k d) : k ≤ 60 → ∀ m, k < m → f_law_equal m [d, d] g = some (.bool true, g) := by
  induction h with
  | int k i =>
    intro _ m hm
    obtain ⟨n, rfl⟩ : ∃ n, m = n + 1 := ⟨m - 1, by omega⟩
    obtain ⟨j, hj⟩ := kind_ok (.int i) ⟨0, .int 0 i⟩ g
    simp [f_law_equal, run_eq, bf_law_equal, hj]
  | bool k i =>
    intro _ m hm
    obtain ⟨n, rfl⟩ : ∃ n, m = n + 1 := ⟨m - 1, by omega⟩
    obtain ⟨j, hj⟩ := kind_ok (.bool i) ⟨0, .bool 0 i⟩ g
    simp [f_law_equal, run_eq, bf_law_equal, hj, eqD_self (Pln.bool 0 i)]
  | none k =>
    intro _ m hm
    obtain ⟨n, rfl⟩ : ∃ n, m = n + 1 := ⟨m - 1, by omega⟩
    obtain ⟨j, hj⟩ := kind_ok .none ⟨0, .none 0⟩ g
    simp [f_law_equal, run_eq, bf_law_equal, hj, eqD_self (Pln.none 0)]
  | tuple k hl h ih =>
    rename_i xs
    intro hk m hm
    obtain ⟨n, rfl⟩ : ∃ n, m = n + 1 := ⟨m - 1, by omega⟩
    obtain ⟨j, hj⟩ := kind_ok (.tuple xs) ⟨_, .tuple k hl h⟩ g
    have hr : rngOk ((xs.length : Nat) : Int) = true := rngOk_lim hl
    simp [f_law_equal, run_eq, bf_law_equal, hj]
    rw [lc_items (enc := nI) (xs := List.range xs.length) (fun _ => false) nI (fun _ => .bool false) (s := .list (rngL 0 (xs.length : Int)))]
    · simp
    · simp [hr]
    · rw [itOf_list, rngL_nat]
    · rw [List.length_range]; exact hl
    · intro x hx
      have hx := List.mem_range.mp hx
      refine ⟨?_, rfl⟩
      simp [atI_self hx, ih xs[x] (List.getElem_mem hx) (by omega) n (by omega)]
    · intro x _ z; cases z
  | list k hl h ih =>
    rename_i xs
    intro hk m hm
    obtain ⟨n, rfl⟩ : ∃ n, m = n + 1 := ⟨m - 1, by omega⟩
    obtain ⟨j, hj⟩ := kind_ok (.list xs) ⟨_, .list k hl h⟩ g
    have hr : rngOk ((xs.length : Nat) : Int) = true := rngOk_lim hl
    simp [f_law_equal, run_eq, bf_law_equal, hj]
    rw [lc_items (enc := nI) (xs := List.range xs.length) (fun _ => false) nI (fun _ => .bool false) (s := .list (rngL 0 (xs.length : Int)))]
    · simp
    · simp [hr]
    · rw [itOf_list, rngL_nat]
    · rw [List.length_range]; exact hl
    · intro x hx
      have hx := List.mem_range.mp hx
      refine ⟨?_, rfl⟩
      simp [atI_self hx, ih xs[x] (List.getElem_mem hx) (by omega) n (by omega)]
    · intro x _ z; cases z
end Dv
end
section
set_option linter.all false
set_option maxRecDepth 100000
set_option autoImplicit false
set_option maxHeartbeats 4000000
/-! Pl2: the pool and the pick. -/
namespace Dv
open PySem L2
theorem mulOk_r {i j : Int} (h : j.natAbs < 2 ^ 64) : mulOk i j = true := by unfold mulOk; simp [h]
theorem mulOk_l {i j : Int} (h : i.natAbs < 2 ^ 64) : mulOk i j = true := by unfold mulOk; simp [h]
theorem bin_mulR {i j : Int} (h : j.natAbs < 2 ^ 64) : binD .Mult (.int i) (.int j) = some (.int (i * j)) := by
  show (if mulOk i j = true then some (PyData.int (i * j)) else none) = _
  rw [if_pos (mulOk_r h)]
theorem bin_mulL {i j : Int} (h : i.natAbs < 2 ^ 64) : binD .Mult (.int i) (.int j) = some (.int (i * j)) := by
  show (if mulOk i j = true then some (PyData.int (i * j)) else none) = _
  rw [if_pos (mulOk_l h)]
theorem bin_mod {i j : Int} (h : 0 < j) : binD .Mod (.int i) (.int j) = some (.int (i % j)) := by
  show (if 0 < j then some (PyData.int (i % j)) else none) = _
  rw [if_pos h]
theorem bin_div {i j : Int} (h : 0 < j) (h2 : j < 2 ^ 64) : binD .FloorDiv (.int i) (.int j) = some (.int (i / j)) := by
  show (if 0 < j ∧ j.natAbs.log2 < 9000 then some (PyData.int (i / j)) else none) = _
  have : j.natAbs.log2 < 64 := (Nat.log2_lt (by omega)).mpr (by omega)
  rw [if_pos ⟨h, by omega⟩]
theorem pow18 : binD .Pow (.int 10) (.int 18) = some (.int 1000000000000000000) := by
  show (if powOk 10 18 = true then some (PyData.int (10 ^ (18 : Int).toNat)) else none) = _
  rw [if_pos (by decide)]
  rfl
theorem cell_ok (g : GS) (ns : List Int) (k : Nat) : ∃ c : Int, f_law_cell [scrD (ns.map PyData.int), .int (k : Int)] g = some (.int c, g) := by
  by_cases h : k < ns.length
  · refine ⟨ns[k], ?_⟩
    have h1 : decide ((k : Int) < (((ns.map PyData.int).length : Nat) : Int)) = true := by rw [List.length_map]; exact decide_eq_true (by omega)
    have h2 : atI (ns.map PyData.int) (k : Int) = some (.int ns[k]) := by
      rw [atI_nat (v := PyData.int ns[k])]
      rw [List.getElem?_map, List.getElem?_eq_getElem h]; rfl
    rw [List.length_map] at h1
    simp [f_law_cell, run_eq, bf_law_cell, h, h2]
  · refine ⟨0, ?_⟩
    simp [f_law_cell, run_eq, bf_law_cell, h]
theorem blend1 (g : GS) (c : Int) (x : Nat) (s1 s2 s3 s5 : Slot) : ∃ b : Int, (0 ≤ b ∧ b < 2147483647) ∧ ex [] (.asg (.n 5) (.bin .Mod (.bfn .int (.cons (.bin .Add (.bin .Mult (.var 0) (.int 48271)) (.bin .Mult (.bin .Add (.var 4) (.int 1)) (.int 69621))) .nil)) (.int 2147483647))) [.v (.int c), s1, s2, s3, .v (nI x), s5] g = some (.nx [.v (.int c), s1, s2, s3, .v (nI x), .v (.int b)], g) := by
  refine ⟨(c * 48271 + ((x : Int) + 1) * 69621) % 2147483647, by omega, ?_⟩
  simp [bin_mulR (j := 48271) (by decide), bin_mulR (j := 69621) (by decide), bin_mod]
theorem blend2 (g : GS) (c b : Int) (h : 0 ≤ b ∧ b < 2147483647) (x : Nat) (s1 s2 s3 : Slot) : ∃ b' : Int, (0 ≤ b' ∧ b' < 2147483647) ∧ ex [] (.asg (.n 5) (.bin .Mod (.bfn .int (.cons (.bin .Add (.bin .Add (.bin .Mult (.var 5) (.var 5)) (.bin .Mult (.var 5) (.int 16807))) (.bin .Mult (.var 4) (.int 7919))) .nil)) (.int 2147483629))) [.v (.int c), s1, s2, s3, .v (nI x), .v (.int b)] g = some (.nx [.v (.int c), s1, s2, s3, .v (nI x), .v (.int b')], g) := by
  refine ⟨(b * b + b * 16807 + (x : Int) * 7919) % 2147483629, by omega, ?_⟩
  simp [bin_mulL (i := b) (by omega), bin_mulR (j := 7919) (by decide), bin_mod]
theorem blend3 (g : GS) (c b : Int) (h : 0 ≤ b ∧ b < 2147483647) (x : Nat) (s1 s2 s3 : Slot) : ∃ b' : Int, (0 ≤ b' ∧ b' < 2147483647) ∧ ex [] (.asg (.n 5) (.bin .Mod (.bfn .int (.cons (.bin .Add (.bin .Add (.bin .Mult (.var 5) (.var 5)) (.var 0)) (.bin .Mult (.int 13) (.var 4))) .nil)) (.int 2147483587))) [.v (.int c), s1, s2, s3, .v (nI x), .v (.int b)] g = some (.nx [.v (.int c), s1, s2, s3, .v (nI x), .v (.int b')], g) := by
  refine ⟨(b * b + c + 13 * (x : Int)) % 2147483587, by omega, ?_⟩
  simp [bin_mulL (i := b) (by omega), bin_mulL (i := 13) (by decide), bin_mod]
theorem rng20 : rngL 0 20 = (List.range 20).map nI := rngL_nat 20
theorem draws_ok (g : GS) (c : Int) : ∃ rows : List Int, f_law_draws [.int c, .int 20] g = some (.list (rows.map PyData.int), g) ∧ rows.length = 20 := by
  simp only [f_law_draws, run_eq (show ([.int c, .int 20] : List D).length = 2 from rfl), bf_law_draws]
  simp [rng20, (by decide : rngOk 20 = true)]
  refine for_at (enc := nI) (xs := List.range 20) (P := fun r => ∃ rows : List Int, fin r = some (.list (rows.map PyData.int), g) ∧ rows.length = 20)
    (R := fun (b : Nat) ρ g' => g' = g ∧ ∃ (rows : List Int) (left : Int) (s4 s5 : Slot), ρ = [.v (.int c), .v (.int 20), .l (rows.map PyData.int), .v (.int left), s4, s5] ∧ rows.length = b) ?_ ?_ ?_
  · rintro b x hx ρ g' ⟨rfl, rows, left, s4, s5, rfl, hl⟩
    have hb : b < 20 := by have := (List.getElem?_eq_some_iff.mp hx).1; rwa [List.length_range] at this
    have hlen : rows.length + 1 ≤ 1000 := by omega
    obtain ⟨b1, h1, e1⟩ := blend1 g' c x (.v (.int 20)) (.l (rows.map PyData.int)) (.v (.int left)) s5
    obtain ⟨b2, h2, e2⟩ := blend2 g' c b1 h1 x (.v (.int 20)) (.l (rows.map PyData.int)) (.v (.int left))
    obtain ⟨b3, h3, e3⟩ := blend3 g' c b2 h2 x (.v (.int 20)) (.l (rows.map PyData.int)) (.v (.int left))
    by_cases q1 : 1000000000000000000 ≤ c
    · by_cases q2 : 0 < left
      · refine ⟨[.v (.int c), .v (.int 20), .l ((rows ++ [left % 4096]).map PyData.int), .v (.int (left / 4096)), .v (nI x), s5], g', ?_, rfl, rows ++ [left % 4096], left / 4096, .v (nI x), s5, rfl, by simp [hl]⟩
        simp [pow18, q1, q2, bin_mod, bin_div, hlen]
      · refine ⟨[.v (.int c), .v (.int 20), .l ((rows ++ [b3 / 7 % 4096]).map PyData.int), .v (.int left), .v (nI x), .v (.int b3)], g', ?_, rfl, rows ++ [b3 / 7 % 4096], left, .v (nI x), .v (.int b3), rfl, by simp [hl]⟩
        simp [-ex_asg, pow18, q1, q2, e1, e2, e3, bin_mod, bin_div, hlen]
    · refine ⟨[.v (.int c), .v (.int 20), .l ((rows ++ [b3 / 7 % 4096]).map PyData.int), .v (.int left), .v (nI x), .v (.int b3)], g', ?_, rfl, rows ++ [b3 / 7 % 4096], left, .v (nI x), .v (.int b3), rfl, by simp [hl]⟩
      simp [-ex_asg, pow18, q1, e1, e2, e3, bin_mod, bin_div, hlen]
  · exact ⟨rfl, [], c, .un, .un, rfl, rfl⟩
  · rintro ρ' g' ⟨rfl, rows, left, s4, s5, rfl, hl⟩
    refine ⟨rows, ?_, by simpa using hl⟩
    simp
/-- the pool is made -/
theorem pool_ok (ns : List Int) : ∃ rows : List Int, f_law_pool [scrD (ns.map PyData.int)] ⟨none⟩ = some (.list [.list (rows.map PyData.int), .list [.int 0]], ⟨none⟩) ∧ 1 < rows.length ∧ rows.length < 2 ^ 31 := by
  have hm : ∃ m : Nat, 1 ≤ m ∧ m ≤ 4 ∧ (if (if ((ns.length : Nat) : Int) > 1 then ((ns.length : Nat) : Int) else 1) < 4 then (if ((ns.length : Nat) : Int) > 1 then ((ns.length : Nat) : Int) else 1) else 4) = (m : Int) := by
    by_cases h1 : ((ns.length : Nat) : Int) > 1
    · rw [if_pos h1]
      by_cases h2 : ((ns.length : Nat) : Int) < 4
      · exact ⟨ns.length, by omega, by omega, by rw [if_pos h2]⟩
      · exact ⟨4, by omega, by omega, by rw [if_neg h2]; rfl⟩
    · rw [if_neg h1]
      exact ⟨1, by omega, by omega, by rw [if_pos (by omega)]; rfl⟩
  obtain ⟨m, hm1, hm2, hm3⟩ := hm
  simp only [f_law_pool, run_eq (show ([scrD (ns.map PyData.int)] : List D).length = 1 from rfl), bf_law_pool]
  simp
  simp only [gt_iff_lt] at hm3
  rw [hm3]
  simp [rngOk_nat (n := m) (by omega), rngL_nat]
  refine for_at (enc := nI) (xs := List.range m) (P := fun r => ∃ rows : List Int, fin r = some (.list [.list (rows.map PyData.int), .list [.int 0]], ⟨none⟩) ∧ 1 < rows.length ∧ rows.length < 2147483648)
    (R := fun (i : Nat) ρ g' => g' = ⟨none⟩ ∧ ∃ (rows : List Int) (s2 : Slot), ρ = [.v (scrD (ns.map PyData.int)), .v (.list (rows.map PyData.int)), s2] ∧ rows.length = 20 * i) ?_ ?_ ?_
  · rintro i x hx ρ g' ⟨rfl, rows, s2, rfl, hl⟩
    have hi : i < m := by have := (List.getElem?_eq_some_iff.mp hx).1; rwa [List.length_range] at this
    obtain ⟨c, hc⟩ := cell_ok ⟨none⟩ ns x
    obtain ⟨rs, hr, hrl⟩ := draws_ok ⟨none⟩ (c + 7 * (x : Int))
    refine ⟨[.v (scrD (ns.map PyData.int)), .v (.list ((rows ++ rs).map PyData.int)), .v (nI x)], _, ?_, rfl, rows ++ rs, _, rfl, by rw [List.length_append]; omega⟩
    have hlen : rows.length + rs.length ≤ 1000 := by omega
    simp [hc, bin_mulL (i := 7) (by decide), hr, hlen]
  · exact ⟨rfl, [], .un, rfl, rfl⟩
  · rintro ρ' g' ⟨rfl, rows, s2, rfl, hl⟩
    rw [List.length_range] at hl
    refine ⟨rows, ?_, by omega, by omega⟩
    simp
/-! ### the pick -/
/-- b more draws may come -/
def Good (b : Nat) (g : GS) : Prop := ∃ (rows : List Int) (at_ : Int), g.pool = some (rows, at_) ∧ 0 < rows.length ∧ rows.length < 2 ^ 31 ∧ 0 ≤ at_ ∧ at_ + b < 2 ^ 31
theorem Good.less {b c : Nat} {g : GS} (h : Good c g) (hb : b ≤ c) : Good b g := by
  obtain ⟨rows, at_, h1, h2, h3, h4, h5⟩ := h
  exact ⟨rows, at_, h1, h2, h3, h4, by omega⟩
theorem good_start {rows : List Int} (h1 : 0 < rows.length) (h2 : rows.length < 2 ^ 31) {b : Nat} (hb : b < 2 ^ 30) : Good b ⟨some (rows, 0)⟩ := ⟨rows, 0, rfl, h1, h2, by omega, by omega⟩
/-- one draw below m -/
theorem pick_ok {b : Nat} {g : GS} (h : Good (b + 1) g) {m : Nat} (hm : 0 < m) : ∃ (r : Nat) (g' : GS), r < m ∧ pick [poolD, .int (m : Int)] g = some (.int (r : Int), g') ∧ Good b g' := by
  obtain ⟨rows, at_, h1, h2, h3, h4, h5⟩ := h
  obtain ⟨pl⟩ := g
  cases h1
  have hb : (at_ % (rows.length : Int)).toNat < rows.length := by
    have e1 := Int.emod_nonneg at_ (show (rows.length : Int) ≠ 0 by omega)
    have e2 := Int.emod_lt_of_pos at_ (show (0 : Int) < (rows.length : Int) by omega)
    omega
  let v : Int := (rows[(at_ % (rows.length : Int)).toNat] + at_ / rows.length * 1009 + at_ / rows.length * at_) % (m : Int)
  have v0 : 0 ≤ v := Int.emod_nonneg _ (by omega)
  have v1 : v < m := Int.emod_lt_of_pos _ (by omega)
  refine ⟨v.toNat, ⟨some (rows, at_ + 1)⟩, by omega, ?_, rows, at_ + 1, rfl, h2, h3, by omega, by omega⟩
  have hc : 0 < (m : Int) ∧ 0 ≤ at_ ∧ at_ < 2 ^ 31 ∧ 0 < rows.length ∧ rows.length < 2 ^ 31 := ⟨by omega, h4, by omega, h2, h3⟩
  show (if 0 < (m : Int) ∧ 0 ≤ at_ ∧ at_ < 2 ^ 31 ∧ 0 < rows.length ∧ rows.length < 2 ^ 31 then (match rows[(at_ % rows.length).toNat]? with
      | some r => some (PyData.int ((r + at_ / rows.length * 1009 + at_ / rows.length * at_) % m), (⟨some (rows, at_ + 1)⟩ : GS))
      | none => none) else none) = _
  rw [if_pos hc, List.getElem?_eq_getElem hb]
  show some (PyData.int v, _) = _
  rw [Int.toNat_of_nonneg v0]
end Dv
end
section
set_option linter.all false
set_option maxRecDepth 100000
set_option autoImplicit false
set_option maxHeartbeats 4000000
/-! Pl3: sorting, lots, the package's small helpers. -/
namespace Dv
open PySem L2
/-! ### sorting -/
theorem alikeAll_N : ∀ xs ys : List Nat, PySem.W.alikeAll (xs.map nI) (ys.map nI) = true
  | [], _ => by simp [PySem.W.alikeAll]
  | _ :: _, [] => by simp [PySem.W.alikeAll]
  | x :: xs, y :: ys => by simp [PySem.W.alikeAll, PySem.W.alike, alikeAll_N xs ys]
theorem alike_tupN (a b : List Nat) : PySem.W.alike (tupN a) (tupN b) = true := by
  show PySem.W.alike (.tuple _) (.tuple _) = true
  simp only [PySem.W.alike]
  exact alikeAll_N a b
theorem sortOk_lots (xs : List (List Nat)) : sortOk (xs.map tupN) = true := by
  unfold sortOk
  simp only [Bool.and_eq_true, List.all_eq_true, List.mem_map, forall_exists_index, and_imp, forall_apply_eq_imp_iff₂]
  exact ⟨⟨fun a _ b _ => alike_tupN a b, fun a _ => trivial⟩, fun a _ => shp_tupN a⟩
theorem sortOk_nats (xs : List Nat) : sortOk (xs.map nI) = true := by
  unfold sortOk
  simp only [Bool.and_eq_true, List.all_eq_true, List.mem_map, forall_exists_index, and_imp, forall_apply_eq_imp_iff₂]
  exact ⟨⟨fun a _ b _ => by simp [PySem.W.alike], fun a _ => trivial⟩, fun a _ => shp_int _⟩
theorem perm_map {α β : Type} {f : α → β} {l : List β} {m : List α} (h : l.Perm (m.map f)) : ∃ m' : List α, m'.Perm m ∧ l = m'.map f := by
  generalize hk : m.map f = k at h
  induction h generalizing m with
  | nil =>
    have : m = [] := List.map_eq_nil_iff.mp hk
    subst this
    exact ⟨[], .refl _, rfl⟩
  | cons x _ ih =>
    cases m with
    | nil => cases hk
    | cons a m =>
      injection hk with h1 h2
      obtain ⟨m', p, e⟩ := ih h2
      exact ⟨a :: m', p.cons a, by rw [List.map_cons, h1, e]⟩
  | swap x y l =>
    cases m with
    | nil => cases hk
    | cons a m =>
      cases m with
      | nil => injection hk with _ h; cases h
      | cons b m =>
        injection hk with h1 h2
        injection h2 with h2 h3
        exact ⟨b :: a :: m, .swap a b m, by simp [h1, h2, h3]⟩
  | trans _ _ ih1 ih2 =>
    obtain ⟨m1, p1, e1⟩ := ih2 hk
    obtain ⟨m2, p2, e2⟩ := ih1 e1.symm
    exact ⟨m2, p2.trans p1, e2⟩
theorem sort_lots {xs : List (List Nat)} (h : xs.length ≤ lim) : ∃ ys : List (List Nat), sortD (xs.map tupN) = some (ys.map tupN) ∧ ys.Perm xs := by
  obtain ⟨ys, p, e⟩ := perm_map (List.mergeSort_perm (xs.map tupN) (PySem.W.dataLe false id))
  refine ⟨ys, ?_, p⟩
  unfold sortD
  rw [if_pos ⟨sortOk_lots xs, by rw [List.length_map]; exact h⟩, e]
/-- the lots, sorted -/
noncomputable def sortL (xs : List (List Nat)) : List (List Nat) := if h : xs.length ≤ lim then Classical.choose (sort_lots h) else xs
theorem sortL_ok {xs : List (List Nat)} (h : xs.length ≤ lim) : sortD (xs.map tupN) = some ((sortL xs).map tupN) := by
  unfold sortL
  rw [dif_pos h]
  exact (Classical.choose_spec (sort_lots h)).1
theorem sortL_perm (xs : List (List Nat)) : (sortL xs).Perm xs := by
  unfold sortL
  split
  · rename_i h; exact (Classical.choose_spec (sort_lots h)).2
  · exact .refl _
theorem dataLe_nI (a b : Nat) : PySem.W.dataLe false id (nI a) (nI b) = decide (a ≤ b) := by
  show (!PySem.W.dataLt (nI b) (nI a)) = _
  rw [PySem.W.dataLt_int]
  by_cases h : a ≤ b
  · rw [decide_eq_true h, decide_eq_false (by omega)]; rfl
  · rw [decide_eq_false h, decide_eq_true (by omega)]; rfl
theorem sort_nats {xs : List Nat} (h : xs.length ≤ lim) (hs : xs.Pairwise (· ≤ ·)) : sortD (xs.map nI) = some (xs.map nI) := by
  unfold sortD
  rw [if_pos ⟨sortOk_nats xs, by rw [List.length_map]; exact h⟩]
  congr 1
  refine List.mergeSort_of_pairwise ?_
  rw [List.pairwise_map]
  exact hs.imp fun {a b} hab => by rw [dataLe_nI]; exact decide_eq_true hab
/-! ### lots -/
def subsL (items : List Nat) : List (List Nat) := items.foldl (fun acc x => acc ++ acc.map (· ++ [x])) [[]]
theorem subsL_snoc (xs : List Nat) (x : Nat) : subsL (xs ++ [x]) = subsL xs ++ (subsL xs).map (· ++ [x]) := by
  unfold subsL
  rw [List.foldl_append]
  rfl
theorem snoc_ind {α : Type} {P : List α → Prop} (h0 : P []) (h1 : ∀ xs x, P xs → P (xs ++ [x])) (xs : List α) : P xs := by
  have : ∀ ys : List α, P ys.reverse := fun ys => by
    induction ys with
    | nil => exact h0
    | cons y ys ih => rw [List.reverse_cons]; exact h1 _ _ ih
  have h := this xs.reverse
  rwa [List.reverse_reverse] at h
theorem subsL_len (xs : List Nat) : (subsL xs).length = 2 ^ xs.length := by
  induction xs using snoc_ind with
  | h0 => rfl
  | h1 xs x ih => rw [subsL_snoc, List.length_append, List.length_map, ih, List.length_append, List.length_singleton, Nat.pow_succ]; omega
theorem subsL_mem (xs : List Nat) : ∀ lot, lot ∈ subsL xs ↔ lot.Sublist xs := by
  induction xs using snoc_ind with
  | h0 => intro lot; simp [subsL]
  | h1 xs x ih =>
    intro lot
    rw [subsL_snoc, List.mem_append, List.mem_map]
    constructor
    · rintro (h | ⟨l, h, rfl⟩)
      · exact ((ih lot).mp h).trans (List.sublist_append_left xs [x])
      · exact ((ih l).mp h).append (.refl _)
    · intro h
      obtain ⟨l1, l2, rfl, h1, h2⟩ := List.sublist_append_iff.mp h
      cases h2 with
      | cons _ h2 => cases h2; rw [List.append_nil]; exact .inl ((ih l1).mpr h1)
      | cons_cons _ h2 => cases h2; exact .inr ⟨l1, (ih l1).mpr h1, rfl⟩
/-- the lots of n points, in the order that sorted gives -/
theorem subsets_ok (g : GS) (items : List Nat) (hl : items.length ≤ 9) : f_subsets [tupN items] g = some (.list ((sortL (subsL items)).map tupN), g) := by
  have hL := sortL_ok (xs := subsL items) (by rw [subsL_len, lim_eq]; exact Nat.le_trans (Nat.pow_le_pow_right (by decide) hl) (by decide))
  generalize sortL (subsL items) = L at hL ⊢
  simp only [f_subsets, run_eq (show ([tupN items] : List D).length = 1 from rfl), bf_subsets]
  simp
  refine for_at (enc := nI) (xs := items) (P := fun r => fin r = some (.list (L.map tupN), g)) (R := fun i ρ g' => g' = g ∧ ∃ s2 s3 : Slot, ρ = [.v (tupN items), .l ((subsL (items.take i)).map tupN), s2, s3]) ?_ ?_ ?_
  · rintro i x hx ρ g' ⟨rfl, s2, s3, rfl⟩
    have hi := (List.getElem?_eq_some_iff.mp hx).1
    have ht : items.take (i + 1) = items.take i ++ [x] := by rw [List.take_add_one, hx]; rfl
    have hlen : (subsL (items.take i)).length ≤ 256 := by
      rw [subsL_len, List.length_take]
      exact Nat.le_trans (Nat.pow_le_pow_right (by decide) (show min i items.length ≤ 8 by omega)) (by decide)
    have hrow : ∀ l ∈ subsL (items.take i), l.length ≤ 9 := fun l h => by
      have := ((subsL_mem _ l).mp h).length_le
      rw [List.length_take] at this
      omega
    refine ⟨[.v (tupN items), .l ((subsL (items.take (i + 1))).map tupN), .v (nI x), s3], g', ?_, rfl, _, _, rfl⟩
    simp
    rw [lc_all (enc := tupN) (xs := subsL (items.take i)) (fun l => tupN (l ++ [x])) (s := .list ((subsL (items.take i)).map tupN))]
    · rw [ht, subsL_snoc]
      have : (subsL (items.take i)).length + (subsL (items.take i)).length ≤ 1000 := by omega
      simp [this]
    · simp
    · simp
    · rw [lim_eq]; omega
    · intro l hl'
      have := hrow l hl'
      have : l.length + 1 ≤ 1000 := by omega
      simp [this]
  · exact ⟨rfl, .un, .un, by simp [subsL]⟩
  · rintro ρ' g' ⟨rfl, s2, s3, rfl⟩
    rw [List.take_length]
    simp [hL]
/-- the lots of the points below n, sorted -/
noncomputable def lotsN (n : Nat) : List (List Nat) := sortL (subsL (List.range n))
theorem lotsN_mem {n : Nat} {lot : List Nat} : lot ∈ lotsN n ↔ lot.Sublist (List.range n) := by
  unfold lotsN
  rw [(sortL_perm _).mem_iff]
  exact subsL_mem _ lot
theorem lotsN_len (n : Nat) : (lotsN n).length = 2 ^ n := by
  unfold lotsN
  rw [(sortL_perm _).length_eq, subsL_len, List.length_range]
theorem lots_lt {n : Nat} {lot : List Nat} (h : lot ∈ lotsN n) : ∀ x ∈ lot, x < n := fun x hx => List.mem_range.mp ((lotsN_mem.mp h).subset hx)
theorem lots_inc {n : Nat} {lot : List Nat} (h : lot ∈ lotsN n) : lot.Pairwise (· < ·) := List.pairwise_lt_range.sublist (lotsN_mem.mp h)
theorem lots_len {n : Nat} {lot : List Nat} (h : lot ∈ lotsN n) : lot.length ≤ n := by
  have := (lotsN_mem.mp h).length_le
  rwa [List.length_range] at this
theorem lots_nil (n : Nat) : [] ∈ lotsN n := lotsN_mem.mpr (List.nil_sublist _)
theorem subsets_range (g : GS) {n : Nat} (hn : n ≤ 9) : f_subsets [tupN (List.range n)] g = some (.list ((lotsN n).map tupN), g) := subsets_ok g (List.range n) (by rw [List.length_range]; exact hn)
end Dv
end
section
set_option linter.all false
set_option maxRecDepth 100000
set_option autoImplicit false
set_option maxHeartbeats 4000000
/-! Pl4: the package's small helpers in plain words. -/
namespace Dv
open PySem L2
theorem common_ok (g : GS) (a b : List Nat) (h : a.length ≤ 1000) : f_common [tupN a, tupN b] g = some (tupN (a.filter (fun x => decide (x ∈ b))), g) := by
  simp only [f_common, run_eq (show ([tupN a, tupN b] : List D).length = 2 from rfl), bf_common]
  simp
  rw [lc_keep (enc := nI) (xs := a) (fun x => decide (x ∈ b)) (s := tupN a)]
  · simp
  · simp
  · simp
  · simp
  · rw [lim_eq]; omega
  · rfl
  · intro x _; simp
theorem inside_ok (g : GS) (a b : List Nat) (h : a.length ≤ 1000) : f_is_inside [tupN a, tupN b] g = some (.bool (a.all fun x => decide (x ∈ b)), g) := by
  simp only [f_is_inside, run_eq (show ([tupN a, tupN b] : List D).length = 2 from rfl), bf_is_inside]
  simp
  rw [lc_all (enc := nI) (xs := a) (fun x => .bool (decide (x ∈ b))) (s := tupN a)]
  · simp [bools_map, List.all_map]
  · simp
  · simp
  · rw [lim_eq]; omega
  · intro x _; simp
/-- the greatest of some numbers -/
def maxL : List Nat → Nat
  | [] => 0
  | x :: r => r.foldl Nat.max x
theorem maxDs_nI (x : Nat) (r : List Nat) : maxDs ((x :: r).map nI) = some (nI (maxL (x :: r))) := by
  have h := sortOk_nats (x :: r)
  rw [List.map_cons] at h
  show (if sortOk (nI x :: r.map nI) = true then some (PySem.W.maxD (nI x) (r.map nI)) else none) = _
  rw [if_pos h]
  congr 1
  have : ∀ (r : List Nat) (x : Nat), PySem.W.maxD (nI x) (r.map nI) = nI (r.foldl Nat.max x) := by
    intro r
    induction r with
    | nil => intro x; rfl
    | cons y r ih =>
      intro x
      have e : PySem.W.maxD (nI x) ((y :: r).map nI) = PySem.W.maxD (if PySem.W.dataLt (nI x) (nI y) = true then nI y else nI x) (r.map nI) := rfl
      rw [e, PySem.W.dataLt_int, List.foldl_cons]
      by_cases h : x < y
      · rw [if_pos (decide_eq_true (by omega)), ih, show Nat.max x y = y from Nat.max_eq_right (by omega)]
      · rw [if_neg (by simp; omega), ih, show Nat.max x y = x from Nat.max_eq_left (by omega)]
  exact this r x
theorem maxDs_ne {xs : List Nat} (h : xs ≠ []) : maxDs (xs.map nI) = some (nI (maxL xs)) := by
  cases xs with
  | nil => exact absurd rfl h
  | cons x r => exact maxDs_nI x r
def greatestL (fam : List (List Nat)) : List (List Nat) := fam.filter fun l => decide (l.length = maxL (fam.map List.length))
abbrev famT (fam : List (List Nat)) : D := .tuple (fam.map tupN)
theorem greatest_ok (g : GS) (fam : List (List Nat)) (h : fam.length ≤ 1000) (hne : fam ≠ []) : f_greatest [famT fam] g = some (famT (greatestL fam), g) := by
  simp only [f_greatest, run_eq (show ([famT fam] : List D).length = 1 from rfl), bf_greatest]
  simp
  rw [lc_all (enc := tupN) (xs := fam) (fun l => nI l.length) (s := famT fam)]
  · have hm : maxDs (fam.map fun l => nI l.length) = some (nI (maxL (fam.map List.length))) := by
      rw [show (fam.map fun l => nI l.length) = (fam.map List.length).map nI by rw [List.map_map]; rfl]
      exact maxDs_ne (by simpa using hne)
    simp [hm]
    rw [lc_keep (enc := tupN) (xs := fam) (fun l => decide (l.length = maxL (fam.map List.length))) (s := famT fam)]
    · simp [greatestL]
    · simp
    · simp
    · simp
    · rw [lim_eq]; omega
    · rfl
    · intro l _
      simp
      omega
  · simp
  · simp
  · rw [lim_eq]; omega
  · intro l _; simp
/-- tuple(range(n)) -/
theorem bfr_range {Φ : List Fn} {ρ : List Slot} {g : GS} {pk : Bool} {e : E} {n : Nat} (hn : n ≤ 1000) (he : ev Φ true e ρ g = some (.int (n : Int), g)) : ev Φ pk (.bfr true (.rng .no e)) ρ g = some (tupN (List.range n), g) := by
  rw [ev_bfr, ev_rng, ev_no, ob_some]
  simp only [he, ob_some, condE_no, rng_no, if_pos (rngOk_nat (n := n) (by omega)), rngL_nat, seqOf_list, List.length_map, List.length_range, lenOk_small hn, if_true]
theorem bfr_rangeL {Φ : List Fn} {ρ : List Slot} {g : GS} {pk : Bool} {e : E} {n : Nat} (hn : n ≤ 1000) (he : ev Φ true e ρ g = some (.int (n : Int), g)) : ev Φ pk (.bfr false (.rng .no e)) ρ g = some (.list ((List.range n).map nI), g) := by
  rw [ev_bfr, ev_rng, ev_no, ob_some]
  simp only [he, ob_some, condE_no, rng_no, if_pos (rngOk_nat (n := n) (by omega)), rngL_nat, seqOf_list, List.length_map, List.length_range, lenOk_small hn, Bool.false_eq_true, if_false]
/-- [p(x)? ..] as all -/
theorem all_items {α : Type} {Φ : List Fn} {ρ : List Slot} {g : GS} {pk : Bool} {el src : E} {i : Nat} {s : D} {enc : α → D} {xs : List α} (p : α → Bool) (hs : ev Φ true src ρ g = some (s, g)) (hi : itOf s = some (xs.map enc)) (hl : xs.length ≤ lim)
    (he : ∀ x ∈ xs, ev Φ false el ((ρ.set i .un).set i (.v (enc x))) g = some (.bool (p x), g)) : ev Φ pk (.bfn .all (.cons (.lc el (.n i) src .no) .nil)) ρ g = some (.bool (xs.all p), g) := by
  rw [ev_bfn, evs_cons, lc_all (enc := enc) (xs := xs) (fun x => .bool (p x)) hs hi hl he]
  simp [bools_map, List.all_map]
/-- a loop that keeps the items that a test holds for: for x in xs: if c: good.append(x) -/
theorem keep_loop {α : Type} {enc : α → D} {xs : List α} {p : α → Bool} {f : D → List Slot → GS → Ro} {st : List D → Slot → List Slot} {g : GS} {s0 : Slot} {k : List Slot → GS → Ro} {kp : Kp k} {P : Ro → Prop} (hl : xs.length ≤ 1000)
    (hf : ∀ x ∈ xs, ∀ (good : List D) (s : Slot), good.length + 1 ≤ 1000 → f (enc x) (st good s) g = some (.nx (st (if p x = true then good ++ [enc x] else good) (.v (enc x))), g))
    (h1 : ∀ s, P (k (st ((xs.filter p).map enc) s) g)) : P (sq (forL f (xs.map enc) (st [] s0) g) k kp) := by
  refine for_at (enc := enc) (xs := xs) (P := P) (R := fun i ρ g' => g' = g ∧ ∃ s, ρ = st (((xs.take i).filter p).map enc) s) ?_ ⟨rfl, s0, rfl⟩ ?_
  · rintro i x hx ρ g' ⟨rfl, s, rfl⟩
    have hi := (List.getElem?_eq_some_iff.mp hx).1
    have ht : xs.take (i + 1) = xs.take i ++ [x] := by rw [List.take_add_one, hx]; rfl
    have hlen : (((xs.take i).filter p).map enc).length + 1 ≤ 1000 := by
      rw [List.length_map]
      have := List.length_filter_le p (xs.take i)
      rw [List.length_take] at this
      omega
    refine ⟨_, _, hf x (List.mem_of_getElem? hx) _ s hlen, rfl, .v (enc x), ?_⟩
    rw [ht, List.filter_append, List.map_append]
    cases hp : p x
    · simp [hp]
    · simp [hp]
  · rintro ρ' g' ⟨rfl, s, rfl⟩
    rw [List.take_length]
    exact h1 s
theorem or_b {Φ : List Fn} {ρ : List Slot} {g : GS} {pk : Bool} {a b : E} {p q : Bool} (h1 : ev Φ true a ρ g = some (.bool p, g)) (h2 : p = false → ev Φ true b ρ g = some (.bool q, g)) : ev Φ pk (.or a b) ρ g = some (.bool (p || q), g) := by
  rw [ev_or, h1, ob_some]
  cases p with
  | true => simp
  | false => simp [h2 rfl]
theorem and_b {Φ : List Fn} {ρ : List Slot} {g : GS} {pk : Bool} {a b : E} {p q : Bool} (h1 : ev Φ true a ρ g = some (.bool p, g)) (h2 : p = true → ev Φ true b ρ g = some (.bool q, g)) : ev Φ pk (.and a b) ρ g = some (.bool (p && q), g) := by
  rw [ev_and, h1, ob_some]
  cases p with
  | false => simp
  | true => simp [h2 rfl]
/-- .. with a second name that each turn sets -/
theorem keep_loop2 {α : Type} {enc : α → D} {xs : List α} {p : α → Bool} {f : D → List Slot → GS → Ro} {st : List D → Slot → Slot → List Slot} {t : α → Slot} {g : GS} {s0 t0 : Slot} {k : List Slot → GS → Ro} {kp : Kp k} {P : Ro → Prop} (hl : xs.length ≤ 1000)
    (hf : ∀ x ∈ xs, ∀ (good : List D) (s t' : Slot), good.length + 1 ≤ 1000 → f (enc x) (st good s t') g = some (.nx (st (if p x = true then good ++ [enc x] else good) (.v (enc x)) (t x)), g))
    (h1 : ∀ s t', P (k (st ((xs.filter p).map enc) s t') g)) : P (sq (forL f (xs.map enc) (st [] s0 t0) g) k kp) := by
  refine for_at (enc := enc) (xs := xs) (P := P) (R := fun i ρ g' => g' = g ∧ ∃ s t', ρ = st (((xs.take i).filter p).map enc) s t') ?_ ⟨rfl, s0, t0, rfl⟩ ?_
  · rintro i x hx ρ g' ⟨rfl, s, t', rfl⟩
    have hi := (List.getElem?_eq_some_iff.mp hx).1
    have ht : xs.take (i + 1) = xs.take i ++ [x] := by rw [List.take_add_one, hx]; rfl
    have hlen : (((xs.take i).filter p).map enc).length + 1 ≤ 1000 := by
      rw [List.length_map]
      have := List.length_filter_le p (xs.take i)
      rw [List.length_take] at this
      omega
    refine ⟨_, _, hf x (List.mem_of_getElem? hx) _ s t' hlen, rfl, .v (enc x), t x, ?_⟩
    rw [ht, List.filter_append, List.map_append]
    cases hp : p x
    · simp [hp]
    · simp [hp]
  · rintro ρ' g' ⟨rfl, s, t', rfl⟩
    rw [List.take_length]
    exact h1 s t'
/-- a loop that returns at the first item that a test fails for -/
theorem find_loop {α : Type} {enc : α → D} {f : D → List Slot → GS → Ro} {st : Slot → List Slot} {g : GS} {p : α → Bool} {r : α → D} : ∀ {xs : List α} {s0 : Slot}, (∀ x ∈ xs, ∀ s, f (enc x) (st s) g = if p x = true then some (.nx (st (.v (enc x))), g) else some (.rt (r x), g)) →
    (xs.all p = true ∧ ∃ s, forL f (xs.map enc) (st s0) g = some (.nx (st s), g)) ∨ (xs.all p = false ∧ ∃ x ∈ xs, forL f (xs.map enc) (st s0) g = some (.rt (r x), g))
  | [], s0, _ => .inl ⟨rfl, s0, rfl⟩
  | x :: xs, s0, h => by
    have h1 := h x List.mem_cons_self s0
    cases hp : p x with
    | true =>
      rw [if_pos hp] at h1
      rcases find_loop (xs := xs) (s0 := .v (enc x)) fun y hy => h y (List.mem_cons_of_mem _ hy) with ⟨h2, s, h3⟩ | ⟨h2, y, hy, h3⟩
      · refine .inl ⟨by rw [List.all_cons, hp, h2]; rfl, s, ?_⟩
        rw [List.map_cons]
        simp only [forL, h1]
        exact h3
      · refine .inr ⟨by rw [List.all_cons, hp, h2]; rfl, y, List.mem_cons_of_mem _ hy, ?_⟩
        rw [List.map_cons]
        simp only [forL, h1]
        exact h3
    | false =>
      rw [if_neg (by rw [hp]; simp)] at h1
      refine .inr ⟨by rw [List.all_cons, hp]; rfl, x, List.mem_cons_self, ?_⟩
      rw [List.map_cons]
      simp only [forL, h1]
theorem find_then {α : Type} {enc : α → D} {f : D → List Slot → GS → Ro} {st : Slot → List Slot} {g : GS} {p : α → Bool} {r : α → D} {xs : List α} {s0 : Slot} {k : List Slot → GS → Ro} {kp : Kp k} {P : Ro → Prop} (h : ∀ x ∈ xs, ∀ s, f (enc x) (st s) g = if p x = true then some (.nx (st (.v (enc x))), g) else some (.rt (r x), g))
    (hA : xs.all p = true → ∀ s, P (k (st s) g)) (hB : xs.all p = false → ∀ x ∈ xs, P (some (.rt (r x), g))) : P (sq (forL f (xs.map enc) (st s0) g) k kp) := by
  rcases find_loop (s0 := s0) h with ⟨h1, s, h2⟩ | ⟨h1, x, hx, h2⟩
  · rw [h2]; exact hA h1 s
  · rw [h2]; exact hB h1 x hx
theorem maxDef_nI (xs : List Nat) : maxDef 0 (xs.map nI) = some (nI (maxL xs)) := by
  cases xs with
  | nil => rfl
  | cons x r => exact maxDs_nI x r
end Dv
end
section
set_option linter.all false
set_option maxRecDepth 100000
set_option autoImplicit false
set_option maxHeartbeats 4000000
/-! Pl5: the laws' own lots. -/
namespace Dv
open PySem L2
def bitsOf (n m : Nat) : List Nat := (List.range n).filter fun x => decide (m / 2 ^ x % 2 = 1)
def bitsL (n : Nat) : List (List Nat) := (List.range (2 ^ n)).map (bitsOf n)
theorem bit_fact (m x : Nat) : Builtin.bitAnd ((m : Int) / 2 ^ x) 1 = ((m / 2 ^ x % 2 : Nat) : Int) := by
  have e : ((m : Int) / 2 ^ x) = ((m / 2 ^ x : Nat) : Int) := by
    rw [Int.natCast_ediv, Int.natCast_pow]; rfl
  rw [e]
  generalize m / 2 ^ x = k
  have h : Builtin.bitAnd (k : Int) 1 = ((k &&& 1 : Nat) : Int) := by
    unfold Builtin.bitAnd
    rw [decide_eq_true (show (0 : Int) ≤ (k : Int) by omega), decide_eq_true (show (0 : Int) ≤ 1 by decide)]
    rfl
  rw [h, Nat.and_one_is_mod]
theorem bin_shr {i : Int} {k : Nat} : binD .RShift (.int i) (.int (k : Int)) = some (.int (i / 2 ^ k)) := by
  show (if 0 ≤ (k : Int) then some (PyData.int (i / 2 ^ (k : Int).toNat)) else none) = _
  rw [if_pos (by omega), Int.toNat_natCast]
theorem bin_shl1 {k : Nat} (hk : k ≤ 1000) : binD .LShift (.int 1) (.int (k : Int)) = some (.int (2 ^ k : Nat)) := by
  show (if powOk 1 k = true then some (PyData.int (1 * 2 ^ (k : Int).toNat)) else none) = _
  rw [if_pos, Int.toNat_natCast, Int.one_mul]
  · congr 2
  · unfold powOk
    simp
    omega
@[simp] theorem bin_and {i j : Int} : binD .BitAnd (.int i) (.int j) = some (.int (Builtin.bitAnd i j)) := Eq.trans rfl rfl
theorem law_lots_ok (g : GS) {n : Nat} (hn : n ≤ 7) : f_law_lots [nI n] g = some (.list ((sortL (bitsL n)).map tupN), g) := by
  have hb : (bitsL n).length = 2 ^ n := by unfold bitsL; rw [List.length_map, List.length_range]
  have h2 : 2 ^ n ≤ 128 := Nat.le_trans (Nat.pow_le_pow_right (by decide) hn) (by decide)
  have hL := sortL_ok (xs := bitsL n) (by rw [hb, lim_eq]; omega)
  obtain ⟨N, hN⟩ : ∃ N, N = 2 ^ n := ⟨_, rfl⟩
  have sh : binD .LShift (.int 1) (.int (n : Int)) = some (.int (N : Int)) := by rw [bin_shl1 (by omega), hN]
  have bl : bitsL n = (List.range N).map (bitsOf n) := by rw [hN]; rfl
  rw [← hN] at h2
  simp only [f_law_lots, run_eq (show ([nI n] : List D).length = 1 from rfl), bf_law_lots]
  have r0 : rngOk (N : Int) = true := rngOk_nat (by omega)
  have r1 : rngOk (n : Int) = true := rngOk_nat (by omega)
  simp [sh, r0, rngL_nat]
  refine for_at (enc := nI) (xs := List.range N) (P := fun r => fin r = some (.list ((sortL (bitsL n)).map tupN), g)) (R := fun i ρ g' => g' = g ∧ ∃ s2 : Slot, ρ = [.v (nI n), .l (((List.range i).map (bitsOf n)).map tupN), s2, .un]) ?_ ?_ ?_
  · rintro i x hx ρ g' ⟨rfl, s2, rfl⟩
    have hi : i < N := by have := (List.getElem?_eq_some_iff.mp hx).1; rwa [List.length_range] at this
    have hxi : x = i := by rw [List.getElem?_range hi] at hx; exact (Option.some.inj hx).symm
    subst hxi
    refine ⟨[.v (nI n), .l (((List.range (x + 1)).map (bitsOf n)).map tupN), .v (nI x), .un], g', ?_, rfl, _, rfl⟩
    simp
    rw [lc_keep (enc := nI) (xs := List.range n) (fun y => decide (x / 2 ^ y % 2 = 1)) (s := .list ((List.range n).map nI))]
    · have : x + 1 ≤ 1000 := by omega
      simp [this, List.range_succ, bitsOf]
    · simp
    · simp [r1, rngL_nat]
    · simp
    · rw [List.length_range, lim_eq]; omega
    · rfl
    · intro y hy
      obtain ⟨k, hk⟩ : ∃ k, k = x / 2 ^ y % 2 := ⟨_, rfl⟩
      have bf : Builtin.bitAnd ((x : Int) / 2 ^ y) 1 = (k : Int) := by rw [bit_fact, hk]
      rw [← hk]
      simp [bin_shr, bf]
      omega
  · exact ⟨rfl, .un, rfl⟩
  · rintro ρ' g' ⟨rfl, s2, rfl⟩
    rw [List.length_range, ← bl]
    simp [hL]
noncomputable def lawLots (n : Nat) : List (List Nat) := sortL (bitsL n)
theorem lawLots_mem {n : Nat} {lot : List Nat} (h : lot ∈ lawLots n) : lot.Sublist (List.range n) := by
  unfold lawLots at h
  rw [(sortL_perm _).mem_iff] at h
  obtain ⟨m, _, rfl⟩ := List.mem_map.mp h
  exact List.filter_sublist
theorem lawLots_of {n : Nat} {lot : List Nat} (h : lot ∈ bitsL n) : lot ∈ lawLots n := (sortL_perm _).mem_iff.mpr h
theorem bits_range : ∀ n < 8, ∀ s < n + 1, List.range s ∈ bitsL n := by decide +kernel
theorem law_of_size_ok (g : GS) {n : Nat} (hn : n ≤ 7) (s : Nat) : f_law_of_size [nI n, nI s] g = some (.list (((lawLots n).filter fun l => decide (l.length = s)).map tupN), g) := by
  have hl : (lawLots n).length ≤ 128 := by
    unfold lawLots bitsL
    rw [(sortL_perm _).length_eq, List.length_map, List.length_range]
    exact Nat.le_trans (Nat.pow_le_pow_right (by decide) hn) (by decide)
  simp only [f_law_of_size, run_eq (show ([nI n, nI s] : List D).length = 2 from rfl), bf_law_of_size]
  simp
  rw [lc_keep (enc := tupN) (xs := lawLots n) (fun l => decide (l.length = s)) (s := .list ((lawLots n).map tupN))]
  · simp
  · simp
  · simp [law_lots_ok g hn, lawLots]
  · simp
  · rw [lim_eq]; omega
  · rfl
  · intro l _
    simp
    omega
end Dv
end
section
set_option linter.all false
set_option maxRecDepth 100000
set_option autoImplicit false
set_option maxHeartbeats 4000000
/-! Pk91a: jobs, nests, lots in plain words. -/
namespace Dv
open PySem L2
theorem flat_lists {α : Type} (h : α → List D) : ∀ xs : List α, ((xs.map fun x => PyData.list (h x)).filterMap seqOf).flatten = xs.flatMap h
  | [] => rfl
  | x :: xs => by
    rw [List.map_cons, List.filterMap_cons, seqOf_list, List.flatMap_cons]
    show h x ++ _ = _
    rw [flat_lists h xs]
/-- [el for x in xs for y in ys] -/
theorem lc2_all {α β : Type} {Φ : List Fn} {ρ : List Slot} {g : GS} {pk : Bool} {el src src2 : E} {i j : Nat} {s s2 : D} {enc : α → D} {enc2 : β → D} {xs : List α} {ys : List β} (h : α → β → D) (hs : ev Φ true src ρ g = some (s, g)) (hi : itOf s = some (xs.map enc)) (hl : xs.length * ys.length ≤ lim) (hi2 : itOf s2 = some (ys.map enc2))
    (hs2 : ∀ x ∈ xs, ev Φ true src2 (((ρ.set j .un).set i .un).set i (.v (enc x))) g = some (s2, g))
    (he : ∀ x ∈ xs, ∀ y ∈ ys, ev Φ false el (((((ρ.set j .un).set i .un).set i (.v (enc x))).set j .un).set j (.v (enc2 y))) g = some (h x y, g)) :
    ev Φ pk (.lc2 el (.n i) src .no (.n j) src2 .no) ρ g = some (.list (xs.flatMap fun x => ys.map (h x)), g) := by
  simp only [ev, hs, hi, Option.bind_eq_bind, Option.bind_some, ixs_n, List.cons_append, List.nil_append, wipe_cons, wipe_nil, Tg.asg]
  rw [compL_items (enc := enc) (g := g) (fun _ => true) (fun x => .list (ys.map (h x)))]
  · rw [List.filter_eq_self.mpr (fun _ _ => rfl)]
    simp only [Option.bind_some]
    rw [flat_lists, lenOk_of]
    rw [List.length_flatMap]
    simp only [List.length_map]
    rw [List.map_const', List.sum_replicate_nat]
    exact hl
  · intro x hx
    simp only [Option.bind_some, condE_no, tst_no, if_true, hs2 x hx, hi2]
    rw [compL_items (enc := enc2) (g := g) (fun _ => true) (h x)]
    · rw [List.filter_eq_self.mpr (fun _ _ => rfl)]
      rfl
    · intro y hy
      simp only [Option.bind_some, condE_no, tst_no, if_true, he x hx y hy, Option.pure_def]
theorem bools_app : ∀ (a b : List D) (x y : List Bool), boolsOf a = some x → boolsOf b = some y → boolsOf (a ++ b) = some (x ++ y)
  | [], b, x, y, h1, h2 => by cases h1; exact h2
  | d :: a, b, x, y, h1, h2 => by
    cases d <;> simp only [boolsOf, reduceCtorEq] at h1
    obtain ⟨z, h3, rfl⟩ := Option.map_eq_some_iff.mp h1
    simp [boolsOf, bools_app a b z y h3 h2]
theorem bools_flat {α β : Type} (p : α → β → Bool) (ys : List β) : ∀ xs : List α, boolsOf (xs.flatMap fun x => ys.map fun y => PyData.bool (p x y)) = some (xs.flatMap fun x => ys.map (p x))
  | [] => rfl
  | x :: xs => by
    rw [List.flatMap_cons, List.flatMap_cons]
    exact bools_app _ _ _ _ (bools_map (p x) ys) (bools_flat p ys xs)
theorem nest_ok (g : GS) (lots : List (List Nat)) (hl : lots.length ≤ 100) (hs : ∀ l ∈ lots, l.length ≤ 1000) : f_is_nest [famT lots] g = some (.bool (lots.all fun a => lots.all fun b => decide ((a.filter fun x => decide (x ∈ b)).length = 0) || ((a.all fun x => decide (x ∈ b)) || (b.all fun x => decide (x ∈ a)))), g) := by
  simp only [f_is_nest, run_eq (show ([famT lots] : List D).length = 1 from rfl), bf_is_nest]
  simp
  rw [lc2_all (enc := tupN) (enc2 := tupN) (xs := lots) (ys := lots) (fun a b => .bool (decide ((a.filter fun x => decide (x ∈ b)).length = 0) || ((a.all fun x => decide (x ∈ b)) || (b.all fun x => decide (x ∈ a))))) (s := famT lots) (s2 := famT lots)]
  · simp [bools_flat, List.all_flatMap, List.all_map]
  · simp
  · simp
  · rw [lim_eq]
    have : lots.length * lots.length ≤ 100 * 100 := Nat.mul_le_mul hl hl
    omega
  · simp
  · intro x hx; simp
  · intro a ha b hb
    refine or_b ?_ fun _ => or_b ?_ fun _ => ?_
    · simp [common_ok g a b (hs a ha)]
    · simp [inside_ok g a b (hs a ha)]
    · simp [inside_ok g b a (hs b hb)]
/-- the lots that keep within the limits of the sets -/
def inLimits (lots : List (List Nat)) (limits : List Nat) (points : List Nat) : Bool := (List.range lots.length).all fun k => decide ((points.filter fun x => decide (x ∈ lots[k]?.getD [])).length ≤ limits[k]?.getD 0)
def isNestB (lots : List (List Nat)) : Bool := lots.all fun a => lots.all fun b => decide ((a.filter fun x => decide (x ∈ b)).length = 0) || ((a.all fun x => decide (x ∈ b)) || (b.all fun x => decide (x ∈ a)))
theorem of_nest_ok (g : GS) {n : Nat} (hn : n ≤ 8) (lots : List (List Nat)) (limits : List Nat) (hl : lots.length ≤ 100) (hlm : limits.length = lots.length) (hs : ∀ l ∈ lots, l.length ≤ 1000) (hne : isNestB lots = true) :
    f_of_nest [nI n, famT lots, tupN limits] g = some (.tuple [nI n, famT (greatestL ((lotsN n).filter (inLimits lots limits)))], g) := by
  simp only [f_of_nest, run_eq (show ([nI n, famT lots, tupN limits] : List D).length = 3 from rfl), bf_of_nest]
  have e1 := nest_ok g lots hl hs
  rw [show (lots.all fun a => lots.all fun b => decide ((a.filter fun x => decide (x ∈ b)).length = 0) || ((a.all fun x => decide (x ∈ b)) || (b.all fun x => decide (x ∈ a)))) = true from hne] at e1
  have r1 : rngOk (n : Int) = true := rngOk_nat (by omega)
  have r2 : n ≤ 1000 := by omega
  simp [e1, r1, r2, rngL_nat, subsets_range g (show n ≤ 9 by omega)]
  have hlen : (lotsN n).length ≤ 256 := by rw [lotsN_len]; exact Nat.le_trans (Nat.pow_le_pow_right (by decide) hn) (by decide)
  refine keep_loop (enc := tupN) (xs := lotsN n) (p := inLimits lots limits) (st := fun good s => [.v (nI n), .v (famT lots), .v (tupN limits), .l good, s, .un])
    (P := fun r => fin r = some (PyData.tuple [nI n, famT (greatestL (List.filter (inLimits lots limits) (lotsN n)))], g)) (by omega) ?_ ?_
  · intro points hp good s hg
    have hpl : points.length ≤ 1000 := by have := lots_len hp; omega
    simp
    rw [lc_all (enc := nI) (xs := List.range lots.length) (fun k => .bool (decide ((points.filter fun x => decide (x ∈ lots[k]?.getD [])).length ≤ limits[k]?.getD 0))) (s := .list ((List.range lots.length).map nI))]
    · have hg' : good.length + 1 ≤ 1000 := hg
      simp [bools_map]
      rw [show ((List.range lots.length).all fun x => decide ((List.filter (fun x_1 => decide (x_1 ∈ lots[x]?.getD [])) points).length ≤ limits[x]?.getD 0)) = inLimits lots limits points from rfl]
      cases inLimits lots limits points <;> simp [hg']
    · have r3 : rngOk (lots.length : Int) = true := rngOk_nat (by omega)
      simp [r3, rngL_nat]
    · simp
    · rw [List.length_range, lim_eq]; omega
    · intro k hk
      have hk := List.mem_range.mp hk
      have h1 : lots[k]? = some lots[k] := List.getElem?_eq_getElem hk
      have h2 : limits[k]? = some (limits[k]'(by omega)) := List.getElem?_eq_getElem (by omega)
      have a1 : atI (lots.map tupN) (k : Int) = some (tupN lots[k]) := atI_nat (by rw [List.getElem?_map, h1]; rfl)
      have a2 : atI (limits.map nI) (k : Int) = some (nI (limits[k]'(by omega))) := atI_nat (by rw [List.getElem?_map, h2]; rfl)
      simp [a1, a2, common_ok g points lots[k] hpl, h1, h2]
  · intro s
    have hne2 : (lotsN n).filter (inLimits lots limits) ≠ [] := fun z => by
      have : [] ∈ (lotsN n).filter (inLimits lots limits) := List.mem_filter.mpr ⟨lots_nil n, by unfold inLimits; simp⟩
      rw [z] at this
      simp at this
    have hfl : ((lotsN n).filter (inLimits lots limits)).length ≤ 1000 := Nat.le_trans (List.length_filter_le _ _) (by omega)
    simp [greatest_ok g _ hfl hne2]
/-- a lot of points is not crowded -/
def calm (days : List Nat) (points : List Nat) : Bool := (List.range (maxL days + 1)).all fun day => decide ((points.filter fun x => decide (days[x]?.getD 0 ≤ day)).length ≤ day)
theorem crowded_ok (g : GS) (days : List Nat) (points : List Nat) (hm : maxL days ≤ 100) (hp : ∀ x ∈ points, x < days.length) (hpl : points.length ≤ 1000) : ∃ d : D, f_crowded_day [tupN days, tupN points] g = some (d, g) ∧ isNoneD d = calm days points := by
  simp only [f_crowded_day, run_eq (show ([tupN days, tupN points] : List D).length = 2 from rfl), bf_crowded_day]
  have r1 : rngOk ((maxL days : Nat) + 1 : Int) = true := rngOk_nat (n := maxL days + 1) (by omega)
  have r2 : rngL 0 ((maxL days : Int) + 1) = (List.range (maxL days + 1)).map nI := rngL_nat (maxL days + 1)
  simp [maxDef_nI, r1, r2]
  refine find_then (enc := nI) (xs := List.range (maxL days + 1)) (st := fun s => [.v (tupN days), .v (tupN points), s, .un]) (r := nI) (p := fun day => decide ((points.filter fun x => decide (days[x]?.getD 0 ≤ day)).length ≤ day))
    (P := fun r => ∃ d : D, fin r = some (d, g) ∧ isNoneD d = calm days points) ?_ (fun h s => ⟨.none, by simp, h.symm⟩) fun h x hx => ⟨nI x, by simp, h.symm⟩
  · intro day hday s
    simp
    rw [lc_keep (enc := nI) (xs := points) (fun x => decide (days[x]?.getD 0 ≤ day)) (s := tupN points)]
    · simp
      by_cases h : (points.filter fun x => decide (days[x]?.getD 0 ≤ day)).length ≤ day
      · have h' : ¬ day < (points.filter fun x => decide (days[x]?.getD 0 ≤ day)).length := by omega
        simp [h, h']
      · have h' : day < (points.filter fun x => decide (days[x]?.getD 0 ≤ day)).length := by omega
        simp [h, h']
    · simp
    · simp
    · simp
    · rw [lim_eq]; omega
    · rfl
    · intro x hx
      have h1 : days[x]? = some (days[x]'(hp x hx)) := List.getElem?_eq_getElem (hp x hx)
      have a1 : atI (days.map nI) (x : Int) = some (nI (days[x]'(hp x hx))) := atI_nat (by rw [List.getElem?_map, h1]; rfl)
      simp [a1, h1]
theorem of_days_ok (g : GS) (days : List Nat) (hn : days.length ≤ 8) (hm : maxL days ≤ 100) : f_of_days [tupN days] g = some (.tuple [nI days.length, famT (greatestL ((lotsN days.length).filter (calm days)))], g) := by
  simp only [f_of_days, run_eq (show ([tupN days] : List D).length = 1 from rfl), bf_of_days]
  have r1 : rngOk (days.length : Int) = true := rngOk_nat (by omega)
  have r2 : days.length ≤ 1000 := by omega
  have hlen : (lotsN days.length).length ≤ 256 := by rw [lotsN_len]; exact Nat.le_trans (Nat.pow_le_pow_right (by decide) hn) (by decide)
  simp
  rw [lc_items (enc := tupN) (xs := lotsN days.length) (calm days) tupN (fun l => .bool (calm days l)) (s := .list ((lotsN days.length).map tupN))]
  · have hne2 : (lotsN days.length).filter (calm days) ≠ [] := fun z => by
      have : [] ∈ (lotsN days.length).filter (calm days) := List.mem_filter.mpr ⟨lots_nil _, by unfold calm; simp⟩
      rw [z] at this
      simp at this
    have hfl : ((lotsN days.length).filter (calm days)).length ≤ 1000 := Nat.le_trans (List.length_filter_le _ _) (by omega)
    simp [greatest_ok g _ hfl hne2]
  · simp [r1, r2, rngL_nat, subsets_range g (show days.length ≤ 9 by omega)]
  · simp
  · rw [lim_eq]; omega
  · intro l hl
    obtain ⟨d, h1, h2⟩ := crowded_ok g days l hm (lots_lt hl) (by have := lots_len hl; omega)
    refine ⟨?_, rfl⟩
    simp [h1, h2]
  · intro l hl _
    simp
end Dv
end
section
set_option linter.all false
set_option maxRecDepth 100000
set_option autoImplicit false
set_option maxHeartbeats 4000000
/-! Pk91b: lots, ladders in plain words. -/
namespace Dv
open PySem L2
def inLots (lots limits points : List Nat) : Bool := (List.range limits.length).all fun k => decide ((points.filter fun x => decide (lots[x]?.getD 0 = k)).length ≤ limits[k]?.getD 0)
theorem at_nI {xs : List Nat} {k : Nat} (h : k < xs.length) : atI (xs.map nI) (k : Int) = some (nI (xs[k]?.getD 0)) := by
  rw [List.getElem?_eq_getElem h]
  exact atI_nat (by rw [List.getElem?_map, List.getElem?_eq_getElem h]; rfl)
theorem of_lots_ok (g : GS) (lots limits : List Nat) (hn : lots.length ≤ 8) (hl : limits.length ≤ 100) : f_of_lots [tupN lots, tupN limits] g = some (.tuple [nI lots.length, famT (greatestL ((lotsN lots.length).filter (inLots lots limits)))], g) := by
  simp only [f_of_lots, run_eq (show ([tupN lots, tupN limits] : List D).length = 2 from rfl), bf_of_lots]
  have r1 : rngOk (lots.length : Int) = true := rngOk_nat (by omega)
  have r2 : lots.length ≤ 1000 := by omega
  have hlen : (lotsN lots.length).length ≤ 256 := by rw [lotsN_len]; exact Nat.le_trans (Nat.pow_le_pow_right (by decide) hn) (by decide)
  simp [r1, r2, rngL_nat, subsets_range g (show lots.length ≤ 9 by omega)]
  refine keep_loop (enc := tupN) (xs := lotsN lots.length) (p := inLots lots limits) (st := fun good s => [.v (tupN lots), .v (tupN limits), .v (nI lots.length), .l good, s, .un, .un])
    (P := fun r => fin r = some (PyData.tuple [nI lots.length, famT (greatestL (List.filter (inLots lots limits) (lotsN lots.length)))], g)) (by omega) ?_ ?_
  · intro points hp good s hg
    have hg' : good.length + 1 ≤ 1000 := hg
    have hpl : points.length ≤ 1000 := by have := lots_len hp; omega
    simp
    rw [lc_all (enc := nI) (xs := List.range limits.length) (fun k => .bool (decide ((points.filter fun x => decide (lots[x]?.getD 0 = k)).length ≤ limits[k]?.getD 0))) (s := .list ((List.range limits.length).map nI))]
    · simp [bools_map]
      rw [show ((List.range limits.length).all fun x => decide ((List.filter (fun x_1 => decide (lots[x_1]?.getD 0 = x)) points).length ≤ limits[x]?.getD 0)) = inLots lots limits points from rfl]
      cases inLots lots limits points <;> simp [hg']
    · have r3 : rngOk (limits.length : Int) = true := rngOk_nat (by omega)
      simp [r3, rngL_nat]
    · simp
    · rw [List.length_range, lim_eq]; omega
    · intro k hk
      have hk := List.mem_range.mp hk
      simp
      rw [lc_keep (enc := nI) (xs := points) (fun x => decide (lots[x]?.getD 0 = k)) (s := tupN points)]
      · simp [at_nI hk]
      · simp
      · simp
      · simp
      · rw [lim_eq]; omega
      · rfl
      · intro x hx
        simp [at_nI (lots_lt hp x hx)]
        omega
  · intro s
    have hne2 : (lotsN lots.length).filter (inLots lots limits) ≠ [] := fun z => by
      have : [] ∈ (lotsN lots.length).filter (inLots lots limits) := List.mem_filter.mpr ⟨lots_nil _, by unfold inLots; simp⟩
      rw [z] at this
      simp at this
    have hfl : ((lotsN lots.length).filter (inLots lots limits)).length ≤ 1000 := Nat.le_trans (List.length_filter_le _ _) (by omega)
    simp [greatest_ok g _ hfl hne2]
end Dv
end
section
set_option linter.all false
set_option maxRecDepth 100000
set_option autoImplicit false
set_option maxHeartbeats 4000000
/-! Pk91c: ladders in plain words. -/
namespace Dv
open PySem L2
theorem of_size_ok (g : GS) {n : Nat} (hn : n ≤ 8) (s : Nat) : f_of_size [tupN (List.range n), nI s] g = some (.list (((lotsN n).filter fun l => decide (l.length = s)).map tupN), g) := by
  have hl : (lotsN n).length ≤ 256 := by rw [lotsN_len]; exact Nat.le_trans (Nat.pow_le_pow_right (by decide) hn) (by decide)
  simp only [f_of_size, run_eq (show ([tupN (List.range n), nI s] : List D).length = 2 from rfl), bf_of_size]
  simp
  rw [lc_keep (enc := tupN) (xs := lotsN n) (fun l => decide (l.length = s)) (s := .list ((lotsN n).map tupN))]
  · simp
  · simp
  · simp [subsets_range g (show n ≤ 9 by omega)]
  · simp
  · rw [lim_eq]; omega
  · rfl
  · intro l _
    simp
    omega
def betw (low high lot : List Nat) : Bool := (List.range lot.length).all fun k => decide (low[k]?.getD 0 ≤ lot[k]?.getD 0) && decide (lot[k]?.getD 0 ≤ high[k]?.getD 0)
theorem between_ok (g : GS) (low high lot : List Nat) (h1 : lot.length ≤ low.length) (h2 : lot.length ≤ high.length) (hl : lot.length ≤ 1000) : f_is_between [tupN low, tupN high, tupN lot] g = some (.bool (betw low high lot), g) := by
  simp only [f_is_between, run_eq (show ([tupN low, tupN high, tupN lot] : List D).length = 3 from rfl), bf_is_between]
  simp
  rw [lc_all (enc := nI) (xs := List.range lot.length) (fun k => .bool (decide (low[k]?.getD 0 ≤ lot[k]?.getD 0) && decide (lot[k]?.getD 0 ≤ high[k]?.getD 0))) (s := .list ((List.range lot.length).map nI))]
  · simp [bools_map, betw]
  · have r : rngOk (lot.length : Int) = true := rngOk_nat (by omega)
    simp [r, rngL_nat]
  · simp
  · rw [List.length_range, lim_eq]; omega
  · intro k hk
    have hk := List.mem_range.mp hk
    have a1 := at_nI (xs := low) (show k < low.length by omega)
    have a2 := at_nI (xs := lot) hk
    have a3 := at_nI (xs := high) (show k < high.length by omega)
    simp only [List.set_cons_succ, List.set_cons_zero]
    simp [a1, a2, a3]
    by_cases h : low[k]?.getD 0 ≤ lot[k]?.getD 0
    · simp [h, a3]
    · simp [h]
theorem of_ladder_ok (g : GS) {n : Nat} (hn : n ≤ 8) (low high : List Nat) (h : high.length = low.length) : f_of_ladder [nI n, tupN low, tupN high] g = some (.tuple [nI n, famT (((lotsN n).filter fun l => decide (l.length = low.length)).filter (betw low high))], g) := by
  have hl : (lotsN n).length ≤ 256 := by rw [lotsN_len]; exact Nat.le_trans (Nat.pow_le_pow_right (by decide) hn) (by decide)
  have hl2 : ((lotsN n).filter fun l => decide (l.length = low.length)).length ≤ 256 := Nat.le_trans (List.length_filter_le _ _) hl
  simp only [f_of_ladder, run_eq (show ([nI n, tupN low, tupN high] : List D).length = 3 from rfl), bf_of_ladder]
  have r1 : rngOk (n : Int) = true := rngOk_nat (by omega)
  have r2 : n ≤ 1000 := by omega
  have r3 := of_size_ok g hn low.length
  simp [r1, r2, rngL_nat, r3]
  rw [lc_keep (enc := tupN) (xs := (lotsN n).filter fun l => decide (l.length = low.length)) (betw low high) (s := .list (((lotsN n).filter fun l => decide (l.length = low.length)).map tupN))]
  · simp
  · simp
  · simp
  · simp
  · rw [lim_eq]; omega
  · rfl
  · intro l hl
    obtain ⟨h1, h2⟩ := List.mem_filter.mp hl
    have h2 : l.length = low.length := of_decide_eq_true h2
    have := lots_len h1
    simp [between_ok g low high l (by omega) (by omega) (by omega)]
/-! ### of_limits: the dict of places -/
def idk (m : Nat) : List (D × D) := (List.range m).map fun k => (nI k, nI k)
theorem idk_snoc (m : Nat) : idk (m + 1) = idk m ++ [(nI m, nI m)] := by unfold idk; rw [List.range_succ, List.map_append]; rfl
theorem idk_look (m : Nat) (x : Nat) : lookK (idk m) (.inl (x : Int)) = if x < m then some (nI x) else none := by
  induction m with
  | zero => rfl
  | succ m ih =>
    rw [idk_snoc]
    unfold lookK at ih ⊢
    rw [List.find?_append]
    by_cases h : x < m
    · rw [if_pos h] at ih
      rw [if_pos (by omega)]
      obtain ⟨p, h1, h2⟩ := Option.map_eq_some_iff.mp ih
      rw [h1]
      exact congrArg some h2
    · rw [if_neg h] at ih
      have h1 := Option.map_eq_none_iff.mp ih
      rw [h1, Option.none_or]
      by_cases h2 : x = m
      · subst h2
        rw [if_pos (by omega)]
        simp [keyOf]
      · rw [if_neg (by omega)]
        have h3 : ¬ (m : Int) = (x : Int) := by omega
        simp [keyOf, h3]
theorem idk_puts (n : Nat) : ∀ (m : Nat), m ≤ n → putsD (idk (n - m)) ((List.range' (n - m) m).map fun k => PyData.tuple [nI k, nI k]) = some (idk n)
  | 0, _ => rfl
  | m + 1, h => by
    rw [List.range'_succ, List.map_cons]
    show (keyOf (nI (n - (m + 1)))).bind (fun k => putsD (putDK (idk (n - (m + 1))) k (nI (n - (m + 1)))) _) = _
    have e : putDK (idk (n - (m + 1))) (.inl ((n - (m + 1) : Nat) : Int)) (nI (n - (m + 1))) = idk (n - m) := by
      have hl : lookK (idk (n - (m + 1))) (.inl ((n - (m + 1) : Nat) : Int)) = none := by rw [idk_look, if_neg (Nat.lt_irrefl _)]
      unfold putDK
      rw [hl, show n - m = n - (m + 1) + 1 by omega, idk_snoc]
      rfl
    show putsD (putDK (idk (n - (m + 1))) (.inl ((n - (m + 1) : Nat) : Int)) (nI (n - (m + 1)))) _ = _
    rw [e, show n - (m + 1) + 1 = n - m by omega]
    exact idk_puts n m (by omega)
theorem idk_puts0 (n : Nat) : putsD [] ((List.range n).map fun k => PyData.tuple [nI k, nI k]) = some (idk n) := by
  have := idk_puts n n (Nat.le_refl _)
  rwa [Nat.sub_self, ← List.range_eq_range'] at this
theorem idk_idx {n x : Nat} (h : x < n) : idxD (.dict (idk n)) (.int (x : Int)) = some (nI x) := by
  have hk : dkD (.dict (idk n)) = some (idk n) := by
    show (if ((idk n).all fun p => (keyOf p.1).isSome) = true then some (idk n) else none) = _
    rw [if_pos]
    rw [List.all_eq_true]
    intro p hp
    obtain ⟨k, _, rfl⟩ := List.mem_map.mp hp
    rfl
  have hs : seqX (.dict (idk n)) = none := by
    unfold seqX
    split
    · rename_i ds e
      injection e with e
      unfold idk at e
      cases n with
      | zero => cases e
      | succ n =>
        rw [List.range_succ_eq_map, List.map_cons] at e
        injection e with e _
        injection e with e _
        cases e
    · rfl
  unfold idxD
  rw [hs]
  show (lookD (.dict (idk n)) (nI x)).bind id = _
  unfold lookD
  rw [hk]
  show (some (lookK (idk n) (.inl (x : Int)))).bind id = _
  rw [idk_look, if_pos h]
  rfl
theorem dcp_items {α : Type} {Φ : List Fn} {pk : Bool} {ρ : List Slot} {g : GS} {k v src : E} {i : Nat} {s : D} {enc : α → D} {xs : List α} (hk hv : α → D) {kvs : List (D × D)} (hs : ev Φ true src ρ g = some (s, g)) (hi : itOf s = some (xs.map enc)) (hl : xs.length ≤ lim)
    (h1 : ∀ x ∈ xs, ev Φ false k ((ρ.set i .un).set i (.v (enc x))) g = some (hk x, g)) (h2 : ∀ x ∈ xs, ev Φ false v ((ρ.set i .un).set i (.v (enc x))) g = some (hv x, g)) (hp : putsD [] (xs.map fun x => PyData.tuple [hk x, hv x]) = some kvs) :
    ev Φ pk (.dcp k v (.n i) src .no) ρ g = some (.dict kvs, g) := by
  simp only [ev, hs, hi, Option.bind_eq_bind, Option.bind_some, ixs_n, wipe_cons, wipe_nil, Tg.asg]
  rw [compL_items (enc := enc) (g := g) (fun _ => true) (fun x => .tuple [hk x, hv x])]
  · rw [List.filter_eq_self.mpr (fun _ _ => rfl)]
    simp only [Option.bind_some, hp]
    rw [lenOk_of]
    rw [List.length_map]; exact hl
  · intro x hx
    simp only [Option.bind_some, condE_no, tst_no, if_true, h1 x hx, h2 x hx, Option.pure_def]
def atMost (high lot : List Nat) : Bool := (List.range high.length).all fun k => decide (lot[k]?.getD 0 ≤ high[k]?.getD 0)
theorem of_limits_ok (g : GS) {n : Nat} (hn : n ≤ 8) (high : List Nat) (hh : high.Sublist (List.range n)) : f_of_limits [nI n, tupN (List.range n), tupN high] g = some (.tuple [nI n, famT (((lotsN n).filter fun l => decide (l.length = high.length)).filter (atMost high))], g) := by
  have hl : (lotsN n).length ≤ 256 := by rw [lotsN_len]; exact Nat.le_trans (Nat.pow_le_pow_right (by decide) hn) (by decide)
  have hl2 : ((lotsN n).filter fun l => decide (l.length = high.length)).length ≤ 256 := Nat.le_trans (List.length_filter_le _ _) hl
  have hhl : high.length ≤ n := by have := hh.length_le; rwa [List.length_range] at this
  have r1 : rngOk (n : Int) = true := rngOk_nat (by omega)
  have r2 : n ≤ 1000 := by omega
  simp only [f_of_limits, run_eq (show ([nI n, tupN (List.range n), tupN high] : List D).length = 3 from rfl), bf_of_limits]
  have hinc : ∀ l : List Nat, l.Sublist (List.range n) → l.Pairwise (· ≤ ·) := fun l h => ((List.pairwise_lt_range.sublist h).imp fun h => Nat.le_of_lt h)
  have hlt : ∀ l : List Nat, l.Sublist (List.range n) → ∀ x ∈ l, x < n := fun l h x hx => List.mem_range.mp (h.subset hx)
  simp [-List.filter_filter]
  rw [dcp_items (enc := nI) (xs := List.range n) nI nI (kvs := idk n) (s := .list ((List.range n).map nI))]
  · simp [-List.filter_filter]
    rw [lc_all (enc := nI) (xs := high) nI (s := tupN high)]
    · simp [-List.filter_filter, sort_nats (xs := high) (by rw [lim_eq]; omega) (hinc high hh), r1, r2, rngL_nat, of_size_ok g hn high.length]
      refine keep_loop2 (enc := tupN) (xs := (lotsN n).filter fun l => decide (l.length = high.length)) (p := atMost high) (st := fun good s t => [.v (nI n), .v (tupN (List.range n)), .v (tupN high), .v (.dict (idk n)), .v (.list (high.map nI)), .l good, s, t, .un, .un]) (t := fun l => .v (.list (l.map nI)))
        (P := fun r => fin r = some (PyData.tuple [nI n, famT (((lotsN n).filter fun l => decide (l.length = high.length)).filter (atMost high))], g)) (by omega) ?_ ?_
      · intro l hl good s t hg
        have hg' : good.length + 1 ≤ 1000 := hg
        obtain ⟨m1, m2⟩ := List.mem_filter.mp hl
        have m2 : l.length = high.length := of_decide_eq_true m2
        have m3 := lotsN_mem.mp m1
        simp
        rw [lc_all (enc := nI) (xs := l) nI (s := tupN l)]
        · simp [sort_nats (xs := l) (by rw [lim_eq]; omega) (hinc l m3)]
          rw [lc_all (enc := nI) (xs := List.range high.length) (fun k => .bool (decide (l[k]?.getD 0 ≤ high[k]?.getD 0))) (s := .list ((List.range high.length).map nI))]
          · simp [bools_map]
            rw [show ((List.range high.length).all fun x => decide (l[x]?.getD 0 ≤ high[x]?.getD 0)) = atMost high l from rfl]
            cases atMost high l <;> simp [hg']
          · have r : rngOk (high.length : Int) = true := rngOk_nat (by omega)
            simp [r, rngL_nat]
          · simp
          · rw [List.length_range, lim_eq]; omega
          · intro k hk
            have hk := List.mem_range.mp hk
            have a1 := at_nI (xs := l) (show k < l.length by omega)
            have a2 := at_nI (xs := high) hk
            simp [a1, a2]
        · simp
        · simp
        · rw [lim_eq]; omega
        · intro x hx
          simp [idk_idx (hlt l m3 x hx)]
      · intro s t
        simp [-List.filter_filter]
    · simp
    · simp
    · rw [lim_eq]; omega
    · intro x hx
      simp [idk_idx (hlt high hh x hx)]
  · simp [r1, rngL_nat]
  · simp
  · rw [List.length_range, lim_eq]; omega
  · intro x hx
    have hx := List.mem_range.mp hx
    have a1 := at_nI (xs := List.range n) (show x < (List.range n).length by rw [List.length_range]; exact hx)
    rw [List.getElem?_range hx] at a1
    simp at a1
    simp [a1]
  · intro x hx
    simp
  · exact idk_puts0 n
end Dv
end
section
set_option linter.all false
set_option maxRecDepth 100000
set_option autoImplicit false
set_option maxHeartbeats 4000000
/-! Pk91d: the laws' mathematics: jobs and nests. -/
namespace Dv
open PySem L2
def nestL (days : List Nat) (n m : Nat) : List (List Nat) := (List.range m).map fun d => (List.range n).filter fun x => decide (days[x]?.getD 0 ≤ d)
def classL (lots : List Nat) (n m : Nat) : List (List Nat) := (List.range m).map fun k => (List.range n).filter fun x => decide (lots[x]?.getD 0 = k)
theorem nest_is (days : List Nat) (n m : Nat) : isNestB (nestL days n m) = true := by
  unfold isNestB nestL
  rw [List.all_eq_true]
  intro a ha
  rw [List.all_eq_true]
  intro b hb
  obtain ⟨d, _, rfl⟩ := List.mem_map.mp ha
  obtain ⟨e, _, rfl⟩ := List.mem_map.mp hb
  simp only [Bool.or_eq_true, List.all_eq_true, decide_eq_true_eq, List.mem_filter]
  rcases Nat.le_total d e with h | h
  · exact .inr (.inl fun x hx => ⟨hx.1, Nat.le_trans hx.2 h⟩)
  · exact .inr (.inr fun x hx => ⟨hx.1, Nat.le_trans hx.2 h⟩)
theorem class_is (lots : List Nat) (n m : Nat) : isNestB (classL lots n m) = true := by
  unfold isNestB classL
  rw [List.all_eq_true]
  intro a ha
  rw [List.all_eq_true]
  intro b hb
  obtain ⟨d, _, rfl⟩ := List.mem_map.mp ha
  obtain ⟨e, _, rfl⟩ := List.mem_map.mp hb
  simp only [Bool.or_eq_true, List.all_eq_true, decide_eq_true_eq, List.mem_filter]
  by_cases h : d = e
  · subst h
    exact .inr (.inl fun x hx => hx)
  · refine .inl ?_
    rw [List.length_eq_zero_iff, List.filter_eq_nil_iff]
    intro x hx z
    simp only [List.mem_filter, decide_eq_true_eq] at hx z
    omega
theorem nest_at {days : List Nat} {n m k : Nat} (h : k < m) : (nestL days n m)[k]? = some ((List.range n).filter fun x => decide (days[x]?.getD 0 ≤ k)) := by
  unfold nestL
  rw [List.getElem?_map, List.getElem?_range h]; rfl
theorem class_at {lots : List Nat} {n m k : Nat} (h : k < m) : (classL lots n m)[k]? = some ((List.range n).filter fun x => decide (lots[x]?.getD 0 = k)) := by
  unfold classL
  rw [List.getElem?_map, List.getElem?_range h]; rfl
theorem filter_in {n : Nat} {points : List Nat} (hp : ∀ x ∈ points, x < n) (q : Nat → Bool) : (points.filter fun x => decide (x ∈ (List.range n).filter q)) = points.filter q := by
  refine List.filter_congr fun x hx => ?_
  have := hp x hx
  by_cases h : q x = true
  · rw [h]; exact decide_eq_true (List.mem_filter.mpr ⟨List.mem_range.mpr this, h⟩)
  · rw [Bool.not_eq_true] at h
    rw [h]
    exact decide_eq_false fun z => by
      have := (List.mem_filter.mp z).2
      rw [h] at this; cases this
theorem maxL_ge : ∀ {xs : List Nat} {x : Nat}, x ∈ xs → x ≤ maxL xs := by
  have key : ∀ (r : List Nat) (a : Nat), a ≤ r.foldl Nat.max a ∧ ∀ x ∈ r, x ≤ r.foldl Nat.max a := by
    intro r
    induction r with
    | nil => intro a; exact ⟨Nat.le_refl _, fun x hx => absurd hx (by simp)⟩
    | cons y r ih =>
      intro a
      rw [List.foldl_cons]
      obtain ⟨h1, h2⟩ := ih (Nat.max a y)
      refine ⟨Nat.le_trans (Nat.le_max_left a y) h1, fun x hx => ?_⟩
      rcases List.mem_cons.mp hx with rfl | hx
      · exact Nat.le_trans (Nat.le_max_right a x) h1
      · exact h2 x hx
  intro xs x hx
  cases xs with
  | nil => exact absurd hx (by simp)
  | cons y r =>
    rcases List.mem_cons.mp hx with rfl | hx
    · exact (key r x).1
    · exact (key r y).2 x hx
theorem maxL_le {xs : List Nat} {m : Nat} (h : ∀ x ∈ xs, x ≤ m) : maxL xs ≤ m := by
  have key : ∀ (r : List Nat) (a : Nat), a ≤ m → (∀ x ∈ r, x ≤ m) → r.foldl Nat.max a ≤ m := by
    intro r
    induction r with
    | nil => intro a ha _; exact ha
    | cons y r ih =>
      intro a ha hr
      rw [List.foldl_cons]
      exact ih _ (Nat.max_le.mpr ⟨ha, hr y List.mem_cons_self⟩) fun x hx => hr x (List.mem_cons_of_mem _ hx)
  cases xs with
  | nil => exact Nat.zero_le _
  | cons y r => exact key r y (h y List.mem_cons_self) fun x hx => h x (List.mem_cons_of_mem _ hx)
/-- deadlines: a nest of sets -/
theorem jobs_eq (days : List Nat) (m : Nat) (hm : ∀ x ∈ days, x < m) {points : List Nat} (hp : points ∈ lotsN days.length) : inLimits (nestL days days.length m) (List.range m) points = calm days points := by
  have e : inLimits (nestL days days.length m) (List.range m) points = (List.range m).all fun d => decide ((points.filter fun x => decide (days[x]?.getD 0 ≤ d)).length ≤ d) := by
    unfold inLimits
    rw [show (nestL days days.length m).length = m by unfold nestL; rw [List.length_map, List.length_range]]
    rw [Bool.eq_iff_iff, List.all_eq_true, List.all_eq_true]
    refine forall_congr' fun d => forall_congr' fun hd => ?_
    have hd := List.mem_range.mp hd
    rw [nest_at hd, List.getElem?_range hd]
    have q : (points.filter fun x => decide (x ∈ (List.range days.length).filter fun x => decide (days[x]?.getD 0 ≤ d))).length = (points.filter fun x => decide (days[x]?.getD 0 ≤ d)).length := congrArg List.length (filter_in (lots_lt hp) _)
    show (decide ((points.filter fun x => decide (x ∈ (List.range days.length).filter fun x => decide (days[x]?.getD 0 ≤ d))).length ≤ d) = true) ↔ _
    rw [decide_eq_true_eq, decide_eq_true_eq, q]
  rw [e]
  unfold calm
  rw [Bool.eq_iff_iff, List.all_eq_true, List.all_eq_true]
  simp only [List.mem_range, decide_eq_true_eq]
  have full : ∀ d, maxL days ≤ d → (points.filter fun x => decide (days[x]?.getD 0 ≤ d)) = points := fun d hd => by
    rw [List.filter_eq_self]
    intro x hx
    have := lots_lt hp x hx
    rw [List.getElem?_eq_getElem this]
    exact decide_eq_true (Nat.le_trans (maxL_ge (List.getElem_mem this)) hd)
  constructor
  · intro h d hd
    by_cases hdm : d < m
    · exact h d hdm
    · -- no day so late: no points at all, or m is beyond
      have h0 : days = [] := by
        cases days with
        | nil => rfl
        | cons y r =>
          have : maxL (y :: r) ≤ m - 1 := maxL_le fun x hx => by have := hm x hx; omega
          have := hm y List.mem_cons_self
          omega
      subst h0
      have := lots_len hp
      have h1 : points = [] := List.eq_nil_of_length_eq_zero (by simpa using this)
      subst h1
      simp
  · intro h d hd
    by_cases hdm : d < maxL days + 1
    · exact h d hdm
    · have h1 := h (maxL days) (by omega)
      rw [full _ (Nat.le_refl _)] at h1
      rw [full d (by omega)]
      omega
/-- lots: a nest of classes -/
theorem lots_eq (lots limits : List Nat) {points : List Nat} (hp : points ∈ lotsN lots.length) : inLimits (classL lots lots.length limits.length) limits points = inLots lots limits points := by
  unfold inLimits inLots
  rw [show (classL lots lots.length limits.length).length = limits.length by unfold classL; rw [List.length_map, List.length_range]]
  rw [Bool.eq_iff_iff, List.all_eq_true, List.all_eq_true]
  refine forall_congr' fun d => forall_congr' fun hd => ?_
  have hd := List.mem_range.mp hd
  rw [class_at hd]
  have q : (points.filter fun x => decide (x ∈ (List.range lots.length).filter fun x => decide (lots[x]?.getD 0 = d))).length = (points.filter fun x => decide (lots[x]?.getD 0 = d)).length := congrArg List.length (filter_in (lots_lt hp) _)
  show (decide ((points.filter fun x => decide (x ∈ (List.range lots.length).filter fun x => decide (lots[x]?.getD 0 = d))).length ≤ limits[d]?.getD 0) = true) ↔ _
  rw [decide_eq_true_eq, decide_eq_true_eq, q]
/-- the least set bounds nothing -/
theorem ladder_eq {n : Nat} {high lot : List Nat} (h : lot.Sublist (List.range n)) (hl : lot.length = high.length) : betw (List.range high.length) high lot = atMost high lot := by
  have inc : ∀ k, ∀ (h : k < lot.length), k ≤ lot[k] := by
    have hp : lot.Pairwise (· < ·) := List.pairwise_lt_range.sublist h
    intro k
    induction k with
    | zero => intro h; exact Nat.zero_le _
    | succ k ih =>
      intro hk
      have h1 := ih (by omega)
      have h2 := List.pairwise_iff_getElem.mp hp k (k + 1) (by omega) hk (by omega)
      omega
  unfold betw atMost
  rw [hl, Bool.eq_iff_iff, List.all_eq_true, List.all_eq_true]
  refine forall_congr' fun k => forall_congr' fun hk => ?_
  have hk := List.mem_range.mp hk
  have h1 : lot[k]? = some (lot[k]'(by omega)) := List.getElem?_eq_getElem (by omega)
  rw [List.getElem?_range hk, h1]
  simp only [Option.getD_some, Bool.and_eq_true, decide_eq_true_eq]
  exact ⟨fun h => h.2, fun h => ⟨inc k (by omega), h⟩⟩
end Dv
end
section
set_option linter.all false
set_option maxRecDepth 100000
set_option autoImplicit false
set_option maxHeartbeats 4000000
/-! Pl6: comprehensions that draw. -/
namespace Dv
open PySem L2
theorem compL_draw {α β : Type} {enc : α → D} {enc' : β → D} {f : D → GS → Option (Option D × GS)} {Q : β → Prop} {c b : Nat} : ∀ {xs : List α}, (∀ x ∈ xs, ∀ b g, Good (b + c) g → ∃ y g', Q y ∧ f (enc x) g = some (some (enc' y), g') ∧ Good b g') → ∀ {g : GS}, Good (b + xs.length * c) g →
    ∃ (ys : List β) (g' : GS), ys.length = xs.length ∧ (∀ y ∈ ys, Q y) ∧ compL f (xs.map enc) g = some (ys.map enc', g') ∧ Good b g'
  | [], _, g, h => ⟨[], g, rfl, fun _ z => absurd z (by simp), rfl, by simpa using h⟩
  | x :: xs, hf, g, h => by
    obtain ⟨y, g1, q, e1, G1⟩ := hf x List.mem_cons_self (b + xs.length * c) g (by
      rw [List.length_cons, Nat.add_mul, Nat.one_mul, ← Nat.add_assoc] at h; exact h)
    obtain ⟨ys, g2, hl, hq, e2, G2⟩ := compL_draw (xs := xs) (fun z hz => hf z (List.mem_cons_of_mem _ hz)) G1
    refine ⟨y :: ys, g2, by rw [List.length_cons, List.length_cons, hl], fun z hz => ?_, ?_, G2⟩
    · rcases List.mem_cons.mp hz with rfl | hz
      · exact q
      · exact hq z hz
    · simp only [List.map_cons, compL, e1, e2, Option.bind_eq_bind, Option.bind_some, Option.pure_def]
variable {Φ : List Fn} {pk : Bool} {ρ : List Slot}
/-- [el for x in src], where el draws -/
theorem lc_draw {α β : Type} {el : E} {i : Nat} {src : E} {s : D} {enc : α → D} {enc' : β → D} {Q : β → Prop} {xs : List α} {g : GS} (c b : Nat) (G : Good (b + xs.length * c) g) (hs : ev Φ true src ρ g = some (s, g)) (hi : itOf s = some (xs.map enc)) (hl : xs.length ≤ lim)
    (he : ∀ x ∈ xs, ∀ b g, Good (b + c) g → ∃ y g', Q y ∧ ev Φ false el ((ρ.set i .un).set i (.v (enc x))) g = some (enc' y, g') ∧ Good b g') :
    ∃ (ys : List β) (g' : GS), ys.length = xs.length ∧ (∀ y ∈ ys, Q y) ∧ ev Φ pk (.lc el (.n i) src .no) ρ g = some (.list (ys.map enc'), g') ∧ Good b g' := by
  simp only [ev, hs, hi, Option.bind_eq_bind, Option.bind_some, ixs_n, wipe_cons, wipe_nil, Tg.asg, condE_no, tst_no, if_true, Option.pure_def]
  obtain ⟨ys, g', h1, h2, h3, h4⟩ := compL_draw (f := fun d g => (ev Φ false el ((ρ.set i .un).set i (.v d)) g).bind fun x => some (some x.1, x.2)) (enc := enc) (enc' := enc') (Q := Q) (c := c) (b := b) (xs := xs) (fun x hx b g G => by
    obtain ⟨y, g', q, e, G'⟩ := he x hx b g G
    exact ⟨y, g', q, by rw [e]; rfl, G'⟩) G
  refine ⟨ys, g', h1, h2, ?_, h4⟩
  rw [show compL (fun d g => (ev Φ false el ((ρ.set i .un).set i (.v d)) g).bind fun x => some (some x.1, x.2)) (xs.map enc) g = some (ys.map enc', g') from h3]
  simp only [Option.bind_some]
  rw [lenOk_of]
  rw [List.length_map, h1]; exact hl
theorem ev_pick {k i : Nat} {m : Nat} {e : E} {g : GS} {b : Nat} (hk : Φ[k]? = some pick) (hi : ρ[i]? = some (.v poolD)) (he : ev Φ false e ρ g = some (.int (m : Int), g)) (hm : 0 < m) (G : Good (b + 1) g) : ∃ (r : Nat) (g' : GS), r < m ∧ ev Φ pk (.call k (.cons (.var i) (.cons e .nil))) ρ g = some (nI r, g') ∧ Good b g' := by
  obtain ⟨r, g', h1, h2, h3⟩ := pick_ok G hm
  refine ⟨r, g', h1, ?_, h3⟩
  simp [hi, he, hk, h2]
end Dv
end
section
set_option linter.all false
set_option maxRecDepth 100000
set_option autoImplicit false
set_option maxHeartbeats 4000000
/-! Pk91e: the law of k91. -/
namespace Dv.K91
open PySem L2 Dv
abbrev Φ0 : List Fn := f_law_pool :: Φ_law
theorem pln_fam {fam : List (List Nat)} (h : fam.length ≤ 1000) (hl : ∀ l ∈ fam, l.length ≤ 1000) : Pln 2 (famT fam) := by
  refine .tuple 1 (by rw [List.length_map, lim_eq]; omega) fun x hx => ?_
  obtain ⟨l, h1, rfl⟩ := List.mem_map.mp hx
  exact pln_tupN (by rw [lim_eq]; have := hl l h1; omega)
theorem pln_pair (n : Nat) {fam : List (List Nat)} (h : fam.length ≤ 1000) (hl : ∀ l ∈ fam, l.length ≤ 1000) : Pln 3 (.tuple [nI n, famT fam]) := by
  refine .tuple 2 (by rw [lim_eq]; show 2 ≤ 1000000; decide) fun x hx => ?_
  simp only [List.mem_cons, List.not_mem_nil, or_false] at hx
  rcases hx with rfl | rfl
  · exact Pln.int _ _
  · exact pln_fam h hl
theorem runs : LawRuns f_law_pool Φ0 14 bf_law := by
  intro ns _
  obtain ⟨rows, hp, h1, h2⟩ := pool_ok ns
  have G0 : Good 1000 ⟨some (rows, 0)⟩ := good_start (by omega) h2 (by decide)
  suffices h : ∃ g', ex Φ0 bf_law (ρ0 14) ⟨some (rows, 0)⟩ = some (.rt (.bool true), g') by
    obtain ⟨g', h⟩ := h
    exact ⟨rows, g', hp, h1, h⟩
  generalize (⟨some (rows, 0)⟩ : GS) = g0 at G0
  simp only [bf_law, ρ0, List.replicate, List.set]
  obtain ⟨r, g1, hr, e1, G1⟩ := pick_ok (b := 999) G0 (m := 6) (by decide)
  change pick [poolD, .int 6] g0 = _ at e1
  simp [Φ0, Φ_law, e1]
  generalize hn : 1 + r = n
  rw [show (1 : Int) + (r : Int) = ((n : Nat) : Int) by omega]
  have hn1 : 1 ≤ n := by omega
  have hn2 : n ≤ 6 := by omega
  have r1 : rngOk (n : Int) = true := rngOk_nat (by omega)
  have r2 : n ≤ 1000 := by omega
  have r3 : rngOk 7 = true := by decide
  have r4 : rngL 0 7 = (List.range 7).map nI := rngL_nat 7
  have r5 : rngOk 3 = true := by decide
  have r6 : rngL 0 3 = (List.range 3).map nI := rngL_nat 3
  obtain ⟨days, g2, hdl, hd, e2, G2⟩ := lc_draw (Φ := Φ0) (pk := true) (ρ := [.un, .v poolD, .v (nI n), .un, .un, .un, .un, .un, .un, .un, .un, .un, .un, .un]) (el := .call 1 (.cons (.var 1) (.cons (.int 7) .nil))) (i := 11) (src := .rng .no (.var 2)) (g := g1) (enc := nI) (enc' := nI) (Q := fun x => x < 7) (xs := List.range n) (s := .list ((List.range n).map nI)) 1 900
    (G1.less (by rw [List.length_range]; omega)) (by simp [r1, rngL_nat]) (by simp) (by rw [List.length_range, lim_eq]; omega) (fun x hx b g G => ev_pick (by rfl) (by rfl) (by simp) (by decide) G)
  rw [List.length_range] at hdl
  simp [Φ0, Φ_law] at e2
  simp [e2]
  rw [lc_all (enc := nI) (xs := List.range 7) (s := .list ((List.range 7).map nI)) (h := fun d => tupN ((List.range n).filter fun x => decide (days[x]?.getD 0 ≤ d)))]
  rotate_left
  · simp [r3, r4]
  · simp
  · rw [List.length_range, lim_eq]; decide
  · intro d hd
    simp
    rw [lc_keep (enc := nI) (xs := List.range n) (s := .list ((List.range n).map nI)) (fun x => decide (days[x]?.getD 0 ≤ d))]
    · simp
    · simp
    · simp [r1, rngL_nat]
    · simp
    · rw [List.length_range, lim_eq]; omega
    · rfl
    · intro x hx
      simp [at_nI (xs := days) (k := x) (by have := List.mem_range.mp hx; omega)]
  simp
  rw [show (PyData.tuple ((List.range 7).map fun d => tupN ((List.range n).filter fun x => decide (days[x]?.getD 0 ≤ d)))) = famT (nestL days n 7) by unfold famT nestL; rw [List.map_map]; rfl]
  have nl : (nestL days n 7).length = 7 := by unfold nestL; rw [List.length_map, List.length_range]
  have nsl : ∀ l ∈ nestL days n 7, l.length ≤ 1000 := fun l hl => by
    obtain ⟨d, _, rfl⟩ := List.mem_map.mp hl
    exact Nat.le_trans (List.length_filter_le _ _) (by rw [List.length_range]; omega)
  have n1 := nest_ok g2 (nestL days n 7) (by omega) nsl
  rw [show ((nestL days n 7).all fun a => (nestL days n 7).all fun b => decide ((a.filter fun x => decide (x ∈ b)).length = 0) || ((a.all fun x => decide (x ∈ b)) || (b.all fun x => decide (x ∈ a)))) = true from nest_is days n 7] at n1
  have n2 := of_nest_ok g2 (n := n) (by omega) (nestL days n 7) (List.range 7) (by omega) (by rw [nl, List.length_range]) nsl (nest_is days n 7)
  have fe : (lotsN n).filter (inLimits (nestL days n 7) (List.range 7)) = (lotsN n).filter (calm days) := List.filter_congr fun points hp => by have := jobs_eq days 7 hd (points := points); rw [hdl] at this; exact this hp
  rw [fe] at n2
  have n3 := of_days_ok g2 days (by omega) (Nat.le_trans (maxL_le (m := 6) fun x hx => by have := hd x hx; omega) (by decide))
  rw [hdl] at n3
  have bl : ∀ p : List Nat → Bool, ((lotsN n).filter p).length ≤ 1000 := fun p => Nat.le_trans (List.length_filter_le _ _) (by rw [lotsN_len]; exact Nat.le_trans (Nat.pow_le_pow_right (by decide) hn2) (by decide))
  have bll : ∀ p : List Nat → Bool, ∀ l ∈ (lotsN n).filter p, l.length ≤ 1000 := fun p l hl => by have := lots_len (List.mem_filter.mp hl).1; omega
  have n4 := fun g => equal_refl g (pln_pair n (fam := greatestL ((lotsN n).filter (calm days))) (Nat.le_trans (List.length_filter_le _ _) (bl _)) fun l hl => bll _ l (List.mem_filter.mp hl).1) (by decide) 12 (by decide)
  simp [n1, n2, n3, n4, r3, r4]
  obtain ⟨lots, g3, hll, hlt, e3, G3⟩ := lc_draw (Φ := Φ0) (pk := true) (ρ := [.un, .v poolD, .v (nI n), .v (tupN days), .v (famT (nestL days n 7)), .un, .un, .un, .un, .un, .un, .un, .un, .un]) (el := .call 1 (.cons (.var 1) (.cons (.int 3) .nil))) (i := 11) (src := .rng .no (.var 2)) (g := g2) (enc := nI) (enc' := nI) (Q := fun x => x < 3) (xs := List.range n) (s := .list ((List.range n).map nI)) 1 800
    (G2.less (by rw [List.length_range]; omega)) (by simp [r1, rngL_nat]) (by simp) (by rw [List.length_range, lim_eq]; omega) (fun x hx b g G => ev_pick (by rfl) (by rfl) (by simp) (by decide) G)
  rw [List.length_range] at hll
  simp [Φ0, Φ_law] at e3
  simp [e3]
  obtain ⟨lims, g4, hml, hmt, e4, G4⟩ := lc_draw (Φ := Φ0) (pk := true) (ρ := [.un, .v poolD, .v (nI n), .v (tupN days), .v (famT (nestL days n 7)), .v (tupN lots), .un, .un, .un, .un, .un, .un, .un, .un]) (el := .call 1 (.cons (.var 1) (.cons (.int 4) .nil))) (i := 13) (src := .rng .no (.int 3)) (g := g3) (enc := nI) (enc' := nI) (Q := fun x => x < 4) (xs := List.range 3) (s := .list ((List.range 3).map nI)) 1 700
    (G3.less (by rw [List.length_range]; omega)) (by simp [r5, r6]) (by simp) (by rw [List.length_range, lim_eq]; omega) (fun x hx b g G => ev_pick (by rfl) (by rfl) (by simp) (by decide) G)
  rw [List.length_range] at hml
  simp [Φ0, Φ_law] at e4
  simp [e4]
  rw [lc_all (enc := nI) (xs := List.range 3) (s := .list ((List.range 3).map nI)) (h := fun d => tupN ((List.range n).filter fun x => decide (lots[x]?.getD 0 = d)))]
  rotate_left
  · simp [r5, r6]
  · simp
  · rw [List.length_range, lim_eq]; decide
  · intro d hd
    simp
    rw [lc_keep (enc := nI) (xs := List.range n) (s := .list ((List.range n).map nI)) (fun x => decide (lots[x]?.getD 0 = d))]
    · simp
    · simp
    · simp [r1, rngL_nat]
    · simp
    · rw [List.length_range, lim_eq]; omega
    · rfl
    · intro x hx
      simp [at_nI (xs := lots) (k := x) (by have := List.mem_range.mp hx; omega)]
      exact ⟨fun h => by omega, fun h => by omega⟩
  simp
  rw [show (PyData.tuple ((List.range 3).map fun d => tupN ((List.range n).filter fun x => decide (lots[x]?.getD 0 = d)))) = famT (classL lots n 3) by unfold famT classL; rw [List.map_map]; rfl]
  have cl : (classL lots n 3).length = 3 := by unfold classL; rw [List.length_map, List.length_range]
  have csl : ∀ l ∈ classL lots n 3, l.length ≤ 1000 := fun l hl => by
    obtain ⟨d, _, rfl⟩ := List.mem_map.mp hl
    exact Nat.le_trans (List.length_filter_le _ _) (by rw [List.length_range]; omega)
  have m2 := of_nest_ok g4 (n := n) (by omega) (classL lots n 3) lims (by omega) (by rw [cl, hml]) csl (class_is lots n 3)
  have fe2 : (lotsN n).filter (inLimits (classL lots n 3) lims) = (lotsN n).filter (inLots lots lims) := List.filter_congr fun points hp => by have := lots_eq lots lims (points := points); rw [hll, hml] at this; exact this hp
  rw [fe2] at m2
  have m3 := of_lots_ok g4 lots lims (by omega) (by omega)
  rw [hll] at m3
  have m4 := fun g => equal_refl g (pln_pair n (fam := greatestL ((lotsN n).filter (inLots lots lims))) (Nat.le_trans (List.length_filter_le _ _) (bl _)) fun l hl => bll _ l (List.mem_filter.mp hl).1) (by decide) 12 (by decide)
  simp [m2, m3, m4]
  obtain ⟨size, g5, hs, e5, G5⟩ := pick_ok (b := 699) G4 (m := n + 1) (by omega)
  change pick [poolD, .int ((n : Int) + 1)] g4 = _ at e5
  simp [e5]
  have s1 := fun g => law_of_size_ok g (n := n) (by omega) size
  simp [s1]
  have mem : List.range size ∈ (lawLots n).filter fun l => decide (l.length = size) := List.mem_filter.mpr ⟨lawLots_of (bits_range n (by omega) size (by omega)), by simp⟩
  obtain ⟨r, g6, hr, e6, G6⟩ := pick_ok (b := 698) G5 (m := ((lawLots n).filter fun l => decide (l.length = size)).length) (List.length_pos_of_mem mem)
  obtain ⟨high, hh⟩ : ∃ high, ((lawLots n).filter fun l => decide (l.length = size))[r]? = some high := ⟨_, List.getElem?_eq_getElem hr⟩
  have ha : atI (((lawLots n).filter fun l => decide (l.length = size)).map tupN) (r : Int) = some (tupN high) := atI_nat (by rw [List.getElem?_map, hh]; rfl)
  obtain ⟨hm1, hm2⟩ := List.mem_filter.mp (List.mem_of_getElem? hh)
  have hsub := lawLots_mem hm1
  have hlen : high.length = size := of_decide_eq_true hm2
  have t1 := of_ladder_ok g6 (n := n) (by omega) (List.range size) high (by rw [List.length_range]; exact hlen)
  rw [List.length_range] at t1
  have t2 := of_limits_ok g6 (n := n) (by omega) high hsub
  rw [hlen] at t2
  have fe3 : ((lotsN n).filter fun l => decide (l.length = size)).filter (betw (List.range size) high) = ((lotsN n).filter fun l => decide (l.length = size)).filter (atMost high) := List.filter_congr fun l hl => by
    obtain ⟨h1, h2⟩ := List.mem_filter.mp hl
    have := ladder_eq (high := high) (lotsN_mem.mp h1) (by rw [hlen]; exact of_decide_eq_true h2)
    rwa [hlen] at this
  rw [fe3] at t1
  have t4 := fun g => equal_refl g (pln_pair n (fam := ((lotsN n).filter fun l => decide (l.length = size)).filter (atMost high)) (Nat.le_trans (List.length_filter_le _ _) (bl _)) fun l hl => bll _ l (List.mem_filter.mp hl).1) (by decide) 12 (by decide)
  have r7 : rngOk (size : Int) = true := rngOk_nat (by omega)
  have r8 : size ≤ 1000 := by omega
  simp [e6, ha, r1, r2, r7, r8, rngL_nat, t1, t2, t4, -List.filter_filter]
end Dv.K91
end
open PySem PySem.W PyProof.Rows
set_option maxHeartbeats 0 in
theorem PySem.Challenge.cw_baseworker_k91_whole_jobs_and_nests_holds : PySem.Challenge.rw_baseworker_k91_whole_jobs_and_nests.Holds := by
  w_on; o_law; k_head; (case hw => w_witness2)
  k_fill
  refine L2.walk_of (l := PySem.Challenge.rw_baseworker_k91_whole_jobs_and_nests) (n := 63) (k := 14) (x := "script") (CX := fun _ => L2.CX0) (sp := fun w => Dv.spLaw _) rfl (by decide) rfl ⟨rfl, by decide, by decide⟩ (fun w h Y => PySem.W.kIn_of Y) ?F (fun _ _ a ns hl _ hS => ⟨a, ns, rfl, hS, hl, fun _ => rfl⟩) (fun _ _ _ _ _ h => h)
  case F =>
    intro w mg fa h KX G hmg
    refine' Dv.K91.all_mk KX G hmg Dv.K91.runs ?a0 ?l0 ?c0 ?k0 ?a1 ?l1 ?c1 ?k1 ?a2 ?l2 ?c2 ?k2 ?a3 ?l3 ?c3 ?k3 ?a4 ?l4 ?c4 ?k4 ?a5 ?l5 ?c5 ?k5 ?a6 ?l6 ?c6 ?k6 ?a7 ?l7 ?c7 ?k7 ?a8 ?l8 ?c8 ?k8 ?a9 ?l9 ?c9 ?k9 ?a10 ?l10 ?c10 ?k10 ?a11 ?l11 ?c11 ?k11 ?a12 ?l12 ?c12 ?k12 ?a13 ?l13 ?c13 ?k13 ?a14 ?l14 ?c14 ?k14 ?a15 ?l15 ?c15 ?k15 ?a16 ?l16 ?c16 ?k16 ?a17 ?l17 ?c17 ?k17 ?a18 ?l18 ?c18 ?k18 ?a19 ?l19 ?c19 ?k19 ?a20 ?l20 ?c20 ?k20 ?a21 ?l21 ?c21 ?k21 ?z0 ?z1 ?z2 ?z3 ?z4 ?z5 ?z6 ?z7 ?z8 ?z9 ?z10 ?z11 ?z12 ?z13 ?z14 ?z15 ?z16
    (case a0 => k_is); (case l0 => k_is); (case c0 => k_is); (case k0 => k_is); (case a1 => k_is); (case l1 => k_is); (case c1 => k_is); (case k1 => k_is); (case a2 => k_is); (case l2 => k_is); (case c2 => k_is); (case k2 => k_is); (case a3 => k_is); (case l3 => k_is); (case c3 => k_is); (case k3 => k_is); (case a4 => k_is); (case l4 => k_is); (case c4 => k_is); (case k4 => k_is); (case a5 => k_is); (case l5 => k_is); (case c5 => k_is); (case k5 => k_is); (case a6 => k_is); (case l6 => k_is); (case c6 => k_is); (case k6 => k_is); (case a7 => k_is); (case l7 => k_is); (case c7 => k_is); (case k7 => k_is); (case a8 => k_is); (case l8 => k_is); (case c8 => k_is); (case k8 => k_is); (case a9 => k_is); (case l9 => k_is); (case c9 => k_is); (case k9 => k_is); (case a10 => k_is); (case l10 => k_is); (case c10 => k_is); (case k10 => k_is); (case a11 => k_is); (case l11 => k_is); (case c11 => k_is); (case k11 => k_is); (case a12 => k_is); (case l12 => k_is); (case c12 => k_is); (case k12 => k_is); (case a13 => k_is); (case l13 => k_is); (case c13 => k_is); (case k13 => k_is); (case a14 => k_is); (case l14 => k_is); (case c14 => k_is); (case k14 => k_is); (case a15 => k_is); (case l15 => k_is); (case c15 => k_is); (case k15 => k_is); (case a16 => k_is); (case l16 => k_is); (case c16 => k_is); (case k16 => k_is); (case a17 => k_is); (case l17 => k_is); (case c17 => k_is); (case k17 => k_is); (case a18 => k_is); (case l18 => k_is); (case c18 => k_is); (case k18 => k_is); (case a19 => k_is); (case l19 => k_is); (case c19 => k_is); (case k19 => k_is); (case a20 => k_is); (case l20 => k_is); (case c20 => k_is); (case k20 => k_is); (case a21 => k_is); (case l21 => k_is); (case c21 => k_is); (case k21 => k_is); (case z0 => k_is); (case z1 => k_is); (case z2 => k_is); (case z3 => k_is); (case z4 => k_is); (case z5 => k_is); (case z6 => k_is); (case z7 => k_is); (case z8 => k_is); (case z9 => k_is); (case z10 => k_is); (case z11 => k_is); (case z12 => k_is); (case z13 => k_is); (case z14 => k_is); (case z15 => k_is); (case z16 => k_is)
