import PyProof.Rows.All
import Wide.All
import OpenK.AllK
import Wide.FinOn
import HandS.Evl
import HandS.Walk
import PyProof.ReprReads
import HandS.Base
import HandS.Call
import HandS.List
import HandS.Comp
import HandS.Iter
import HandS.Zip
import HandS.TupAny
import HandS.Style
import HandS.IsInst
import HandS.NoneIn
import HandS.Exc
import HandS.Words
import HandS.WordsExc
import HandS.Defaults
import PyProof.ReprRoads
import HandS.Ends
import HandS.EndBits
import HandS.Head2
import HandS.HeadEnd
import HandS.HeadHook2
import PyProof.ReprBulk
import PySem.Challenge.RW_fairoffers_k21_whole_numbers
import KE.KStateDown
set_option Elab.async false
set_option linter.all false
section -- FoCore
set_option Elab.async false
set_option linter.all false
/-! FoCore: a small language over the rows' syntax: values, a store of cells, what a term gives. No heap of the model here. -/
namespace Fo
open PySem

/-- a value: data that never changes -/
inductive PV where
  | non | bl (b : Bool) | int (i : Int) | str (x : Str)
  | tup (xs : List PV) | lst (xs : List PV) | fz (xs : List PV) | dic (kvs : List (Int × PV))
  | fn (f : Nat) | lam (j : Nat) (cs : List PV)
/-- what a slot holds: data, or a cell of the store -/
inductive SV where
  | d (v : PV) | r (l : Nat)
inductive FV where
  | v (x : PV) | m (xs : List PV)
inductive Cell where
  | lst (xs : List PV) | obj (c : Nat) (fs : List (Nat × FV)) | dead
abbrev Store := List Cell
/-- an exception: its class (by number), what it keeps -/
structure Exc where
  c : Nat
  p : Option PV
inductive Res (α : Type) where
  | ok (a : α) (st : Store)
  | ex (x : Exc) (st : Store)
abbrev M (α : Type) := Store → Option (Res α)
section
variable {α β γ : Type}
def ok (a : α) : M α := fun st => some (.ok a st)
def stk : M α := fun _ => none
def bnd (m : M α) (k : α → M β) : M β := fun st => match m st with
  | some (.ok a st') => k a st'
  | some (.ex x st') => some (.ex x st')
  | none => none
/-- no exception leaves -/
def nox (m : M α) : M α := fun st => match m st with
  | some (.ok a st') => some (.ok a st')
  | _ => none
def ofO : Option α → M α
  | some a => ok a
  | none => stk
theorem bnd_ok {m : M α} {k : α → M β} {st st' : Store} {a : α} (h : m st = some (.ok a st')) : bnd m k st = k a st' := by
  unfold bnd
  rw [h]
theorem bnd_ex {m : M α} {k : α → M β} {st st' : Store} {x : Exc} (h : m st = some (.ex x st')) : bnd m k st = some (.ex x st') := by
  unfold bnd
  rw [h]
theorem ok_bnd (a : α) (k : α → M β) : bnd (ok a) k = k a := by rfl
theorem ok_at (a : α) (st : Store) : ok a st = some (.ok a st) := by rfl
end

/-! ### terms -/
inductive Op2 where
  | add | sub | mul | fdiv | mod | pow
inductive Cm where
  | eq | ne | lt | le | gt | ge | isn | notn | isb | notb | mem | nmem
/-- a target: a name, some names -/
inductive Tg where
  | n (i : Nat) | t (is : List Nat)
inductive Ty where
  | int | bool | str | tup | list
inductive Bi where
  | len | abs | int | max2 | min2 | tuple | list | all | any | repr
/-- a constant of the module -/
inductive GC where
  | i (i : Int) | s (x : String) | p (a b : Int)
  deriving DecidableEq
def GC.val : GC → PV
  | .i z => .int z
  | .s z => .str (Str.ofString z)
  | .p a b => .tup [.int a, .int b]
mutual
inductive E where
  | slot (i : Nat) | non | bl (b : Bool) | int (i : Int) | str (x : String)
  | glob (x : String) (c : GC) | fnv (f : Nat)
  | tup (es : Es) | star (a : E) (es : Es) | lst (es : Es)
  | bin (o : Op2) (a b : E) | neg (a : E) | not (a : E)
  | cmp (o : Cm) (a b : E) | chain (o o' : Cm) (a b c : E)
  | and (a b : E) | or (a b : E) | one (a : E) | ifx (t a b : E)
  | ix (a b : E) | cut (a : E) (lo hi : Oe) | rev (a : E)
  | call (f : Nat) (es : Es) (ds : List Int) | callv (i : Nat) (es : Es)
  | bi (b : Bi) (es : Es) | isi (a : E) (t : Ty)
  | lc (w : W) (tg : Tg) (c : Oe) (e : E)
  | frz (i : Nat)
inductive Es where
  | nil | cons (e : E) (es : Es)
inductive Oe where
  | no | ye (e : E)
inductive W where
  | rng1 (a : E) | rng2 (a b : E) | over (a : E) | zip (a b : E) | enum (a : E)
end
mutual
inductive S where
  | set (i : Nat) (e : E) | new (i : Nat) (e : E) | par (i j : Nat) (a b : E) | par3 (i j l : Nat) (a b c : E) | unp (is : List Nat) (e : E)
  | seti (a b e : E) | ifs (t : E) (a b : Ss) | for (tg : Tg) (w : W) (b : Ss) | whl (t : E) (b : Ss)
  | ret (e : E) | retC (i : Nat) | app (i : Nat) (e : E) | ex (e : E) | pass | cont | never
inductive Ss where
  | nil | cons (s : S) (ss : Ss)
end
/-- a def: its name, its names by slot (parameters first), how many parameters, its body -/
structure Fn where
  name : String
  N : List String
  np : Nat
  body : Ss

/-! ### what operations give -/
mutual
def PV.dat : PV → Option PyData
  | .non => some .none
  | .bl b => some (.bool b)
  | .int i => some (.int i)
  | .str x => some (.str x)
  | .tup xs => (PV.dats xs).map .tuple
  | .lst xs => (PV.dats xs).map .list
  | _ => none
def PV.dats : List PV → Option (List PyData)
  | [] => some []
  | x :: xs => match x.dat, PV.dats xs with
    | some d, some ds => some (d :: ds)
    | _, _ => none
end
abbrev Slots := List (Option SV)
def asD : SV → M PV
  | .d v => ok v
  | .r _ => stk
def asI : SV → M Int
  | .d (.int i) => ok i
  | _ => stk
def asB : SV → M Bool
  | .d (.bl b) => ok b
  | _ => stk
/-- data, or what stands in a list's cell -/
def rd : SV → M PV
  | .d v => ok v
  | .r l => fun st => match st[l]? with
    | some (.lst xs) => some (.ok (.lst xs) st)
    | _ => none
/-- the items of a list or a tuple -/
def items : PV → Option (List PV)
  | .tup xs => some xs
  | .lst xs => some xs
  | .fz xs => some xs
  | _ => none
def mulOk (i j : Int) : Bool := decide (i.natAbs.log2 + j.natAbs.log2 < 100000000)
def powOk (i j : Int) : Bool := decide (0 ≤ j) && decide ((i.natAbs.log2 + 1) * j.toNat ≤ 100000000)
def lim : Nat := 16777216
def op2v : Op2 → PV → PV → Option PV
  | .add, .int i, .int j => some (.int (i + j))
  | .sub, .int i, .int j => some (.int (i - j))
  | .mul, .int i, .int j => if mulOk i j then some (.int (i * j)) else none
  | .fdiv, .int i, .int j => if j ≠ 0 ∧ Builtin.divisionGoesByPylong i j = false then some (.int (i.fdiv j)) else none
  | .mod, .int i, .int j => if j ≠ 0 then some (.int (i.fmod j)) else none
  | .pow, .int i, .int j => if powOk i j then some (.int (i ^ j.toNat)) else none
  | .add, .tup xs, .tup ys => if xs.length + ys.length ≤ lim then some (.tup (xs ++ ys)) else none
  | .add, .lst xs, .lst ys => if xs.length + ys.length ≤ lim then some (.lst (xs ++ ys)) else none
  | .add, .str x, .str y => if x.length + y.length ≤ lim then some (.str (x ++ y)) else none
  | _, _, _ => none
def op2 (o : Op2) (x y : SV) : M PV := bnd (rd x) fun x => bnd (rd y) fun y => ofO (op2v o x y)
def eqvD (x y : PV) : Option Bool := match x.dat, y.dat with
  | some d, some e => if SeqAt.shaped d = true ∧ SeqAt.shaped e = true then some (PyData.eqv d e) else none
  | _, _ => none
def eqv : PV → PV → Option Bool
  | .str a, .str b => some (decide (a = b))
  | x, y => eqvD x y
def isn : PV → Bool
  | .non => true
  | _ => false
def cmpv : Cm → PV → PV → Option Bool
  | .eq, x, y => eqv x y
  | .ne, x, y => (eqv x y).map (!·)
  | .lt, .int i, .int j => some (decide (i < j))
  | .le, .int i, .int j => some (decide (i ≤ j))
  | .gt, .int i, .int j => some (decide (j < i))
  | .ge, .int i, .int j => some (decide (j ≤ i))
  | .isn, x, .non => some (isn x)
  | .notn, x, .non => some (!isn x)
  | _, _, _ => none
def cmp2 (o : Cm) (x y : SV) : M Bool := bnd (rd x) fun x => bnd (rd y) fun y => ofO (cmpv o x y)
def ixv : PV → PV → Option PV
  | .tup xs, .int i => L2.atI xs i
  | .lst xs, .int i => L2.atI xs i
  | .fz xs, .int i => L2.atI xs i
  | _, _ => none
def ix2 (x y : SV) : M PV := bnd (rd x) fun x => bnd (rd y) fun y => ofO (ixv x y)
def tyOk : Ty → PV → Option Bool
  | _, .non => some false
  | t, .bl _ => some (match t with | .bool => true | .int => true | _ => false)
  | t, .int _ => some (match t with | .int => true | _ => false)
  | t, .str _ => some (match t with | .str => true | _ => false)
  | t, .tup _ => some (match t with | .tup => true | _ => false)
  | t, .lst _ => some (match t with | .list => true | _ => false)
  | _, _ => none
def bls : List PV → Option (List Bool)
  | [] => some []
  | .bl b :: xs => (bls xs).map (b :: ·)
  | _ => none
def reprv (v : PV) : Option PV := match v.dat with
  | some d => if d.showable = true ∧ d.shown.length ≤ lim ∧ d.depth ≤ 64 then some (.str d.shown) else none
  | none => none
def biv : Bi → List PV → Option PV
  | .len, [.str z] => if z.length ≤ lim then some (.int z.length) else none
  | .len, [.tup xs] => some (.int xs.length)
  | .len, [.lst xs] => some (.int xs.length)
  | .len, [.fz xs] => some (.int xs.length)
  | .abs, [.int i] => some (.int (if i < 0 then -i else i))
  | .int, [.int i] => some (.int i)
  | .int, [.bl b] => some (.int (if b then 1 else 0))
  | .max2, [.int i, .int j] => some (.int (if j > i then j else i))
  | .min2, [.int i, .int j] => some (.int (if j < i then j else i))
  | .tuple, [.tup xs] => some (.tup xs)
  | .tuple, [.lst xs] => some (.tup xs)
  | .list, [.tup xs] => some (.lst xs)
  | .list, [.lst xs] => some (.lst xs)
  | .all, [.lst ys] => (bls ys).map fun bs => .bl (bs.all id)
  | .any, [.lst ys] => (bls ys).map fun bs => .bl (bs.any id)
  | .repr, [v] => reprv v
  | _, _ => none
def rdAll : List SV → M (List PV)
  | [] => ok []
  | x :: xs => bnd (rd x) fun v => bnd (rdAll xs) fun vs => ok (v :: vs)
def biOf (b : Bi) (xs : List SV) : M PV := bnd (rdAll xs) fun vs => ofO (biv b vs)
def cutL (xs : List PV) (lo hi : Option Int) : List PV := (xs.drop (HT.sIx xs.length 0 lo)).take (HT.sIx xs.length xs.length hi - HT.sIx xs.length 0 lo)
def cutv (lo hi : Option Int) : PV → Option PV
  | .tup xs => some (.tup (cutL xs lo hi))
  | .lst xs => some (.lst (cutL xs lo hi))
  | _ => none
def revv : PV → Option PV
  | .lst xs => some (.lst xs.reverse)
  | _ => none
def rngOf (i j : Int) : Option (List PV) := if -(2 ^ 62) ≤ i ∧ i < 2 ^ 62 ∧ -(2 ^ 62) ≤ j ∧ j < 2 ^ 62 then some ((List.range (j - i).toNat).map fun k => .int (i + (k : Nat))) else none
def bindT (tg : Tg) (v : PV) (sl : Slots) : Option Slots := match tg, v with
  | .n i, v => some (sl.set i (some (.d v)))
  | .t is, .tup xs => if xs.length = is.length then some ((is.zip xs).foldl (fun s p => s.set p.1 (some (.d p.2))) sl) else none
  | .t is, .lst xs => if xs.length = is.length then some ((is.zip xs).foldl (fun s p => s.set p.1 (some (.d p.2))) sl) else none
  | _, _ => none
/-- a list's loop: what is kept is appended -/
def lcGo (sl : Slots) (tg : Tg) (c : Slots → M Bool) (e : Slots → M PV) : List PV → List PV → M (List PV)
  | [], acc => ok acc
  | x :: xs, acc => match bindT tg x sl with
    | none => stk
    | some sl' => bnd (c sl') fun b => if b then bnd (e sl') fun y => lcGo sl tg c e xs (acc ++ [y]) else lcGo sl tg c e xs acc
abbrev Cl := Nat → List SV → M SV
def frzOf (sl : Slots) (i : Nat) : M PV := fun st => match sl[i]? with
  | some (some (.r l)) => (match st[l]? with
    | some (.lst xs) => some (.ok (.lst xs) (st.set l .dead))
    | _ => none)
  | _ => none
mutual
def evE (cl : Cl) : E → Slots → M SV
  | .slot i, sl => match sl[i]? with
    | some (some v) => ok v
    | _ => stk
  | .non, _ => ok (.d .non)
  | .bl b, _ => ok (.d (.bl b))
  | .int i, _ => ok (.d (.int i))
  | .str x, _ => ok (.d (.str (Str.ofString x)))
  | .glob _ c, _ => ok (.d c.val)
  | .fnv f, _ => ok (.d (.fn f))
  | .tup es, sl => bnd (evs cl es sl) fun vs => bnd (dAll vs) fun xs => ok (.d (.tup xs))
  | .lst es, sl => bnd (evs cl es sl) fun vs => bnd (dAll vs) fun xs => ok (.d (.lst xs))
  | .star a es, sl => bnd (evE cl a sl) fun v => bnd (rd v) fun v => bnd (ofO (items v)) fun xs => bnd (evs cl es sl) fun vs => bnd (dAll vs) fun ys => if xs.length + ys.length ≤ lim then ok (.d (.tup (xs ++ ys))) else stk
  | .bin o a b, sl => bnd (evE cl a sl) fun x => bnd (evE cl b sl) fun y => bnd (op2 o x y) fun z => ok (.d z)
  | .neg a, sl => bnd (evE cl a sl) fun x => bnd (asI x) fun i => ok (.d (.int (-i)))
  | .not a, sl => bnd (evE cl a sl) fun x => bnd (asB x) fun b => ok (.d (.bl (!b)))
  | .cmp o a b, sl => bnd (evE cl a sl) fun x => bnd (evE cl b sl) fun y => bnd (cmp2 o x y) fun b => ok (.d (.bl b))
  | .chain o o' a b c, sl => bnd (evE cl a sl) fun x => bnd (evE cl b sl) fun y => bnd (cmp2 o x y) fun k =>
      if k then bnd (evE cl c sl) fun z => bnd (cmp2 o' y z) fun k' => ok (.d (.bl k')) else ok (.d (.bl false))
  | .and a b, sl => bnd (evE cl a sl) fun x => bnd (asB x) fun k => if k then evE cl b sl else ok (.d (.bl false))
  | .or a b, sl => bnd (evE cl a sl) fun x => bnd (asB x) fun k => if k then ok (.d (.bl true)) else evE cl b sl
  | .one a, sl => evE cl a sl
  | .ifx t a b, sl => bnd (evE cl t sl) fun x => bnd (asB x) fun k => if k then evE cl a sl else evE cl b sl
  | .ix a b, sl => bnd (evE cl a sl) fun x => bnd (evE cl b sl) fun y => bnd (ix2 x y) fun z => ok (.d z)
  | .cut a lo hi, sl => bnd (evE cl a sl) fun x => bnd (evO cl lo sl) fun l => bnd (evO cl hi sl) fun h => bnd (rd x) fun v => bnd (ofO (cutv l h v)) fun z => ok (.d z)
  | .rev a, sl => bnd (evE cl a sl) fun x => bnd (rd x) fun v => bnd (ofO (revv v)) fun z => ok (.d z)
  | .call f es ds, sl => bnd (evs cl es sl) fun vs => cl f (vs ++ ds.map fun i => .d (.int i))
  | .callv i es, sl => match sl[i]? with
    | some (some (.d (.fn f))) => bnd (evs cl es sl) fun vs => cl f vs
    | some (some (.d (.lam j cs))) => bnd (evs cl es sl) fun vs => cl j (cs.map .d ++ vs)
    | _ => stk
  | .bi b es, sl => bnd (evs cl es sl) fun vs => bnd (biOf b vs) fun z => ok (.d z)
  | .isi a t, sl => bnd (evE cl a sl) fun x => bnd (asD x) fun v => bnd (ofO (tyOk t v)) fun b => ok (.d (.bl b))
  | .lc w tg c e, sl => bnd (evW cl w sl) fun xs => if xs.length ≤ lim then bnd (nox (lcGo sl tg (evC cl c) (fun s => bnd (evE cl e s) asD) xs [])) fun ys => ok (.d (.lst ys)) else stk
  | .frz i, sl => bnd (frzOf sl i) fun v => ok (.d v)
def evs (cl : Cl) : Es → Slots → M (List SV)
  | .nil, _ => ok []
  | .cons e es, sl => bnd (evE cl e sl) fun v => bnd (evs cl es sl) fun vs => ok (v :: vs)
def evO (cl : Cl) : Oe → Slots → M (Option Int)
  | .no, _ => ok none
  | .ye e, sl => bnd (evE cl e sl) fun x => bnd (asI x) fun i => ok (some i)
def evC (cl : Cl) : Oe → Slots → M Bool
  | .no, _ => ok true
  | .ye e, sl => bnd (evE cl e sl) asB
def evW (cl : Cl) : W → Slots → M (List PV)
  | .rng1 a, sl => bnd (evE cl a sl) fun x => bnd (asI x) fun j => ofO (rngOf 0 j)
  | .rng2 a b, sl => bnd (evE cl a sl) fun x => bnd (evE cl b sl) fun y => bnd (asI x) fun i => bnd (asI y) fun j => ofO (rngOf i j)
  | .over a, sl => bnd (evE cl a sl) fun x => bnd (asD x) fun v => ofO (items v)
  | .zip a b, sl => bnd (evE cl a sl) fun x => bnd (evE cl b sl) fun y => bnd (asD x) fun x => bnd (asD y) fun y => bnd (ofO (items x)) fun xs => bnd (ofO (items y)) fun ys => ok (List.zipWith (fun a b => .tup [a, b]) xs ys)
  | .enum a, sl => bnd (evE cl a sl) fun x => bnd (asD x) fun v => bnd (ofO (items v)) fun xs => ok ((xs.zipIdx).map fun p => .tup [.int (p.2 : Nat), p.1])
def dAll : List SV → M (List PV)
  | [] => ok []
  | .d v :: vs => bnd (dAll vs) fun xs => ok (v :: xs)
  | .r _ :: _ => stk
end

/-! ### statements, defs -/
inductive Out where
  | nx (sl : Slots) | rt (v : SV) | ct (sl : Slots)
def forGo (tg : Tg) (b : Slots → M Out) : List PV → Slots → M Out
  | [], sl => ok (.nx sl)
  | x :: xs, sl => match bindT tg x sl with
    | none => stk
    | some sl' => bnd (b sl') fun o => match o with
      | .nx s => forGo tg b xs s
      | .ct s => forGo tg b xs s
      | .rt v => ok (.rt v)
def whlGo (t : Slots → M Bool) (b : Slots → M Out) : Nat → Slots → M Out
  | 0, _ => stk
  | n + 1, sl => bnd (t sl) fun k => if k then bnd (b sl) fun o => match o with
      | .nx s => whlGo t b n s
      | .ct s => whlGo t b n s
      | .rt v => ok (.rt v)
    else ok (.nx sl)
def cellSet (l : Nat) (f : List PV → Option (List PV)) : M Unit := fun st => match st[l]? with
  | some (.lst xs) => (match f xs with
    | some ys => some (.ok () (st.set l (.lst ys)))
    | none => none)
  | _ => none
def cellOf : SV → M Nat
  | .r l => fun st => match st[l]? with
    | some (.lst _) => some (.ok l st)
    | _ => none
  | .d _ => stk
/-- turns of a while -/
def fuel : Nat := 2 ^ 250
mutual
def evS (cl : Cl) : S → Slots → M Out
  | .set i e, sl => bnd (evE cl e sl) fun v => ok (.nx (sl.set i (some v)))
  | .new i e, sl => bnd (evE cl e sl) fun v => match v with
    | .d (.lst xs) => fun st => some (.ok (.nx (sl.set i (some (.r st.length)))) (st ++ [.lst xs]))
    | _ => stk
  | .par i j a b, sl => bnd (evE cl a sl) fun x => bnd (evE cl b sl) fun y => ok (.nx ((sl.set i (some x)).set j (some y)))
  | .par3 i j l a b c, sl => bnd (evE cl a sl) fun x => bnd (evE cl b sl) fun y => bnd (evE cl c sl) fun z => ok (.nx (((sl.set i (some x)).set j (some y)).set l (some z)))
  | .unp is e, sl => bnd (evE cl e sl) fun x => bnd (asD x) fun v => bnd (ofO (bindT (.t is) v sl)) fun s => ok (.nx s)
  | .seti a b e, sl => bnd (evE cl e sl) fun x => bnd (asD x) fun v => bnd (evE cl a sl) fun o => bnd (evE cl b sl) fun y => bnd (asI y) fun i => match o with
    | .r l => bnd (cellSet l fun xs => (L2.ixN xs.length i).map fun j => xs.set j v) fun _ => ok (.nx sl)
    | _ => stk
  | .ifs t a b, sl => bnd (evE cl t sl) fun x => bnd (asB x) fun k => if k then evSs cl a sl else evSs cl b sl
  | .for tg w b, sl => bnd (evW cl w sl) fun xs => forGo tg (evSs cl b) xs sl
  | .whl t b, sl => whlGo (fun s => bnd (evE cl t s) asB) (evSs cl b) fuel sl
  | .ret e, sl => bnd (evE cl e sl) fun v => ok (.rt v)
  | .app i e, sl => bnd (evE cl (.slot i) sl) fun o => bnd (cellOf o) fun l => bnd (evE cl e sl) fun x => bnd (asD x) fun v =>
      bnd (cellSet l fun xs => if xs.length < lim then some (xs ++ [v]) else none) fun _ => ok (.nx sl)
  | .retC i, sl => match sl[i]? with
    | some (some (.r l)) => ok (.rt (.r l))
    | _ => stk
  | .ex e, sl => bnd (evE cl e sl) fun _ => ok (.nx sl)
  | .pass, sl => ok (.nx sl)
  | .cont, sl => ok (.ct sl)
  | .never, _ => stk
def evSs (cl : Cl) : Ss → Slots → M Out
  | .nil, sl => ok (.nx sl)
  | .cons s ss, sl => bnd (evS cl s sl) fun o => match o with
    | .nx s' => evSs cl ss s'
    | o => ok o
end
/-- what a def hands back: data; a list of its own is handed over -/
def fin (n : Nat) : SV → M SV
  | .d v => fun st => some (.ok (.d v) (st.take n))
  | .r l => fun st => if l < n then none else match st[l]? with
    | some (.lst xs) => some (.ok (.d (.lst xs)) (st.take n))
    | _ => none
def run (cl : Cl) (fn : Fn) (args : List SV) : M SV := fun st => if args.length = fn.np then
    match evSs cl fn.body (args.map some ++ List.replicate (fn.N.length - args.length) none) st with
    | some (.ok (.rt v) st') => fin st.length v st'
    | some (.ok (.nx _) st') => fin st.length (.d .non) st'
    | some (.ex x st') => some (.ex x (st'.take st.length))
    | _ => none
  else none
def callF (tbl : Nat → Option Fn) : Nat → Cl
  | 0, _, _ => stk
  | n + 1, f, args => match tbl f with
    | some fn => run (callF tbl n) fn args
    | none => stk
end Fo
end -- FoCore

section -- FoRep
set_option Elab.async false
set_option linter.all false
set_option maxRecDepth 100000
set_option maxHeartbeats 1000000
/-! FoRep: how values, cells and slots stand in the abstract heap; what a term's reading is. -/
namespace Fo
open PySem L2 Evl

theorem lim_eq : lim = sizeLine := sizeLine_eq.symm
mutual
inductive Rep (K : PySem.W.Frag) (ad : Nat → Option Addr) (F : Hp) : PV → V → Prop
  | non : Rep K ad F .non .non
  | bl (b : Bool) : Rep K ad F (.bl b) (.bl b)
  | int (i : Int) : Rep K ad F (.int i) (.int i)
  | str (x : Str) : Rep K ad F (.str x) (.str x)
  | tup {a : Addr} {vs : List V} {xs : List PV} : SqT K F a vs → vs.length ≤ lim → RepA K ad F xs vs → Rep K ad F (.tup xs) (.ref a)
  | lst {a : Addr} {vs : List V} {xs : List PV} : F a = some (.lst vs) → vs.length ≤ lim → RepA K ad F xs vs → Rep K ad F (.lst xs) (.ref a)
  | fz {a : Addr} {vs : List V} {xs : List PV} : SqL K F a vs → vs.length ≤ lim → RepA K ad F xs vs → Rep K ad F (.fz xs) (.ref a)
  | fn {f : Nat} {a : Addr} : ad f = some a → Rep K ad F (.fn f) (.ref a)
inductive RepA (K : PySem.W.Frag) (ad : Nat → Option Addr) (F : Hp) : List PV → List V → Prop
  | nil : RepA K ad F [] []
  | cons {x : PV} {v : V} {xs : List PV} {vs : List V} : Rep K ad F x v → RepA K ad F xs vs → RepA K ad F (x :: xs) (v :: vs)
end
section
variable {K : PySem.W.Frag} {ad : Nat → Option Addr} {F F' H H' : Hp}
mutual
theorem Rep.mono (e : Ex F F') : ∀ (x : PV) (v : V), Rep K ad F x v → Rep K ad F' x v
  | .non, _, h => by cases h; exact .non
  | .bl _, _, h => by cases h; exact .bl _
  | .int _, _, h => by cases h; exact .int _
  | .str _, _, h => by cases h; exact .str _
  | .tup xs, _, h => by
    cases h with
    | tup a b c => exact .tup (ex_t e a) b (RepA.mono e xs _ c)
  | .lst xs, _, h => by
    cases h with
    | lst a b c => exact .lst (e _ _ a) b (RepA.mono e xs _ c)
  | .fz xs, _, h => by
    cases h with
    | fz a b c => exact .fz (ex_l e a) b (RepA.mono e xs _ c)
  | .dic _, _, h => by cases h
  | .fn _, _, h => by
    cases h with
    | fn a => exact .fn a
  | .lam _ _, _, h => by cases h
theorem RepA.mono (e : Ex F F') : ∀ (xs : List PV) (vs : List V), RepA K ad F xs vs → RepA K ad F' xs vs
  | [], _, h => by cases h; exact .nil
  | x :: xs, _, h => by
    cases h with
    | cons a b => exact .cons (Rep.mono e x _ a) (RepA.mono e xs _ b)
end
theorem RepA.len : ∀ {xs : List PV} {vs : List V}, RepA K ad F xs vs → xs.length = vs.length
  | [], _, h => by cases h; rfl
  | _ :: _, _, h => by
    cases h with
    | cons a b => exact congrArg (· + 1) b.len
theorem RepA.get : ∀ {xs : List PV} {vs : List V} {i : Nat} {x : PV}, RepA K ad F xs vs → xs[i]? = some x → ∃ v, vs[i]? = some v ∧ Rep K ad F x v
  | [], _, _, _, _, e => by simp at e
  | _ :: _, _, i, _, h, e => by
    cases h with
    | cons a b =>
      cases i with
      | zero => simp at e; subst e; exact ⟨_, rfl, a⟩
      | succ i =>
        obtain ⟨v, h1, h2⟩ := b.get (i := i) (by simpa using e)
        exact ⟨v, by simpa using h1, h2⟩
theorem RepA.getV : ∀ {xs : List PV} {vs : List V} {i : Nat} {v : V}, RepA K ad F xs vs → vs[i]? = some v → ∃ x, xs[i]? = some x ∧ Rep K ad F x v
  | [], _, _, _, h, e => by cases h; simp at e
  | _ :: _, _, i, _, h, e => by
    cases h with
    | cons a b =>
      cases i with
      | zero => simp at e; subst e; exact ⟨_, rfl, a⟩
      | succ i =>
        obtain ⟨v, h1, h2⟩ := b.getV (i := i) (by simpa using e)
        exact ⟨v, by simpa using h1, h2⟩
theorem RepA.app : ∀ {xs ys : List PV} {vs ws : List V}, RepA K ad F xs vs → RepA K ad F ys ws → RepA K ad F (xs ++ ys) (vs ++ ws)
  | [], _, _, _, h, q => by cases h; exact q
  | _ :: _, _, _, _, h, q => by
    cases h with
    | cons a b => exact .cons a (b.app q)
theorem RepA.take : ∀ {xs : List PV} {vs : List V} (n : Nat), RepA K ad F xs vs → RepA K ad F (xs.take n) (vs.take n)
  | _, _, 0, _ => .nil
  | [], _, _ + 1, h => by cases h; exact .nil
  | _ :: _, _, n + 1, h => by
    cases h with
    | cons a b => exact .cons a (RepA.take n b)
theorem RepA.drop : ∀ {xs : List PV} {vs : List V} (n : Nat), RepA K ad F xs vs → RepA K ad F (xs.drop n) (vs.drop n)
  | _, _, 0, h => h
  | [], _, _ + 1, h => by cases h; exact .nil
  | _ :: _, _, n + 1, h => by
    cases h with
    | cons a b => exact RepA.drop n b
theorem RepA.rev {xs : List PV} {vs : List V} (h : RepA K ad F xs vs) : RepA K ad F xs.reverse vs.reverse := by
  induction xs generalizing vs with
  | nil => cases h; exact .nil
  | cons x xs ih =>
    cases h with
    | cons a b =>
      rw [List.reverse_cons, List.reverse_cons]
      exact (ih b).app (.cons a .nil)
theorem RepA.set : ∀ {xs : List PV} {vs : List V} (i : Nat) {x : PV} {v : V}, Rep K ad F x v → RepA K ad F xs vs → RepA K ad F (xs.set i x) (vs.set i v)
  | [], _, _, _, _, _, h => by cases h; exact .nil
  | _ :: _, _, i, _, _, r, h => by
    cases h with
    | cons a b =>
      cases i with
      | zero => exact .cons r b
      | succ i => exact .cons a (RepA.set i r b)
mutual
theorem Rep.dp (e : Ex F H) : ∀ (x : PV) (v : V) (d : PyData), Rep K ad F x v → x.dat = some d → Dp K H v d
  | .non, _, _, h, q => by cases h; simp [PV.dat] at q; subst q; exact .non
  | .bl _, _, _, h, q => by cases h; simp [PV.dat] at q; subst q; exact .bl _
  | .int _, _, _, h, q => by cases h; simp [PV.dat] at q; subst q; exact .int _
  | .str _, _, _, h, q => by cases h; simp [PV.dat] at q; subst q; exact .str _
  | .tup xs, _, _, h, q => by
    cases h with
    | tup a b c =>
      simp only [PV.dat, Option.map_eq_some_iff] at q
      obtain ⟨ds, q1, q2⟩ := q
      subst q2
      exact .tup (ex_t e a) (RepA.dp e xs _ _ c q1)
  | .lst xs, _, _, h, q => by
    cases h with
    | lst a b c =>
      simp only [PV.dat, Option.map_eq_some_iff] at q
      obtain ⟨ds, q1, q2⟩ := q
      subst q2
      exact .lst (SqL.of (e _ _ a)) (RepA.dp e xs _ _ c q1)
  | .fz _, _, _, _, q => by simp [PV.dat] at q
  | .dic _, _, _, _, q => by simp [PV.dat] at q
  | .fn _, _, _, _, q => by simp [PV.dat] at q
  | .lam _ _, _, _, _, q => by simp [PV.dat] at q
theorem RepA.dp (e : Ex F H) : ∀ (xs : List PV) (vs : List V) (ds : List PyData), RepA K ad F xs vs → PV.dats xs = some ds → DpAll K H vs ds
  | [], _, _, h, q => by cases h; simp [PV.dats] at q; subst q; exact .nil
  | x :: xs, _, _, h, q => by
    cases h with
    | cons a b =>
      simp only [PV.dats] at q
      split at q
      · rename_i d ds q1 q2
        cases q
        exact .cons (Rep.dp e x _ _ a q1) (RepA.dp e xs _ _ b q2)
      · cases q
end
end

/-! ### cells, slots -/
/-- what is known of the abstract heap: what is frozen, the cells' addresses -/
structure G where
  F : Hp
  r : List (List Addr)
  p : List (Addr × HO)
/-- an address that is neither frozen nor a cell's nor guarded -/
def Free (g : G) (a : Addr) : Prop := g.F a = none ∧ a ∉ g.r.flatten ∧ ∀ q ∈ g.p, q.1 ≠ a
section
variable (K : PySem.W.Frag) (ad : Nat → Option Addr)
inductive CellR (F H : Hp) : Cell → List Addr → Prop
  | lst {a : Addr} {vs : List V} {xs : List PV} : H a = some (.lst vs) → vs.length ≤ lim → RepA K ad F xs vs → CellR F H (.lst xs) [a]
  | dead : CellR F H .dead []
structure OK (g : G) (H : Hp) (st : Store) : Prop where
  ex : Ex g.F H
  len : g.r.length = st.length
  cell : ∀ (l : Nat) (c : Cell) (as : List Addr), st[l]? = some c → g.r[l]? = some as → CellR K ad g.F H c as
  nd : g.r.flatten.Nodup
  dj : ∀ a ∈ g.r.flatten, g.F a = none
  pr : ∀ q ∈ g.p, H q.1 = some q.2 ∧ g.F q.1 = none ∧ q.1 ∉ g.r.flatten
structure Le (g g' : G) : Prop where
  ex : Ex g.F g'.F
  len : g.r.length ≤ g'.r.length
  ent : ∀ (l : Nat) (a : Addr) (as : List Addr), l < g.r.length → g'.r[l]? = some (a :: as) → g.r[l]? = some (a :: as)
  pp : g'.p = g.p
def RepS (g : G) : SV → V → Prop
  | .d v, w => Rep K ad g.F v w
  | .r l, w => l < g.r.length ∧ ∀ (a : Addr) (as : List Addr), g.r[l]? = some (a :: as) → w = .ref a
def RepSl (g : G) (sl : Slots) (σ : L2.St) : Prop := sl.length = σ.length ∧ ∀ (i : Nat) (v : SV), sl[i]? = some (some v) → ∃ w, σ[i]? = some (some w) ∧ RepS K ad g v w
inductive RepSs (g : G) : List SV → List V → Prop
  | nil : RepSs g [] []
  | cons {x : SV} {v : V} {xs : List SV} {vs : List V} : RepS K ad g x v → RepSs g xs vs → RepSs g (x :: xs) (v :: vs)
end
section
variable {K : PySem.W.Frag} {ad : Nat → Option Addr} {F F' H H' : Hp} {g g' g'' : G} {st st' : Store}
theorem Le.refl (g : G) : Le g g := ⟨Ex.refl _, Nat.le_refl _, fun _ _ _ _ h => h, rfl⟩
theorem Le.trans (a : Le g g') (b : Le g' g'') : Le g g'' :=
  ⟨a.ex.trans b.ex, Nat.le_trans a.len b.len, fun l x as h q => a.ent l x as h (b.ent l x as (Nat.lt_of_lt_of_le h a.len) q), b.pp.trans a.pp⟩
theorem RepS.mono {x : SV} {v : V} (l : Le g g') (h : RepS K ad g x v) : RepS K ad g' x v := by
  cases x with
  | d x => exact Rep.mono l.ex x v h
  | r n => exact ⟨Nat.lt_of_lt_of_le h.1 l.len, fun a as q => h.2 a as (l.ent n a as h.1 q)⟩
theorem RepSl.mono {sl : Slots} {σ : L2.St} (l : Le g g') (h : RepSl K ad g sl σ) : RepSl K ad g' sl σ :=
  ⟨h.1, fun i v e => let ⟨w, a, b⟩ := h.2 i v e; ⟨w, a, b.mono l⟩⟩
theorem RepSs.mono (l : Le g g') : ∀ {xs : List SV} {vs : List V}, RepSs K ad g xs vs → RepSs K ad g' xs vs
  | _, _, .nil => .nil
  | _, _, .cons a b => .cons (a.mono l) (RepSs.mono l b)
theorem RepSs.len : ∀ {xs : List SV} {vs : List V}, RepSs K ad g xs vs → xs.length = vs.length
  | _, _, .nil => rfl
  | _, _, .cons _ b => congrArg (· + 1) b.len
theorem RepSs.app : ∀ {xs ys : List SV} {vs ws : List V}, RepSs K ad g xs vs → RepSs K ad g ys ws → RepSs K ad g (xs ++ ys) (vs ++ ws)
  | _, _, _, _, .nil, q => q
  | _, _, _, _, .cons a b, q => .cons a (b.app q)
theorem RepSl.set {sl : Slots} {σ : L2.St} {x : SV} {v : V} (i : Nat) (h : RepSl K ad g sl σ) (r : RepS K ad g x v) : RepSl K ad g (sl.set i (some x)) (σ.set i (some v)) := by
  refine ⟨by rw [List.length_set, List.length_set, h.1], fun j y e => ?_⟩
  by_cases hj : i = j
  · subst hj
    by_cases hl : i < sl.length
    · rw [List.getElem?_set_self hl] at e
      cases e
      exact ⟨v, List.getElem?_set_self (by rw [← h.1]; exact hl), r⟩
    · rw [List.getElem?_eq_none (by rw [List.length_set]; omega)] at e
      cases e
  · rw [List.getElem?_set_ne hj] at e ⊢
    exact h.2 j y e
theorem CellR.ext {c : Cell} {as : List Addr} (e : Ex F F') (e2 : ∀ a ∈ as, H' a = H a) (h : CellR K ad F H c as) : CellR K ad F' H' c as := by
  cases h with
  | lst a b d => exact .lst (by rw [e2 _ (by simp)]; exact a) b (RepA.mono e _ _ d)
  | dead => exact .dead
theorem CellR.there {c : Cell} {as : List Addr} (h : CellR K ad F H c as) : ∀ a ∈ as, H a ≠ none := by
  cases h with
  | lst a b d =>
    intro z hz q
    have e := List.mem_singleton.mp hz
    rw [e, a] at q
    cases q
  | dead => intro _ h; cases h
theorem mem_flat {l : List (List Addr)} {a : Addr} (h : a ∈ l.flatten) : ∃ (i : Nat) (as : List Addr), l[i]? = some as ∧ a ∈ as := by
  obtain ⟨as, h1, h2⟩ := List.mem_flatten.mp h
  obtain ⟨i, hi, e⟩ := List.mem_iff_getElem.mp h1
  exact ⟨i, as, by rw [List.getElem?_eq_getElem hi, e], h2⟩
theorem OK.there (o : OK K ad g H st) {a : Addr} (h : a ∈ g.r.flatten) : H a ≠ none := by
  obtain ⟨i, as, h1, h2⟩ := mem_flat h
  have hi : i < st.length := by rw [← o.len]; exact (List.getElem?_eq_some_iff.mp h1).1
  exact (o.cell i _ as (List.getElem?_eq_getElem hi) h1).there a h2
theorem OK.notin (o : OK K ad g H st) {a : Addr} (h : H a = none) : a ∉ g.r.flatten := fun q => o.there q h
theorem OK.fnone (o : OK K ad g H st) {a : Addr} (h : H a = none) : g.F a = none := by
  cases e : g.F a with
  | none => rfl
  | some u => rw [o.ex a u e] at h; cases h
theorem OK.ext (o : OK K ad g H st) (e : Ex H H') : OK K ad g H' st where
  ex := o.ex.trans e
  len := o.len
  cell := fun l c as h1 h2 => by
    have q := o.cell l c as h1 h2
    refine q.ext (Ex.refl _) fun a ha => ?_
    cases h : H a with
    | none => exact absurd h (q.there a ha)
    | some u => exact e a u h
  nd := o.nd
  dj := o.dj
  pr := fun q hq => let ⟨a, b, c⟩ := o.pr q hq; ⟨e _ _ a, b, c⟩
theorem OK.free (o : OK K ad g H st) {a : Addr} (h : H a = none) : Free g a :=
  ⟨o.fnone h, o.notin h, fun q hq z => by rw [← z, (o.pr q hq).1] at h; cases h⟩
/-- p is frozen -/
theorem OK.froz (o : OK K ad g H st) {p : Addr} {u : HO} (h : H p = some u) (fr : Free g p) : OK K ad ⟨upd g.F p u, g.r, g.p⟩ H st ∧ Le g ⟨upd g.F p u, g.r, g.p⟩ := by
  have hn := fr.2.1
  have e1 : Ex g.F (upd g.F p u) := fun a v q => by
    by_cases z : a = p
    · subst z
      rw [o.ex a v q] at h
      cases h
      exact upd_same
    · rw [upd_ne z]; exact q
  refine ⟨⟨fun a v q => ?_, o.len, fun l c as h1 h2 => (o.cell l c as h1 h2).ext e1 fun _ _ => rfl, o.nd, fun a ha => ?_, fun q hq => ⟨(o.pr q hq).1, ?_, (o.pr q hq).2.2⟩⟩, ⟨e1, Nat.le_refl _, fun _ _ _ _ q => q, rfl⟩⟩
  rotate_left 2
  · show upd g.F p u q.1 = none
    rw [upd_ne (fr.2.2 q hq)]
    exact (o.pr q hq).2.1
  · by_cases z : a = p
    · subst z
      have q' : upd g.F a u a = some v := q
      rw [upd_same] at q'
      rw [h, q']
    · have q' : upd g.F p u a = some v := q
      rw [upd_ne z] at q'
      exact o.ex a v q'
  · show upd g.F p u a = none
    rw [upd_ne (fun z : a = p => hn (by rw [← z]; exact ha))]
    exact o.dj a ha
/-- a new cell -/
theorem OK.new (o : OK K ad g H st) {p : Addr} {vs : List V} {xs : List PV} (h : H p = some (.lst vs)) (fr : Free g p) (hl : vs.length ≤ lim) (r : RepA K ad g.F xs vs) :
    OK K ad ⟨g.F, g.r ++ [[p]], g.p⟩ H (st ++ [.lst xs]) ∧ Le g ⟨g.F, g.r ++ [[p]], g.p⟩ := by
  have hf := fr.1
  have hn := fr.2.1
  refine ⟨⟨o.ex, by simp [o.len], fun l c as h1 h2 => ?_, ?_, fun a ha => ?_, fun q hq => ⟨(o.pr q hq).1, (o.pr q hq).2.1, fun z => ?_⟩⟩, ⟨Ex.refl _, by simp, fun l a as h1 h2 => ?_, rfl⟩⟩
  rotate_left 3
  · have z : q.1 ∈ (g.r ++ [[p]]).flatten := z
    rw [List.flatten_append, List.mem_append] at z
    rcases z with z | z
    · exact (o.pr q hq).2.2 z
    · simp at z
      exact fr.2.2 q hq z
  · have h2 : (g.r ++ [[p]])[l]? = some (a :: as) := h2
    rw [List.getElem?_append_left h1] at h2
    exact h2
  · by_cases z : l < st.length
    · rw [List.getElem?_append_left z] at h1
      rw [List.getElem?_append_left (by rw [o.len]; exact z)] at h2
      exact o.cell l c as h1 h2
    · rw [List.getElem?_append_right (by omega)] at h1
      rw [List.getElem?_append_right (by rw [o.len]; omega), o.len] at h2
      cases e : l - st.length with
      | zero =>
        rw [e] at h1 h2
        simp at h1 h2
        subst h1 h2
        exact .lst h hl r
      | succ k => rw [e] at h1; simp at h1
  · show (g.r ++ [[p]]).flatten.Nodup
    rw [List.flatten_append, List.nodup_append]
    refine ⟨o.nd, by simp, fun a ha b hb e => ?_⟩
    simp at hb
    subst e hb
    exact hn ha
  · have ha : a ∈ (g.r ++ [[p]]).flatten := ha
    rw [List.flatten_append, List.mem_append] at ha
    rcases ha with ha | ha
    · exact o.dj a ha
    · simp at ha
      subst ha
      exact hf
theorem flat_set_nil {l : List (List Addr)} {i : Nat} {a : Addr} (h : a ∈ (l.set i []).flatten) : a ∈ l.flatten := by
  obtain ⟨as, h1, h2⟩ := List.mem_flatten.mp h
  rcases List.mem_or_eq_of_mem_set h1 with z | z
  · exact List.mem_flatten.mpr ⟨as, z, h2⟩
  · rw [z] at h2; cases h2
theorem nodup_flat_at : ∀ {l : List (List Addr)} {i j : Nat} {as bs : List Addr} {a : Addr}, l.flatten.Nodup → l[i]? = some as → l[j]? = some bs → a ∈ as → a ∈ bs → i = j
  | [], i, _, _, _, _, _, h, _, _, _ => by simp at h
  | x :: l, i, j, as, bs, a, nd, h1, h2, m1, m2 => by
    rw [List.flatten_cons, List.nodup_append] at nd
    obtain ⟨n1, n2, n3⟩ := nd
    have inn : ∀ {k : Nat} {cs : List Addr}, l[k]? = some cs → a ∈ cs → a ∈ l.flatten := fun e m => List.mem_flatten.mpr ⟨_, List.mem_of_getElem? e, m⟩
    cases i with
    | zero =>
      cases j with
      | zero => rfl
      | succ j =>
        simp at h1 h2
        subst h1
        exact absurd rfl (n3 a m1 a (inn h2 m2))
    | succ i =>
      cases j with
      | zero =>
        simp at h1 h2
        subst h2
        exact absurd rfl (n3 a m2 a (inn h1 m1))
      | succ j =>
        simp at h1 h2
        exact congrArg (· + 1) (nodup_flat_at n2 h1 h2 m1 m2)
theorem nodup_set_nil : ∀ {l : List (List Addr)} (i : Nat), l.flatten.Nodup → (l.set i []).flatten.Nodup
  | [], _, h => h
  | x :: l, 0, h => by
    rw [List.flatten_cons, List.nodup_append] at h
    rw [List.set_cons_zero, List.flatten_cons, List.nil_append]
    exact h.2.1
  | x :: l, i + 1, h => by
    rw [List.flatten_cons, List.nodup_append] at h
    rw [List.set_cons_succ, List.flatten_cons, List.nodup_append]
    exact ⟨h.1, nodup_set_nil i h.2.1, fun a ha b hb => h.2.2 a ha b (flat_set_nil hb)⟩
/-- a cell is written -/
theorem OK.set (o : OK K ad g H st) {l : Nat} {a : Addr} {vs : List V} {xs : List PV} {c : Cell} (h1 : st[l]? = some c) (h2 : g.r[l]? = some [a]) (hl : vs.length ≤ lim) (r : RepA K ad g.F xs vs) :
    OK K ad g (upd H a (.lst vs)) (st.set l (.lst xs)) where
  ex := fun b v q => by
    rw [upd_ne]
    · exact o.ex b v q
    · intro z
      subst z
      rw [o.dj b (List.mem_flatten.mpr ⟨_, List.mem_of_getElem? h2, by simp⟩)] at q
      cases q
  len := by rw [List.length_set]; exact o.len
  cell := fun k c' as e1 e2 => by
    by_cases z : l = k
    · subst z
      rw [List.getElem?_set_self (List.getElem?_eq_some_iff.mp h1).1] at e1
      rw [h2] at e2
      cases e1
      cases e2
      exact .lst upd_same hl r
    · rw [List.getElem?_set_ne z] at e1
      refine (o.cell k c' as e1 e2).ext (Ex.refl _) fun b hb => upd_ne fun y => ?_
      subst y
      exact z (nodup_flat_at o.nd h2 e2 (by simp) hb)
  nd := o.nd
  dj := o.dj
  pr := fun q hq => by
    obtain ⟨p1, p2, p3⟩ := o.pr q hq
    refine ⟨?_, p2, p3⟩
    rw [upd_ne (fun z : q.1 = a => p3 (by rw [z]; exact List.mem_flatten.mpr ⟨_, List.mem_of_getElem? h2, by simp⟩))]
    exact p1
/-- a cell is frozen -/
theorem OK.frz (o : OK K ad g H st) {l : Nat} {a : Addr} {vs : List V} {c : Cell} (h1 : st[l]? = some c) (h2 : g.r[l]? = some [a]) (h : H a = some (.lst vs)) :
    OK K ad ⟨upd g.F a (.lst vs), g.r.set l [], g.p⟩ H (st.set l .dead) ∧ Le g ⟨upd g.F a (.lst vs), g.r.set l [], g.p⟩ := by
  have hf : g.F a = none := o.dj a (List.mem_flatten.mpr ⟨_, List.mem_of_getElem? h2, by simp⟩)
  have e1 : Ex g.F (upd g.F a (.lst vs)) := Ex.new hf
  have hll : l < g.r.length := (List.getElem?_eq_some_iff.mp h2).1
  have nin : a ∉ (g.r.set l []).flatten := fun q => by
    obtain ⟨i, as, q1, q2⟩ := mem_flat q
    by_cases z : l = i
    · subst z
      rw [List.getElem?_set_self hll] at q1
      cases q1
      cases q2
    · rw [List.getElem?_set_ne z] at q1
      exact z (nodup_flat_at o.nd h2 q1 (by simp) q2)
  refine ⟨⟨fun b v q => ?_, by simp [o.len], fun k c' as q1 q2 => ?_, nodup_set_nil l o.nd, fun b hb => ?_, fun q hq => ⟨(o.pr q hq).1, ?_, fun z => (o.pr q hq).2.2 (flat_set_nil z)⟩⟩, ⟨e1, by simp, fun k b as q1 q2 => ?_, rfl⟩⟩
  rotate_left 3
  · show upd g.F a (.lst vs) q.1 = none
    rw [upd_ne (fun z : q.1 = a => (o.pr q hq).2.2 (by rw [z]; exact List.mem_flatten.mpr ⟨_, List.mem_of_getElem? h2, by simp⟩))]
    exact (o.pr q hq).2.1
  · have q2 : (g.r.set l [])[k]? = some (b :: as) := q2
    by_cases z : l = k
    · subst z
      rw [List.getElem?_set_self hll] at q2
      cases q2
    · rw [List.getElem?_set_ne z] at q2
      exact q2
  · by_cases z : b = a
    · subst z
      have q' : upd g.F b (.lst vs) b = some v := q
      rw [upd_same] at q'
      rw [h, q']
    · have q' : upd g.F a (.lst vs) b = some v := q
      rw [upd_ne z] at q'
      exact o.ex b v q'
  · have q2 : (g.r.set l [])[k]? = some as := q2
    by_cases z : l = k
    · subst z
      rw [List.getElem?_set_self (List.getElem?_eq_some_iff.mp h1).1] at q1
      rw [List.getElem?_set_self hll] at q2
      cases q1
      cases q2
      exact .dead
    · rw [List.getElem?_set_ne z] at q1 q2
      exact (o.cell k c' as q1 q2).ext e1 fun _ _ => rfl
  · show upd g.F a (.lst vs) b = none
    have hb : b ∈ (g.r.set l []).flatten := hb
    rw [upd_ne (fun z : b = a => nin (by rw [← z]; exact hb))]
    exact o.dj b (flat_set_nil hb)
/-- the cells of a def that is left are dropped -/
theorem OK.take (o : OK K ad g H st) (n : Nat) : OK K ad ⟨g.F, g.r.take n, g.p⟩ H (st.take n) where
  ex := o.ex
  len := by simp [o.len]
  cell := fun l c as h1 h2 => by
    have h2 : (g.r.take n)[l]? = some as := h2
    rw [List.getElem?_take] at h1 h2
    split at h1
    · rename_i z
      rw [if_pos z] at h2
      exact o.cell l c as h1 h2
    · cases h1
  nd := by
    have e : g.r.flatten = (g.r.take n).flatten ++ (g.r.drop n).flatten := by rw [← List.flatten_append, List.take_append_drop]
    have := o.nd
    rw [e, List.nodup_append] at this
    exact this.1
  dj := fun a ha => o.dj a (by
    have e : g.r.flatten = (g.r.take n).flatten ++ (g.r.drop n).flatten := by rw [← List.flatten_append, List.take_append_drop]
    rw [e]
    exact List.mem_append_left _ ha)
  pr := fun q hq => ⟨(o.pr q hq).1, (o.pr q hq).2.1, fun z => (o.pr q hq).2.2 (by
    have e : g.r.flatten = (g.r.take n).flatten ++ (g.r.drop n).flatten := by rw [← List.flatten_append, List.take_append_drop]
    rw [e]
    exact List.mem_append_left _ z)⟩
theorem Le.take (l : Le g g') : Le g ⟨g'.F, g'.r.take g.r.length, g'.p⟩ :=
  ⟨l.ex, by simp [l.len], fun k a as h q => l.ent k a as h (by
    have q : (g'.r.take g.r.length)[k]? = some (a :: as) := q
    rw [List.getElem?_take, if_pos h] at q
    exact q), l.pp⟩
/-- an address is guarded while a term runs -/
theorem OK.guard (o : OK K ad g H st) {p : Addr} {u : HO} (h : H p = some u) (fr : Free g p) : OK K ad ⟨g.F, g.r, (p, u) :: g.p⟩ H st where
  ex := o.ex
  len := o.len
  cell := o.cell
  nd := o.nd
  dj := o.dj
  pr := fun q hq => by
    rcases List.mem_cons.mp hq with e | e
    · subst e
      exact ⟨h, fr.1, fr.2.1⟩
    · exact o.pr q e
theorem OK.unguard {p : List (Addr × HO)} {q : Addr × HO} (o : OK K ad g H st) (e : g.p = q :: p) : OK K ad ⟨g.F, g.r, p⟩ H st :=
  ⟨o.ex, o.len, o.cell, o.nd, o.dj, fun z hz => o.pr z (by rw [e]; exact List.mem_cons_of_mem _ hz)⟩
end
end Fo
end -- FoRep

section -- FoExpr
set_option Elab.async false
set_option linter.all false
set_option maxRecDepth 100000
set_option maxHeartbeats 1000000
/-! FoExpr: the readings of terms, and that the rules' readings follow from them. -/
namespace Fo
open PySem L2 Evl
theorem PEimp {X : Cx} {e : Expr} {t t' : TE} (h : PE X e t) (i : ∀ σ H Q, t' σ H Q → t σ H Q) : PE X e t' :=
  ⟨fun pins s σ H Q I q => h.run pins s σ H Q I (i σ H Q q)⟩
theorem PTimp {X : Cx} {e : Expr} {t t' : TT} (h : PT X e t) (i : ∀ σ H Q, t' σ H Q → t σ H Q) : PT X e t' :=
  ⟨fun pins s σ H Q I q => h.run pins s σ H Q I (i σ H Q q)⟩
theorem PAimp {X : Cx} {es : List Expr} {t t' : TA} (h : PA X es t) (i : ∀ σ H Q, t' σ H Q → t σ H Q) : PA X es t' :=
  ⟨fun p pins s σ H Q I q => h.run p pins s σ H Q I (i σ H Q q)⟩
/-! ### ends of runs -/
section
variable {α β γ : Type}
def Fin (r : Option (Res α)) (P : α → Store → Prop) (W : Exc → Store → Prop) : Prop := match r with
  | some (.ok a st) => P a st
  | some (.ex x st) => W x st
  | none => False
theorem Fin.bnd {m : M α} {k : α → M β} {st : Store} {P : β → Store → Prop} {W : Exc → Store → Prop} (h : Fin (bnd m k st) P W) : Fin (m st) (fun a st' => Fin (k a st') P W) W := by
  unfold Fo.bnd at h
  cases e : m st with
  | none => rw [e] at h; exact h
  | some r =>
    rw [e] at h
    cases r with
    | ok a st' => exact h
    | ex x st' => exact h
theorem Fin.imp {r : Option (Res α)} {P P' : α → Store → Prop} {W W' : Exc → Store → Prop} (h : Fin r P W) (p : ∀ a st, P a st → P' a st) (w : ∀ x st, W x st → W' x st) : Fin r P' W' := by
  cases r with
  | none => exact h
  | some r =>
    cases r with
    | ok a st => exact p a st h
    | ex x st => exact w x st h
theorem bnd_assoc (m : M α) (f : α → M β) (k : β → M γ) : bnd (bnd m f) k = bnd m fun a => bnd (f a) k := by
  funext st
  unfold bnd
  cases m st with
  | none => rfl
  | some r => cases r <;> rfl
theorem Fin.ofO {o : Option α} {k : α → M β} {st : Store} {P : β → Store → Prop} {W : Exc → Store → Prop} (h : Fin (Fo.bnd (Fo.ofO o) k st) P W) : ∃ a, o = some a ∧ Fin (k a st) P W := by
  cases o with
  | none => exact h.elim
  | some a => exact ⟨a, rfl, h⟩
theorem Fin.asD {x : SV} {k : PV → M β} {st : Store} {P : β → Store → Prop} {W : Exc → Store → Prop} (h : Fin (Fo.bnd (Fo.asD x) k st) P W) : ∃ v, x = .d v ∧ Fin (k v st) P W := by
  cases x with
  | d v => exact ⟨v, rfl, h⟩
  | r l => exact h.elim
theorem Fin.asI {x : SV} {k : Int → M β} {st : Store} {P : β → Store → Prop} {W : Exc → Store → Prop} (h : Fin (Fo.bnd (Fo.asI x) k st) P W) : ∃ i, x = .d (.int i) ∧ Fin (k i st) P W := by
  cases x with
  | d v =>
    cases v with
    | int i => exact ⟨i, rfl, h⟩
    | _ => exact h.elim
  | r l => exact h.elim
theorem Fin.asB {x : SV} {k : Bool → M β} {st : Store} {P : β → Store → Prop} {W : Exc → Store → Prop} (h : Fin (Fo.bnd (Fo.asB x) k st) P W) : ∃ b, x = .d (.bl b) ∧ Fin (k b st) P W := by
  cases x with
  | d v =>
    cases v with
    | bl b => exact ⟨b, rfl, h⟩
    | _ => exact h.elim
  | r l => exact h.elim
end
/-! ### what may be read now -/
inductive RepH (K : PySem.W.Frag) (ad : Nat → Option Addr) (F H : Hp) : PV → V → Prop
  | of {x : PV} {v : V} : Rep K ad F x v → RepH K ad F H x v
  | cell {a : Addr} {vs : List V} {xs : List PV} : H a = some (.lst vs) → vs.length ≤ lim → RepA K ad F xs vs → RepH K ad F H (.lst xs) (.ref a)
section
variable {K : PySem.W.Frag} {ad : Nat → Option Addr} {F F' H H' : Hp} {g g0 g1 g' g'' : G} {st st' : Store} {w : V}
theorem RepH.int {i : Int} (h : RepH K ad F H (.int i) w) : w = .int i := by
  cases h with
  | of h => cases h; rfl
theorem RepH.bl {i : Bool} (h : RepH K ad F H (.bl i) w) : w = .bl i := by
  cases h with
  | of h => cases h; rfl
theorem RepH.str {i : Str} (h : RepH K ad F H (.str i) w) : w = .str i := by
  cases h with
  | of h => cases h; rfl
theorem RepH.non (h : RepH K ad F H .non w) : w = .non := by
  cases h with
  | of h => cases h; rfl
theorem RepH.tup {xs : List PV} (e : Ex F H) (h : RepH K ad F H (.tup xs) w) : ∃ a vs, w = .ref a ∧ SqT K H a vs ∧ vs.length ≤ lim ∧ RepA K ad F xs vs := by
  cases h with
  | of h =>
    cases h with
    | tup a b c => exact ⟨_, _, rfl, ex_t e a, b, c⟩
theorem RepH.lst {xs : List PV} (e : Ex F H) (h : RepH K ad F H (.lst xs) w) : ∃ a vs, w = .ref a ∧ H a = some (.lst vs) ∧ vs.length ≤ lim ∧ RepA K ad F xs vs := by
  cases h with
  | of h =>
    cases h with
    | lst a b c => exact ⟨_, _, rfl, e _ _ a, b, c⟩
  | cell a b c => exact ⟨_, _, rfl, a, b, c⟩
theorem RepH.fz {xs : List PV} (e : Ex F H) (h : RepH K ad F H (.fz xs) w) : ∃ a vs, w = .ref a ∧ SqL K H a vs ∧ vs.length ≤ lim ∧ RepA K ad F xs vs := by
  cases h with
  | of h =>
    cases h with
    | fz a b c => exact ⟨_, _, rfl, ex_l e a, b, c⟩
theorem RepH.dp {x : PV} {d : PyData} (e : Ex F H) (h : RepH K ad F H x w) (q : x.dat = some d) : Dp K H w d := by
  cases h with
  | of h => exact Rep.dp e x w d h q
  | cell a b c =>
    simp only [PV.dat, Option.map_eq_some_iff] at q
    obtain ⟨ds, q1, q2⟩ := q
    subst q2
    exact .lst (SqL.of a) (RepA.dp e _ _ _ c q1)
theorem Fin.rd {β : Type} {x : SV} {k : PV → M β} {P : β → Store → Prop} {W : Exc → Store → Prop} (o : OK K ad g H st) (r : RepS K ad g x w) (h : Fin (Fo.bnd (Fo.rd x) k st) P W) : ∃ v, Fo.rd x st = some (.ok v st) ∧ RepH K ad g.F H v w ∧ Fin (k v st) P W := by
  cases x with
  | d v => exact ⟨v, rfl, .of r, h⟩
  | r l =>
    cases e : st[l]? with
    | none =>
      have z : Fo.rd (.r l) st = none := by unfold Fo.rd; simp only [e]
      unfold Fo.bnd at h
      rw [z] at h
      exact h.elim
    | some c =>
      cases c with
      | lst xs =>
        have z : Fo.rd (.r l) st = some (.ok (.lst xs) st) := by unfold Fo.rd; simp only [e]
        rw [bnd_ok z] at h
        have hl : l < g.r.length := by rw [o.len]; exact (List.getElem?_eq_some_iff.mp e).1
        have q := o.cell l _ _ e (List.getElem?_eq_getElem hl)
        have q2 := r.2
        rw [List.getElem?_eq_getElem hl] at q2
        generalize g.r[l] = as at q q2
        cases q with
        | lst a b c =>
          rw [q2 _ _ rfl]
          exact ⟨_, z, .cell a b c, h⟩
      | obj c fs =>
        have z : Fo.rd (.r l) st = none := by unfold Fo.rd; simp only [e]
        unfold Fo.bnd at h
        rw [z] at h
        exact h.elim
      | dead =>
        have z : Fo.rd (.r l) st = none := by unfold Fo.rd; simp only [e]
        unfold Fo.bnd at h
        rw [z] at h
        exact h.elim
/-! ### exceptions, readings -/
def attrOf (c : Nat) : Str := if c = 901 then "given" else if c = 902 then "reason" else ""
def RepX (K : PySem.W.Frag) (ad : Nat → Option Addr) (g : G) (H : Hp) (x : Exc) (cls : Value) (d : Option Addr) : Prop :=
  ∃ C, ad x.c = some C ∧ cls = .ref C ∧ match x.p with
    | none => True
    | some v => ∃ dd fs w, d = some dd ∧ H dd = some (.xd fs) ∧ fs.lookup (attrOf x.c) = some w ∧ Rep K ad g.F v w
variable (K ad)
def Wx (g : G) (E : XK) : Exc → Store → Prop := fun x st' => ∀ g' H' cls d, Le g g' → OK K ad g' H' st' → RepX K ad g' H' x cls d → E cls d H'
def Px (g : G) (Q : VK) : SV → Store → Prop := fun v st' => ∀ g' H' w, Le g g' → OK K ad g' H' st' → RepS K ad g' v w → Q w H'
def tEv (E : XK) (m : Slots → M SV) : TE := fun σ H Q => ∃ g sl st, OK K ad g H st ∧ RepSl K ad g sl σ ∧ Fin (m sl st) (Px K ad g Q) (Wx K ad g E)
/-- a new list, not frozen yet -/
def Pf (g : G) (Q : VK) : SV → Store → Prop := fun v st' => ∃ xs, v = .d (.lst xs) ∧ ∀ g' H' p vs, Le g g' → OK K ad g' H' st' → H' p = some (.lst vs) → Free g' p → vs.length ≤ lim → RepA K ad g'.F xs vs → Q (.ref p) H'
def tFr (E : XK) (m : Slots → M SV) : TE := fun σ H Q => ∃ g sl st, OK K ad g H st ∧ RepSl K ad g sl σ ∧ Fin (m sl st) (Pf K ad g Q) (Wx K ad g E)
/-- arguments -/
def Pa (g : G) (Q : List V → Hp → Prop) : List SV → Store → Prop := fun vs st' => ∀ g' H' ws, Le g g' → OK K ad g' H' st' → RepSs K ad g' vs ws → Q ws H'
def tAv (E : XK) (m : Slots → M (List SV)) : TA := fun σ H Q => ∃ g sl st, OK K ad g H st ∧ RepSl K ad g sl σ ∧ Fin (m sl st) (Pa K ad g Q) (Wx K ad g E)
/-- tests -/
def Pt (g : G) (Q : Bool → Hp → Prop) : Bool → Store → Prop := fun b st' => ∀ g' H', Le g g' → OK K ad g' H' st' → Q b H'
def tTv (E : XK) (m : Slots → M Bool) : TT := fun σ H Q => ∃ g sl st, OK K ad g H st ∧ RepSl K ad g sl σ ∧ Fin (m sl st) (Pt K ad g Q) (Wx K ad g E)
variable {K ad}
theorem Wx.mono {E : XK} (l : Le g g') {x : Exc} {st : Store} (h : Wx K ad g E x st) : Wx K ad g' E x st := fun g2 H' cls d l2 o r => h g2 H' cls d (l.trans l2) o r
/-- the first part runs, then what follows -/
theorem ev_bind {β : Type} {E : XK} {m : Slots → M SV} {k : SV → M β} {sl : Slots} {σ : L2.St} {P : β → Store → Prop} {Q : VK} (l0 : Le g0 g) (o : OK K ad g H st) (rs : RepSl K ad g sl σ) (h : Fin (bnd (m sl) k st) P (Wx K ad g0 E))
    (next : ∀ v st1 g1 H1 w, Le g0 g1 → Le g g1 → OK K ad g1 H1 st1 → RepSl K ad g1 sl σ → RepS K ad g1 v w → Fin (k v st1) P (Wx K ad g0 E) → Q w H1) : tEv K ad E m σ H Q :=
  ⟨g, sl, st, o, rs, h.bnd.imp (fun v st1 hk g' H' w le o' r => next v st1 g' H' w (l0.trans le) le o' (rs.mono le) r hk) fun x st1 hw => hw.mono l0⟩
theorem av_bind {β : Type} {E : XK} {m : Slots → M (List SV)} {k : List SV → M β} {sl : Slots} {σ : L2.St} {P : β → Store → Prop} {Q : List V → Hp → Prop} (l0 : Le g0 g) (o : OK K ad g H st) (rs : RepSl K ad g sl σ) (h : Fin (bnd (m sl) k st) P (Wx K ad g0 E))
    (next : ∀ v st1 g1 H1 w, Le g0 g1 → Le g g1 → OK K ad g1 H1 st1 → RepSl K ad g1 sl σ → RepSs K ad g1 v w → Fin (k v st1) P (Wx K ad g0 E) → Q w H1) : tAv K ad E m σ H Q :=
  ⟨g, sl, st, o, rs, h.bnd.imp (fun v st1 hk g' H' w le o' r => next v st1 g' H' w (l0.trans le) le o' (rs.mono le) r hk) fun x st1 hw => hw.mono l0⟩
theorem tv_bind {β : Type} {E : XK} {m : Slots → M Bool} {k : Bool → M β} {sl : Slots} {σ : L2.St} {P : β → Store → Prop} {Q : Bool → Hp → Prop} (l0 : Le g0 g) (o : OK K ad g H st) (rs : RepSl K ad g sl σ) (h : Fin (bnd (m sl) k st) P (Wx K ad g0 E))
    (next : ∀ v st1 g1 H1, Le g0 g1 → Le g g1 → OK K ad g1 H1 st1 → RepSl K ad g1 sl σ → Fin (k v st1) P (Wx K ad g0 E) → Q v H1) : tTv K ad E m σ H Q :=
  ⟨g, sl, st, o, rs, h.bnd.imp (fun v st1 hk g' H' le o' => next v st1 g' H' (l0.trans le) le o' (rs.mono le) hk) fun x st1 hw => hw.mono l0⟩
/-- a new frozen object -/
theorem OK.lay (o : OK K ad g H st) {p : Addr} (hp : H p = none) (u : HO) : OK K ad ⟨upd g.F p u, g.r, g.p⟩ (upd H p u) st ∧ Le g ⟨upd g.F p u, g.r, g.p⟩ :=
  (o.ext (Ex.new hp)).froz upd_same (o.free hp)
theorem Rep.tupNew {p : Addr} {vs : List V} {xs : List PV} (hl : vs.length ≤ lim) (e : Ex F F') (r : RepA K ad F xs vs) (h : F' p = some (.tup vs)) : Rep K ad F' (.tup xs) (.ref p) := .tup (SqT.of h) hl (RepA.mono e _ _ r)
theorem Rep.lstNew {p : Addr} {vs : List V} {xs : List PV} (hl : vs.length ≤ lim) (e : Ex F F') (r : RepA K ad F xs vs) (h : F' p = some (.lst vs)) : Rep K ad F' (.lst xs) (.ref p) := .lst h hl (RepA.mono e _ _ r)
/-- what a new tuple, a new list asks: the end for data -/
theorem fin_tup {E : XK} {Q : VK} (l0 : Le g0 g) (o : OK K ad g H st) {vs : List V} {xs : List PV} (hl : vs.length ≤ lim) (r : RepA K ad g.F xs vs) (h : Fin (ok (SV.d (.tup xs)) st) (Px K ad g0 Q) (Wx K ad g0 E)) {p : Addr} (hp : H p = none) :
    Q (.ref p) (upd H p (.tup vs)) := by
  obtain ⟨o2, l2⟩ := o.lay hp (.tup vs)
  exact h _ _ _ (l0.trans l2) o2 (Rep.tupNew hl l2.ex r upd_same)
theorem fin_lst {E : XK} {Q : VK} (l0 : Le g0 g) (o : OK K ad g H st) {vs : List V} {xs : List PV} (hl : vs.length ≤ lim) (r : RepA K ad g.F xs vs) (h : Fin (ok (SV.d (.lst xs)) st) (Px K ad g0 Q) (Wx K ad g0 E)) {p : Addr} (hp : H p = none) :
    Q (.ref p) (upd H p (.lst vs)) := by
  obtain ⟨o2, l2⟩ := o.lay hp (.lst vs)
  exact h _ _ _ (l0.trans l2) o2 (Rep.lstNew hl l2.ex r upd_same)
/-- a new list not frozen: from a reading of data -/
theorem fr_of {X : Cx} {e : Expr} {E : XK} {m : Slots → M SV} (hv : ∀ sl st v st', m sl st = some (.ok v st') → ∃ xs, v = .d (.lst xs)) (h : PE X e (tFr K ad E m)) : PE X e (tEv K ad E m) := by
  refine PEimp h fun σ H Q q => ?_
  obtain ⟨g, sl, st, o, rs, f⟩ := q
  refine ⟨g, sl, st, o, rs, ?_⟩
  cases em : m sl st with
  | none => rw [em] at f; exact f
  | some r =>
    rw [em] at f
    cases r with
    | ex x s => exact f
    | ok v s =>
      obtain ⟨xs, ev⟩ := hv sl st v s em
      refine ⟨xs, ev, fun g' H' p vs le o' hp fr hl r => ?_⟩
      obtain ⟨o2, l2⟩ := o'.froz hp fr
      have f : Px K ad g Q v s := f
      rw [ev] at f
      exact f _ _ _ (le.trans l2) o2 (Rep.lstNew hl l2.ex r upd_same)
end
/-! ### names, constants -/
section
variable {K : PySem.W.Frag} {ad : Nat → Option Addr} {Ek : XK} {X : Cx} {cl : Cl} {pos : Pos}
theorem s_slot {i : Nat} {x : Str} (hN : X.N[i]? = some x) (hv : Vis X.env.scope x) (hd : (x == ("__debug__" : Str)) = false) (hcd : (x == ("__classdict__" : Str)) = false) : PE X (.Name x pos) (tEv K ad Ek (evE cl (.slot i))) := by
  refine PEimp (pe_var hN hv hd hcd) fun σ H Q q => ?_
  obtain ⟨g, sl, st, o, rs, f⟩ := q
  have f2 : Fin ((match sl[i]? with
    | some (some v) => ok v
    | _ => stk) st) (Px K ad g Q) (Wx K ad g Ek) := by
    unfold evE at f
    exact f
  cases e : sl[i]? with
  | none => rw [e] at f2; exact f2.elim
  | some u =>
    cases u with
    | none => rw [e] at f2; exact f2.elim
    | some v =>
      rw [e] at f2
      obtain ⟨w, h1, h2⟩ := rs.2 i v e
      exact ⟨w, h1, f2 g H w (Le.refl g) o h2⟩
theorem tC_of {v : PV} {w : V} (r : ∀ F, Rep K ad F v w) {m : Slots → M SV} (hm : ∀ sl, m sl = ok (.d v)) : ∀ σ H Q, tEv K ad Ek m σ H Q → tC w σ H Q := fun σ H Q q => by
  obtain ⟨g, sl, st, o, rs, f⟩ := q
  rw [hm] at f
  exact f g H w (Le.refl g) o (r g.F)
theorem s_non {j} : PE X (.Constant .none j pos) (tEv K ad Ek (evE cl .non)) := PEimp pe_non (tC_of (fun _ => .non) fun _ => by unfold evE; rfl)
theorem s_bl {b j} : PE X (.Constant (.bool b) j pos) (tEv K ad Ek (evE cl (.bl b))) := PEimp pe_bl (tC_of (fun _ => .bl b) fun _ => by unfold evE; rfl)
theorem s_int {i j} : PE X (.Constant (.int i) j pos) (tEv K ad Ek (evE cl (.int i))) := PEimp pe_int (tC_of (fun _ => .int i) fun _ => by unfold evE; rfl)
theorem s_str {x : String} {j} : PE X (.Constant (.str (Str.ofString x)) j pos) (tEv K ad Ek (evE cl (.str x))) := PEimp pe_str (tC_of (fun _ => .str _) fun _ => by unfold evE; rfl)
theorem s_glob {x : String} {c : GC} {u : Value} {w : V} (hg : Gl X (Str.ofString x)) (hm : X.mg (Str.ofString x) = some u) (r : RelV w u) (rep : ∀ F, Rep K ad F c.val w) (hd : (Str.ofString x == ("__debug__" : Str)) = false) :
    PE X (.Name (Str.ofString x) pos) (tEv K ad Ek (evE cl (.glob x c))) := PEimp (pe_glob hg hm r hd) (tC_of rep fun _ => by unfold evE; rfl)
theorem s_fnv {x : Str} {f : Nat} {a : Addr} (hg : Gl X x) (hm : X.mg x = some (.ref a)) (ha : ad f = some a) (hd : (x == ("__debug__" : Str)) = false) :
    PE X (.Name x pos) (tEv K ad Ek (evE cl (.fnv f))) := PEimp (pe_glob (v := .ref a) hg hm rfl hd) (tC_of (fun _ => .fn ha) fun _ => by unfold evE; rfl)
/-! ### arguments, displays -/
theorem s_anil : PA X [] (tAv K ad Ek (evs cl .nil)) := PAimp pa_nil fun σ H Q q => by
  obtain ⟨g, sl, st, o, rs, f⟩ := q
  unfold evs at f
  exact f g H [] (Le.refl g) o .nil
theorem s_acons {e : Expr} {es : List Expr} {ie : E} {ies : Es} (he : PE X e (tEv K ad Ek (evE cl ie))) (hes : PA X es (tAv K ad Ek (evs cl ies))) (hs : starEach (e :: es) X.env = (false, eval e X.env) :: starEach es X.env) :
    PA X (e :: es) (tAv K ad Ek (evs cl (.cons ie ies))) := by
  refine PAimp (pa_cons he hes hs) fun σ H Q q => ?_
  obtain ⟨g, sl, st, o, rs, f⟩ := q
  unfold evs at f
  refine ev_bind (Le.refl g) o rs f fun v st1 g1 H1 w l0 l1 o1 rs1 r1 f1 => ?_
  refine av_bind l0 o1 rs1 f1 fun vs st2 g2 H2 ws l0' l2 o2 rs2 r2 f2 => ?_
  exact f2 g2 H2 _ l0' o2 (.cons (r1.mono l2) r2)
theorem Fin.dAll {β : Type} {g : G} {P : β → Store → Prop} {W : Exc → Store → Prop} : ∀ {vs : List SV} {ws : List V} {st : Store} {k : List PV → M β}, RepSs K ad g vs ws → Fin (Fo.bnd (Fo.dAll vs) k st) P W → ∃ xs, vs = xs.map .d ∧ RepA K ad g.F xs ws ∧ Fin (k xs st) P W
  | [], _, _, _, r, h => by cases r; exact ⟨[], rfl, .nil, h⟩
  | .d v :: vs, _, st, k, r, h => by
    cases r with
    | cons a b =>
      unfold Fo.dAll at h
      rw [bnd_assoc] at h
      obtain ⟨xs, e, r2, h2⟩ := Fin.dAll b h
      exact ⟨v :: xs, by rw [e]; rfl, .cons a r2, h2⟩
  | .r l :: vs, _, _, _, _, h => by
    unfold Fo.dAll at h
    exact h.elim
theorem len_small {xs : List V} {n : Nat} (h : xs.length ≤ n) (hn : n ≤ 1000) : xs.length ≤ sizeLine := by
  have : sizeLine = 16777216 := sizeLine_eq
  omega
def Es.len : Es → Nat
  | .nil => 0
  | .cons _ es => es.len + 1
theorem evs_len {cl : Cl} : ∀ {es : Es} {sl : Slots} {st st' : Store} {vs : List SV}, evs cl es sl st = some (.ok vs st') → vs.length = es.len
  | .nil, _, _, _, _, h => by
    unfold evs ok at h
    cases h
    rfl
  | .cons e es, sl, st, st', vs, h => by
    unfold evs at h
    cases q : evE cl e sl st with
    | none => unfold bnd at h; rw [q] at h; cases h
    | some r =>
      cases r with
      | ex x s => rw [bnd_ex q] at h; cases h
      | ok v s =>
        rw [bnd_ok q] at h
        cases q2 : evs cl es sl s with
        | none => unfold bnd at h; rw [q2] at h; cases h
        | some r2 =>
          cases r2 with
          | ex x s2 => rw [bnd_ex q2] at h; cases h
          | ok us s2 =>
            rw [bnd_ok q2] at h
            unfold ok at h
            cases h
            show us.length + 1 = es.len + 1
            rw [evs_len q2]
theorem Fin.len {cl : Cl} {es : Es} {sl : Slots} {st : Store} {P : List SV → Store → Prop} {W : Exc → Store → Prop} (h : Fin (evs cl es sl st) P W) : Fin (evs cl es sl st) (fun vs st' => vs.length = es.len ∧ P vs st') W := by
  cases q : evs cl es sl st with
  | none => rw [q] at h; exact h
  | some r =>
    rw [q] at h
    cases r with
    | ex x s => exact h
    | ok vs s => exact ⟨evs_len q, h⟩
theorem s_tup {es : List Expr} {ies : Es} {x1} (hes : PA X es (tAv K ad Ek (evs cl ies))) (hn : ies.len ≤ 1000) : PE X (.Tuple es x1 pos) (tEv K ad Ek (evE cl (.tup ies))) := by
  refine PEimp (pe_tup hes) fun σ H Q q => ?_
  obtain ⟨g, sl, st, o, rs, f⟩ := q
  unfold evE at f
  refine ⟨g, sl, st, o, rs, (Fin.len f.bnd).imp (fun vs st1 hk g1 H1 ws l1 o1 r1 => ?_) fun _ _ w => w⟩
  obtain ⟨hl, hk⟩ := hk
  obtain ⟨xs, e, r2, f2⟩ := Fin.dAll r1 hk
  have hw : ws.length ≤ 1000 := by rw [← r1.len, hl]; exact hn
  exact ⟨len_small hw (Nat.le_refl _), fun p hp => fin_tup l1 o1 (Nat.le_trans hw (by decide)) r2 f2 hp⟩
theorem s_lst {es : List Expr} {ies : Es} (hes : PA X es (tAv K ad Ek (evs cl ies))) (hn : ies.len ≤ 1000) : PE X (.List es pos) (tFr K ad Ek (evE cl (.lst ies))) := by
  refine PEimp (pe_lst hes) fun σ H Q q => ?_
  obtain ⟨g, sl, st, o, rs, f⟩ := q
  unfold evE at f
  refine ⟨g, sl, st, o, rs, (Fin.len f.bnd).imp (fun vs st1 hk g1 H1 ws l1 o1 r1 => ?_) fun _ _ w => w⟩
  obtain ⟨hl, hk⟩ := hk
  obtain ⟨xs, e, r2, f2⟩ := Fin.dAll r1 hk
  have hw : ws.length ≤ 1000 := by rw [← r1.len, hl]; exact hn
  refine ⟨len_small hw (Nat.le_refl _), fun p hp => ?_⟩
  obtain ⟨xs', e1, f3⟩ := f2
  cases e1
  exact f3 g1 _ p ws l1 (o1.ext (Ex.new hp)) upd_same (o1.free hp) (Nat.le_trans hw (by decide)) r2
end
end Fo
end -- FoExpr

section -- FoOps
set_option Elab.async false
set_option linter.all false
set_option maxRecDepth 100000
set_option maxHeartbeats 1000000
/-! FoOps: operators, comparisons, tests, subscripts, built-ins. -/
namespace Fo
open PySem L2 Evl PyProof.Rows
section
variable {K : PySem.W.Frag} {ad : Nat → Option Addr} {Ek : XK} {X : Cx} {cl : Cl} {pos : Pos} {g g0 g1 : G} {H H1 : Hp} {st st1 : Store}
/-! ### two operands -/
theorem op2_inv {β : Type} {o : Op2} {x y : SV} {w1 w2 : V} {k : PV → M β} {P : β → Store → Prop} {W : Exc → Store → Prop} (ho : OK K ad g H st) (r1 : RepS K ad g x w1) (r2 : RepS K ad g y w2) (h : Fin (bnd (op2 o x y) k st) P W) :
    ∃ a b z, RepH K ad g.F H a w1 ∧ RepH K ad g.F H b w2 ∧ op2v o a b = some z ∧ Fin (k z st) P W := by
  unfold op2 at h
  rw [bnd_assoc] at h
  obtain ⟨a, _, ra, h⟩ := Fin.rd ho r1 h
  rw [bnd_assoc] at h
  obtain ⟨b, _, rb, h⟩ := Fin.rd ho r2 h
  obtain ⟨z, e, h⟩ := Fin.ofO h
  exact ⟨a, b, z, ra, rb, e, h⟩
theorem cmp2_inv {β : Type} {o : Cm} {x y : SV} {w1 w2 : V} {k : Bool → M β} {P : β → Store → Prop} {W : Exc → Store → Prop} (ho : OK K ad g H st) (r1 : RepS K ad g x w1) (r2 : RepS K ad g y w2) (h : Fin (bnd (cmp2 o x y) k st) P W) :
    ∃ a b z, RepH K ad g.F H a w1 ∧ RepH K ad g.F H b w2 ∧ cmpv o a b = some z ∧ Fin (k z st) P W := by
  unfold cmp2 at h
  rw [bnd_assoc] at h
  obtain ⟨a, _, ra, h⟩ := Fin.rd ho r1 h
  rw [bnd_assoc] at h
  obtain ⟨b, _, rb, h⟩ := Fin.rd ho r2 h
  obtain ⟨z, e, h⟩ := Fin.ofO h
  exact ⟨a, b, z, ra, rb, e, h⟩
def opA : Op2 → Operator
  | .add => .Add | .sub => .Sub | .mul => .Mult | .fdiv => .FloorDiv | .mod => .Mod | .pow => .Pow
def rStrA : R2 := fun x y H Q => ∃ i j, x = .str i ∧ y = .str j ∧ i.length + j.length ≤ sizeLine ∧ Q (.str (i ++ j)) H
def op2R (K : PySem.W.Frag) : Op2 → R2
  | .add => fun x y H Q => rI0 (fun i j => .int (i + j)) x y H Q ∨ (rCatA K x y H Q ∨ (rCat x y H Q ∨ rStrA x y H Q))
  | .sub => rI0 fun i j => .int (i - j)
  | .mul => rI (fun i j => mulOk i j = true) fun i j => .int (i * j)
  | .fdiv => rI (fun i j => j ≠ 0 ∧ Builtin.divisionGoesByPylong i j = false) fun i j => .int (i.fdiv j)
  | .mod => rI (fun _ j => j ≠ 0) fun i j => .int (i.fmod j)
  | .pow => rI (fun i j => powOk i j = true) fun i j => .int (i ^ j.toNat)
theorem bits_log2 (x : Int) : Builtin.Int.intBits x ≤ x.natAbs.log2 + 1 := by
  unfold Builtin.Int.intBits
  by_cases h : x = 0
  · subst h; decide
  · split <;> omega
theorem mulOk_fits {i j : Int} (h : mulOk i j = true) : IntMulOk i j := by
  have h3 : i.natAbs.log2 + j.natAbs.log2 < 100000000 := of_decide_eq_true h
  have b1 := bits_log2 i
  have b2 := bits_log2 j
  intro z
  have z2 := (Bool.and_eq_true_iff.mp z).2
  unfold Builtin.Int.intTooBig at z2
  have z3 := of_decide_eq_true z2
  have hb : (bitsLine : Int) = 134217728 := by decide
  rw [hb] at z3
  omega
theorem op2_op (o : Op2) : OpR X (binaryOp (opA o)) (op2R X.K o) := by
  cases o with
  | add => exact OpR.or op_add (OpR.or op_catA (OpR.or op_cat op_add_str))
  | sub => exact op_sub
  | mul => exact opI fun _ _ _ _ _ _ _ hc q => mul_int q (mulOk_fits hc)
  | fdiv => exact opI fun _ _ _ _ _ _ _ hc q => floordiv_int hc.1 q (.inl hc.2)
  | mod => exact op_modN
  | pow =>
    refine opI fun i j _ _ _ _ _ hc q => ?_
    have h1 : (decide (0 ≤ j) && decide ((i.natAbs.log2 + 1) * j.toNat ≤ 100000000)) = true := hc
    rw [Bool.and_eq_true] at h1
    have j0 := of_decide_eq_true h1.1
    have h2 := of_decide_eq_true h1.2
    refine pow_int j0 ?_ q
    have b := bits_log2 i
    have e : (Builtin.Int.intBits i : Int) * j ≤ ((i.natAbs.log2 + 1 : Nat) : Int) * j := Int.mul_le_mul_of_nonneg_right (by omega) j0
    have e2 : ((i.natAbs.log2 + 1 : Nat) : Int) * j = (((i.natAbs.log2 + 1) * j.toNat : Nat) : Int) := by
      rw [Int.natCast_mul, Int.toNat_of_nonneg j0]
    have e3 : (2 : Int) ^ 27 = 134217728 := by decide
    rw [e3]
    omega
theorem op2_ok (o : Op2) {Q : VK} {W : Exc → Store → Prop} {a b z : PV} {w1 w2 : V} (l0 : Le g0 g) (ho : OK K ad g H st) (r1 : RepH K ad g.F H a w1) (r2 : RepH K ad g.F H b w2) (e : op2v o a b = some z) (h : Fin (ok (SV.d z) st) (Px K ad g0 Q) (Wx K ad g0 Ek)) :
    op2R K o w1 w2 H Q := by
  have q : ∀ w, Rep K ad g.F z w → Q w H := fun w r => h g H w l0 ho r
  unfold op2v at e
  split at e
  · cases e
    exact .inl ⟨_, _, r1.int, r2.int, q _ (.int _)⟩
  · cases e
    exact ⟨_, _, r1.int, r2.int, q _ (.int _)⟩
  · split at e
    · rename_i c
      cases e
      exact ⟨_, _, r1.int, r2.int, c, q _ (.int _)⟩
    · cases e
  · split at e
    · rename_i c
      cases e
      exact ⟨_, _, r1.int, r2.int, c, q _ (.int _)⟩
    · cases e
  · split at e
    · rename_i c
      cases e
      exact ⟨_, _, r1.int, r2.int, c, q _ (.int _)⟩
    · cases e
  · split at e
    · rename_i c
      cases e
      exact ⟨_, _, r1.int, r2.int, c, q _ (.int _)⟩
    · cases e
  · rename_i xs ys
    split at e
    · rename_i c
      cases e
      obtain ⟨p1, v1, e1, s1, n1, a1⟩ := r1.tup ho.ex
      obtain ⟨p2, v2, e2, s2, n2, a2⟩ := r2.tup ho.ex
      have c' : v1.length + v2.length ≤ lim := by rw [← a1.len, ← a2.len]; exact c
      refine .inr (.inl ⟨p1, p2, v1, v2, e1, e2, s1, s2, by rw [← lim_eq]; exact c', fun z1 => ?_, fun _ z2 => ?_, fun _ _ p hp => ?_⟩)
      · subst z1
        cases a1
        subst e2
        refine q _ ?_
        cases r2 with
        | of r => exact r
      · subst z2
        cases a2
        rw [List.append_nil] at q
        subst e1
        refine q _ ?_
        cases r1 with
        | of r => exact r
      · exact fin_tup l0 ho (by rw [List.length_append]; exact c') (a1.app a2) h hp
    · cases e
  · rename_i xs ys
    split at e
    · rename_i c
      cases e
      obtain ⟨p1, v1, e1, s1, n1, a1⟩ := r1.lst ho.ex
      obtain ⟨p2, v2, e2, s2, n2, a2⟩ := r2.lst ho.ex
      have c' : v1.length + v2.length ≤ lim := by rw [← a1.len, ← a2.len]; exact c
      exact .inr (.inr (.inl ⟨p1, p2, v1, v2, e1, e2, s1, s2, by rw [← lim_eq]; exact c', fun p hp => fin_lst l0 ho (by rw [List.length_append]; exact c') (a1.app a2) h hp⟩))
    · cases e
  · split at e
    · rename_i c
      cases e
      exact .inr (.inr (.inr ⟨_, _, r1.str, r2.str, by rw [← lim_eq]; exact c, q _ (.str _)⟩))
    · cases e
  · cases e
variable {a b c : Expr} {ia ib ic : E}
theorem s_bin (o : Op2) (ha : PE X a (tEv X.K ad Ek (evE cl ia))) (hb : PE X b (tEv X.K ad Ek (evE cl ib))) : PE X (.BinOp a (opA o) b pos) (tEv X.K ad Ek (evE cl (.bin o ia ib))) := by
  refine PEimp (pe_op (op2_op o) ha hb) fun σ H Q q => ?_
  obtain ⟨g, sl, st, ho, rs, f⟩ := q
  unfold evE at f
  refine ev_bind (Le.refl g) ho rs f fun x st1 g1 H1 w1 l0 l1 o1 rs1 r1 f1 => ?_
  refine ev_bind l0 o1 rs1 f1 fun y st2 g2 H2 w2 l0' l2 o2 rs2 r2 f2 => ?_
  obtain ⟨u, v, z, h1, h2, e, f3⟩ := op2_inv o2 (r1.mono l2) r2 f2
  exact op2_ok o (W := Wx X.K ad g Ek) l0' o2 h1 h2 e f3
theorem s_neg (ha : PE X a (tEv X.K ad Ek (evE cl ia))) : PE X (.UnaryOp .USub a pos) (tEv X.K ad Ek (evE cl (.neg ia))) := by
  refine PEimp (pe_un un_neg ha) fun σ H Q q => ?_
  obtain ⟨g, sl, st, ho, rs, f⟩ := q
  unfold evE at f
  refine ev_bind (Le.refl g) ho rs f fun x st1 g1 H1 w1 l0 l1 o1 rs1 r1 f1 => ?_
  obtain ⟨i, e, f2⟩ := Fin.asI f1
  subst e
  cases r1
  exact ⟨i, rfl, f2 g1 H1 _ l0 o1 (.int _)⟩
theorem s_not (ha : PE X a (tEv X.K ad Ek (evE cl ia))) : PE X (.UnaryOp .Not a pos) (tEv X.K ad Ek (evE cl (.not ia))) := by
  refine PEimp (pe_not ha) fun σ H Q q => ?_
  obtain ⟨g, sl, st, ho, rs, f⟩ := q
  unfold evE at f
  refine ev_bind (Le.refl g) ho rs f fun x st1 g1 H1 w1 l0 l1 o1 rs1 r1 f1 => ?_
  obtain ⟨i, e, f2⟩ := Fin.asB f1
  subst e
  cases r1
  exact ⟨i, rfl, f2 g1 H1 _ l0 o1 (.bl _)⟩
/-! ### comparisons -/
def cmA : Cm → CmpOp
  | .eq => .Eq | .ne => .NotEq | .lt => .Lt | .le => .LtE | .gt => .Gt | .ge => .GtE | .isn => .Is | .notn => .IsNot | .isb => .Is | .notb => .IsNot | .mem => .In | .nmem => .NotIn
def cmR (K : PySem.W.Frag) : Cm → R2
  | .eq => fun x y H Q => rEqD K x y H Q ∨ rEq x y H Q
  | .ne => fun x y H Q => rNeD K x y H Q ∨ rNe x y H Q
  | .lt => rI0 fun i j => .bl (decide (i < j)) | .le => rI0 fun i j => .bl (decide (i ≤ j))
  | .gt => rI0 fun i j => .bl (decide (j < i)) | .ge => rI0 fun i j => .bl (decide (j ≤ i))
  | .isn => fun x y H Q => y = .non ∧ Q (.bl (decide (x = .non))) H
  | .notn => fun x y H Q => y = .non ∧ Q (.bl (!decide (x = .non))) H
  | _ => fun _ _ _ _ => False
theorem cm_op (hu : X.A.units + 64 < cLine) (o : Cm) : OpR X (compareOp (cmA o)) (cmR X.K o) := by
  cases o with
  | eq => exact OpR.or (op_eqD hu) op_eq
  | ne => exact OpR.or (op_neD hu) op_ne
  | lt => exact op_lt
  | le => exact op_le
  | gt => exact op_gt
  | ge => exact op_ge
  | isn => exact op_isN
  | notn => exact op_notN
  | _ => exact fun _ _ _ _ _ _ _ _ _ _ _ _ h => h.elim
theorem eqvD_inv {a b : PV} {k : Bool} (h : eqvD a b = some k) : ∃ d e, a.dat = some d ∧ b.dat = some e ∧ SeqAt.shaped d = true ∧ SeqAt.shaped e = true ∧ k = PyData.eqv d e := by
  unfold eqvD at h
  split at h
  · rename_i d e h1 h2
    split at h
    · rename_i c
      cases h
      exact ⟨d, e, h1, h2, c.1, c.2, rfl⟩
    · cases h
  · cases h
theorem eqv_inv {a b : PV} {k : Bool} (h : eqv a b = some k) : (∃ x y, a = .str x ∧ b = .str y ∧ k = decide (x = y)) ∨ eqvD a b = some k := by
  unfold eqv at h
  split at h
  · cases h
    exact .inl ⟨_, _, rfl, rfl, rfl⟩
  · exact .inr h
theorem isn_dec {a : PV} {w : V} (r : RepH K ad g.F H a w) : decide (w = .non) = isn a := by
  cases r with
  | of r => cases r <;> rfl
  | cell a b c => rfl
theorem cm_ok (o : Cm) {Q : VK} {a b : PV} {k : Bool} {w1 w2 : V} (ho : OK K ad g H st) (r1 : RepH K ad g.F H a w1) (r2 : RepH K ad g.F H b w2) (e : cmpv o a b = some k) (h : Q (.bl k) H) : cmR K o w1 w2 H Q := by
  unfold cmpv at e
  split at e
  · rcases eqv_inv e with ⟨x, y, e1, e2, e3⟩ | e
    · subst e1 e2 e3
      rw [r1.str, r2.str]
      refine .inr ⟨rfl, ?_⟩
      rw [show decide (V.str x = V.str y) = decide (x = y) from decide_eq_decide.mpr ⟨fun z => by cases z; rfl, fun z => by rw [z]⟩]
      exact h
    · obtain ⟨d, e', h1, h2, s1, s2, rfl⟩ := eqvD_inv e
      exact .inl ⟨d, e', r1.dp ho.ex h1, r2.dp ho.ex h2, s1, s2, h⟩
  · obtain ⟨k', e2, e3⟩ := Option.map_eq_some_iff.mp e
    subst e3
    rcases eqv_inv e2 with ⟨x, y, z1, z2, z3⟩ | e2
    · subst z1 z2 z3
      rw [r1.str, r2.str]
      refine .inr ⟨rfl, ?_⟩
      rw [show decide (V.str x = V.str y) = decide (x = y) from decide_eq_decide.mpr ⟨fun z => by cases z; rfl, fun z => by rw [z]⟩]
      exact h
    · obtain ⟨d, e', h1, h2, s1, s2, rfl⟩ := eqvD_inv e2
      exact .inl ⟨d, e', r1.dp ho.ex h1, r2.dp ho.ex h2, s1, s2, h⟩
  · cases e; exact ⟨_, _, r1.int, r2.int, h⟩
  · cases e; exact ⟨_, _, r1.int, r2.int, h⟩
  · cases e; exact ⟨_, _, r1.int, r2.int, h⟩
  · cases e; exact ⟨_, _, r1.int, r2.int, h⟩
  · cases e; exact ⟨r2.non, by rw [isn_dec r1]; exact h⟩
  · cases e; exact ⟨r2.non, by rw [isn_dec r1]; exact h⟩
  · cases e
theorem cmp_read (o : Cm) {σ : L2.St} {H : Hp} {Q : VK} (ta : True) (h : tEv X.K ad Ek (evE cl (.cmp o ia ib)) σ H Q) : tOp (cmR X.K o) (tEv X.K ad Ek (evE cl ia)) (tEv X.K ad Ek (evE cl ib)) σ H Q := by
  obtain ⟨g, sl, st, ho, rs, f⟩ := h
  unfold evE at f
  refine ev_bind (Le.refl g) ho rs f fun x st1 g1 H1 w1 l0 l1 o1 rs1 r1 f1 => ?_
  refine ev_bind l0 o1 rs1 f1 fun y st2 g2 H2 w2 l0' l2 o2 rs2 r2 f2 => ?_
  obtain ⟨u, v, z, h1, h2, e, f3⟩ := cmp2_inv o2 (r1.mono l2) r2 f2
  exact cm_ok o o2 h1 h2 e (f3 g2 H2 _ l0' o2 (.bl _))
theorem s_cmp (hu : X.A.units + 64 < cLine) (o : Cm) (ha : PE X a (tEv X.K ad Ek (evE cl ia))) (hb : PE X b (tEv X.K ad Ek (evE cl ib))) (hm : behindInMarks (cmA o) b = false) :
    PE X (.Compare a [cmA o] [b] pos) (tEv X.K ad Ek (evE cl (.cmp o ia ib))) :=
  PEimp (pe_cmpR (cm_op hu o) ha hb hm) fun σ H Q q => cmp_read o trivial q
abbrev tBv (K : PySem.W.Frag) (ad : Nat → Option Addr) (Ek : XK) (cl : Cl) (i : E) : TT := tTv K ad Ek fun sl => bnd (evE cl i sl) asB
/-- a test's reading from a value's -/
theorem test_of {i : E} {σ : L2.St} {H : Hp} {Q : Bool → Hp → Prop} (h : tBv K ad Ek cl i σ H Q) : tEv K ad Ek (evE cl i) σ H fun x H' => ∃ k, x = .bl k ∧ Q k H' := by
  obtain ⟨g, sl, st, ho, rs, f⟩ := h
  refine ev_bind (Le.refl g) ho rs f fun x st1 g1 H1 w1 l0 l1 o1 rs1 r1 f1 => ?_
  have f1 : Fin (bnd (asB x) ok st1) (Pt K ad g Q) (Wx K ad g Ek) := by
    have e : bnd (asB x) ok = asB x := by
      funext s
      unfold bnd
      cases asB x s with
      | none => rfl
      | some r => cases r <;> rfl
    rw [e]
    exact f1
  obtain ⟨k, e, f2⟩ := Fin.asB f1
  subst e
  cases r1
  exact ⟨k, rfl, f2 g1 H1 l0 o1⟩
theorem t_cmp (hu : X.A.units + 64 < cLine) (o : Cm) (ha : PE X a (tEv X.K ad Ek (evE cl ia))) (hb : PE X b (tEv X.K ad Ek (evE cl ib))) (hm : behindInMarks (cmA o) b = false) :
    PT X (.Compare a [cmA o] [b] pos) (tBv X.K ad Ek cl (.cmp o ia ib)) :=
  PTimp (pt_cmpR (cm_op hu o) ha hb hm) fun σ H Q q => cmp_read o trivial (test_of q)
theorem chain_read (o o' : Cm) {σ : L2.St} {H : Hp} {Q : VK} (h : tEv X.K ad Ek (evE cl (.chain o o' ia ib ic)) σ H Q) :
    tChain (cmR X.K o) (cmR X.K o') (tEv X.K ad Ek (evE cl ia)) (tEv X.K ad Ek (evE cl ib)) (tEv X.K ad Ek (evE cl ic)) σ H Q := by
  obtain ⟨g, sl, st, ho, rs, f⟩ := h
  unfold evE at f
  refine ev_bind (Le.refl g) ho rs f fun x st1 g1 H1 w1 l0 l1 o1 rs1 r1 f1 => ?_
  refine ev_bind l0 o1 rs1 f1 fun y st2 g2 H2 w2 l0' l2 o2 rs2 r2 f2 => ?_
  obtain ⟨u, v, k, h1, h2, e, f3⟩ := cmp2_inv o2 (r1.mono l2) r2 f2
  refine cm_ok o o2 h1 h2 e ⟨k, rfl, ?_⟩
  cases k with
  | true =>
    rw [if_pos rfl] at f3 ⊢
    refine ev_bind l0' o2 rs2 f3 fun z st3 g3 H3 w3 l0'' l3 o3 rs3 r3 f4 => ?_
    obtain ⟨u', v', k', h1', h2', e', f5⟩ := cmp2_inv o3 (r2.mono l3) r3 f4
    exact cm_ok o' o3 h1' h2' e' (f5 g3 H3 _ l0'' o3 (.bl _))
  | false =>
    rw [if_neg Bool.false_ne_true] at f3 ⊢
    exact f3 g2 H2 _ l0' o2 (.bl _)
theorem s_chain (hu : X.A.units + 64 < cLine) (o o' : Cm) (ha : PE X a (tEv X.K ad Ek (evE cl ia))) (hb : PE X b (tEv X.K ad Ek (evE cl ib))) (hc : PE X c (tEv X.K ad Ek (evE cl ic))) (hm : lastMarks [cmA o, cmA o'] [b, c] = false) :
    PE X (.Compare a [cmA o, cmA o'] [b, c] pos) (tEv X.K ad Ek (evE cl (.chain o o' ia ib ic))) :=
  PEimp (pe_chain (cm_op hu o) (cm_op hu o') ha hb hc hm) fun σ H Q q => chain_read o o' q
theorem t_chain (hu : X.A.units + 64 < cLine) (o o' : Cm) (ha : PE X a (tEv X.K ad Ek (evE cl ia))) (hb : PE X b (tEv X.K ad Ek (evE cl ib))) (hc : PE X c (tEv X.K ad Ek (evE cl ic))) (hm : lastMarks [cmA o, cmA o'] [b, c] = false) :
    PT X (.Compare a [cmA o, cmA o'] [b, c] pos) (tBv X.K ad Ek cl (.chain o o' ia ib ic)) :=
  PTimp (pt_chain (cm_op hu o) (cm_op hu o') ha hb hc hm) fun σ H Q q => chain_read o o' (test_of q)
/-! ### and, or, not, if -/
theorem t_not (ha : PT X a (tBv X.K ad Ek cl ia)) : PT X (.UnaryOp .Not a pos) (tBv X.K ad Ek cl (.not ia)) := by
  refine PTimp (pt_not ha) fun σ H Q q => ?_
  obtain ⟨g, sl, st, ho, rs, f⟩ := q
  unfold evE at f
  refine ⟨g, sl, st, ho, rs, ?_⟩
  have e : bnd (bnd (evE cl ia sl) fun x => bnd (asB x) fun b => ok (SV.d (.bl (!b)))) asB = bnd (bnd (evE cl ia sl) asB) fun b => ok (!b) := by
    rw [bnd_assoc, bnd_assoc]
    congr 1
    funext x
    rw [bnd_assoc]
    congr 1
  have f : Fin (bnd (bnd (evE cl ia sl) fun x => bnd (asB x) fun b => ok (SV.d (.bl (!b)))) asB st) (Pt X.K ad g Q) (Wx X.K ad g Ek) := f
  rw [e] at f
  exact f.bnd.imp (fun b st1 h => h) fun _ _ w => w
def BoolOp1 : Bool → BoolOp
  | true => .And
  | false => .Or
variable {rest : List Expr} {p2 : Pos}
theorem s_and (ha : PE X a (tEv X.K ad Ek (evE cl ia))) (hb : PE X (.BoolOp .And (b :: rest) pos) (tEv X.K ad Ek (evE cl ib))) : PE X (.BoolOp .And (a :: b :: rest) pos) (tEv X.K ad Ek (evE cl (.and ia ib))) := by
  refine PEimp (pe_and ha hb) fun σ H Q q => ?_
  obtain ⟨g, sl, st, ho, rs, f⟩ := q
  unfold evE at f
  refine ev_bind (Le.refl g) ho rs f fun x st1 g1 H1 w1 l0 l1 o1 rs1 r1 f1 => ?_
  obtain ⟨k, e, f2⟩ := Fin.asB f1
  subst e
  cases r1
  refine ⟨k, rfl, ?_⟩
  cases k with
  | true =>
    rw [if_pos rfl] at f2 ⊢
    exact ⟨g1, sl, st1, o1, rs1, f2.imp (fun v s h g' H' w l => h g' H' w (l0.trans l)) fun x s w => w.mono l0⟩
  | false =>
    rw [if_neg Bool.false_ne_true] at f2 ⊢
    exact f2 g1 H1 _ l0 o1 (.bl _)
theorem s_or (ha : PE X a (tEv X.K ad Ek (evE cl ia))) (hb : PE X (.BoolOp .Or (b :: rest) pos) (tEv X.K ad Ek (evE cl ib))) : PE X (.BoolOp .Or (a :: b :: rest) pos) (tEv X.K ad Ek (evE cl (.or ia ib))) := by
  refine PEimp (pe_or ha hb) fun σ H Q q => ?_
  obtain ⟨g, sl, st, ho, rs, f⟩ := q
  unfold evE at f
  refine ev_bind (Le.refl g) ho rs f fun x st1 g1 H1 w1 l0 l1 o1 rs1 r1 f1 => ?_
  obtain ⟨k, e, f2⟩ := Fin.asB f1
  subst e
  cases r1
  refine ⟨k, rfl, ?_⟩
  cases k with
  | true =>
    rw [if_pos rfl] at f2 ⊢
    exact f2 g1 H1 _ l0 o1 (.bl _)
  | false =>
    rw [if_neg Bool.false_ne_true] at f2 ⊢
    exact ⟨g1, sl, st1, o1, rs1, f2.imp (fun v s h g' H' w l => h g' H' w (l0.trans l)) fun x s w => w.mono l0⟩
theorem s_one {op : BoolOp} (ha : PE X a (tEv X.K ad Ek (evE cl ia))) : PE X (.BoolOp op [a] pos) (tEv X.K ad Ek (evE cl (.one ia))) :=
  PEimp (pe_one ha) fun σ H Q q => by
    obtain ⟨g, sl, st, ho, rs, f⟩ := q
    unfold evE at f
    exact ⟨g, sl, st, ho, rs, f⟩
theorem t_one1 {op : BoolOp} (ha : PT X a (tBv X.K ad Ek cl ia)) : PW X (.BoolOp op [a] pos) (tBv X.K ad Ek cl (.one ia)) := by
  have h : PW X (.BoolOp op [a] pos) (tBv X.K ad Ek cl ia) := by
    cases op with
    | And => exact pw_and1 ha
    | Or => exact pw_or1 ha
  refine ⟨fun wh pins s σ H Q I q => h.run wh pins s σ H Q I ?_⟩
  obtain ⟨g, sl, st, ho, rs, f⟩ := q
  unfold evE at f
  exact ⟨g, sl, st, ho, rs, f⟩
theorem t_and (ha : PT X a (tBv X.K ad Ek cl ia)) (hb : PW X (.BoolOp .And (b :: rest) pos) (tBv X.K ad Ek cl ib)) : PW X (.BoolOp .And (a :: b :: rest) pos) (tBv X.K ad Ek cl (.and ia ib)) := by
  refine ⟨fun wh pins s σ H Q I q => (pw_and ha hb).run wh pins s σ H Q I ?_⟩
  obtain ⟨g, sl, st, ho, rs, f⟩ := q
  have e : bnd (evE cl (.and ia ib) sl) asB = bnd (bnd (evE cl ia sl) asB) fun k => if k = true then bnd (evE cl ib sl) asB else ok false := by
    rw [evE]
    rw [bnd_assoc, bnd_assoc]
    congr 1
    funext x
    rw [bnd_assoc]
    congr 1
    funext k
    cases k <;> rfl
  have f : Fin (bnd (evE cl _ sl) asB st) (Pt X.K ad g Q) (Wx X.K ad g Ek) := f
  rw [e] at f
  refine tv_bind (m := fun sl => bnd (evE cl ia sl) asB) (Le.refl g) ho rs f fun k st1 g1 H1 l0 l1 o1 rs1 f1 => ?_
  cases k with
  | true =>
    rw [if_pos rfl] at f1 ⊢
    exact ⟨g1, sl, st1, o1, rs1, f1.imp (fun v s h g' H' l => h g' H' (l0.trans l)) fun x s w => w.mono l0⟩
  | false =>
    rw [if_neg Bool.false_ne_true] at f1 ⊢
    exact f1 g1 H1 l0 o1
theorem t_or (ha : PT X a (tBv X.K ad Ek cl ia)) (hb : PW X (.BoolOp .Or (b :: rest) pos) (tBv X.K ad Ek cl ib)) : PW X (.BoolOp .Or (a :: b :: rest) pos) (tBv X.K ad Ek cl (.or ia ib)) := by
  refine ⟨fun wh pins s σ H Q I q => (pw_or ha hb).run wh pins s σ H Q I ?_⟩
  obtain ⟨g, sl, st, ho, rs, f⟩ := q
  have e : bnd (evE cl (.or ia ib) sl) asB = bnd (bnd (evE cl ia sl) asB) fun k => if k = true then ok true else bnd (evE cl ib sl) asB := by
    rw [evE]
    rw [bnd_assoc, bnd_assoc]
    congr 1
    funext x
    rw [bnd_assoc]
    congr 1
    funext k
    cases k <;> rfl
  have f : Fin (bnd (evE cl _ sl) asB st) (Pt X.K ad g Q) (Wx X.K ad g Ek) := f
  rw [e] at f
  refine tv_bind (m := fun sl => bnd (evE cl ia sl) asB) (Le.refl g) ho rs f fun k st1 g1 H1 l0 l1 o1 rs1 f1 => ?_
  cases k with
  | true =>
    rw [if_pos rfl] at f1 ⊢
    exact f1 g1 H1 l0 o1
  | false =>
    rw [if_neg Bool.false_ne_true] at f1 ⊢
    exact ⟨g1, sl, st1, o1, rs1, f1.imp (fun v s h g' H' l => h g' H' (l0.trans l)) fun x s w => w.mono l0⟩
theorem t_val {e : Expr} {ie : E} (h : PE X e (tEv X.K ad Ek (evE cl ie))) (he : ∀ whole, isTrue e X.env whole = (do let v ← whole; standAt e.pos; holding [v] (truthy v))) : PT X e (tBv X.K ad Ek cl ie) :=
  PTimp (pt_val h he) fun σ H Q q => test_of q
theorem s_ifx (ht : PT X c (tBv X.K ad Ek cl ic)) (ha : PE X a (tEv X.K ad Ek (evE cl ia))) (hb : PE X b (tEv X.K ad Ek (evE cl ib))) : PE X (.IfExp c a b pos) (tEv X.K ad Ek (evE cl (.ifx ic ia ib))) := by
  refine PEimp (pe_ifExp ht ha hb) fun σ H Q q => ?_
  obtain ⟨g, sl, st, ho, rs, f⟩ := q
  unfold evE at f
  rw [← bnd_assoc] at f
  refine tv_bind (m := fun sl => bnd (evE cl ic sl) asB) (Le.refl g) ho rs f fun k st1 g1 H1 l0 l1 o1 rs1 f1 => ?_
  cases k with
  | true =>
    rw [if_pos rfl] at f1 ⊢
    exact ⟨g1, sl, st1, o1, rs1, f1.imp (fun v s h g' H' w l => h g' H' w (l0.trans l)) fun x s w => w.mono l0⟩
  | false =>
    rw [if_neg Bool.false_ne_true] at f1 ⊢
    exact ⟨g1, sl, st1, o1, rs1, f1.imp (fun v s h g' H' w l => h g' H' w (l0.trans l)) fun x s w => w.mono l0⟩
/-! ### subscripts -/
theorem ix_ok {Q : VK} {a b z : PV} {w1 w2 : V} (ho : OK K ad g H st) (r1 : RepH K ad g.F H a w1) (r2 : RepH K ad g.F H b w2) (e : ixv a b = some z) (q : ∀ w, Rep K ad g.F z w → Q w H) : rIx K w1 w2 H Q := by
  have key : ∀ {xs : List PV} {vs : List V} {i : Int}, RepA K ad g.F xs vs → atI xs i = some z → ∃ w, atI vs i = some w ∧ Rep K ad g.F z w := fun {xs vs i} ra h => by
    unfold atI at h ⊢
    rw [← ra.len]
    cases hj : ixN xs.length i with
    | none => rw [hj] at h; cases h
    | some j =>
      rw [hj] at h
      obtain ⟨w, h1, h2⟩ := ra.get (i := j) h
      exact ⟨w, h1, h2⟩
  unfold ixv at e
  split at e
  · obtain ⟨p, vs, e1, s1, n1, a1⟩ := r1.tup ho.ex
    obtain ⟨w, h1, h2⟩ := key a1 e
    exact .inr (.inl ⟨p, vs, _, w, e1, r2.int, s1, h1, q w h2⟩)
  · obtain ⟨p, vs, e1, s1, n1, a1⟩ := r1.lst ho.ex
    obtain ⟨w, h1, h2⟩ := key a1 e
    exact .inl ⟨p, vs, _, w, e1, r2.int, SqL.of s1, h1, q w h2⟩
  · obtain ⟨p, vs, e1, s1, n1, a1⟩ := r1.fz ho.ex
    obtain ⟨w, h1, h2⟩ := key a1 e
    exact .inl ⟨p, vs, _, w, e1, r2.int, s1, h1, q w h2⟩
  · cases e
theorem s_ix (ha : PE X a (tEv X.K ad Ek (evE cl ia))) (hb : PE X b (tEv X.K ad Ek (evE cl ib))) (hs : PlainIx b) : PE X (.Subscript a b pos) (tEv X.K ad Ek (evE cl (.ix ia ib))) := by
  refine PEimp (pe_ix ix_seq ha hb hs) fun σ H Q q => ?_
  obtain ⟨g, sl, st, ho, rs, f⟩ := q
  unfold evE at f
  refine ev_bind (Le.refl g) ho rs f fun x st1 g1 H1 w1 l0 l1 o1 rs1 r1 f1 => ?_
  refine ev_bind l0 o1 rs1 f1 fun y st2 g2 H2 w2 l0' l2 o2 rs2 r2 f2 => ?_
  unfold ix2 at f2
  rw [bnd_assoc] at f2
  obtain ⟨u, _, h1, f2⟩ := Fin.rd o2 (r1.mono l2) f2
  rw [bnd_assoc] at f2
  obtain ⟨v, _, h2, f2⟩ := Fin.rd o2 r2 f2
  obtain ⟨z, e, f3⟩ := Fin.ofO f2
  exact ix_ok o2 h1 h2 e fun w r => f3 g2 H2 w l0' o2 r
theorem cut_len {xs : List PV} {vs : List V} {F : Hp} (h : RepA K ad F xs vs) (lo hi : Option Int) : RepA K ad F (cutL xs lo hi) (cutV vs lo hi) := by
  unfold cutL cutV
  rw [h.len]
  exact (h.drop _).take _
theorem s_po {o : Option Expr} {io : Oe} (h : match o, io with
    | none, .no => True
    | some e, .ye i => PE X e (tEv X.K ad Ek (evE cl i))
    | _, _ => False) : ∃ t : TO, PO X o t ∧ ∀ σ H Q g0 g sl st, Le g0 g → OK X.K ad g H st → RepSl X.K ad g sl σ → ∀ {β : Type} {k : Option Int → M β} {P : β → Store → Prop}, Fin (bnd (evO cl io sl) k st) P (Wx X.K ad g0 Ek) →
      (∀ v st1 g1 H1, Le g0 g1 → Le g g1 → OK X.K ad g1 H1 st1 → RepSl X.K ad g1 sl σ → Fin (k v st1) P (Wx X.K ad g0 Ek) → Q v H1) → t σ H Q := by
  cases o with
  | none =>
    cases io with
    | no =>
      refine ⟨tNoPart, po_none, fun σ H Q g0 g sl st l0 o rs {β k P} f nx => ?_⟩
      unfold evO at f
      exact nx none st g H l0 (Le.refl g) o rs f
    | ye i => exact h.elim
  | some e =>
    cases io with
    | no => exact h.elim
    | ye i =>
      refine ⟨tPart (tEv X.K ad Ek (evE cl i)), po_some h, fun σ H Q g0 g sl st l0 o rs {β k P} f nx => ?_⟩
      unfold evO at f
      rw [bnd_assoc] at f
      refine ev_bind l0 o rs f fun x st1 g1 H1 w1 l0 l1 o1 rs1 r1 f1 => ?_
      rw [bnd_assoc] at f1
      obtain ⟨j, e, f2⟩ := Fin.asI f1
      subst e
      cases r1
      exact ⟨j, rfl, nx (some j) st1 g1 H1 l0 l1 o1 rs1 f2⟩
theorem s_cut {lo hi : Option Expr} {il ih : Oe} {p2 : Pos} (ha : PE X a (tEv X.K ad Ek (evE cl ia))) (hl : match lo, il with
    | none, .no => True
    | some e, .ye i => PE X e (tEv X.K ad Ek (evE cl i))
    | _, _ => False) (hh : match hi, ih with
    | none, .no => True
    | some e, .ye i => PE X e (tEv X.K ad Ek (evE cl i))
    | _, _ => False) : PE X (.Subscript a (.Slice lo hi none p2) pos) (tEv X.K ad Ek (evE cl (.cut ia il ih))) := by
  obtain ⟨tl, pl, kl⟩ := s_po hl
  obtain ⟨th, ph, kh⟩ := s_po hh
  refine PEimp (pe_slice (SlR.or sl_tupA sl_list) ha pl ph) fun σ H Q q => ?_
  obtain ⟨g, sl, st, ho, rs, f⟩ := q
  unfold evE at f
  refine ev_bind (Le.refl g) ho rs f fun x st1 g1 H1 w1 l0 l1 o1 rs1 r1 f1 => ?_
  refine kl σ H1 _ g g1 sl st1 l0 o1 rs1 f1 fun v st2 g2 H2 l02 l2 o2 rs2 f2 => ?_
  refine kh σ H2 _ g g2 sl st2 l02 o2 rs2 f2 fun u st3 g3 H3 l03 l3 o3 rs3 f3 => ?_
  obtain ⟨y, _, h1, f4⟩ := Fin.rd o3 (r1.mono (l2.trans l3)) f3
  obtain ⟨z, e, f5⟩ := Fin.ofO f4
  unfold cutv at e
  split at e
  · rename_i xs _
    cases e
    obtain ⟨p, vs, e1, s1, n1, a1⟩ := h1.tup o3.ex
    subst e1
    refine .inl ⟨p, vs, rfl, s1, fun c => ?_, fun _ p hp => ?_⟩
    · refine f5 g3 H3 _ l03 o3 ?_
      have e2 : cutL xs v u = xs := by
        unfold cutL
        rw [a1.len, c.1, c.2, List.drop_zero, Nat.sub_zero, ← a1.len, List.take_length]
      rw [e2]
      cases h1 with
      | of r => exact r
    · exact fin_tup l03 o3 (Nat.le_trans (cutV_length _ _ _) n1) (cut_len a1 v u) f5 hp
  · rename_i xs
    cases e
    obtain ⟨p, vs, e1, s1, n1, a1⟩ := h1.lst o3.ex
    subst e1
    exact .inr ⟨p, vs, rfl, SqL.of s1, fun p hp => fin_lst l03 o3 (Nat.le_trans (cutV_length _ _ _) n1) (cut_len a1 v u) f5 hp⟩
  · cases e
theorem s_rev {k : Nat} {p1 p2 p3 : Pos} (ha : PE X a (tEv X.K ad Ek (evE cl ia))) : PE X (.Subscript a (.Slice none none (some (.UnaryOp .USub (.Constant (.int 1) k p1) p2)) p3) pos) (tEv X.K ad Ek (evE cl (.rev ia))) := by
  refine PEimp (pe_revL ha) fun σ H Q q => ?_
  obtain ⟨g, sl, st, ho, rs, f⟩ := q
  unfold evE at f
  refine ev_bind (Le.refl g) ho rs f fun x st1 g1 H1 w1 l0 l1 o1 rs1 r1 f1 => ?_
  obtain ⟨y, _, h1, f4⟩ := Fin.rd o1 r1 f1
  obtain ⟨z, e, f5⟩ := Fin.ofO f4
  unfold revv at e
  split at e
  · cases e
    obtain ⟨p, vs, e1, s1, n1, a1⟩ := h1.lst o1.ex
    exact ⟨p, vs, e1, SqL.of s1, fun p hp => fin_lst l0 o1 (by rw [List.length_reverse]; exact n1) a1.rev f5 hp⟩
  · cases e
end
end Fo
end -- FoOps

section -- FoBi
set_option Elab.async false
set_option linter.all false
set_option maxRecDepth 100000
set_option maxHeartbeats 1000000
/-! FoBi: built-ins by name, isinstance; what a def promises where no repr is under way, its call. -/
namespace Fo
open PySem L2 Evl PyProof.Rows
section
variable {K : PySem.W.Frag} {ad : Nat → Option Addr} {Ek : XK} {X : Cx} {cl : Cl} {pos : Pos} {g g0 g1 : G} {H H1 : Hp} {st st1 : Store}
mutual
theorem dat_nodict : ∀ (x : PV) (d : PyData), x.dat = some d → d.hasDict = false
  | .non, _, q => by simp [PV.dat] at q; subst q; simp only [PyData.hasDict]
  | .bl _, _, q => by simp [PV.dat] at q; subst q; simp only [PyData.hasDict]
  | .int _, _, q => by simp [PV.dat] at q; subst q; simp only [PyData.hasDict]
  | .str _, _, q => by simp [PV.dat] at q; subst q; simp only [PyData.hasDict]
  | .tup xs, _, q => by
    simp only [PV.dat, Option.map_eq_some_iff] at q
    obtain ⟨ds, q1, q2⟩ := q
    subst q2
    simp only [PyData.hasDict]
    exact dats_nodict xs ds q1
  | .lst xs, _, q => by
    simp only [PV.dat, Option.map_eq_some_iff] at q
    obtain ⟨ds, q1, q2⟩ := q
    subst q2
    simp only [PyData.hasDict]
    exact dats_nodict xs ds q1
  | .fz xs, _, q => by simp [PV.dat] at q
  | .dic _, _, q => by simp [PV.dat] at q
  | .fn _, _, q => by simp [PV.dat] at q
  | .lam _ _, _, q => by simp [PV.dat] at q
theorem dats_nodict : ∀ (xs : List PV) (ds : List PyData), PV.dats xs = some ds → PyData.hasDictAll ds = false
  | [], _, q => by simp [PV.dats] at q; subst q; simp only [PyData.hasDictAll]
  | x :: xs, _, q => by
    simp only [PV.dats] at q
    split at q
    · rename_i d ds q1 q2
      cases q
      simp only [PyData.hasDictAll]
      rw [dat_nodict x d q1, dats_nodict xs ds q2]
      rfl
    · cases q
end
/-- repr of data -/
def rRepr (K : PySem.W.Frag) : List V → Hp → VK → Prop := fun xs H Q => ∃ x d, xs = [x] ∧ Dp K H x d ∧ d.hasDict = false ∧ d.showable = true ∧ d.shown.length ≤ sizeLine ∧ d.depth ≤ 64 ∧ Q (.str d.shown) H
theorem call_reprD (hg : X.A.guards = some []) (hu : X.A.units + 200 < cLine) : CallR X (.builtin "repr") (rRepr X.K) := by
  intro pins s σ H xs us Q I r h
  obtain ⟨x, d, rfl, hd, hn, hs, hl, hp, q⟩ := h
  obtain ⟨u, rfl, ru⟩ := vals1 r
  cases hd with
  | non =>
    cases ru
    refine PySem.P.repr_of_none ⟨.str _, H, I.tok _, ⟨_, rfl⟩, ?_⟩
    simpa only [PyData.shown] using q
  | bl b =>
    cases ru
    refine PySem.P.repr_of_bool ⟨.str _, H, I.tok _, ⟨_, rfl⟩, ?_⟩
    simpa only [PyData.shown] using q
  | int i =>
    obtain ⟨t, rfl⟩ := ru
    have hs' : i.natAbs.log2 < 1920 := by
      simp only [PyData.showable] at hs
      exact of_decide_eq_true hs
    refine PySem.P.repr_of_int hs' ⟨.str _, H, I.tok _, ⟨_, rfl⟩, ?_⟩
    simpa only [PyData.shown] using q
  | str y =>
    obtain ⟨t, rfl⟩ := ru
    have hl' : (reprText y).length ≤ sizeLine := by simpa only [PyData.shown] using hl
    refine PySem.P.repr_of_str ⟨.str _, H, I.tok _, ⟨_, rfl⟩, ?_⟩ hl'
    simpa only [PyData.shown] using q
  | lst a b =>
    have rv : RelV (.ref _) u := ru
    obtain ⟨as, rr⟩ := Dp.reads I _ _ _ (.lst a b) rv
    cases ru
    exact repr_of_reads' rr hs (fun z => by rw [hn] at z; cases z) hg (by omega) (fun _ _ e => e) (fun h' u tk hk => ⟨.str _, H, I.kept hk, ⟨_, rfl⟩, q⟩) hl
  | tup a b =>
    have rv : RelV (.ref _) u := ru
    obtain ⟨as, rr⟩ := Dp.reads I _ _ _ (.tup a b) rv
    cases ru
    exact repr_of_reads' rr hs (fun z => by rw [hn] at z; cases z) hg (by omega) (fun _ _ e => e) (fun h' u tk hk => ⟨.str _, H, I.kept hk, ⟨_, rfl⟩, q⟩) hl
/-! ### built-ins -/
def biN : Bi → String
  | .len => "len" | .abs => "abs" | .int => "int" | .max2 => "max" | .min2 => "min" | .tuple => "tuple" | .list => "list" | .all => "all" | .any => "any" | .repr => "repr"
/-- whether it is a class -/
def biT : Bi → Bool
  | .int => true | .tuple => true | .list => true
  | _ => false
def biV (b : Bi) : Value := if biT b then .type (biN b) else .builtin (biN b)
def biR (K : PySem.W.Frag) : Bi → List V → Hp → VK → Prop
  | .len => fun xs H Q => ∃ x n, xs = [x] ∧ LenV K x H n ∧ Q (.int n) H
  | .abs => fun xs H Q => ∃ i, xs = [.int i] ∧ Q (.int (if i < 0 then -i else i)) H
  | .int => fun xs H Q => (∃ i, xs = [.int i] ∧ Q (.int i) H) ∨ ∃ k, xs = [.bl k] ∧ Q (.int (if k then 1 else 0)) H
  | .max2 => fun xs H Q => ∃ i j, xs = [.int i, .int j] ∧ Q (.int (if j > i then j else i)) H
  | .min2 => fun xs H Q => ∃ i j, xs = [.int i, .int j] ∧ Q (.int (if j < i then j else i)) H
  | .tuple => fun xs H Q => ∃ p ys, xs = [.ref p] ∧ ((SqL K H p ys ∧ ∀ l, H l = none → Q (.ref l) (upd H l (.tup ys))) ∨ (SqT K H p ys ∧ Q (.ref p) H))
  | .list => fun xs H Q => ∃ p ys, xs = [.ref p] ∧ (SqL K H p ys ∨ SqT K H p ys) ∧ ∀ l, H l = none → Q (.ref l) (upd H l (.lst ys))
  | .all => rAll K
  | .any => rAny K
  | .repr => rRepr K
theorem bi_call (hc : X.calm = true) (hg : X.A.guards = some []) (hu : X.A.units + 200 < cLine) (b : Bi) : CallR X (biV b) (biR X.K b) := by
  cases b with
  | len => exact call_len
  | abs => exact call_abs
  | int => exact call_int1
  | max2 => exact call_max2 hc
  | min2 => exact call_min2 hc
  | tuple => exact call_tuple_of
  | list => exact call_list_of
  | all => exact cr_all hc
  | any => exact cr_any hc
  | repr => exact call_reprD hg hu
inductive RepHs (K : PySem.W.Frag) (ad : Nat → Option Addr) (F H : Hp) : List PV → List V → Prop
  | nil : RepHs K ad F H [] []
  | cons {x : PV} {v : V} {xs : List PV} {vs : List V} : RepH K ad F H x v → RepHs K ad F H xs vs → RepHs K ad F H (x :: xs) (v :: vs)
theorem Fin.rdAll {β : Type} {P : β → Store → Prop} {W : Exc → Store → Prop} : ∀ {xs : List SV} {ws : List V} {k : List PV → M β}, OK K ad g H st → RepSs K ad g xs ws → Fin (Fo.bnd (Fo.rdAll xs) k st) P W → ∃ vs, RepHs K ad g.F H vs ws ∧ Fin (k vs st) P W
  | [], _, k, _, r, h => by cases r; exact ⟨[], .nil, h⟩
  | x :: xs, _, k, o, r, h => by
    cases r with
    | cons a b =>
      unfold Fo.rdAll at h
      rw [bnd_assoc] at h
      obtain ⟨v, _, r1, h1⟩ := Fin.rd o a h
      rw [bnd_assoc] at h1
      obtain ⟨vs, r2, h2⟩ := Fin.rdAll o b h1
      exact ⟨v :: vs, .cons r1 r2, h2⟩
theorem RepHs.one {x : PV} {ws : List V} {F : Hp} (h : RepHs K ad F H [x] ws) : ∃ w, ws = [w] ∧ RepH K ad F H x w := by
  cases h with
  | cons a b => cases b; exact ⟨_, rfl, a⟩
theorem RepHs.two {x y : PV} {ws : List V} {F : Hp} (h : RepHs K ad F H [x, y] ws) : ∃ w w', ws = [w, w'] ∧ RepH K ad F H x w ∧ RepH K ad F H y w' := by
  cases h with
  | cons a b =>
    cases b with
    | cons c d => cases d; exact ⟨_, _, rfl, a, c⟩
theorem bls_ok {F : Hp} : ∀ {xs : List PV} {bs : List Bool} {vs : List V}, bls xs = some bs → RepA K ad F xs vs → vs = bs.map V.bl
  | [], _, _, e, r => by cases r; simp [bls] at e; subst e; rfl
  | x :: xs, _, _, e, r => by
    cases r with
    | cons a b =>
      cases x with
      | bl c =>
        simp only [bls, Option.map_eq_some_iff] at e
        obtain ⟨bs, e1, e2⟩ := e
        subst e2
        cases a
        rw [bls_ok e1 b]
        rfl
      | _ => simp [bls] at e
theorem bi_ok (b : Bi) {Q : VK} {vs : List PV} {ws : List V} {z : PV} (l0 : Le g0 g) (ho : OK K ad g H st) (r : RepHs K ad g.F H vs ws) (e : biv b vs = some z) (h : Fin (ok (SV.d z) st) (Px K ad g0 Q) (Wx K ad g0 Ek)) : biR K b ws H Q := by
  have q : ∀ w, Rep K ad g.F z w → Q w H := fun w r => h g H w l0 ho r
  unfold biv at e
  split at e
  · split at e
    · rename_i c
      cases e
      obtain ⟨w, rfl, r1⟩ := r.one
      rw [r1.str]
      exact ⟨_, _, rfl, ⟨by rw [← lim_eq]; exact c, rfl⟩, q _ (.int _)⟩
    · cases e
  · cases e
    obtain ⟨w, rfl, r1⟩ := r.one
    obtain ⟨p, v, e1, s1, n1, a1⟩ := r1.tup ho.ex
    subst e1
    exact ⟨_, _, rfl, .inr ⟨v, s1, a1.len⟩, q _ (.int _)⟩
  · cases e
    obtain ⟨w, rfl, r1⟩ := r.one
    obtain ⟨p, v, e1, s1, n1, a1⟩ := r1.lst ho.ex
    subst e1
    exact ⟨_, _, rfl, .inl ⟨v, SqL.of s1, a1.len⟩, q _ (.int _)⟩
  · cases e
    obtain ⟨w, rfl, r1⟩ := r.one
    obtain ⟨p, v, e1, s1, n1, a1⟩ := r1.fz ho.ex
    subst e1
    exact ⟨_, _, rfl, .inl ⟨v, s1, a1.len⟩, q _ (.int _)⟩
  · cases e
    obtain ⟨w, rfl, r1⟩ := r.one
    rw [r1.int]
    exact ⟨_, rfl, q _ (.int _)⟩
  · cases e
    obtain ⟨w, rfl, r1⟩ := r.one
    rw [r1.int]
    exact .inl ⟨_, rfl, q _ (.int _)⟩
  · cases e
    obtain ⟨w, rfl, r1⟩ := r.one
    rw [r1.bl]
    exact .inr ⟨_, rfl, q _ (.int _)⟩
  · cases e
    obtain ⟨w, w', rfl, r1, r2⟩ := r.two
    rw [r1.int, r2.int]
    exact ⟨_, _, rfl, q _ (.int _)⟩
  · cases e
    obtain ⟨w, w', rfl, r1, r2⟩ := r.two
    rw [r1.int, r2.int]
    exact ⟨_, _, rfl, q _ (.int _)⟩
  · cases e
    obtain ⟨w, rfl, r1⟩ := r.one
    obtain ⟨p, v, e1, s1, n1, a1⟩ := r1.tup ho.ex
    subst e1
    refine ⟨_, v, rfl, .inr ⟨s1, q _ ?_⟩⟩
    cases r1 with
    | of r => exact r
  · cases e
    obtain ⟨w, rfl, r1⟩ := r.one
    obtain ⟨p, v, e1, s1, n1, a1⟩ := r1.lst ho.ex
    subst e1
    exact ⟨_, v, rfl, .inl ⟨SqL.of s1, fun l hl => fin_tup l0 ho n1 a1 h hl⟩⟩
  · cases e
    obtain ⟨w, rfl, r1⟩ := r.one
    obtain ⟨p, v, e1, s1, n1, a1⟩ := r1.tup ho.ex
    subst e1
    exact ⟨_, v, rfl, .inr s1, fun l hl => fin_lst l0 ho n1 a1 h hl⟩
  · cases e
    obtain ⟨w, rfl, r1⟩ := r.one
    obtain ⟨p, v, e1, s1, n1, a1⟩ := r1.lst ho.ex
    subst e1
    exact ⟨_, v, rfl, .inl (SqL.of s1), fun l hl => fin_lst l0 ho n1 a1 h hl⟩
  · obtain ⟨w, rfl, r1⟩ := r.one
    obtain ⟨p, v, e1, s1, n1, a1⟩ := r1.lst ho.ex
    subst e1
    obtain ⟨bs, e2, e3⟩ := Option.map_eq_some_iff.mp e
    subst e3
    exact ⟨_, bs, rfl, SqL.of (by rw [← bls_ok e2 a1]; exact s1), q _ (.bl _)⟩
  · obtain ⟨w, rfl, r1⟩ := r.one
    obtain ⟨p, v, e1, s1, n1, a1⟩ := r1.lst ho.ex
    subst e1
    obtain ⟨bs, e2, e3⟩ := Option.map_eq_some_iff.mp e
    subst e3
    exact ⟨_, bs, rfl, SqL.of (by rw [← bls_ok e2 a1]; exact s1), q _ (.bl _)⟩
  · obtain ⟨w, rfl, r1⟩ := r.one
    unfold reprv at e
    split at e
    · rename_i d hd
      split at e
      · rename_i c
        cases e
        exact ⟨_, d, rfl, r1.dp ho.ex hd, dat_nodict _ _ hd, c.1, by rw [← lim_eq]; exact c.2.1, c.2.2, q _ (.str _)⟩
      · cases e
    · cases e
  · cases e
variable {e a : Expr} {es : List Expr} {ia : E} {ies : Es} {p : Pos}
theorem bi_boot (b : Bi) : bootBuiltins (Str.ofString (biN b)) = some (biV b) := by cases b <;> decide +kernel
theorem bi_names (b : Bi) : Str.ofString (biN b) ≠ "__name__" ∧ (Str.ofString (biN b) == ("__debug__" : Str)) = false := by cases b <;> decide +kernel
theorem bi_read (b : Bi) {σ : L2.St} {H : Hp} {Q : VK} (h : tEv K ad Ek (evE cl (.bi b ies)) σ H Q) : tCB (biR K b) (tAv K ad Ek (evs cl ies)) σ H Q := by
  obtain ⟨g, sl, st, ho, rs, f⟩ := h
  unfold evE at f
  refine av_bind (Le.refl g) ho rs f fun xs st1 g1 H1 ws l0 l1 o1 rs1 r1 f1 => ?_
  unfold biOf at f1
  rw [bnd_assoc] at f1
  obtain ⟨vs, r2, f2⟩ := Fin.rdAll o1 r1 f1
  obtain ⟨z, e, f3⟩ := Fin.ofO f2
  exact bi_ok b l0 o1 r2 e f3
theorem s_bi (hc : X.calm = true) (hgd : X.A.guards = some []) (hu : X.A.units + 200 < cLine) (b : Bi) (hg : Gl X (Str.ofString (biN b))) (hm : X.mg (Str.ofString (biN b)) = none) (ha : PA X (e :: es) (tAv X.K ad Ek (evs cl ies)))
    (he : starEach (e :: es) X.env = (false, eval e X.env) :: starEach es X.env) (hpl : (backTo pos (starEach es X.env)).any (·.1) = false) : PE X (.Call (.Name (Str.ofString (biN b)) p) (e :: es) [] pos) (tEv X.K ad Ek (evE cl (.bi b ies))) := by
  obtain ⟨n1, n2⟩ := bi_names b
  have hv := bi_boot b
  have hcall := bi_call hc hgd hu b
  unfold biV at hv hcall
  cases hb : biT b with
  | true =>
    rw [hb, if_pos rfl] at hv hcall
    exact PEimp (pe_callTy hcall hg hm hv ha n1 n2 he hpl) fun σ H Q q => bi_read b q
  | false =>
    rw [hb, if_neg Bool.false_ne_true] at hv hcall
    exact PEimp (pe_callB hcall hg hm hv ha n1 n2 he hpl) fun σ H Q q => bi_read b q
/-! ### isinstance -/
def tyN : Ty → String
  | .int => "int" | .bool => "bool" | .str => "str" | .tup => "tuple" | .list => "list"
def tyOf : PV → Option String
  | .non => some "NoneType" | .bl _ => some "bool" | .int _ => some "int" | .str _ => some "str" | .tup _ => some "tuple" | .lst _ => some "list"
  | _ => none
theorem tyOf_ok {x : PV} {w : V} {T : String} (ho : OK K ad g H st) (r : Rep K ad g.F x w) (h : tyOf x = some T) : TyX K H w (.type T) := by
  cases r with
  | non => cases h; exact .base .non
  | bl b => cases h; exact .base (.bl b)
  | int i => cases h; exact .base (.int i)
  | str x => cases h; exact .base (.str x)
  | tup a b c =>
    cases h
    rcases a with a | ⟨o, its, n, a1, a2, a3, a4, a5⟩
    · rcases a with a | ⟨o, a⟩
      · exact .base (.tup (ho.ex _ _ a))
      · exact .fTuple (ho.ex _ _ a)
    · exact .kTuple a1 a2
  | lst a b c => cases h; exact .base (.lst (ho.ex _ _ a))
  | fz a b c => cases h
  | fn a => cases h
theorem ty_kit (t : Ty) (x : PV) (b : Bool) (h : tyOk t x = some b) : ∃ T, tyOf x = some T ∧ kitB T (tyN t) = some b := by
  cases x with
  | non => cases t <;> (cases h; exact ⟨_, rfl, by decide +kernel⟩)
  | bl _ => cases t <;> (cases h; exact ⟨_, rfl, by decide +kernel⟩)
  | int _ => cases t <;> (cases h; exact ⟨_, rfl, by decide +kernel⟩)
  | str _ => cases t <;> (cases h; exact ⟨_, rfl, by decide +kernel⟩)
  | tup _ => cases t <;> (cases h; exact ⟨_, rfl, by decide +kernel⟩)
  | lst _ => cases t <;> (cases h; exact ⟨_, rfl, by decide +kernel⟩)
  | _ => cases t <;> cases h
theorem ty_boot (t : Ty) : bootBuiltins (Str.ofString (tyN t)) = some (.type (tyN t)) := by cases t <;> decide +kernel
theorem ty_names (t : Ty) : Str.ofString (tyN t) ≠ "__name__" ∧ (Str.ofString (tyN t) == ("__debug__" : Str)) = false := by cases t <;> decide +kernel
theorem boot_isi : bootBuiltins ("isinstance" : Str) = some (.builtin "isinstance") := by decide +kernel
theorem s_isi (t : Ty) (hg : Gl X "isinstance") (hm : X.mg "isinstance" = none) (hg2 : Gl X (Str.ofString (tyN t))) (hm2 : X.mg (Str.ofString (tyN t)) = none) {p p2 : Pos} (ha : PE X a (tEv X.K ad Ek (evE cl ia)))
    (hs : starEach (a :: [.Name (Str.ofString (tyN t)) p2]) X.env = (false, eval a X.env) :: starEach [.Name (Str.ofString (tyN t)) p2] X.env) :
    PE X (.Call (.Name "isinstance" p) [a, .Name (Str.ofString (tyN t)) p2] [] pos) (tEv X.K ad Ek (evE cl (.isi ia t))) := by
  obtain ⟨n1, n2⟩ := ty_names t
  have pt : PE X (.Name (Str.ofString (tyN t)) p2) (tC (.ty (tyN t))) := pe_bltn hg2 hm2 (ty_boot t) rfl n1 n2
  refine PEimp (pe_callB call_isi hg hm boot_isi (pa_cons ha (pa_cons pt pa_nil rfl) hs) (by decide +kernel) (by decide +kernel) hs rfl) fun σ H Q q => ?_
  obtain ⟨g, sl, st, ho, rs, f⟩ := q
  unfold evE at f
  refine ev_bind (Le.refl g) ho rs f fun x st1 g1 H1 w1 l0 l1 o1 rs1 r1 f1 => ?_
  obtain ⟨v, e, f2⟩ := Fin.asD f1
  subst e
  obtain ⟨b, e, f3⟩ := Fin.ofO f2
  obtain ⟨T, h1, h2⟩ := ty_kit t v b e
  exact ⟨w1, .ty (tyN t), .type T, _, b, rfl, .ty _, tyOf_ok o1 r1 h1, kit_ty h2, f3 g1 H1 _ l0 o1 (.bl _)⟩
end
/-! ### what a def promises; its call -/
structure FnG (P : Program) (w : World) (K : PySem.W.Frag) (mg : Str → Option Value) (base : Heap) (CX : CXT) (k : Nat) (f : Addr) (fd : FuncData) (ps : List Str) (sp : Sp) : Prop where
  len : ∀ vs H Q E, sp vs H Q E → vs.length = ps.length
  go : ∀ (A : Around) (outer : List Env) (s : Shared) (H : Hp) (args : Args) (us : List Value) (vs : List V) (Q : VK) (E : XK), A.guards = some [] → Room k A → Env0 P w K mg base A outer s H → BindsTo s fd args (ps.zip us) → Vals vs us →
    sp vs H Q E → codeAny (model P w) A (.call (.ref f) args) (CR CX outer P w H s Q E) s
section
variable {X : Cx} {CX : CXT} {k : Nat} {f : Addr} {fd : FuncData} {ps : List Str} {sp : Sp} {dvs : List V} {ds : List Value} {E : XK} {x : Str} {p pos : Pos} {e : Expr} {es : List Expr} {t : TA}
theorem run_fnG {pins : List (Addr × Obj)} {σ : L2.St} {H : Hp} {s : Shared} {Q : VK} {us : List Value} {vs : List V} (F : FnG X.prog X.w X.K X.mg X.base CX k f fd ps sp) (hgd : X.A.guards = some []) (hr : Room k X.A) (hb : Binds X.K fd ps ds) (hd : Vals dvs ds)
    (hx : Passes CX X E) (I : Inv X pins σ H s) (r : Vals vs us) (h : sp (vs ++ dvs) H Q E) : wpAny (model X.prog X.w) X.A (call (.ref f) us) (EP X pins σ Q) X.xe s := by
  have rr : Vals (vs ++ dvs) (us ++ ds) := r.append hd
  have hn : (us ++ ds).length = ps.length := rr.length.symm.trans (F.len _ _ _ _ h)
  have run := F.go X.A X.stack s H ⟨us, []⟩ (us ++ ds) (vs ++ dvs) Q E hgd hr I.env0 (hb s us I.kIn hn) rr h
  refine wpAny_call (codeAny_mono run fun res s' hq => ?_)
  match res, hq with
  | .error e, hq => exact hx pins σ H s e s' I hq
  | .ok (.ret u), hq => exact I.after hq
/-- f(e, ..) -/
theorem pe_callG (F : FnG X.prog X.w X.K X.mg X.base CX k f fd ps sp) (hgd : X.A.guards = some []) (hr : Room k X.A) (hg : Gl X x) (hm : X.mg x = some (.ref f)) (hk : PySem.W.keepIn X.K (.ref f) = true) (hb : Binds X.K fd ps ds) (hd : Vals dvs ds) (hx : Passes CX X E)
    (ha : PA X (e :: es) t) (hdb : (x == ("__debug__" : Str)) = false) (he : starEach (e :: es) X.env = (false, eval e X.env) :: starEach es X.env) (hpl : (backTo pos (starEach es X.env)).any (·.1) = false) :
    PE X (.Call (.Name x p) (e :: es) [] pos) (tCall sp dvs E t) := ⟨fun pins s σ H Q I h =>
  wpAny_Call_Name_kw (ld_glob I hg hm (PySem.W.callWith_K (h₀ := X.base) I.ok.mod.kin hk (thn (ha.run pos pins s σ H _ I h) fun us s1 z =>
    let ⟨vs, H1, I1, r, q⟩ := z
    ⟨I1.kIn, run_fnG F hgd hr hb hd hx I1 r q⟩) he hpl) hdb)⟩
theorem pe_callG0 (F : FnG X.prog X.w X.K X.mg X.base CX k f fd ps sp) (hgd : X.A.guards = some []) (hr : Room k X.A) (hg : Gl X x) (hm : X.mg x = some (.ref f)) (hk : PySem.W.keepIn X.K (.ref f) = true) (hb : Binds X.K fd ps ds) (hd : Vals dvs ds) (hx : Passes CX X E)
    (hdb : (x == ("__debug__" : Str)) = false) : PE X (.Call (.Name x p) [] [] pos) (tCall sp dvs E tNil) := ⟨fun pins s σ H Q I h =>
  wpAny_Call_Name_kw (ld_glob I hg hm (PySem.W.callWith_K0 I.kIn hk (run_fnG (us := []) F hgd hr hb hd hx I .nil h)) hdb)⟩
end
end Fo
end -- FoBi

section -- FoWalk
set_option Elab.async false
set_option linter.all false
set_option maxRecDepth 100000
set_option maxHeartbeats 1000000
/-! FoWalk: what loops walk, targets, list comprehensions. -/
namespace Fo
open PySem L2 Evl PyProof.Rows
/-! ### targets -/
def gNames : List Nat → TGs
  | [] => gNil
  | i :: is => gCons (gName i) (gNames is)
def gRd (K : PySem.W.Frag) : Tg → TG
  | .n i => gName i
  | .t is => fun v σ H Q => gTup K is.length (gNames is) v σ H Q ∨ gUnl K is.length (gNames is) v σ H Q
section
variable {K : PySem.W.Frag} {ad : Nat → Option Addr} {Ek : XK} {X : Cx} {cl : Cl} {pos : Pos} {g g0 g1 : G} {H H1 : Hp} {st st1 : Store}
/-- the names of a target, by their slots -/
inductive Nms (X : Cx) : List Nat → List Expr → Prop
  | nil : Nms X [] []
  | cons {i : Nat} {x : Str} {p : Pos} {is : List Nat} {es : List Expr} : X.N[i]? = some x → Loc X.env.scope x → (X.fn x = true ∨ X.env.scope.names.lookup x = some .local) → Nms X is es → Nms X (i :: is) (.Name x p :: es)
theorem Nms.each {is : List Nat} {es : List Expr} (h : Nms X is es) : assignEach es X.env = es.map fun e => (false, assign e X.env) := by
  induction h with
  | nil => rfl
  | cons a b c d ih =>
    show (false, _) :: assignEach _ X.env = _
    rw [ih]
    rfl
theorem Nms.len {is : List Nat} {es : List Expr} (h : Nms X is es) : es.length = is.length := by
  induction h with
  | nil => rfl
  | cons a b c d ih => exact congrArg (· + 1) ih
theorem Nms.pgs (hN : X.N.Nodup) {is : List Nat} {es : List Expr} (h : Nms X is es) : PGs X es (gNames is) := by
  induction h with
  | nil => exact pgs_nil
  | cons a b c d ih => exact pgs_cons (pg_name hN a b c) ih rfl
theorem Nms.pg (hc : X.calm = true) (hN : X.N.Nodup) {is : List Nat} {es : List Expr} {k : Nat} (h : Nms X is es) : PG X (.Tuple es k pos) (gRd X.K (.t is)) := by
  have hn : (assignEach es X.env).length = is.length := by rw [h.each, List.length_map, h.len]
  have hst : (assignEach es X.env).findIdx? (·.1) = none := by
    rw [h.each, List.findIdx?_eq_none_iff]
    intro x hx
    obtain ⟨e, _, rfl⟩ := List.mem_map.mp hx
    rfl
  have p1 := pg_tup (k := k) (pos := pos) hc (h.pgs hN) hn hst
  have p2 := pg_unl (k := k) (pos := pos) hc (h.pgs hN) hn hst
  refine ⟨fun pins s σ H v u Q I r q => ?_⟩
  rcases q with q | q
  · exact p1.run pins s σ H v u Q I r q
  · exact p2.run pins s σ H v u Q I r q
theorem names_ok : ∀ {is : List Nat} {xs : List PV} {ws : List V} {sl : Slots} {σ : L2.St} {Q : L2.St → Hp → Prop}, xs.length = is.length → RepA K ad g.F xs ws → RepSl K ad g sl σ →
    (∀ σ', RepSl K ad g ((is.zip xs).foldl (fun s p => s.set p.1 (some (.d p.2))) sl) σ' → Q σ' H) → gNames is ws σ H Q
  | [], [], _, _, _, _, _, r, rs, q => by cases r; exact ⟨rfl, q _ rs⟩
  | i :: is, x :: xs, _, sl, σ, Q, hl, r, rs, q => by
    cases r with
    | cons a b => exact ⟨_, _, rfl, names_ok (Nat.succ.inj hl) b (rs.set (x := .d x) i a) q⟩
theorem bind_ok {tg : Tg} {x : PV} {w : V} {sl sl' : Slots} {σ : L2.St} {Q : L2.St → Hp → Prop} (o : OK K ad g H st) (e : bindT tg x sl = some sl') (r : Rep K ad g.F x w) (rs : RepSl K ad g sl σ)
    (q : ∀ σ', RepSl K ad g sl' σ' → Q σ' H) : gRd K tg w σ H Q := by
  unfold bindT at e
  split at e
  · cases e
    exact q _ (rs.set (x := .d _) _ r)
  · split at e
    · rename_i c
      cases e
      cases r with
      | tup a b d => exact .inl ⟨_, _, rfl, ex_t o.ex a, by rw [← d.len]; exact c, names_ok c d rs q⟩
    · cases e
  · split at e
    · rename_i c
      cases e
      cases r with
      | lst a b d => exact .inr ⟨_, _, rfl, SqL.of (o.ex _ _ a), by rw [← d.len]; exact c, names_ok c d rs q⟩
    · cases e
  · cases e
/-! ### what is walked -/
variable (K ad)
def ItemR (g : G) (H : Hp) (x : PV) (w : V) (H' : Hp) : Prop := (H' = H ∧ Rep K ad g.F x w) ∨ ∃ T ws ys, w = .ref T ∧ H T = none ∧ H' = upd H T (.tup ws) ∧ x = .tup ys ∧ RepA K ad g.F ys ws ∧ ws.length ≤ lim
def WkR (g : G) (J : It) (xs : List PV) : Prop := L2.Walk J xs.length (fun H => Ex g.F H) fun i H w H' => ∃ x, xs[i]? = some x ∧ ItemR K ad g H x w H'
def tWk (Ek : XK) (m : Slots → M (List PV)) : TI := fun σ H R => ∃ g sl st, OK K ad g H st ∧ RepSl K ad g sl σ ∧ Fin (m sl st) (fun xs st' => ∀ g' H' J, Le g g' → OK K ad g' H' st' → WkR K ad g' J xs → R J H') (Wx K ad g Ek)
variable {K ad}
theorem ItemR.get {x : PV} {w : V} {H' : Hp} (h : ItemR K ad g H x w H') (l : Ex g.F g1.F) (o : OK K ad g1 H st) : ∃ g2, Le g1 g2 ∧ OK K ad g2 H' st ∧ Rep K ad g2.F x w := by
  rcases h with ⟨e, r⟩ | ⟨T, ws, ys, e1, e2, e3, e4, r, hl⟩
  · subst e
    exact ⟨g1, Le.refl _, o, Rep.mono l _ _ r⟩
  · subst e1 e3 e4
    obtain ⟨o2, l2⟩ := o.lay e2 (.tup ws)
    exact ⟨_, l2, o2, .tup (SqT.of upd_same) hl (RepA.mono (l.trans l2.ex) _ _ r)⟩
theorem PIimp {tg iter : Expr} {t t' : TI} (h : PI X tg iter t) (i : ∀ σ H R, t' σ H R → t σ H R) : PI X tg iter t' :=
  ⟨fun pins s σ H R I q => h.run pins s σ H R I (i σ H R q)⟩
variable {tg a b : Expr} {ia ib : E} {p : Pos}
theorem wk_range {i j : Int} {xs : List PV} (h : rngOf i j = some xs) : (-(2 ^ 62) ≤ i ∧ i < 2 ^ 62 ∧ -(2 ^ 62) ≤ j ∧ j < 2 ^ 62) ∧ WkR K ad g (Itr i (j - i).toNat) xs := by
  unfold rngOf at h
  split at h
  · rename_i c
    cases h
    refine ⟨c, ?_⟩
    unfold WkR
    rw [List.length_map, List.length_range]
    refine walk_range.mono (fun _ _ => trivial) fun k H x H' hk _ y => ?_
    obtain ⟨y1, y2⟩ := y
    refine ⟨.int (i + (k : Nat)), ?_, .inl ⟨y1, by rw [y2]; exact .int _⟩⟩
    rw [List.getElem?_map, List.getElem?_range hk]
    rfl
  · cases h
theorem w_rng1 (hg : Gl X "range") (hm : X.mg "range" = none) (ha : PE X a (tEv X.K ad Ek (evE cl ia))) (hs : starEach [a] X.env = [(false, eval a X.env)]) :
    PI X tg (.Call (.Name "range" p) [a] [] pos) (tWk X.K ad Ek (evW cl (.rng1 ia))) := by
  refine PIimp (pi_range1 hg hm (pa_cons ha pa_nil hs) hs) fun σ H R q => ?_
  obtain ⟨g, sl, st, ho, rs, f⟩ := q
  unfold evW at f
  refine ev_bind (Le.refl g) ho rs f fun x st1 g1 H1 w1 l0 l1 o1 rs1 r1 f1 => ?_
  obtain ⟨j, e, f2⟩ := Fin.asI f1
  subst e
  cases r1
  cases hx : rngOf 0 j with
  | none => rw [hx] at f2; exact f2.elim
  | some xs =>
    rw [hx] at f2
    obtain ⟨c, w⟩ := wk_range (K := X.K) (ad := ad) (g := g1) hx
    rw [Int.sub_zero] at w
    exact ⟨j, rfl, c.2.2.1, c.2.2.2, f2 g1 H1 _ l0 o1 w⟩
theorem w_rng2 (hg : Gl X "range") (hm : X.mg "range" = none) (ha : PE X a (tEv X.K ad Ek (evE cl ia))) (hb : PE X b (tEv X.K ad Ek (evE cl ib))) (hs : starEach [a, b] X.env = [(false, eval a X.env), (false, eval b X.env)]) (hs2 : starEach [b] X.env = [(false, eval b X.env)]) :
    PI X tg (.Call (.Name "range" p) [a, b] [] pos) (tWk X.K ad Ek (evW cl (.rng2 ia ib))) := by
  refine PIimp (pi_range2 hg hm (pa_cons ha (pa_cons hb pa_nil hs2) (by rw [hs, hs2])) hs hs2) fun σ H R q => ?_
  obtain ⟨g, sl, st, ho, rs, f⟩ := q
  unfold evW at f
  refine ev_bind (Le.refl g) ho rs f fun x st1 g1 H1 w1 l0 l1 o1 rs1 r1 f1 => ?_
  refine ev_bind l0 o1 rs1 f1 fun y st2 g2 H2 w2 l0' l2 o2 rs2 r2 f2 => ?_
  obtain ⟨i, e, f3⟩ := Fin.asI f2
  subst e
  obtain ⟨j, e, f4⟩ := Fin.asI f3
  subst e
  cases r1
  cases r2
  cases hx : rngOf i j with
  | none => rw [hx] at f4; exact f4.elim
  | some xs =>
    rw [hx] at f4
    obtain ⟨c, w⟩ := wk_range (K := X.K) (ad := ad) (g := g2) hx
    exact ⟨i, j, rfl, c, f4 g2 H2 _ l0' o2 w⟩
/-- a list or a tuple, as it comes -/
def iAny (K : PySem.W.Frag) (tl : TE) : TI := fun σ H R => tl σ H fun x H1 => (∃ a xs, x = .ref a ∧ SqL K H1 a xs ∧ R (Itl K a) H1) ∨ ∃ a xs, x = .ref a ∧ SqT K H1 a xs ∧ R (Itt K a) H1
theorem new_it {pins : List (Addr × Obj)} {σ : L2.St} {H : Hp} {s : Shared} (I : Inv X pins σ H s) : ∀ b ∈ [s.heap.objs.size], FpOk X pins H b := fun b hb => by
  rw [List.mem_singleton.mp hb]
  exact I.fpOk (Nat.le_refl _) (I.hok.fresh (Nat.le_refl _))
theorem pi_any (ha : PE X a ta) : PI X tg a (iAny X.K ta) := by
  constructor
  intro pins s σ H R I h
  refine wpAny_mono (ha.run pins s σ H _ I h) (fun v s1 hv => ?_) fun _ _ z => z
  obtain ⟨x, H1, I1, r1, q⟩ := hv
  have push : ∀ o : Obj, Inv X pins σ H1 { s1 with heap := s1.heap.push o } := fun o => I1.kept (t' := s1.toks) fun b u e => Heap.get?_push_of_some _ e
  rcases q with ⟨a, xs, e, hq, q⟩ | ⟨a, xs, e, hq, q⟩
  · subst e
    cases r1
    obtain ⟨its, _, pl, _⟩ := I1.list hq
    exact wpAny_pyIter_list pl.isList ⟨_, [s1.heap.objs.size], _, Itl X.K a, H1, rfl, push _, turn_list a _, ⟨_, Heap.get?_push_size _ rfl, rfl, rfl⟩, new_it I1, q⟩
  · subst e
    cases r1
    obtain ⟨its, _, pt, _⟩ := I1.tuple hq
    exact wpAny_pyIter_tuple (show s1.heap.IsTuple a its.toArray from pt) ⟨_, [s1.heap.objs.size], _, Itt X.K a, H1, rfl, push _, turn_tuple a _, ⟨_, Heap.get?_push_size _ rfl, rfl, rfl⟩, new_it I1, q⟩
theorem wk_seq {J : It} {xs : List PV} {vs : List V} {Gd : Hp → Prop} (w : L2.Walk J vs.length Gd (YAt vs)) (hg : ∀ H, Ex g.F H → Gd H) (r : RepA K ad g.F xs vs) : WkR K ad g J xs := by
  unfold WkR
  rw [r.len]
  refine w.mono hg fun i H x H' hi _ y => ?_
  obtain ⟨y1, y2⟩ := y
  obtain ⟨z, h1, h2⟩ := r.getV y2
  exact ⟨z, h1, .inl ⟨y1, h2⟩⟩
theorem w_over (ha : PE X a (tEv X.K ad Ek (evE cl ia))) : PI X tg a (tWk X.K ad Ek (evW cl (.over ia))) := by
  refine PIimp (pi_any ha) fun σ H R q => ?_
  obtain ⟨g, sl, st, ho, rs, f⟩ := q
  unfold evW at f
  refine ev_bind (Le.refl g) ho rs f fun x st1 g1 H1 w1 l0 l1 o1 rs1 r1 f1 => ?_
  obtain ⟨v, e, f2⟩ := Fin.asD f1
  subst e
  cases hx : items v with
  | none => rw [hx] at f2; exact f2.elim
  | some xs =>
    rw [hx] at f2
    have r : Rep X.K ad g1.F v w1 := r1
    cases r with
    | tup a b c =>
      cases hx
      exact .inr ⟨_, _, rfl, ex_t o1.ex a, f2 g1 H1 _ l0 o1 (wk_seq (Gd := fun H => SqT X.K H _ _) walk_tup (fun H e => ex_t e a) c)⟩
    | lst a b c =>
      cases hx
      exact .inl ⟨_, _, rfl, SqL.of (o1.ex _ _ a), f2 g1 H1 _ l0 o1 (wk_seq (Gd := fun H => SqL X.K H _ _) walk_list (fun H e => SqL.of (e _ _ a)) c)⟩
    | fz a b c =>
      cases hx
      exact .inl ⟨_, _, rfl, ex_l o1.ex a, f2 g1 H1 _ l0 o1 (wk_seq (Gd := fun H => SqL X.K H _ _) walk_list (fun H e => ex_l e a) c)⟩
    | _ => cases hx
/-! ### list comprehensions -/
def ownOf (N : List Str) : Tg → List (Str × Nat)
  | .n i => [((N[i]?).getD "", i)]
  | .t is => is.map fun i => ((N[i]?).getD "", i)
def tgIs : Tg → List Nat
  | .n i => [i]
  | .t is => is
theorem own_is (N : List Str) (t : Tg) : (ownOf N t).map (·.2) = tgIs t := by
  cases t with
  | n i => rfl
  | t is => simp [ownOf, tgIs, List.map_map, Function.comp_def]
theorem fold_len {is : List Nat} : ∀ {xs : List PV} {sl : Slots}, ((is.zip xs).foldl (fun s p => s.set p.1 (some (.d p.2))) sl).length = sl.length := by
  induction is with
  | nil => intro xs sl; rfl
  | cons i is ih =>
    intro xs sl
    cases xs with
    | nil => rfl
    | cons x xs =>
      show ((is.zip xs).foldl _ (sl.set i _)).length = _
      rw [ih, List.length_set]
theorem wipe_get {σ : L2.St} {i : Nat} : ∀ {vs : List Nat}, i ∉ vs → (wipe σ vs)[i]? = σ[i]?
  | [], _ => rfl
  | v :: vs, h => by
    unfold wipe
    rw [List.getElem?_set_ne (fun z => h (by simp [z]))]
    exact wipe_get fun z => h (List.mem_cons_of_mem _ z)
theorem wipe_at {σ : L2.St} {i : Nat} : ∀ {vs : List Nat}, i ∈ vs → i < σ.length → (wipe σ vs)[i]? = some none
  | v :: vs, h, hl => by
    unfold wipe
    by_cases e : v = i
    · subst e
      rw [List.getElem?_set_self (by rw [wipe_length]; exact hl)]
    · rw [List.getElem?_set_ne e]
      rcases List.mem_cons.mp h with z | z
      · exact absurd z.symm e
      · exact wipe_at z hl
/-- two maps of slots that differ at the block's own names alone are one when these are wiped -/
theorem wipe_ext {σ σ' : L2.St} {vs : List Nat} (hl : σ.length = σ'.length) (h : ∀ i, i ∉ vs → σ[i]? = σ'[i]?) : wipe σ vs = wipe σ' vs := by
  refine List.ext_getElem? fun i => ?_
  by_cases hi : i ∈ vs
  · by_cases hb : i < σ.length
    · rw [wipe_at hi hb, wipe_at hi (by rw [← hl]; exact hb)]
    · rw [List.getElem?_eq_none (by rw [wipe_length]; omega), List.getElem?_eq_none (by rw [wipe_length]; omega)]
  · rw [wipe_get hi, wipe_get hi]
    exact h i hi
/-- the same of a target's reading: outside of its names nothing changes -/
theorem names_out : ∀ {is : List Nat} {vs : List V} {σ : L2.St} {H : Hp} {Q : L2.St → Hp → Prop}, gNames is vs σ H Q → gNames is vs σ H fun σ' H' => σ'.length = σ.length ∧ (∀ i, i ∉ is → σ'[i]? = σ[i]?) ∧ Q σ' H'
  | [], _, _, _, _, h => ⟨h.1, rfl, fun _ _ => rfl, h.2⟩
  | j :: is, vs, σ, H, Q, h => by
    obtain ⟨v, r, e, q⟩ := h
    refine ⟨v, r, e, ?_⟩
    have := names_out (is := is) q
    refine names_imp this fun σ' H' z => ⟨by rw [z.1, List.length_set], fun i hi => ?_, z.2.2⟩
    rw [z.2.1 i (fun y => hi (List.mem_cons_of_mem _ y)), List.getElem?_set_ne (fun y => hi (by simp [y]))]
where
  names_imp {is : List Nat} {vs : List V} {σ : L2.St} {H : Hp} {Q Q' : L2.St → Hp → Prop} (h : gNames is vs σ H Q) (i : ∀ σ' H', Q σ' H' → Q' σ' H') : gNames is vs σ H Q' := by
    induction is generalizing vs σ with
    | nil => exact ⟨h.1, i _ _ h.2⟩
    | cons j is ih =>
      obtain ⟨v, r, e, q⟩ := h
      exact ⟨v, r, e, ih q⟩
theorem rd_out {tg : Tg} {v : V} {σ : L2.St} {H : Hp} {Q : L2.St → Hp → Prop} (h : gRd K tg v σ H Q) : gRd K tg v σ H fun σ' H' => σ'.length = σ.length ∧ (∀ i, i ∉ tgIs tg → σ'[i]? = σ[i]?) ∧ Q σ' H' := by
  cases tg with
  | n i => exact ⟨List.length_set, fun j hj => List.getElem?_set_ne fun z => hj (by simp [tgIs, z]), h⟩
  | t is =>
    rcases h with ⟨a, xs, e, s, hl, q⟩ | ⟨a, xs, e, s, hl, q⟩
    · exact .inl ⟨a, xs, e, s, hl, names_out q⟩
    · exact .inr ⟨a, xs, e, s, hl, names_out q⟩
theorem RepSl.wiped {sl : Slots} {σ : L2.St} (h : RepSl K ad g sl σ) (tg : Tg) (x : PV) (sl' : Slots) (e : bindT tg x sl = some sl') : ∃ sl0, bindT tg x sl0 = some sl' ∧ RepSl K ad g sl0 (wipe σ (tgIs tg)) := by
  -- the target's own slots are stored anyway
  have key : ∀ is : List Nat, RepSl K ad g (is.foldl (fun s i => s.set i none) sl) (wipe σ is.reverse) := by
    intro is
    refine ⟨?_, fun i v q => ?_⟩
    · rw [wipe_length, ← h.1]
      clear e h
      induction is generalizing sl with
      | nil => rfl
      | cons j is ih => rw [List.foldl_cons, ih, List.length_set]
    · have : sl[i]? = some (some v) ∧ i ∉ is := by
        clear e h
        induction is generalizing sl with
        | nil => exact ⟨q, by simp⟩
        | cons j is ih =>
          rw [List.foldl_cons] at q
          obtain ⟨q1, q2⟩ := ih q
          by_cases z : j = i
          · subst z
            by_cases hb : j < sl.length
            · rw [List.getElem?_set_self hb] at q1; cases q1
            · rw [List.getElem?_eq_none (by rw [List.length_set]; omega)] at q1; cases q1
          · rw [List.getElem?_set_ne z] at q1
            exact ⟨q1, by simp only [List.mem_cons, not_or]; exact ⟨fun y => z y.symm, q2⟩⟩
      obtain ⟨w, h1, h2⟩ := h.2 i v this.1
      exact ⟨w, by rw [wipe_get (by simpa using this.2)]; exact h1, h2⟩
  cases tg with
  | n i =>
    refine ⟨sl.set i none, ?_, key [i]⟩
    cases e
    show some ((sl.set i none).set i (some (.d x))) = _
    rw [List.set_set]
  | t is =>
    have k1 := key is.reverse
    rw [List.reverse_reverse] at k1
    have same : ∀ xs : List PV, xs.length = is.length → (is.zip xs).foldl (fun s p => s.set p.1 (some (SV.d p.2))) (is.reverse.foldl (fun s i => s.set i none) sl) = (is.zip xs).foldl (fun s p => s.set p.1 (some (SV.d p.2))) sl := by
      intro xs hl
      have gen : ∀ (js : List Nat) (ys : List PV) (s1 s2 : Slots), ys.length = js.length → s1.length = s2.length → (∀ i, i ∉ js → s1[i]? = s2[i]?) → (js.zip ys).foldl (fun s p => s.set p.1 (some (SV.d p.2))) s1 = (js.zip ys).foldl (fun s p => s.set p.1 (some (SV.d p.2))) s2 := by
        intro js
        induction js with
        | nil => intro ys s1 s2 _ hl hh; exact List.ext_getElem? fun i => hh i (by simp)
        | cons j js ih =>
          intro ys s1 s2 hy hl hh
          cases ys with
          | nil => cases hy
          | cons y ys =>
            refine ih ys (s1.set j _) (s2.set j _) (Nat.succ.inj hy) (by rw [List.length_set, List.length_set, hl]) fun i hi => ?_
            by_cases z : j = i
            · subst z
              by_cases hb : j < s1.length
              · rw [List.getElem?_set_self hb, List.getElem?_set_self (by rw [← hl]; exact hb)]
              · rw [List.getElem?_eq_none (by rw [List.length_set]; omega), List.getElem?_eq_none (by rw [List.length_set]; omega)]
            · rw [List.getElem?_set_ne z, List.getElem?_set_ne z]
              exact hh i (by simp only [List.mem_cons, not_or]; exact ⟨fun y => z y.symm, hi⟩)
      refine gen is xs _ _ hl ?_ fun i hi => ?_
      · generalize is.reverse = js
        clear k1 key e h
        induction js generalizing sl with
        | nil => rfl
        | cons j js ih => rw [List.foldl_cons, ih, List.length_set]
      · have hr : i ∉ is.reverse := by simpa using hi
        generalize is.reverse = js at hr
        clear k1 key e h
        induction js generalizing sl with
        | nil => rfl
        | cons j js ih =>
          rw [List.foldl_cons, ih (fun z => hr (List.mem_cons_of_mem _ z)), List.getElem?_set_ne (fun z => hr (by simp [z]))]
    refine ⟨_, ?_, k1⟩
    unfold bindT at e ⊢
    cases x with
    | tup xs =>
      dsimp only at e ⊢
      by_cases c : xs.length = is.length
      · rw [if_pos c] at e ⊢
        rw [same xs c]
        exact e
      · rw [if_neg c] at e; cases e
    | lst xs =>
      dsimp only at e ⊢
      by_cases c : xs.length = is.length
      · rw [if_pos c] at e ⊢
        rw [same xs c]
        exact e
      · rw [if_neg c] at e; cases e
    | _ => cases e
end
end Fo
end -- FoWalk

section -- FoLc
set_option Elab.async false
set_option linter.all false
set_option maxRecDepth 100000
set_option maxHeartbeats 1000000
/-! FoLc: list comprehensions. -/
namespace Fo
open PySem L2 Evl PyProof.Rows
section
variable {α β γ : Type}
theorem nox_bnd (m : M α) (k : α → M β) : nox (bnd m k) = bnd (nox m) fun a => nox (k a) := by
  funext st
  unfold nox bnd
  cases e : m st with
  | none => simp only [e]
  | some r => cases r <;> simp only [e]
theorem nox_ok (a : α) : nox (ok a) = ok a := rfl
theorem Fin.nox {m : M α} {k : α → M β} {st : Store} {P : β → Store → Prop} {W : Exc → Store → Prop} (h : Fin (Fo.bnd (Fo.nox m) k st) P W) : Fin (m st) (fun a st' => Fin (k a st') P W) fun _ _ => False := by
  unfold Fo.bnd Fo.nox at h
  cases e : m st with
  | none => rw [e] at h; exact h
  | some r =>
    rw [e] at h
    cases r with
    | ok a st' => exact h
    | ex x st' => exact h
end
section
variable {K : PySem.W.Frag} {ad : Nat → Option Addr} {Ek : XK} {X : Cx} {cl : Cl} {pos : Pos} {g g0 g1 : G} {H H1 : Hp} {st st1 : Store}
theorem OK.reguard {F : Hp} {r : List (List Addr)} {p : List (Addr × HO)} {D : Addr} {u u' : HO} (o : OK K ad ⟨F, r, (D, u) :: p⟩ H st) (hD : ∀ q ∈ p, q.1 ≠ D) : OK K ad ⟨F, r, (D, u') :: p⟩ (upd H D u') st := by
  obtain ⟨p1, p2, p3⟩ := o.pr (D, u) List.mem_cons_self
  have p2 : F D = none := p2
  have p3 : D ∉ r.flatten := p3
  refine ⟨fun a v q => ?_, o.len, fun l c as h1 h2 => (o.cell l c as h1 h2).ext (Ex.refl _) fun a ha => upd_ne fun z => p3 ?_, o.nd, o.dj, fun q hq => ?_⟩
  · have q : F a = some v := q
    rw [upd_ne (fun z : a = D => by rw [z, p2] at q; cases q)]
    exact o.ex a v q
  · rw [← z]
    exact List.mem_flatten.mpr ⟨_, List.mem_of_getElem? h2, ha⟩
  · rcases List.mem_cons.mp hq with e | e
    · subst e
      exact ⟨upd_same, p2, p3⟩
    · obtain ⟨q1, q2, q3⟩ := o.pr q (List.mem_cons_of_mem _ e)
      exact ⟨by rw [upd_ne (hD q e)]; exact q1, q2, q3⟩
theorem Le.guarded {F : Hp} {r : List (List Addr)} {p p' : List (Addr × HO)} {g' : G} (l : Le ⟨F, r, p⟩ g') : Le ⟨F, r, p'⟩ ⟨g'.F, g'.r, p'⟩ := ⟨l.ex, l.len, l.ent, rfl⟩
variable {elt tg iter : Expr} {ifs : List Expr} {scope : Scope} {w : W} {tgt : Tg} {c : Oe} {ie : E}
/-- a clause's tests -/
theorem tests_no : PTs X [] (tTv X.K ad E0 (evC cl .no)) := ⟨fun pins s σ H Q I q => pts_nil.run pins s σ H Q I (by
  obtain ⟨g, sl, st, ho, rs, f⟩ := q
  unfold evC at f
  exact f g H (Le.refl g) ho)⟩
theorem tests_one {e : Expr} {i : E} (h : PT X e (tBv X.K ad E0 cl i)) : PTs X [e] (tTv X.K ad E0 (evC cl (.ye i))) := ⟨fun pins s σ H Q I q => (pts_one h).run pins s σ H Q I (by
  obtain ⟨g, sl, st, ho, rs, f⟩ := q
  unfold evC at f
  exact ⟨g, sl, st, ho, rs, f⟩)⟩
/-- the reading of a comprehension from the evaluator's -/
theorem lc_read {N : List Str} {σ : L2.St} {Q : VK} (q : tFr K ad Ek (evE cl (.lc w tgt c ie)) σ H Q) :
    tLc (tWk K ad Ek (evW cl w)) (gRd K tgt) (tTv K ad E0 (evC cl c)) (tEv K ad E0 (evE cl ie)) ((ownOf N tgt).map (·.2)) σ H Q := by
  obtain ⟨g, sl, st, ho, rs, f⟩ := q
  unfold evE at f
  rw [own_is]
  refine ⟨g, sl, st, ho, rs, f.bnd.imp (fun xs st1 h g1 H1 J l1 o1 wk => ?_) fun _ _ w => w⟩
  intro D hD
  by_cases hl : xs.length ≤ lim
  case neg =>
    rw [if_neg hl] at h
    exact h.elim
  rw [if_pos hl] at h
  have rs1 := rs.mono l1
  have hDp : ∀ q ∈ g1.p, q.1 ≠ D := (o1.free hD).2.2
  let kk : List PV → M SV := fun ys => ok (.d (.lst ys))
  let go := lcGo sl tgt (evC cl c) (fun s => bnd (evE cl ie s) asD)
  let Pv : Nat → Hp → Prop := fun i H => ∃ g' st' acc vs, Le g1 g' ∧ OK K ad ⟨g'.F, g'.r, (D, .lst vs) :: g1.p⟩ H st' ∧ RepA K ad g'.F acc vs ∧ acc.length ≤ i ∧ Fin (bnd (nox (go (xs.drop i) acc)) kk st') (Pf K ad g Q) (Wx K ad g Ek)
  refine lc_it wk Pv ⟨g1, st1, [], [], Le.refl _, (o1.ext (Ex.new hD)).guard upd_same (o1.free hD), .nil, Nat.le_refl _, h⟩ ?_ ?_ ?_
  · rintro i H _ ⟨g', st', acc, vs, l2, o2, _⟩
    exact l2.ex.trans o2.ex
  · rintro i x H H' hi ⟨g', st', acc, vs, l2, o2, ra, hn, h2⟩ ⟨x', ex, it⟩
    have hdr : xs.drop i = x' :: xs.drop (i + 1) := by
      obtain ⟨hb, e⟩ := List.getElem?_eq_some_iff.mp ex
      rw [List.drop_eq_getElem_cons hb, e]
    obtain ⟨g3, l3, o3, rx⟩ := it.get (g1 := ⟨g'.F, g'.r, (D, .lst vs) :: g1.p⟩) l2.ex o2
    have rs3 : RepSl K ad g3 sl σ := by
      have m1 : RepSl K ad ⟨g'.F, g'.r, (D, .lst vs) :: g1.p⟩ sl σ := rs1.mono ⟨l2.ex, l2.len, l2.ent, rfl⟩ |> fun (z : RepSl K ad ⟨g'.F, g'.r, g1.p⟩ sl σ) => z
      exact m1.mono l3
    rw [hdr] at h2
    have h2 : Fin (bnd (nox (match bindT tgt x' sl with
      | none => stk
      | some sl' => bnd (evC cl c sl') fun b => if b = true then bnd (bnd (evE cl ie sl') asD) fun y => go (xs.drop (i + 1)) (acc ++ [y]) else go (xs.drop (i + 1)) acc)) kk st') (Pf K ad g Q) (Wx K ad g Ek) := h2
    cases hb : bindT tgt x' sl with
    | none =>
      rw [hb] at h2
      exact h2.elim
    | some sl' =>
      rw [hb] at h2
      obtain ⟨sl0, hb0, rs0⟩ := rs3.wiped tgt x' sl' hb
      have rd := rd_out (bind_ok o3 hb0 rx rs0 (Q := fun σ2 H2 => H2 = H' ∧ RepSl K ad g3 sl' σ2) fun σ2 r2 => ⟨rfl, r2⟩)
      refine rd_mono rd fun σ2 H2 z => ?_
      obtain ⟨z1, z2, z3, rs2⟩ := z
      subst z3
      refine ⟨?_, ?_⟩
      · rw [wipe_ext (σ := σ2) (σ' := σ) (by rw [z1, wipe_length]) fun j hj => by rw [z2 j hj, wipe_get hj]]
      rw [nox_bnd, bnd_assoc] at h2
      refine ⟨g3, sl', st', o3, rs2, (Fin.nox h2).imp (fun b st4 h4 g4 H4 l4 o4 => ?_) fun _ _ z => z.elim⟩
      have gp : g4.p = (D, .lst vs) :: g1.p := l4.pp.trans l3.pp
      have gD := o4.pr (D, .lst vs) (by rw [gp]; exact List.mem_cons_self)
      have l14 : Le g1 ⟨g4.F, g4.r, g1.p⟩ := l2.trans ⟨(l3.trans l4).ex, (l3.trans l4).len, (l3.trans l4).ent, l2.pp.symm⟩
      cases b with
      | false =>
        rw [if_neg Bool.false_ne_true] at h4
        have o4' : OK K ad ⟨g4.F, g4.r, (D, .lst vs) :: g1.p⟩ H4 st4 := by rw [← gp]; exact o4
        exact ⟨⟨g4.F, g4.r, g1.p⟩, st4, acc, vs, l14, o4', RepA.mono (l3.trans l4).ex _ _ ra, Nat.le_succ_of_le hn, h4⟩
      | true =>
        rw [if_pos rfl] at h4
        rw [nox_bnd, nox_bnd, bnd_assoc, bnd_assoc] at h4
        refine ⟨g4, sl', st4, o4, rs2.mono l4, (Fin.nox h4).imp (fun v st5 h5 g5 H5 wv l5 o5 r5 => ?_) fun _ _ z => z.elim⟩
        have h5 := Fin.nox h5
        cases v with
        | r l => exact h5.elim
        | d y =>
          have h5 : Fin (bnd (nox (go (xs.drop (i + 1)) (acc ++ [y]))) kk st5) (Pf K ad g Q) (Wx K ad g Ek) := h5
          have gp5 : g5.p = (D, .lst vs) :: g1.p := l5.pp.trans gp
          have gD5 := o5.pr (D, .lst vs) (by rw [gp5]; exact List.mem_cons_self)
          have o5' : OK K ad ⟨g5.F, g5.r, (D, .lst vs) :: g1.p⟩ H5 st5 := by rw [← gp5]; exact o5
          have hlen : vs.length < sizeLine := by
            rw [← ra.len, ← lim_eq]
            have := Nat.lt_of_lt_of_le hi hl
            omega
          refine ⟨vs, gD5.1, hlen, ⟨g5.F, g5.r, g1.p⟩, st5, acc ++ [y], vs ++ [wv], ?_, o5'.reguard hDp, ?_, ?_, h5⟩
          · exact l14.trans ⟨l5.ex, l5.len, l5.ent, rfl⟩
          · exact (RepA.mono ((l3.trans l4).trans l5).ex _ _ ra).app (.cons r5 .nil)
          · rw [List.length_append]
            show acc.length + 1 ≤ i + 1
            omega
  · rintro H ⟨g', st', acc, vs, l2, o2, ra, hn, h2⟩
    rw [List.drop_length] at h2
    have h2 : Pf K ad g Q (.d (.lst acc)) st' := h2
    have gD := o2.pr (D, .lst vs) List.mem_cons_self
    have o2' : OK K ad ⟨g'.F, g'.r, g1.p⟩ H st' := o2.unguard rfl
    obtain ⟨acc', e1, h3⟩ := h2
    cases e1
    refine h3 ⟨g'.F, g'.r, g1.p⟩ H D vs (l1.trans (l2.trans ⟨Ex.refl _, Nat.le_refl _, fun _ _ _ _ q => q, l2.pp.symm⟩)) o2' gD.1 ⟨gD.2.1, gD.2.2, hDp⟩ ?_ ra
    rw [← ra.len]
    omega
where
  rd_mono {tg : Tg} {v : V} {σ : L2.St} {H : Hp} {Q Q' : L2.St → Hp → Prop} (h : gRd K tg v σ H Q) (i : ∀ σ' H', Q σ' H' → Q' σ' H') : gRd K tg v σ H Q' := by
    cases tg with
    | n j => exact i _ _ h
    | t is =>
      rcases h with ⟨a, xs, e, s, hl, q⟩ | ⟨a, xs, e, s, hl, q⟩
      · exact .inl ⟨a, xs, e, s, hl, names_out.names_imp q i⟩
      · exact .inr ⟨a, xs, e, s, hl, names_out.names_imp q i⟩
theorem s_lcF (hc : X.calm = true) (hN : X.N.Nodup) (hi : PI X tg iter (tWk X.K ad Ek (evW cl w))) (ok' : BlkOk X.N X.env.scope scope (ownOf X.N tgt))
    (hg : ∀ (s : Shared) (H : Hp) (C : Addr) (cls : List (Str × Addr)) (fp : List Addr), PG (X.blk s H scope (compEnvC scope cls C X.env) fp) tg (gRd X.K tgt))
    (ht : ∀ (s : Shared) (H : Hp) (C : Addr) (cls : List (Str × Addr)) (fp : List Addr), PTs (X.blk s H scope (compEnvC scope cls C X.env) fp) ifs (tTv X.K ad E0 (evC cl c)))
    (he : ∀ (s : Shared) (H : Hp) (C : Addr) (cls : List (Str × Addr)) (fp : List Addr), PE (X.blk s H scope (compEnvC scope cls C X.env) fp) elt (tEv X.K ad E0 (evE cl ie)))
    (hs : ∀ x, foldedSetIterable iter X.env x = pure x) : PE X (.ListComp elt [⟨tg, iter, ifs, 0⟩] scope pos) (tFr X.K ad Ek (evE cl (.lc w tgt c ie))) :=
  PEimp (pe_lc hc hN hi ok' hg ht he hs) fun σ H Q q => lc_read q
/-- name = [..] on one line -/
theorem s_setLc {i : Nat} {y : Str} {py spos : Pos} (hc : X.calm = true) (hN : X.N.Nodup) (hy : X.N[i]? = some y) (hyl : X.env.scope.names.lookup y = some .local) (hsw : swapsWith (.ListComp elt [⟨tg, iter, ifs, 0⟩] scope pos) (some (.Name y py)) spos.line X.env = pure true)
    (hi : PI X tg iter (tWk X.K ad Ek (evW cl w))) (ok' : BlkOk X.N X.env.scope scope (ownOf X.N tgt))
    (hg : ∀ (s : Shared) (H : Hp) (C : Addr) (cls : List (Str × Addr)) (fp : List Addr), PG (X.blk s H scope (compEnvC scope cls C X.env) fp) tg (gRd X.K tgt))
    (ht : ∀ (s : Shared) (H : Hp) (C : Addr) (cls : List (Str × Addr)) (fp : List Addr), PTs (X.blk s H scope (compEnvC scope cls C X.env) fp) ifs (tTv X.K ad E0 (evC cl c)))
    (he : ∀ (s : Shared) (H : Hp) (C : Addr) (cls : List (Str × Addr)) (fp : List Addr), PE (X.blk s H scope (compEnvC scope cls C X.env) fp) elt (tEv X.K ad E0 (evE cl ie)))
    (hs : ∀ x, foldedSetIterable iter X.env x = pure x) : PS X (.Assign [.Name y py] (.ListComp elt [⟨tg, iter, ifs, 0⟩] scope pos) spos) (tAsg (tFr X.K ad Ek (evE cl (.lc w tgt c ie))) (gName i)) :=
  ⟨fun pins s σ H D I q => (ps_setLc hc hN hy hyl hsw hi ok' hg ht he hs).run pins s σ H D I (lc_read q)⟩
end
end Fo
end -- FoLc

section -- FoStmt
set_option Elab.async false
set_option linter.all false
set_option maxRecDepth 100000
set_option maxHeartbeats 1000000
/-! FoStmt: statements. -/
namespace Fo
open PySem L2 Evl PyProof.Rows
theorem PSimp {X : Cx} {s : Stmt} {t t' : TS} (h : PS X s t) (i : ∀ D σ H, t' D σ H → t D σ H) : PS X s t' := ⟨fun pins st σ H D I q => h.run pins st σ H D I (i D σ H q)⟩
theorem PSsimp {X : Cx} {s : List Stmt} {t t' : TS} (h : PSs X s t) (i : ∀ D σ H, t' D σ H → t D σ H) : PSs X s t' := ⟨fun pins st σ H D I q => h.run pins st σ H D I (i D σ H q)⟩
section
variable (K : PySem.W.Frag) (ad : Nat → Option Addr)
def Prt (fr : Bool) (g : G) (Q : VK) : SV → Store → Prop
  | .r l, st' => Px K ad g Q (.r l) st'
  | .d x, st' => if fr = true then Pf K ad g Q (.d x) st' else Px K ad g Q (.d x) st'
def Po (fr : Bool) (g : G) (D : Ends) : Out → Store → Prop
  | .nx sl, st' => ∀ g' H' σ', Le g g' → OK K ad g' H' st' → RepSl K ad g' sl σ' → D.nx σ' H'
  | .ct sl, st' => ∀ g' H' σ', Le g g' → OK K ad g' H' st' → RepSl K ad g' sl σ' → D.ct σ' H'
  | .rt v, st' => Prt K ad fr g D.rt v st'
def tSv (fr : Bool) (Ek : XK) (m : Slots → M Out) : TS := fun D σ H => ∃ g sl st, OK K ad g H st ∧ RepSl K ad g sl σ ∧ Fin (m sl st) (Po K ad fr g D) (Wx K ad g Ek)
end
section
variable {K : PySem.W.Frag} {ad : Nat → Option Addr} {Ek : XK} {X : Cx} {cl : Cl} {pos : Pos} {g g0 g1 g' : G} {H H1 : Hp} {st st1 : Store} {fr : Bool} {σ : L2.St} {sl : Slots}
theorem Px.mono {Q : VK} {v : SV} (l : Le g g') (h : Px K ad g Q v st) : Px K ad g' Q v st := fun g2 H2 w l2 o r => h g2 H2 w (l.trans l2) o r
theorem Pf.mono {Q : VK} {v : SV} (l : Le g g') (h : Pf K ad g Q v st) : Pf K ad g' Q v st := by
  obtain ⟨xs, e, h⟩ := h
  exact ⟨xs, e, fun g2 H2 p vs l2 o => h g2 H2 p vs (l.trans l2) o⟩
theorem Prt.mono {Q : VK} {v : SV} (l : Le g g') (h : Prt K ad fr g Q v st) : Prt K ad fr g' Q v st := by
  cases v with
  | r n => exact Px.mono l h
  | d x =>
    cases fr with
    | true => exact Pf.mono l h
    | false => exact Px.mono l h
theorem Po.mono {D : Ends} {o : Out} (l : Le g g') (h : Po K ad fr g D o st) : Po K ad fr g' D o st := by
  cases o with
  | nx sl => exact fun g2 H2 σ l2 o r => h g2 H2 σ (l.trans l2) o r
  | ct sl => exact fun g2 H2 σ l2 o r => h g2 H2 σ (l.trans l2) o r
  | rt v => exact Prt.mono l h
/-- the rest runs from a later state -/
theorem sv_go {m : Slots → M Out} {D : Ends} (l : Le g g1) (o : OK K ad g1 H1 st1) (rs : RepSl K ad g1 sl σ) (h : Fin (m sl st1) (Po K ad fr g D) (Wx K ad g Ek)) : tSv K ad fr Ek m D σ H1 :=
  ⟨g1, sl, st1, o, rs, h.imp (fun o s h => h.mono l) fun x s w => w.mono l⟩
theorem ss_nil : PSs X [] (tSv X.K ad fr Ek (evSs cl .nil)) := PSsimp pss_nil fun D σ H q => by
  obtain ⟨g, sl, st, ho, rs, f⟩ := q
  unfold evSs at f
  exact f g H σ (Le.refl g) ho rs
theorem ss_cons {s : Stmt} {ss : List Stmt} {is : S} {iss : Ss} (h1 : PS X s (tSv X.K ad fr Ek (evS cl is))) (h2 : PSs X ss (tSv X.K ad fr Ek (evSs cl iss))) : PSs X (s :: ss) (tSv X.K ad fr Ek (evSs cl (.cons is iss))) := by
  refine PSsimp (pss_cons h1 h2) fun D σ H q => ?_
  obtain ⟨g, sl, st, ho, rs, f⟩ := q
  unfold evSs at f
  refine ⟨g, sl, st, ho, rs, f.bnd.imp (fun o st1 h => ?_) fun _ _ w => w⟩
  cases o with
  | nx sl1 => exact fun g1 H1 σ1 l o1 rs1 => sv_go l o1 rs1 h
  | ct sl1 => exact h
  | rt v => exact h
variable {e a b : Expr} {ie ia ib : E} {i : Nat} {x : Str} {p : Pos}
theorem set_read {D : Ends} (h : tSv K ad fr Ek (evS cl (.set i ie)) D σ H) : tAsg (tEv K ad Ek (evE cl ie)) (gName i) D σ H := by
  obtain ⟨g, sl, st, ho, rs, f⟩ := h
  unfold evS at f
  refine ev_bind (Le.refl g) ho rs f fun v st1 g1 H1 w l0 l1 o1 rs1 r1 f1 => ?_
  exact f1 g1 H1 _ l0 o1 (rs1.set i r1)
theorem setF_read {D : Ends} (h : tSv K ad fr Ek (evS cl (.set i ie)) D σ H) (hv : ∀ sl st v st', evE cl ie sl st = some (.ok v st') → ∃ xs, v = .d (.lst xs)) : tAsg (tFr K ad Ek (evE cl ie)) (gName i) D σ H := by
  obtain ⟨g, sl, st, ho, rs, f⟩ := h
  unfold evS at f
  refine ⟨g, sl, st, ho, rs, ?_⟩
  have f := f.bnd
  cases em : evE cl ie sl st with
  | none => rw [em] at f; exact f
  | some r =>
    rw [em] at f
    cases r with
    | ex x s => exact f
    | ok v s =>
      obtain ⟨xs, ev⟩ := hv sl st v s em
      refine ⟨xs, ev, fun g' H' p vs le o' hp fr hl r => ?_⟩
      obtain ⟨o2, l2⟩ := o'.froz hp fr
      subst ev
      exact f _ H' _ (le.trans l2) o2 ((rs.mono (le.trans l2)).set (x := .d (.lst xs)) i (Rep.lstNew hl l2.ex r upd_same))
theorem new_read {D : Ends} (h : tSv K ad fr Ek (evS cl (.new i ie)) D σ H) : tAsg (tFr K ad Ek (evE cl ie)) (gName i) D σ H := by
  obtain ⟨g, sl, st, ho, rs, f⟩ := h
  unfold evS at f
  refine ⟨g, sl, st, ho, rs, f.bnd.imp (fun v s f => ?_) fun _ _ w => w⟩
  cases v with
  | r l => exact f.elim
  | d y =>
    cases y with
    | lst xs =>
      refine ⟨xs, rfl, fun g' H' p vs le o' hp fre hl r => ?_⟩
      obtain ⟨o2, l2⟩ := o'.new hp fre hl r
      have rs2 := rs.mono (le.trans l2)
      refine f _ H' _ (le.trans l2) o2 (rs2.set (x := .r s.length) i ⟨?_, fun a as q => ?_⟩)
      · show s.length < (g'.r ++ [[p]]).length
        rw [List.length_append, o'.len]
        exact Nat.lt_succ_self _
      · have q : (g'.r ++ [[p]])[s.length]? = some (a :: as) := q
        rw [List.getElem?_append_right (by rw [o'.len]; exact Nat.le_refl _), o'.len, Nat.sub_self] at q
        cases q
        rfl
    | _ => exact f.elim
theorem noComp {v : Expr} {t : Option Expr} {l : Nat} {env : PySem.Env} (h : (match v with
    | .ListComp .. => false
    | .SetComp .. => false
    | .DictComp .. => false
    | _ => true) = true) : swapsWith v t l env = pure false := by
  cases v <;> first
    | rfl
    | cases h
variable (hN : X.N.Nodup) (hi : X.N[i]? = some x) (hx : Loc X.env.scope x) (hf : X.fn x = true ∨ X.env.scope.names.lookup x = some .local)
include hN hi hx hf in
theorem st_set (he : PE X e (tEv X.K ad Ek (evE cl ie))) (hs : swapsWith e (some (.Name x p)) pos.line X.env = pure false) : PS X (.Assign [.Name x p] e pos) (tSv X.K ad fr Ek (evS cl (.set i ie))) :=
  PSimp (ps_set hN hi hx he hs hf) fun D σ H q => set_read q
include hN hi hx hf in
theorem st_new (he : PE X e (tFr X.K ad Ek (evE cl ie))) (hs : swapsWith e (some (.Name x p)) pos.line X.env = pure false) : PS X (.Assign [.Name x p] e pos) (tSv X.K ad fr Ek (evS cl (.new i ie))) :=
  PSimp (ps_set hN hi hx he hs hf) fun D σ H q => new_read q
omit hN hi hx hf
theorem st_setF {s : Stmt} (h : PS X s (tAsg (tFr X.K ad Ek (evE cl ie)) (gName i))) (hv : ∀ sl st v st', evE cl ie sl st = some (.ok v st') → ∃ xs, v = .d (.lst xs)) : PS X s (tSv X.K ad fr Ek (evS cl (.set i ie))) := PSimp h fun D σ H q => setF_read q hv
theorem st_newF {s : Stmt} (h : PS X s (tAsg (tFr X.K ad Ek (evE cl ie)) (gName i))) : PS X s (tSv X.K ad fr Ek (evS cl (.new i ie))) := PSimp h fun D σ H q => new_read q
theorem st_par {j : Nat} {y : Str} {px py pt : Pos} {kt k2 pt2} (hc : X.calm = true) (hN : X.N.Nodup) (hi : X.N[i]? = some x) (hj : X.N[j]? = some y) (hij : i ≠ j)
    (hx : X.env.scope.names.lookup x = some .local) (hy : X.env.scope.names.lookup y = some .local) (ha : PE X a (tEv X.K ad Ek (evE cl ia))) (hb : PE X b (tEv X.K ad Ek (evE cl ib)))
    (s1 : starEach [a, b] X.env = (false, eval a X.env) :: starEach [b] X.env) (s2 : starEach [b] X.env = (false, eval b X.env) :: starEach [] X.env)
    (hw : swappedStores [.Tuple [.Name x px, .Name y py] kt pt] (.Tuple [a, b] k2 pt2) X.env = pure (some [x, y])) :
    PS X (.Assign [.Tuple [.Name x px, .Name y py] kt pt] (.Tuple [a, b] k2 pt2) pos) (tSv X.K ad fr Ek (evS cl (.par i j ia ib))) := by
  refine PSimp (ps_par hc hN hi hj hij hx hy (pa_cons ha (pa_cons hb pa_nil s2) s1) hw) fun D σ H q => ?_
  obtain ⟨g, sl, st, ho, rs, f⟩ := q
  unfold evS at f
  refine ev_bind (Le.refl g) ho rs f fun v st1 g1 H1 w l0 l1 o1 rs1 r1 f1 => ?_
  refine ev_bind l0 o1 rs1 f1 fun u st2 g2 H2 w2 l0' l2 o2 rs2 r2 f2 => ?_
  exact ⟨w, w2, rfl, f2 g2 H2 _ l0' o2 ((rs2.set i (r1.mono l2)).set j r2)⟩
theorem st_par3 {j l : Nat} {y z : Str} {c : Expr} {ic : E} {px py pz pt : Pos} {kt k2 pt2} (hc : X.calm = true) (hN : X.N.Nodup) (hi : X.N[i]? = some x) (hj : X.N[j]? = some y) (hl : X.N[l]? = some z) (hij : i ≠ j) (hil : i ≠ l) (hjl : j ≠ l)
    (hx : X.env.scope.names.lookup x = some .local) (hy : X.env.scope.names.lookup y = some .local) (hz : X.env.scope.names.lookup z = some .local) (ha : PE X a (tEv X.K ad Ek (evE cl ia))) (hb : PE X b (tEv X.K ad Ek (evE cl ib))) (hcc : PE X c (tEv X.K ad Ek (evE cl ic)))
    (s1 : starEach [a, b, c] X.env = (false, eval a X.env) :: starEach [b, c] X.env) (s2 : starEach [b, c] X.env = (false, eval b X.env) :: starEach [c] X.env) (s3 : starEach [c] X.env = (false, eval c X.env) :: starEach [] X.env)
    (hw : swappedStores [.Tuple [.Name x px, .Name y py, .Name z pz] kt pt] (.Tuple [a, b, c] k2 pt2) X.env = pure (some [x, y, z])) :
    PS X (.Assign [.Tuple [.Name x px, .Name y py, .Name z pz] kt pt] (.Tuple [a, b, c] k2 pt2) pos) (tSv X.K ad fr Ek (evS cl (.par3 i j l ia ib ic))) := by
  refine PSimp (ps_par3 hc hN hi hj hl hij hil hjl hx hy hz (pa_cons ha (pa_cons hb (pa_cons hcc pa_nil s3) s2) s1) hw) fun D σ H q => ?_
  obtain ⟨g, sl, st, ho, rs, f⟩ := q
  unfold evS at f
  refine ev_bind (Le.refl g) ho rs f fun v st1 g1 H1 w l0 l1 o1 rs1 r1 f1 => ?_
  refine ev_bind l0 o1 rs1 f1 fun u st2 g2 H2 w2 l02 l2 o2 rs2 r2 f2 => ?_
  refine ev_bind l02 o2 rs2 f2 fun u3 st3 g3 H3 w3 l03 l3 o3 rs3 r3 f3 => ?_
  exact ⟨w, w2, w3, rfl, f3 g3 H3 _ l03 o3 (((rs3.set i ((r1.mono l2).mono l3)).set j (r2.mono l3)).set l r3)⟩
theorem st_unp {is : List Nat} {tgt : Expr} (he : PE X e (tEv X.K ad Ek (evE cl ie))) (hg : PG X tgt (gRd X.K (.t is))) (hs : swapsWithSole [tgt] e pos.line X.env = pure false) (hw : swappedStores [tgt] e X.env = pure none)
    (h1 : (assignEach [tgt] X.env).map (·.2) = [assign tgt X.env]) : PS X (.Assign [tgt] e pos) (tSv X.K ad fr Ek (evS cl (.unp is ie))) := by
  refine PSimp (ps_asg he hg hs hw h1) fun D σ H q => ?_
  obtain ⟨g, sl, st, ho, rs, f⟩ := q
  unfold evS at f
  refine ev_bind (Le.refl g) ho rs f fun v st1 g1 H1 w l0 l1 o1 rs1 r1 f1 => ?_
  obtain ⟨y, e1, f2⟩ := Fin.asD f1
  subst e1
  obtain ⟨sl', e2, f3⟩ := Fin.ofO f2
  exact bind_ok o1 e2 r1 rs1 fun σ' r' => f3 g1 H1 σ' l0 o1 r'
theorem cell_at (ho : OK K ad g H st) {l : Nat} {xs : List PV} (h : st[l]? = some (.lst xs)) : ∃ a vs, g.r[l]? = some [a] ∧ H a = some (.lst vs) ∧ vs.length ≤ lim ∧ RepA K ad g.F xs vs := by
  have hl : l < g.r.length := by rw [ho.len]; exact (List.getElem?_eq_some_iff.mp h).1
  have q := ho.cell l _ _ h (List.getElem?_eq_getElem hl)
  rw [List.getElem?_eq_getElem hl]
  generalize g.r[l] = as at q
  cases q with
  | lst a b c => exact ⟨_, _, rfl, a, b, c⟩
theorem Fin.cell {β : Type} {l : Nat} {f : List PV → Option (List PV)} {k : Unit → M β} {P : β → Store → Prop} {W : Exc → Store → Prop} (h : Fin (Fo.bnd (cellSet l f) k st) P W) :
    ∃ xs ys, st[l]? = some (.lst xs) ∧ f xs = some ys ∧ Fin (k () (st.set l (.lst ys))) P W := by
  unfold Fo.bnd cellSet at h
  cases e : st[l]? with
  | none => simp only [e] at h; exact h.elim
  | some c =>
    cases c with
    | lst xs =>
      simp only [e] at h
      cases e2 : f xs with
      | none => simp only [e2] at h; exact h.elim
      | some ys => simp only [e2] at h; exact ⟨xs, ys, rfl, e2, h⟩
    | obj c fs => simp only [e] at h; exact h.elim
    | dead => simp only [e] at h; exact h.elim
def notSlice : Expr → Bool
  | .Slice .. => false
  | _ => true
theorem assign_sub {o i : Expr} {p : Pos} {env : PySem.Env} (h : notSlice i = true) : ∀ v, assign (.Subscript o i p) env v = (do
      let ov ← holding [v] (eval o env)
      let iv ← holding [v, ov] (eval i env)
      standAt p
      holding [v, ov, iv] (setItem ov iv v)
      release [v, ov, iv] []) := by
  intro v
  cases i <;> first
    | rfl
    | cases h
theorem st_seti {p2 : Pos} (hp : notSlice b = true) (he : PE X e (tEv X.K ad Ek (evE cl ie))) (ha : PE X a (tEv X.K ad Ek (evE cl ia))) (hb : PE X b (tEv X.K ad Ek (evE cl ib))) (hs : swapsWith e (some (.Subscript a b p2)) pos.line X.env = pure false) :
    PS X (.Assign [.Subscript a b p2] e pos) (tSv X.K ad fr Ek (evS cl (.seti ia ib ie))) := by
  refine PSimp (ps_asg he (pg_sub ha hb set_list (assign_sub hp)) hs (by rfl) rfl) fun D σ H q => ?_
  obtain ⟨g, sl, st, ho, rs, f⟩ := q
  unfold evS at f
  refine ev_bind (Le.refl g) ho rs f fun v st1 g1 H1 w1 l0 l1 o1 rs1 r1 f1 => ?_
  obtain ⟨y, e1, f1⟩ := Fin.asD f1
  subst e1
  refine ev_bind l0 o1 rs1 f1 fun o st2 g2 H2 w2 l02 l2 o2 rs2 r2 f2 => ?_
  refine ev_bind l02 o2 rs2 f2 fun u st3 g3 H3 w3 l03 l3 o3 rs3 r3 f3 => ?_
  obtain ⟨j, e1, f3⟩ := Fin.asI f3
  subst e1
  cases r3
  cases o with
  | d z => exact f3.elim
  | r l =>
    obtain ⟨xs, ys, c1, c2, f4⟩ := Fin.cell f3
    obtain ⟨c, vs, d1, d2, d3, d4⟩ := cell_at o3 c1
    obtain ⟨n, e2, e3⟩ := Option.map_eq_some_iff.mp c2
    subst e3
    have r2' := (r2.mono l3).2 c [] d1
    refine ⟨c, vs, j, n, r2', rfl, d2, by rw [← d4.len]; exact e2, ?_⟩
    have ry : Rep X.K ad g3.F y w1 := Rep.mono (l2.trans l3).ex _ _ r1
    exact f4 g3 _ σ l03 (o3.set c1 d1 (by rw [List.length_set]; exact d3) (RepA.set n ry d4)) rs3
theorem Fin.cellOf {β : Type} {o : SV} {k : Nat → M β} {P : β → Store → Prop} {W : Exc → Store → Prop} (h : Fin (Fo.bnd (Fo.cellOf o) k st) P W) : ∃ l xs, o = .r l ∧ st[l]? = some (.lst xs) ∧ Fin (k l st) P W := by
  cases o with
  | d v => exact h.elim
  | r l =>
    unfold Fo.bnd Fo.cellOf at h
    cases e : st[l]? with
    | none => simp only [e] at h; exact h.elim
    | some c =>
      cases c with
      | lst xs => simp only [e] at h; exact ⟨l, xs, rfl, e, h⟩
      | obj c fs => simp only [e] at h; exact h.elim
      | dead => simp only [e] at h; exact h.elim
theorem st_app {a' : Pos} {cp : Pos} (ho' : PE X a (tEv X.K ad Ek (evE cl (.slot i)))) (he : PE X e (tEv X.K ad Ek (evE cl ie))) (hbase : attributeBase a "append" X.env (eval a X.env) = eval a X.env)
    (hs : starEach [e] X.env = (false, eval e X.env) :: starEach [] X.env) (hline : (a'.endLine == cp.line) = true) (hsw : swapsWith (.Call (.Attribute a "append" a') [e] [] cp) none pos.line X.env = pure false) :
    PS X (.Expr (.Call (.Attribute a "append" a') [e] [] cp) pos) (tSv X.K ad fr Ek (evS cl (.app i ie))) := by
  refine PSimp (ps_expr (pe_bm PySem.F.plainAttrs_list PySem.F.slot_list_append PySem.F.type_list_append mt_append ho' (pa_cons he pa_nil hs) hbase (by rw [hs]; rfl) hline hs rfl) hsw) fun D σ H q => ?_
  obtain ⟨g, sl, st, ho, rs, f⟩ := q
  unfold evS at f
  refine ev_bind (Le.refl g) ho rs f fun o st1 g1 H1 w1 l0 l1 o1 rs1 r1 f1 => ?_
  obtain ⟨l, xs, e1, c1, f2⟩ := Fin.cellOf f1
  subst e1
  obtain ⟨c, vs, d1, d2, d3, d4⟩ := cell_at o1 c1
  have ew := r1.2 c [] d1
  subst ew
  refine ⟨.inl ⟨rfl, _, .inl (.inl d2)⟩, ?_⟩
  refine ev_bind l0 o1 rs1 f2 fun v st2 g2 H2 w2 l02 l2 o2 rs2 r2 f3 => ?_
  obtain ⟨y, e1, f3⟩ := Fin.asD f3
  subst e1
  obtain ⟨xs2, ys2, c2, c3, f4⟩ := Fin.cell f3
  obtain ⟨c', vs2, k1, k2, k3, k4⟩ := cell_at o2 c2
  have ew := (r1.mono l2).2 c' [] k1
  cases ew
  split at c3
  · rename_i hl
    cases c3
    refine ⟨c, vs2, w2, rfl, rfl, k2, by rw [← k4.len, ← lim_eq]; exact hl, ?_⟩
    exact f4 g2 _ σ l02 (o2.set c2 k1 (by rw [List.length_append, ← k4.len]; exact hl) (k4.app (.cons r2 .nil))) rs2
  · cases c3
end
end Fo
end -- FoStmt

section -- FoFn
set_option Elab.async false
set_option linter.all false
set_option maxRecDepth 100000
set_option maxHeartbeats 1000000
/-! FoFn: branches, loops, returns; calls; a def keeps what the evaluator says. -/
namespace Fo
open PySem L2 Evl PyProof.Rows
section
variable {K : PySem.W.Frag} {ad : Nat → Option Addr} {Ek : XK} {X : Cx} {cl : Cl} {pos : Pos} {g g0 g1 g' : G} {H H1 : Hp} {st st1 : Store} {fr : Bool} {σ : L2.St} {sl : Slots}
variable {e a b : Expr} {ie ia ib : E} {i : Nat} {x : Str} {p : Pos} {ss1 ss2 : List Stmt} {i1 i2 : Ss}
theorem st_if (hc : PT X e (tBv X.K ad Ek cl ie)) (h1 : PSs X ss1 (tSv X.K ad fr Ek (evSs cl i1))) (h2 : PSs X ss2 (tSv X.K ad fr Ek (evSs cl i2))) : PS X (.If e ss1 ss2 pos) (tSv X.K ad fr Ek (evS cl (.ifs ie i1 i2))) := by
  refine PSimp (ps_if hc h1 h2) fun D σ H q => ?_
  obtain ⟨g, sl, st, ho, rs, f⟩ := q
  unfold evS at f
  rw [← bnd_assoc] at f
  refine tv_bind (m := fun sl => bnd (evE cl ie sl) asB) (Le.refl g) ho rs f fun k st1 g1 H1 l0 l1 o1 rs1 f1 => ?_
  cases k with
  | true =>
    rw [if_pos rfl] at f1 ⊢
    exact sv_go l0 o1 rs1 f1
  | false =>
    rw [if_neg Bool.false_ne_true] at f1 ⊢
    exact sv_go l0 o1 rs1 f1
theorem st_ret (he : PE X e (tEv X.K ad Ek (evE cl ie))) : PS X (.Return (some e) pos) (tSv X.K ad false Ek (evS cl (.ret ie))) := by
  refine PSimp (ps_ret he) fun D σ H q => ?_
  obtain ⟨g, sl, st, ho, rs, f⟩ := q
  unfold evS at f
  refine ⟨g, sl, st, ho, rs, f.bnd.imp (fun v s f => ?_) fun _ _ w => w⟩
  cases v with
  | d x => exact f
  | r l => exact f
theorem st_retF (he : PE X e (tFr X.K ad Ek (evE cl ie))) (hv : ∀ sl st v st', evE cl ie sl st = some (.ok v st') → ∃ xs, v = .d (.lst xs)) : PS X (.Return (some e) pos) (tSv X.K ad true Ek (evS cl (.ret ie))) := by
  refine PSimp (ps_ret he) fun D σ H q => ?_
  obtain ⟨g, sl, st, ho, rs, f⟩ := q
  unfold evS at f
  refine ⟨g, sl, st, ho, rs, ?_⟩
  have f := f.bnd
  cases em : evE cl ie sl st with
  | none => rw [em] at f; exact f
  | some r =>
    rw [em] at f
    cases r with
    | ex x s => exact f
    | ok v s =>
      obtain ⟨xs, ev⟩ := hv sl st v s em
      subst ev
      exact f
theorem st_retC (he : PE X e (tEv X.K ad Ek (evE cl (.slot i)))) : PS X (.Return (some e) pos) (tSv X.K ad fr Ek (evS cl (.retC i))) := by
  refine PSimp (ps_ret he) fun D σ H q => ?_
  obtain ⟨g, sl, st, ho, rs, f⟩ := q
  unfold evS at f
  refine ⟨g, sl, st, ho, rs, ?_⟩
  unfold evE
  cases em : sl[i]? with
  | none => rw [em] at f; exact f
  | some o =>
    rw [em] at f
    cases o with
    | none => exact f
    | some v =>
      cases v with
      | d x => exact f.elim
      | r l => exact f
theorem st_ex (he : PE X e (tEv X.K ad Ek (evE cl ie))) (hs : swapsWith e none pos.line X.env = pure false) : PS X (.Expr e pos) (tSv X.K ad fr Ek (evS cl (.ex ie))) := by
  refine PSimp (ps_expr he hs) fun D σ H q => ?_
  obtain ⟨g, sl, st, ho, rs, f⟩ := q
  unfold evS at f
  refine ev_bind (Le.refl g) ho rs f fun o st1 g1 H1 w1 l0 l1 o1 rs1 r1 f1 => ?_
  exact f1 g1 H1 σ l0 o1 rs1
theorem st_pass : PS X (.Pass pos) (tSv X.K ad fr Ek (evS cl .pass)) := PSimp ps_pass fun D σ H q => by
  obtain ⟨g, sl, st, ho, rs, f⟩ := q
  unfold evS at f
  exact f g H σ (Le.refl g) ho rs
theorem st_cont : PS X (.Continue pos) (tSv X.K ad fr Ek (evS cl .cont)) := PSimp ps_continue fun D σ H q => by
  obtain ⟨g, sl, st, ho, rs, f⟩ := q
  unfold evS at f
  exact f g H σ (Le.refl g) ho rs
theorem st_never {s : Stmt} : PS X s (tSv X.K ad fr Ek (evS cl .never)) := PSimp ps_never fun D σ H q => by
  obtain ⟨g, sl, st, ho, rs, f⟩ := q
  unfold evS at f
  exact f.elim
/-! ### loops -/
theorem rd_weak {tg : Tg} {v : V} {σ : L2.St} {H : Hp} {Q Q' : L2.St → Hp → Prop} (h : gRd K tg v σ H Q) (i : ∀ σ' H', Q σ' H' → Q' σ' H') : gRd K tg v σ H Q' := by
  cases tg with
  | n j => exact i _ _ h
  | t is =>
    rcases h with ⟨a, xs, e, s, hl, q⟩ | ⟨a, xs, e, s, hl, q⟩
    · exact .inl ⟨a, xs, e, s, hl, names_out.names_imp q i⟩
    · exact .inr ⟨a, xs, e, s, hl, names_out.names_imp q i⟩
variable {tg iter : Expr} {body : List Stmt} {w : W} {tgt : Tg} {ib' : Ss}
theorem st_for (hp : PassesOwn (model X.prog X.w) X.A X.env X.xe) (hc : X.calm = true) (hi : PI X tg iter (tWk X.K ad Ek (evW cl w))) (hg : PG X tg (gRd X.K tgt)) (hb : PSs X body (tSv X.K ad fr Ek (evSs cl ib'))) (hs : ∀ x, foldedSetIterable iter X.env x = pure x) :
    PS X (.For tg iter body [] pos) (tSv X.K ad fr Ek (evS cl (.for tgt w ib'))) := by
  refine PSimp (ps_for hp hc hi hg hb hs) fun D σ H q => ?_
  obtain ⟨g, sl, st, ho, rs, f⟩ := q
  unfold evS at f
  refine ⟨g, sl, st, ho, rs, f.bnd.imp (fun xs st1 h g1 H1 J l1 o1 wk => ?_) fun _ _ w => w⟩
  let go := forGo tgt (evSs cl ib')
  let Pv : Nat → L2.St → Hp → Prop := fun i σ H => ∃ g' sl' st', Le g1 g' ∧ OK X.K ad g' H st' ∧ RepSl X.K ad g' sl' σ ∧ Fin (go (xs.drop i) sl' st') (Po X.K ad fr g D) (Wx X.K ad g Ek)
  refine for_it wk Pv ⟨g1, sl, st1, Le.refl _, o1, rs.mono l1, h⟩ ?_ ?_ ?_
  · rintro i σ H _ ⟨g', sl', st', l2, o2, _⟩
    exact l2.ex.trans o2.ex
  · rintro i x σ H H' hi ⟨g', sl', st', l2, o2, rs2, h2⟩ ⟨x', ex, it⟩
    have hdr : xs.drop i = x' :: xs.drop (i + 1) := by
      obtain ⟨hb, e⟩ := List.getElem?_eq_some_iff.mp ex
      rw [List.drop_eq_getElem_cons hb, e]
    obtain ⟨g3, l3, o3, rx⟩ := it.get l2.ex o2
    rw [hdr] at h2
    have h2 : Fin ((match bindT tgt x' sl' with
      | none => stk
      | some sl'' => bnd (evSs cl ib' sl'') fun o => match o with
        | .nx s => go (xs.drop (i + 1)) s
        | .ct s => go (xs.drop (i + 1)) s
        | .rt v => ok (.rt v)) st') (Po X.K ad fr g D) (Wx X.K ad g Ek) := h2
    cases hb : bindT tgt x' sl' with
    | none => rw [hb] at h2; exact h2.elim
    | some sl'' =>
      rw [hb] at h2
      refine bind_ok o3 hb rx (rs2.mono l3) fun σ2 r2 => ?_
      have l03 : Le g g3 := (l1.trans l2).trans l3
      refine ⟨g3, sl'', st', o3, r2, h2.bnd.imp (fun o s f => ?_) fun x s w => w.mono l03⟩
      cases o with
      | nx s2 => exact fun g4 H4 σ4 l4 o4 r4 => ⟨g4, s2, s, (l2.trans l3).trans l4, o4, r4, f⟩
      | ct s2 => exact fun g4 H4 σ4 l4 o4 r4 => ⟨g4, s2, s, (l2.trans l3).trans l4, o4, r4, f⟩
      | rt v => exact Prt.mono l03 f
  · rintro σ H ⟨g', sl', st', l2, o2, rs2, h2⟩
    rw [List.drop_length] at h2
    exact h2 g' H σ (l1.trans l2) o2 rs2
theorem st_whl (hp : PassesOwn (model X.prog X.w) X.A X.env X.xe) (hc : PT X e (tBv X.K ad Ek cl ie)) (hb : PSs X body (tSv X.K ad fr Ek (evSs cl ib'))) : PS X (.While e body [] pos) (tSv X.K ad fr Ek (evS cl (.whl ie ib'))) := by
  refine PSimp (ps_while hp hc hb) fun D σ H q => ?_
  obtain ⟨g, sl, st, ho, rs, f⟩ := q
  unfold evS at f
  let go := whlGo (fun s => bnd (evE cl ie s) asB) (evSs cl ib')
  refine ⟨fun m σ H => ∃ g' sl' st', Le g g' ∧ OK X.K ad g' H st' ∧ RepSl X.K ad g' sl' σ ∧ Fin (go m sl' st') (Po X.K ad fr g D) (Wx X.K ad g Ek), ⟨fuel, g, sl, st, Le.refl g, ho, rs, f⟩, ?_⟩
  rintro m σ H ⟨g', sl', st', l2, o2, rs2, h2⟩
  cases m with
  | zero => exact h2.elim
  | succ m =>
    have h2 : Fin (bnd (bnd (evE cl ie sl') asB) (fun k => if k = true then bnd (evSs cl ib' sl') fun o => match o with
      | .nx s => go m s
      | .ct s => go m s
      | .rt v => ok (.rt v)
      else ok (.nx sl')) st') (Po X.K ad fr g D) (Wx X.K ad g Ek) := h2
    refine tv_bind (m := fun sl => bnd (evE cl ie sl) asB) l2 o2 rs2 h2 fun k st3 g3 H3 l03 l3 o3 rs3 f3 => ?_
    cases k with
    | true =>
      rw [if_pos rfl] at f3 ⊢
      refine ⟨fun σ' H' => ∃ g' sl' st', Le g g' ∧ OK X.K ad g' H' st' ∧ RepSl X.K ad g' sl' σ' ∧ Fin (go m sl' st') (Po X.K ad fr g D) (Wx X.K ad g Ek), fun σ' H' h => ⟨m, Nat.lt_succ_self m, h⟩, ?_⟩
      refine ⟨g3, sl', st3, o3, rs3, f3.bnd.imp (fun o s f => ?_) fun x s w => w.mono l03⟩
      cases o with
      | nx s2 => exact fun g4 H4 σ4 l4 o4 r4 => ⟨g4, s2, s, l03.trans l4, o4, r4, f⟩
      | ct s2 => exact fun g4 H4 σ4 l4 o4 r4 => ⟨g4, s2, s, l03.trans l4, o4, r4, f⟩
      | rt v => exact Prt.mono l03 f
    | false =>
      rw [if_neg Bool.false_ne_true] at f3 ⊢
      exact f3 g3 H3 σ l03 o3 rs3
/-! ### calls -/
def spF (K : PySem.W.Frag) (ad : Nat → Option Addr) (fr : Bool) (m : List SV → M SV) : Sp := fun vs H Q E =>
  ∃ g args st, OK K ad g H st ∧ RepSs K ad g args vs ∧ Fin (m args st) (if fr = true then Pf K ad g Q else Px K ad g Q) (Wx K ad g E)
theorem ints_rep (ds : List Int) : RepSs K ad g (ds.map fun i => .d (.int i)) (ds.map V.int) := by
  induction ds with
  | nil => exact .nil
  | cons d ds ih => exact .cons (x := .d (.int d)) (.int d) ih
theorem call_read {f : Nat} {ies : Es} {ds : List Int} {Q : VK} (h : tEv K ad Ek (evE cl (.call f ies ds)) σ H Q) : tCall (spF K ad false (cl f)) (ds.map V.int) Ek (tAv K ad Ek (evs cl ies)) σ H Q := by
  obtain ⟨g, sl, st, ho, rs, f⟩ := h
  unfold evE at f
  refine av_bind (Le.refl g) ho rs f fun vs st1 g1 H1 ws l0 l1 o1 rs1 r1 f1 => ?_
  exact ⟨g1, _, st1, o1, r1.app (ints_rep ds), f1.imp (fun v s h => h.mono l0) fun x s w => w.mono l0⟩
theorem callF_read {f : Nat} {ies : Es} {ds : List Int} {Q : VK} (h : tFr K ad Ek (evE cl (.call f ies ds)) σ H Q) : tCall (spF K ad true (cl f)) (ds.map V.int) Ek (tAv K ad Ek (evs cl ies)) σ H Q := by
  obtain ⟨g, sl, st, ho, rs, f⟩ := h
  unfold evE at f
  refine av_bind (Le.refl g) ho rs f fun vs st1 g1 H1 ws l0 l1 o1 rs1 r1 f1 => ?_
  exact ⟨g1, _, st1, o1, r1.app (ints_rep ds), f1.imp (fun v s h => h.mono l0) fun x s w => w.mono l0⟩
end
/-! ### a def -/
section
variable {K : PySem.W.Frag} {ad : Nat → Option Addr} {cl : Cl} {g : G} {H : Hp} {st : Store}
theorem RepSs.slots {args : List SV} {vs : List V} {n : Nat} (r : RepSs K ad g args vs) : RepSl K ad g (args.map some ++ List.replicate (n - args.length) none) (vs.map some ++ List.replicate (n - vs.length) none) := by
  have hl := r.len
  refine ⟨by simp [hl], fun i v e => ?_⟩
  have key : ∀ {xs : List SV} {ws : List V}, RepSs K ad g xs ws → ∀ (i : Nat) (v : SV), xs[i]? = some v → ∃ w, ws[i]? = some w ∧ RepS K ad g v w := by
    intro xs ws r
    induction r with
    | nil => intro i v e; simp at e
    | cons a b ih =>
      intro i v e
      cases i with
      | zero => simp at e; subst e; exact ⟨_, rfl, a⟩
      | succ i =>
        obtain ⟨w, h1, h2⟩ := ih i v (by simpa using e)
        exact ⟨w, by simpa using h1, h2⟩
  by_cases hi : i < args.length
  · rw [List.getElem?_append_left (by simpa using hi), List.getElem?_map] at e
    cases e1 : args[i]? with
    | none => rw [e1] at e; cases e
    | some u' =>
      rw [e1] at e
      cases e
      obtain ⟨w, h1, h2⟩ := key r i _ e1
      refine ⟨w, ?_, h2⟩
      rw [List.getElem?_append_left (by rw [List.length_map, ← hl]; exact hi), List.getElem?_map, h1]
      rfl
  · rw [List.getElem?_append_right (by simpa using hi), List.getElem?_replicate] at e
    split at e <;> cases e
/-- what is wanted behind the body, from what is wanted of the call -/
theorem fin_back {fr : Bool} {v : SV} {Q : VK} {W : Exc → Store → Prop} {st' : Store} {n : Nat} (hn : n = g.r.length) (h : Fin (fin n v st') (if fr = true then Pf K ad g Q else Px K ad g Q) W) : Prt K ad fr g Q v st' := by
  subst hn
  have tk : ∀ {g' : G} {a : Addr}, Free g' a → Free ⟨g'.F, g'.r.take g.r.length, g'.p⟩ a := fun {g' a} fr => ⟨fr.1, fun z => fr.2.1 (by
    have e : g'.r.flatten = (g'.r.take g.r.length).flatten ++ (g'.r.drop g.r.length).flatten := by rw [← List.flatten_append, List.take_append_drop]
    rw [e]
    exact List.mem_append_left _ z), fr.2.2⟩
  cases v with
  | d x =>
    cases fr with
    | true =>
      have h : Pf K ad g Q (.d x) (st'.take g.r.length) := h
      obtain ⟨xs, e, h⟩ := h
      exact ⟨xs, e, fun g' H' p vs l o hp fe hl r => h ⟨g'.F, g'.r.take g.r.length, g'.p⟩ H' p vs l.take (o.take _) hp (tk fe) hl r⟩
    | false =>
      have h : Px K ad g Q (.d x) (st'.take g.r.length) := h
      exact fun g' H' w l o r => h ⟨g'.F, g'.r.take g.r.length, g'.p⟩ H' w l.take (o.take _) r
  | r l =>
    unfold fin at h
    by_cases hl : l < g.r.length
    · simp only [if_pos hl] at h
      exact h.elim
    · simp only [if_neg hl] at h
      intro g' H' w le o rw'
      cases e : st'[l]? with
      | none => simp only [e] at h; exact h.elim
      | some c =>
        cases c with
        | lst xs =>
          simp only [e] at h
          obtain ⟨a, vs, d1, d2, d3, d4⟩ := cell_at o e
          have ew := rw'.2 a [] d1
          subst ew
          have fa : Free ⟨g'.F, g'.r.take g.r.length, g'.p⟩ a := by
            have inn : a ∈ g'.r.flatten := List.mem_flatten.mpr ⟨_, List.mem_of_getElem? d1, by simp⟩
            refine ⟨o.dj a inn, fun z => ?_, fun q hq z => (o.pr q hq).2.2 (by rw [z]; exact inn)⟩
            obtain ⟨j, as, j1, j2⟩ := mem_flat z
            have j1 : (g'.r.take g.r.length)[j]? = some as := j1
            rw [List.getElem?_take] at j1
            split at j1
            · rename_i hj
              have := nodup_flat_at o.nd d1 j1 (by simp) j2
              omega
            · cases j1
          cases fr with
          | true =>
            have h : Pf K ad g Q (.d (.lst xs)) (st'.take g.r.length) := h
            obtain ⟨xs', e1, h⟩ := h
            cases e1
            exact h _ H' a vs le.take (o.take _) d2 fa d3 d4
          | false =>
            have h : Px K ad g Q (.d (.lst xs)) (st'.take g.r.length) := h
            obtain ⟨o2, l2⟩ := (o.take g.r.length).froz d2 fa
            exact h _ H' _ (le.take.trans l2) o2 (Rep.lstNew d3 l2.ex d4 upd_same)
        | obj c fs => simp only [e] at h; exact h.elim
        | dead => simp only [e] at h; exact h.elim
theorem run_back {fr : Bool} {fn : Fn} {args : List SV} {vs : List V} {Q : VK} {E : XK} (o : OK K ad g H st) (ra : RepSs K ad g args vs) (h : Fin (run cl fn args st) (if fr = true then Pf K ad g Q else Px K ad g Q) (Wx K ad g E)) :
    args.length = fn.np ∧ tSv K ad fr E (evSs cl fn.body) { nx := fun _ H' => Q .non H', rt := Q } (vs.map some ++ List.replicate (fn.N.length - vs.length) none) H := by
  unfold run at h
  by_cases hl : args.length = fn.np
  case neg => rw [if_neg hl] at h; exact h.elim
  rw [if_pos hl] at h
  refine ⟨hl, g, _, st, o, ra.slots (n := fn.N.length), ?_⟩
  have wx : ∀ x s, Wx K ad g E x (s.take st.length) → Wx K ad g E x s := fun x s h g' H' cls d l o' r => h ⟨g'.F, g'.r.take g.r.length, g'.p⟩ H' cls d l.take (by rw [← o.len]; exact o'.take _) r
  generalize evSs cl fn.body (args.map some ++ List.replicate (fn.N.length - args.length) none) st = res at h ⊢
  cases res with
  | none => exact h
  | some r =>
    cases r with
    | ex x s => exact wx x s h
    | ok out s =>
      cases out with
      | rt v => exact fin_back o.len.symm h
      | ct s2 => exact h.elim
      | nx s2 =>
        have p := fin_back (v := .d .non) o.len.symm h
        intro g' H' σ' l o' rs'
        cases fr with
        | true =>
          obtain ⟨xs, e, _⟩ : Pf K ad g Q (.d .non) s := p
          cases e
        | false => exact p g' H' .non l o' .non
theorem run_len {fr : Bool} {fn : Fn} : ∀ vs H Q E, spF K ad fr (run cl fn) vs H Q E → vs.length = fn.np := fun vs H Q E h => by
  obtain ⟨g, args, st, o, ra, h⟩ := h
  rw [← ra.len]
  exact (run_back o ra h).1
/-- THE RULE: a def keeps what the evaluator says of it -/
theorem fnG_of {P : Program} {w : World} {mg : Str → Option Value} {base : Heap} {n : Nat} {f : Addr} {name qual : Str} {params : Arguments} {body : List Stmt} {scope : Scope} {dvs : List V} {kws : List (Str × V)} {fd : FuncData} {ps : List Str} {N : List Str} {fn : Fn} {fr : Bool}
    (F : FunD K name qual params body scope dvs kws f fd) (S : FnScope N ps scope) (hps : ps.length = fn.np) (hN : N.length = fn.N.length)
    (hb : ∀ (cdv : Value) (A : Around) (outer : List Env) (s : Shared) (H : Hp) (E : XK), A.guards = some [] → Room n (A.deeper (envOfC qual scope s.heap.objs.size f cdv)) →
      PSs (cxOf (L2.CX P w) P w K mg base N qual scope f cdv A outer s H E) body (tSv K ad fr E (evSs cl fn.body))) :
    FnG P w K mg base (L2.CX P w) (n + 1) f fd ps (spF K ad fr (run cl fn)) := by
  refine ⟨fun vs H Q E h => (run_len vs H Q E h).trans hps.symm, fun A outer s H args us vs Q E hgd hr e0 hbd rv hsp => ?_⟩
  obtain ⟨oc, od, dV, kV, doc, pm, an, cdv, ct, osl, rfl, lk, hcd, _, _⟩ := F.ex
  have hl : vs.length = ps.length := (run_len vs H Q E hsp).trans hps.symm
  have keep := fun b o e => (e0.bs b o e).1
  have KX : K.In s.heap := e0.mod.kin.keeps keep
  have lim : s.heap.NoLimit := e0.mod.nolimit.keeps keep
  have kinds : ∀ y ∈ ps.zip us, scope.names.lookup y.1 = some .local ∨ (scope.names.lookup y.1 = some .cell ∧ ((cellsFrom (s.heap.objs.size + 1) scope.names []).lookup y.1).isSome = true) := by
    rintro ⟨m, v⟩ hy
    rcases S.par m (List.of_mem_zip hy).1 with q | q
    · exact .inl q
    · exact .inr ⟨q, PySem.W.cellsFrom_some _ _ _ (.inl q)⟩
  refine codeAny_call_function hr.depth (KX _ _ lk) rfl S.co S.gen rfl (PySem.W.codeRec_of KX hcd) (hbd _ _ _ _ (wpAny_newFunctionEnv_cells S.kind kinds ?_))
  intro env henv s1 x
  subst henv
  refine ⟨lim.keeps x.toInCall.keep, codeAny_func ?_⟩
  obtain ⟨g, args', st, o, ra, h⟩ := hsp
  have hq := (run_back o ra h).2
  have hst : vs.map some ++ List.replicate (fn.N.length - vs.length) none = L2.start N vs := by unfold L2.start; rw [hN]
  rw [hst] at hq
  have I : Inv (cxOf (L2.CX P w) P w K mg base N qual scope f cdv A outer s H E) [] (L2.start N vs) H s1 := inv_start S hr.hd e0 hl rv x
  refine wpAny_mono ((hb cdv A outer s H E hgd (hr.deeper _)).run [] s1 (L2.start N vs) H _ I hq) (fun fl s' hs => ?_) fun e s' hs => hs
  have back : ∀ {σ' : L2.St} {H' : Hp} {v : V} {u : Value}, Inv (cxOf (L2.CX P w) P w K mg base N qual scope f cdv A outer s H E) [] σ' H' s' → RelV v u → Q v H' → CE outer P w H s Q u s' := fun J r q => ⟨_, _, J.os, J.bare, J.base, J.hok, r, q⟩
  match fl, hs with
  | .ret u, hs =>
    obtain ⟨v, σ', H', J, r, q⟩ := hs
    exact back J r q
  | .next, hs =>
    obtain ⟨σ', H', J, q⟩ := hs
    exact back (v := V.non) (u := Value.none) J rfl q
  | .brk, hs =>
    obtain ⟨_, _, _, q⟩ := hs
    exact q.elim
  | .cont, hs =>
    obtain ⟨_, _, _, q⟩ := hs
    exact q.elim
end
end Fo
end -- FoFn

section -- FoChk
set_option Elab.async false
set_option linter.all false
set_option maxRecDepth 100000
set_option maxHeartbeats 1000000
/-! FoChk: a term of ours against a row's expression, by a Bool; what it asks of the context; it keeps. -/
namespace Fo
open PySem L2 Evl PyProof.Rows
/-- a def, as its callers see it -/
structure Fi where
  x : Str
  np : Nat
  dfl : List Int
  fr : Bool
structure Ck where
  N : List Str
  sc : Scope
  fnB : Str → Bool
  tb : Nat → Option Fi
  cn : List (String × GC)
def nmOk (x : Str) : Bool := !(x == ("__debug__" : Str)) && !(x == ("__classdict__" : Str))
def visB (sc : Scope) (x : Str) : Bool := match sc.names.lookup x with
  | some .local => true
  | some .cell => true
  | some .free => true
  | _ => false
def glB (sc : Scope) (x : Str) : Bool := match sc.names.lookup x with
  | some .globalImplicit => true
  | _ => false
def isLoc (sc : Scope) (x : Str) : Bool := match sc.names.lookup x with
  | some .local => true
  | _ => false
def isCel (sc : Scope) (x : Str) : Bool := match sc.names.lookup x with
  | some .cell => true
  | _ => false
def slotB (ck : Ck) (i : Nat) (x : Str) : Bool := decide (ck.N[i]? = some x) && (visB ck.sc x && nmOk x)
def tgtB (ck : Ck) (i : Nat) (x : Str) : Bool := decide (ck.N[i]? = some x) && (isLoc ck.sc x || (isCel ck.sc x && ck.fnB x))
def notStar : Expr → Bool
  | .Starred .. => false
  | _ => true
def Ck.blk (ck : Ck) (scope : Scope) : Ck := { ck with sc := relS scope ck.sc, fnB := fun x => scope.names.lookup x == some .cell }
def chkNs (ck : Ck) : List Nat → List Expr → Bool
  | [], [] => true
  | i :: is, .Name x _ :: es => tgtB ck i x && chkNs ck is es
  | _, _ => false
def chkTg (ck : Ck) : Tg → Expr → Bool
  | .n i, a => (match a with
    | .Name x _ => tgtB ck i x
    | _ => false)
  | .t is, a => (match a with
    | .Tuple es _ _ => chkNs ck is es
    | _ => false)
def isBl : E → Bool
  | .and _ _ => true
  | .or _ _ => true
  | .one _ => true
  | _ => false
def tstOk : E → Bool
  | .not a => tstOk a
  | .and a b => tstOk a && (isBl b && tstOk b)
  | .or a b => tstOk a && (isBl b && tstOk b)
  | .one a => tstOk a
  | .ifx _ _ _ => false
  | .neg _ => false
  | _ => true
def isFr : E → Bool
  | .lst _ => true
  | .lc _ _ _ _ => true
  | .call _ _ _ => true
  | _ => false
def notSet : Expr → Bool
  | .Set .. => false
  | _ => true
mutual
def chkE (ck : Ck) : E → Expr → Bool
  | .slot i, a => (match a with
    | .Name x _ => slotB ck i x
    | _ => false)
  | .non, a => (match a with
    | .Constant .none _ _ => true
    | _ => false)
  | .bl b, a => (match a with
    | .Constant (.bool c) _ _ => decide (b = c)
    | _ => false)
  | .int i, a => (match a with
    | .Constant (.int c) _ _ => decide (i = c)
    | _ => false)
  | .str s, a => (match a with
    | .Constant (.str c) _ _ => decide (Str.ofString s = c)
    | _ => false)
  | .glob s c, a => (match a with
    | .Name x _ => decide (Str.ofString s = x) && (glB ck.sc x && (nmOk x && decide ((s, c) ∈ ck.cn)))
    | _ => false)
  | .fnv f, a => (match a with
    | .Name x _ => (match ck.tb f with
      | some i => decide (i.x = x) && (glB ck.sc x && nmOk x)
      | none => false)
    | _ => false)
  | .tup es, a => (match a with
    | .Tuple xs _ _ => chkEs ck es xs && decide (es.len ≤ 1000)
    | _ => false)
  | .lst es, a => (match a with
    | .List xs _ => chkEs ck es xs && decide (es.len ≤ 1000)
    | _ => false)
  | .bin o x y, a => (match a with
    | .BinOp l op r _ => decide (opA o = op) && (chkE ck x l && chkE ck y r)
    | _ => false)
  | .neg x, a => (match a with
    | .UnaryOp .USub l _ => chkE ck x l
    | _ => false)
  | .not x, a => (match a with
    | .UnaryOp .Not l _ => chkE ck x l
    | _ => false)
  | .cmp o x y, a => (match a with
    | .Compare l [op] [r] _ => decide (cmA o = op) && (chkE ck x l && (chkE ck y r && notSet r))
    | _ => false)
  | .chain o o' x y z, a => (match a with
    | .Compare l [op, op'] [r, t] _ => decide (cmA o = op) && (decide (cmA o' = op') && (chkE ck x l && (chkE ck y r && (chkE ck z t && notSet t))))
    | _ => false)
  | .and x y, a => (match a with
    | .BoolOp .And (l :: r :: rest) p => chkE ck x l && chkE ck y (.BoolOp .And (r :: rest) p)
    | _ => false)
  | .or x y, a => (match a with
    | .BoolOp .Or (l :: r :: rest) p => chkE ck x l && chkE ck y (.BoolOp .Or (r :: rest) p)
    | _ => false)
  | .one x, a => (match a with
    | .BoolOp _ [l] _ => chkE ck x l
    | _ => false)
  | .ifx t x y, a => (match a with
    | .IfExp c l r _ => chkE ck t c && (tstOk t && (chkE ck x l && chkE ck y r))
    | _ => false)
  | .ix x y, a => (match a with
    | .Subscript l r _ => chkE ck x l && (chkE ck y r && notSlice r)
    | _ => false)
  | .cut x lo hi, a => (match a with
    | .Subscript l (.Slice lo' hi' none _) _ => chkE ck x l && (chkO ck lo lo' && chkO ck hi hi')
    | _ => false)
  | .rev x, a => (match a with
    | .Subscript l (.Slice none none (some (.UnaryOp .USub (.Constant (.int i) _ _) _)) _) _ => decide (i = 1) && chkE ck x l
    | _ => false)
  | .call f es ds, a => (match a with
    | .Call (.Name x _) xs [] _ => (match ck.tb f with
      | some i => decide (i.x = x) && (glB ck.sc x && (nmOk x && (decide (es.len + ds.length = i.np) && (decide (ds = i.dfl.drop (i.dfl.length - ds.length)) && chkEs ck es xs))))
      | none => false)
    | _ => false)
  | .bi b es, a => (match a with
    | .Call (.Name x _) (y :: ys) [] _ => decide (Str.ofString (biN b) = x) && (glB ck.sc x && chkEs ck es (y :: ys))
    | _ => false)
  | .isi x t, a => (match a with
    | .Call (.Name n _) [l, .Name m _] [] _ => decide (n = ("isinstance" : Str)) && (glB ck.sc n && (decide (Str.ofString (tyN t) = m) && (glB ck.sc m && (chkE ck x l && notStar l))))
    | _ => false)
  | .lc w tg c e, a => (match a with
    | .ListComp elt [⟨t, it, ifs, as⟩] scope _ => decide (as = 0) && (chkW ck w it && (notSet it && (blkC ck.N ck.sc scope (ownOf ck.N tg) && (chkTg (ck.blk scope) tg t && (chkC (ck.blk scope) c ifs && chkE (ck.blk scope) e elt)))))
    | _ => false)
  | .star _ _, _ => false
  | .callv _ _, _ => false
  | .frz _, _ => false
def chkEs (ck : Ck) : Es → List Expr → Bool
  | .nil, a => (match a with
    | [] => true
    | _ => false)
  | .cons e es, a => (match a with
    | x :: xs => notStar x && (chkE ck e x && chkEs ck es xs)
    | _ => false)
def chkO (ck : Ck) : Oe → Option Expr → Bool
  | .no, a => (match a with
    | none => true
    | _ => false)
  | .ye e, a => (match a with
    | some x => chkE ck e x
    | _ => false)
def chkC (ck : Ck) : Oe → List Expr → Bool
  | .no, a => (match a with
    | [] => true
    | _ => false)
  | .ye e, a => (match a with
    | [x] => chkE ck e x && tstOk e
    | _ => false)
def chkW (ck : Ck) : W → Expr → Bool
  | .rng1 e, a => (match a with
    | .Call (.Name n _) [x] [] _ => decide (n = ("range" : Str)) && (glB ck.sc n && (notStar x && chkE ck e x))
    | _ => false)
  | .rng2 e e', a => (match a with
    | .Call (.Name n _) [x, y] [] _ => decide (n = ("range" : Str)) && (glB ck.sc n && (notStar x && (notStar y && (chkE ck e x && chkE ck e' y))))
    | _ => false)
  | .over e, a => chkE ck e a
  | .zip _ _, _ => false
  | .enum _, _ => false
end
/-! ### what is asked of the context -/
structure Fit (X : Cx) (ad : Nat → Option Addr) (cl : Cl) (Ek : XK) (n : Nat) (ck : Ck) : Prop where
  calm : X.calm = true
  nd : X.N.Nodup
  N : X.N = ck.N
  sc : X.env.scope = ck.sc
  fn : ∀ x, ck.fnB x = true → X.fn x = true
  gd : X.A.guards = some []
  room : Room n X.A
  cn : ∀ p ∈ ck.cn, ∃ u w, X.mg (Str.ofString p.1) = some u ∧ RelV w u ∧ ∀ F, Rep X.K ad F p.2.val w
  bi : ∀ b, X.mg (Str.ofString (biN b)) = none
  ty : ∀ t, X.mg (Str.ofString (tyN t)) = none
  isi : X.mg ("isinstance" : Str) = none
  rng : X.mg ("range" : Str) = none
  call : ∀ f i, ck.tb f = some i → ∃ a, ad f = some a ∧ X.mg i.x = some (.ref a) ∧ PySem.W.keepIn X.K (.ref a) = true ∧ ∃ (fd : FuncData) (ps : List Str), ps.length = i.np ∧
    (∀ j, j ≤ i.dfl.length → ∃ ds, Vals ((i.dfl.drop j).map V.int) ds ∧ Binds X.K fd ps ds) ∧
    ∀ fr, (fr = true → i.fr = true) → FnG X.prog X.w X.K X.mg X.base (L2.CX X.prog X.w) n a fd ps (spF X.K ad fr (cl f))
  pass : Passes (L2.CX X.prog X.w) X Ek
section
variable {X : Cx} {ad : Nat → Option Addr} {cl : Cl} {Ek : XK} {n : Nat} {ck : Ck}
theorem Fit.blk (h : Fit X ad cl Ek n ck) {s : Shared} {H : Hp} {scope : Scope} {C : Addr} {cls : List (Str × Addr)} {fp : List Addr} : Fit (X.blk s H scope (compEnvC scope cls C X.env) fp) ad cl E0 n (ck.blk scope) where
  calm := h.calm
  nd := h.nd
  N := h.N
  sc := by
    have e := h.sc
    show relabel scope X.env = relS scope ck.sc
    rw [← e]
    rfl
  fn := fun x q => q
  gd := h.gd
  room := h.room
  cn := h.cn
  bi := h.bi
  ty := h.ty
  isi := h.isi
  rng := h.rng
  call := h.call
  pass := passL
theorem Fit.un (h : Fit X ad cl Ek n ck) : X.A.units + 200 < cLine := by have := h.room.un; omega
theorem Fit.un64 (h : Fit X ad cl Ek n ck) : X.A.units + 64 < cLine := by have := h.room.un; omega
theorem vis_of {sc : Scope} {x : Str} (h : visB sc x = true) : Vis sc x := by
  unfold visB at h
  split at h
  · exact .inl (by assumption)
  · exact .inr (.inl (by assumption))
  · exact .inr (.inr (by assumption))
  · cases h
theorem loc_of {sc : Scope} {x : Str} (h : isLoc sc x = true) : sc.names.lookup x = some .local := by
  unfold isLoc at h
  split at h
  · assumption
  · cases h
theorem cel_of {sc : Scope} {x : Str} (h : isCel sc x = true) : sc.names.lookup x = some .cell := by
  unfold isCel at h
  split at h
  · assumption
  · cases h
theorem Fit.gl (h : Fit X ad cl Ek n ck) {x : Str} (q : glB ck.sc x = true) : Gl X x := by
  unfold glB at q
  show X.env.scope.names.lookup x = _
  rw [h.sc]
  split at q
  · assumption
  · cases q
theorem nm_of {x : Str} (h : nmOk x = true) : (x == ("__debug__" : Str)) = false ∧ (x == ("__classdict__" : Str)) = false := by
  unfold nmOk at h
  rw [Bool.and_eq_true, Bool.not_eq_true', Bool.not_eq_true'] at h
  exact h
theorem Fit.slot (h : Fit X ad cl Ek n ck) {i : Nat} {x : Str} {pos : Pos} (q : slotB ck i x = true) : PE X (.Name x pos) (tEv X.K ad Ek (evE cl (.slot i))) := by
  unfold slotB at q
  rw [Bool.and_eq_true, Bool.and_eq_true] at q
  obtain ⟨n1, n2⟩ := nm_of q.2.2
  exact s_slot (by rw [h.N]; exact of_decide_eq_true q.1) (by rw [h.sc]; exact vis_of q.2.1) n1 n2
theorem Fit.tgt (h : Fit X ad cl Ek n ck) {i : Nat} {x : Str} (q : tgtB ck i x = true) : X.N[i]? = some x ∧ Loc X.env.scope x ∧ (X.fn x = true ∨ X.env.scope.names.lookup x = some .local) := by
  unfold tgtB at q
  rw [Bool.and_eq_true, Bool.or_eq_true, Bool.and_eq_true] at q
  refine ⟨by rw [h.N]; exact of_decide_eq_true q.1, ?_⟩
  rw [h.sc]
  rcases q.2 with z | z
  · exact ⟨.inl (loc_of z), .inr (loc_of z)⟩
  · exact ⟨.inr (cel_of z.1), .inl (h.fn x z.2)⟩
theorem Fit.nms (h : Fit X ad cl Ek n ck) : ∀ {is : List Nat} {es : List Expr}, chkNs ck is es = true → Nms X is es
  | [], [], _ => .nil
  | i :: is, .Name x _ :: es, q => by
    unfold chkNs at q
    rw [Bool.and_eq_true] at q
    obtain ⟨a, b, c⟩ := h.tgt q.1
    exact .cons a b c (h.nms q.2)
  | [], _ :: _, q => by simp [chkNs] at q
  | _ :: _, [], q => by simp [chkNs] at q
  | i :: is, e :: es, q => by
    cases e with
    | Name x p =>
      unfold chkNs at q
      rw [Bool.and_eq_true] at q
      obtain ⟨a, b, c⟩ := h.tgt q.1
      exact .cons a b c (h.nms q.2)
    | _ => simp [chkNs] at q
theorem Fit.pg (h : Fit X ad cl Ek n ck) {tg : Tg} {e : Expr} (q : chkTg ck tg e = true) : PG X e (gRd X.K tg) := by
  cases tg with
  | n i =>
    simp only [chkTg] at q
    split at q
    · obtain ⟨a, b, c⟩ := h.tgt q
      exact pg_name h.nd a b c
    · cases q
  | t is =>
    simp only [chkTg] at q
    split at q
    · exact (h.nms q).pg h.calm h.nd
    · cases q
theorem star_cons {e : Expr} {es : List Expr} {env : PySem.Env} (h : notStar e = true) : starEach (e :: es) env = (false, eval e env) :: starEach es env := by
  cases e <;> first
    | rfl
    | cases h
theorem chkEs_star : ∀ {ies : Es} {es : List Expr}, chkEs ck ies es = true → ∀ e ∈ es, notStar e = true
  | .nil, es, q => by
    unfold chkEs at q
    split at q
    · intro e he; cases he
    · cases q
  | .cons i is, es, q => by
    unfold chkEs at q
    split at q
    · rename_i x xs
      rw [Bool.and_eq_true, Bool.and_eq_true] at q
      intro e he
      rcases List.mem_cons.mp he with z | z
      · rw [z]; exact q.1
      · exact chkEs_star q.2.2 e z
    · cases q
theorem star_any {pos : Pos} {env : PySem.Env} : ∀ {es : List Expr}, (∀ e ∈ es, notStar e = true) → (backTo pos (starEach es env)).any (·.1) = false
  | [], _ => rfl
  | e :: es, h => by
    rw [star_cons (h e List.mem_cons_self)]
    show (false || (backTo pos (starEach es env)).any (·.1)) = false
    rw [Bool.false_or]
    exact star_any fun e he => h e (List.mem_cons_of_mem _ he)
theorem chkEs_len : ∀ {ies : Es} {es : List Expr}, chkEs ck ies es = true → es.length = ies.len
  | .nil, es, q => by
    unfold chkEs at q
    split at q
    · rfl
    · cases q
  | .cons i is, es, q => by
    unfold chkEs at q
    split at q
    · rename_i x xs
      rw [Bool.and_eq_true, Bool.and_eq_true] at q
      exact congrArg (· + 1) (chkEs_len q.2.2)
    · cases q
theorem folded_of {e : Expr} {env : PySem.Env} (h : notSet e = true) : ∀ x, foldedSetIterable e env x = pure x := by
  intro x
  cases e <;> first
    | rfl
    | cases h
theorem behind_of {op : CmpOp} {e : Expr} (h : notSet e = true) : behindInMarks op e = false := by
  cases e <;> first
    | rfl
    | cases h
theorem plainIx_of {e : Expr} (h : notSlice e = true) : PlainIx e := by
  intro o i
  cases e <;> first
    | rfl
    | cases h
theorem bnd_inv {α β : Type} {m : M α} {k : α → M β} {st st' : Store} {v : β} (h : bnd m k st = some (.ok v st')) : ∃ a s, m st = some (.ok a s) ∧ k a s = some (.ok v st') := by
  cases e : m st with
  | none => unfold bnd at h; rw [e] at h; cases h
  | some r =>
    cases r with
    | ex x s => rw [bnd_ex e] at h; cases h
    | ok a s => rw [bnd_ok e] at h; exact ⟨a, s, rfl, h⟩
theorem lst_inv {es : Es} {sl : Slots} {st st' : Store} {v : SV} (h : evE cl (.lst es) sl st = some (.ok v st')) : ∃ xs, v = .d (.lst xs) := by
  unfold evE at h
  obtain ⟨a, s, _, h⟩ := bnd_inv h
  obtain ⟨b, s, _, h⟩ := bnd_inv h
  cases h
  exact ⟨_, rfl⟩
theorem lc_inv {w : W} {tg : Tg} {c : Oe} {e : E} {sl : Slots} {st st' : Store} {v : SV} (h : evE cl (.lc w tg c e) sl st = some (.ok v st')) : ∃ xs, v = .d (.lst xs) := by
  unfold evE at h
  obtain ⟨a, s, _, h⟩ := bnd_inv h
  split at h
  · obtain ⟨b, s, _, h⟩ := bnd_inv h
    cases h
    exact ⟨_, rfl⟩
  · cases h
end
end Fo
end -- FoChk

section -- FoSnd
set_option Elab.async false
set_option linter.all false
set_option maxRecDepth 100000
set_option maxHeartbeats 2000000
/-! FoSnd: a checked term keeps. -/
namespace Fo
open PySem L2 Evl PyProof.Rows
def frE (ck : Ck) : E → Bool
  | .lst _ => true
  | .lc _ _ _ _ => true
  | .call f _ _ => (match ck.tb f with
    | some i => i.fr
    | none => false)
  | _ => false
structure SndE (X : Cx) (ad : Nat → Option Addr) (cl : Cl) (Ek : XK) (ck : Ck) (ie : E) (e : Expr) : Prop where
  pe : PE X e (tEv X.K ad Ek (evE cl ie))
  pt : tstOk ie = true → PT X e (tBv X.K ad Ek cl ie)
  pw : isBl ie = true → tstOk ie = true → PW X e (tBv X.K ad Ek cl ie)
  fr : frE ck ie = true → PE X e (tFr X.K ad Ek (evE cl ie))
section
variable {ad : Nat → Option Addr} {cl : Cl} {n : Nat}
theorem SndE.val {X : Cx} {Ek : XK} {ck : Ck} {ie : E} {e : Expr} (h : PE X e (tEv X.K ad Ek (evE cl ie))) (he : ∀ whole, isTrue e X.env whole = (do let v ← whole; standAt e.pos; holding [v] (truthy v))) (hb : isBl ie = false) (hf : frE ck ie = false) : SndE X ad cl Ek ck ie e :=
  ⟨h, fun _ => t_val h he, fun z => (by rw [hb] at z; cases z), fun z => (by rw [hf] at z; cases z)⟩
theorem SndE.noT {X : Cx} {Ek : XK} {ck : Ck} {ie : E} {e : Expr} (h : PE X e (tEv X.K ad Ek (evE cl ie))) (hp : tstOk ie = true → PT X e (tBv X.K ad Ek cl ie)) (hb : isBl ie = false) (hf : frE ck ie = false) : SndE X ad cl Ek ck ie e :=
  ⟨h, hp, fun z => (by rw [hb] at z; cases z), fun z => (by rw [hf] at z; cases z)⟩
theorem SndE.bl {X : Cx} {Ek : XK} {ck : Ck} {ie : E} {e : Expr} (h : PE X e (tEv X.K ad Ek (evE cl ie))) (hp : tstOk ie = true → PW X e (tBv X.K ad Ek cl ie)) (hf : frE ck ie = false) : SndE X ad cl Ek ck ie e :=
  ⟨h, fun z => (hp z).pt, fun _ z => hp z, fun z => (by rw [hf] at z; cases z)⟩
theorem two {a b : Bool} (h : (a && b) = true) : a = true ∧ b = true := Bool.and_eq_true_iff.mp h
mutual
theorem chkE_ok : ∀ (ie : E) (X : Cx) (Ek : XK) (ck : Ck), Fit X ad cl Ek n ck → ∀ e : Expr, chkE ck ie e = true → SndE X ad cl Ek ck ie e
  | .slot i, X, Ek, ck, F, e, h => by
    simp only [chkE] at h
    split at h
    · exact .val (F.slot h) (fun _ => rfl) rfl rfl
    · cases h
  | .non, X, Ek, ck, F, e, h => by
    simp only [chkE] at h
    split at h
    · exact .val s_non (fun _ => rfl) rfl rfl
    · cases h
  | .bl b, X, Ek, ck, F, e, h => by
    simp only [chkE] at h
    split at h
    · have h := of_decide_eq_true h
      subst h
      exact .val s_bl (fun _ => rfl) rfl rfl
    · cases h
  | .int i, X, Ek, ck, F, e, h => by
    simp only [chkE] at h
    split at h
    · have h := of_decide_eq_true h
      subst h
      exact .val s_int (fun _ => rfl) rfl rfl
    · cases h
  | .str x, X, Ek, ck, F, e, h => by
    simp only [chkE] at h
    split at h
    · have h := of_decide_eq_true h
      subst h
      exact .val s_str (fun _ => rfl) rfl rfl
    · cases h
  | .glob x c, X, Ek, ck, F, e, h => by
    simp only [chkE] at h
    split at h
    · obtain ⟨h1, h⟩ := two h
      obtain ⟨h2, h⟩ := two h
      obtain ⟨h3, h4⟩ := two h
      have eh1 := of_decide_eq_true h1
      subst eh1
      obtain ⟨u, w, g1, g2, g3⟩ := F.cn _ (of_decide_eq_true h4)
      exact .val (s_glob (F.gl h2) g1 g2 g3 (nm_of h3).1) (fun _ => rfl) rfl rfl
    · cases h
  | .fnv f, X, Ek, ck, F, e, h => by
    simp only [chkE] at h
    split at h
    · split at h
      · rename_i x p i hi
        obtain ⟨h1, h⟩ := two h
        obtain ⟨h2, h3⟩ := two h
        have eh1 := of_decide_eq_true h1
        subst eh1
        obtain ⟨a, g1, g2, _⟩ := F.call _ _ hi
        exact .val (s_fnv (F.gl h2) g2 g1 (nm_of h3).1) (fun _ => rfl) rfl rfl
      · cases h
    · cases h
  | .tup es, X, Ek, ck, F, e, h => by
    simp only [chkE] at h
    split at h
    · obtain ⟨h1, h2⟩ := two h
      exact .val (s_tup (chkEs_ok es X Ek ck F _ h1) (of_decide_eq_true h2)) (fun _ => rfl) rfl rfl
    · cases h
  | .lst es, X, Ek, ck, F, e, h => by
    simp only [chkE] at h
    split at h
    · obtain ⟨h1, h2⟩ := two h
      have q := fun p : Pos => s_lst (pos := p) (chkEs_ok es X Ek ck F _ h1) (of_decide_eq_true h2)
      have p := fun i => fr_of (fun _ _ _ _ z => lst_inv z) (q i)
      exact ⟨p _, fun _ => t_val (p _) (fun _ => rfl), fun z => (by cases z), fun _ => q _⟩
    · cases h
  | .bin o x y, X, Ek, ck, F, e, h => by
    simp only [chkE] at h
    split at h
    · obtain ⟨h1, h⟩ := two h
      obtain ⟨h2, h3⟩ := two h
      have eh1 := of_decide_eq_true h1
      subst eh1
      exact .val (s_bin o (chkE_ok x X Ek ck F _ h2).pe (chkE_ok y X Ek ck F _ h3).pe) (fun _ => rfl) rfl rfl
    · cases h
  | .neg x, X, Ek, ck, F, e, h => by
    simp only [chkE] at h
    split at h
    · exact .noT (s_neg (chkE_ok x X Ek ck F _ h).pe) (fun z => by cases z) rfl rfl
    · cases h
  | .not x, X, Ek, ck, F, e, h => by
    simp only [chkE] at h
    split at h
    · exact .noT (s_not (chkE_ok x X Ek ck F _ h).pe) (fun z => t_not ((chkE_ok x X Ek ck F _ h).pt z)) rfl rfl
    · cases h
  | .cmp o x y, X, Ek, ck, F, e, h => by
    simp only [chkE] at h
    split at h
    · obtain ⟨h1, h⟩ := two h
      obtain ⟨h2, h⟩ := two h
      obtain ⟨h3, h4⟩ := two h
      have eh1 := of_decide_eq_true h1
      subst eh1
      have px := (chkE_ok x X Ek ck F _ h2).pe
      have py := (chkE_ok y X Ek ck F _ h3).pe
      exact .noT (s_cmp F.un64 o px py (behind_of h4)) (fun _ => t_cmp F.un64 o px py (behind_of h4)) rfl rfl
    · cases h
  | .chain o o' x y z, X, Ek, ck, F, e, h => by
    simp only [chkE] at h
    split at h
    · obtain ⟨h0, h⟩ := two h
      obtain ⟨h1, h⟩ := two h
      obtain ⟨h2, h⟩ := two h
      obtain ⟨h3, h⟩ := two h
      obtain ⟨h4, h5⟩ := two h
      have eh0 := of_decide_eq_true h0
      have eh1 := of_decide_eq_true h1
      subst eh0
      subst eh1
      have px := (chkE_ok x X Ek ck F _ h2).pe
      have py := (chkE_ok y X Ek ck F _ h3).pe
      have pz := (chkE_ok z X Ek ck F _ h4).pe
      have hm : ∀ b : Expr, lastMarks [cmA o, cmA o'] [b, _] = false := fun b => behind_of h5
      exact .noT (s_chain F.un64 o o' px py pz (hm _)) (fun _ => t_chain F.un64 o o' px py pz (hm _)) rfl rfl
    · cases h
  | .and x y, X, Ek, ck, F, e, h => by
    simp only [chkE] at h
    split at h
    · obtain ⟨h1, h2⟩ := two h
      have px := chkE_ok x X Ek ck F _ h1
      have py := chkE_ok y X Ek ck F _ h2
      refine .bl (s_and px.pe py.pe) (fun z => ?_) rfl
      unfold tstOk at z
      obtain ⟨z1, z⟩ := two z
      obtain ⟨z2, z3⟩ := two z
      exact t_and (px.pt z1) (py.pw z2 z3)
    · cases h
  | .or x y, X, Ek, ck, F, e, h => by
    simp only [chkE] at h
    split at h
    · obtain ⟨h1, h2⟩ := two h
      have px := chkE_ok x X Ek ck F _ h1
      have py := chkE_ok y X Ek ck F _ h2
      refine .bl (s_or px.pe py.pe) (fun z => ?_) rfl
      unfold tstOk at z
      obtain ⟨z1, z⟩ := two z
      obtain ⟨z2, z3⟩ := two z
      exact t_or (px.pt z1) (py.pw z2 z3)
    · cases h
  | .one x, X, Ek, ck, F, e, h => by
    simp only [chkE] at h
    split at h
    · have px := chkE_ok x X Ek ck F _ h
      exact .bl (s_one px.pe) (fun z => t_one1 (px.pt z)) rfl
    · cases h
  | .ifx t x y, X, Ek, ck, F, e, h => by
    simp only [chkE] at h
    split at h
    · obtain ⟨h1, h⟩ := two h
      obtain ⟨h2, h⟩ := two h
      obtain ⟨h3, h4⟩ := two h
      exact .noT (s_ifx ((chkE_ok t X Ek ck F _ h1).pt h2) (chkE_ok x X Ek ck F _ h3).pe (chkE_ok y X Ek ck F _ h4).pe) (fun z => by cases z) rfl rfl
    · cases h
  | .ix x y, X, Ek, ck, F, e, h => by
    simp only [chkE] at h
    split at h
    · obtain ⟨h1, h⟩ := two h
      obtain ⟨h2, h3⟩ := two h
      exact .val (s_ix (chkE_ok x X Ek ck F _ h1).pe (chkE_ok y X Ek ck F _ h2).pe (plainIx_of h3)) (fun _ => rfl) rfl rfl
    · cases h
  | .cut x lo hi, X, Ek, ck, F, e, h => by
    simp only [chkE] at h
    split at h
    · obtain ⟨h1, h⟩ := two h
      obtain ⟨h2, h3⟩ := two h
      exact .val (s_cut (chkE_ok x X Ek ck F _ h1).pe (chkO_ok lo X Ek ck F _ h2) (chkO_ok hi X Ek ck F _ h3)) (fun _ => rfl) rfl rfl
    · cases h
  | .rev x, X, Ek, ck, F, e, h => by
    simp only [chkE] at h
    split at h
    · obtain ⟨h1, h2⟩ := two h
      have eh1 := of_decide_eq_true h1
      subst eh1
      exact .val (s_rev (chkE_ok x X Ek ck F _ h2).pe) (fun _ => rfl) rfl rfl
    · cases h
  | .call f es ds, X, Ek, ck, F, e, h => by
    simp only [chkE] at h
    split at h
    · rename_i x p xs pos
      split at h
      · rename_i i hi
        obtain ⟨h1, h⟩ := two h
        obtain ⟨h2, h⟩ := two h
        obtain ⟨h3, h⟩ := two h
        obtain ⟨h4, h⟩ := two h
        obtain ⟨h5, h6⟩ := two h
        have eh1 := of_decide_eq_true h1
        subst eh1
        have h5 := of_decide_eq_true h5
        obtain ⟨a, g1, g2, g3, fd, ps, g4, g5, g6⟩ := F.call _ _ hi
        obtain ⟨dv, d1, d2⟩ := g5 (i.dfl.length - ds.length) (by omega)
        rw [← h5] at d1
        have hst := chkEs_star h6
        have pa := chkEs_ok es X Ek ck F _ h6
        have key : ∀ fr, (fr = true → i.fr = true) → PE X (.Call (.Name i.x p) xs [] pos) (tCall (spF X.K ad fr (cl f)) (ds.map V.int) Ek (tAv X.K ad Ek (evs cl es))) := by
          intro fr hfr
          cases xs with
          | nil =>
            refine PEimp (pe_callG0 (g6 fr hfr) F.gd F.room (F.gl h2) g2 g3 d2 d1 F.pass (nm_of h3).1) fun σ H Q q => ?_
            have e0 := chkEs_len h6
            cases es with
            | cons a b => cases e0
            | nil =>
              obtain ⟨g, sl, st, ho, rs, f⟩ := q
              unfold evs at f
              exact f g H [] (Le.refl g) ho .nil
          | cons y ys => exact pe_callG (g6 fr hfr) F.gd F.room (F.gl h2) g2 g3 d2 d1 F.pass pa (nm_of h3).1 (star_cons (hst y List.mem_cons_self)) (star_any fun z hz => hst z (List.mem_cons_of_mem _ hz))
        have p1 : PE X (.Call (.Name i.x p) xs [] pos) (tEv X.K ad Ek (evE cl (.call f es ds))) := PEimp (key false (fun z => by cases z)) fun σ H Q q => call_read q
        refine ⟨p1, fun _ => t_val p1 (fun _ => rfl), fun z => (by cases z), fun z => ?_⟩
        simp only [frE] at z
        rw [hi] at z
        exact PEimp (key true (fun _ => z)) fun σ H Q q => callF_read q
      · cases h
    · cases h
  | .bi b es, X, Ek, ck, F, e, h => by
    simp only [chkE] at h
    split at h
    · obtain ⟨h1, h⟩ := two h
      obtain ⟨h2, h3⟩ := two h
      have eh1 := of_decide_eq_true h1
      subst eh1
      have hst := chkEs_star h3
      exact .val (s_bi F.calm F.gd F.un b (F.gl h2) (F.bi b) (chkEs_ok es X Ek ck F _ h3) (star_cons (hst _ List.mem_cons_self)) (star_any fun z hz => hst z (List.mem_cons_of_mem _ hz))) (fun _ => rfl) rfl rfl
    · cases h
  | .isi x t, X, Ek, ck, F, e, h => by
    simp only [chkE] at h
    split at h
    · obtain ⟨h1, h⟩ := two h
      obtain ⟨h2, h⟩ := two h
      obtain ⟨h3, h⟩ := two h
      obtain ⟨h4, h⟩ := two h
      obtain ⟨h5, h6⟩ := two h
      have eh1 := of_decide_eq_true h1
      have eh3 := of_decide_eq_true h3
      subst eh1
      subst eh3
      exact .val (s_isi t (F.gl h2) F.isi (F.gl h4) (F.ty t) (chkE_ok x X Ek ck F _ h5).pe (star_cons h6)) (fun _ => rfl) rfl rfl
    · cases h
  | .lc w tg c ie, X, Ek, ck, F, e, h => by
    simp only [chkE] at h
    split at h
    · rename_i elt t it ifs as scope pos
      obtain ⟨h1, h⟩ := two h
      obtain ⟨h2, h⟩ := two h
      obtain ⟨h3, h⟩ := two h
      obtain ⟨h4, h⟩ := two h
      obtain ⟨h5, h⟩ := two h
      obtain ⟨h6, h7⟩ := two h
      have h1' := of_decide_eq_true h1
      subst h1'
      have q : PE X (.ListComp elt [⟨t, it, ifs, 0⟩] scope pos) (tFr X.K ad Ek (evE cl (.lc w tg c ie))) := s_lcF F.calm F.nd (chkW_ok w X Ek ck F _ h2 _) (by rw [F.N, F.sc]; exact blkOk_by h4) (fun s H C cls fp => F.blk.pg h5)
        (fun s H C cls fp => chkC_ok c (X.blk s H scope (compEnvC scope cls C X.env) fp) (ck.blk scope) F.blk _ h6) (fun s H C cls fp => (chkE_ok ie (X.blk s H scope (compEnvC scope cls C X.env) fp) E0 (ck.blk scope) F.blk _ h7).pe) (folded_of h3)
      have p := fr_of (fun _ _ _ _ z => lc_inv z) q
      exact ⟨p, fun _ => t_val p (fun _ => rfl), fun z => (by cases z), fun _ => q⟩
    · cases h
  | .star a b, X, Ek, ck, F, e, h => by simp only [chkE] at h; cases h
  | .callv a b, X, Ek, ck, F, e, h => by simp only [chkE] at h; cases h
  | .frz a, X, Ek, ck, F, e, h => by simp only [chkE] at h; cases h
theorem chkEs_ok : ∀ (ie : Es) (X : Cx) (Ek : XK) (ck : Ck), Fit X ad cl Ek n ck → ∀ e : List Expr, chkEs ck ie e = true → PA X e (tAv X.K ad Ek (evs cl ie))
  | .nil, X, Ek, ck, F, e, h => by
    simp only [chkEs] at h
    split at h
    · exact s_anil
    · cases h
  | .cons i is, X, Ek, ck, F, e, h => by
    simp only [chkEs] at h
    split at h
    · obtain ⟨h1, h⟩ := two h
      obtain ⟨h2, h3⟩ := two h
      exact s_acons (chkE_ok i X Ek ck F _ h2).pe (chkEs_ok is X Ek ck F _ h3) (star_cons h1)
    · cases h
theorem chkO_ok : ∀ (io : Oe) (X : Cx) (Ek : XK) (ck : Ck), Fit X ad cl Ek n ck → ∀ o : Option Expr, chkO ck io o = true → (match o, io with
    | none, .no => True
    | some e, .ye i => PE X e (tEv X.K ad Ek (evE cl i))
    | _, _ => False)
  | .no, X, Ek, ck, F, o, h => by
    simp only [chkO] at h
    split at h
    · trivial
    · cases h
  | .ye i, X, Ek, ck, F, o, h => by
    simp only [chkO] at h
    split at h
    · exact (chkE_ok i X Ek ck F _ h).pe
    · cases h
theorem chkC_ok : ∀ (io : Oe) (X : Cx) (ck : Ck), Fit X ad cl E0 n ck → ∀ o : List Expr, chkC ck io o = true → PTs X o (tTv X.K ad E0 (evC cl io))
  | .no, X, ck, F, o, h => by
    simp only [chkC] at h
    split at h
    · exact tests_no
    · cases h
  | .ye i, X, ck, F, o, h => by
    simp only [chkC] at h
    split at h
    · obtain ⟨h1, h2⟩ := two h
      exact tests_one ((chkE_ok i X E0 ck F _ h1).pt h2)
    · cases h
theorem chkW_ok : ∀ (w : W) (X : Cx) (Ek : XK) (ck : Ck), Fit X ad cl Ek n ck → ∀ e : Expr, chkW ck w e = true → ∀ tg : Expr, PI X tg e (tWk X.K ad Ek (evW cl w))
  | .rng1 i, X, Ek, ck, F, e, h, tg => by
    simp only [chkW] at h
    split at h
    · obtain ⟨h1, h⟩ := two h
      obtain ⟨h2, h⟩ := two h
      obtain ⟨h3, h4⟩ := two h
      have eh1 := of_decide_eq_true h1
      subst eh1
      exact w_rng1 (F.gl h2) F.rng (chkE_ok i X Ek ck F _ h4).pe (star_cons h3)
    · cases h
  | .rng2 i j, X, Ek, ck, F, e, h, tg => by
    simp only [chkW] at h
    split at h
    · obtain ⟨h1, h⟩ := two h
      obtain ⟨h2, h⟩ := two h
      obtain ⟨h3, h⟩ := two h
      obtain ⟨h4, h⟩ := two h
      obtain ⟨h5, h6⟩ := two h
      have eh1 := of_decide_eq_true h1
      subst eh1
      exact w_rng2 (F.gl h2) F.rng (chkE_ok i X Ek ck F _ h5).pe (chkE_ok j X Ek ck F _ h6).pe (by rw [star_cons h3, star_cons h4]; rfl) (star_cons h4)
    · cases h
  | .over i, X, Ek, ck, F, e, h, tg => by
    simp only [chkW] at h
    exact w_over (chkE_ok i X Ek ck F _ h).pe
  | .zip a b, X, Ek, ck, F, e, h, tg => by simp only [chkW] at h; cases h
  | .enum a, X, Ek, ck, F, e, h, tg => by simp only [chkW] at h; cases h
end
end
end Fo
end -- FoSnd

section -- FoSt2
set_option Elab.async false
set_option linter.all false
set_option maxRecDepth 100000
set_option maxHeartbeats 2000000
/-! FoSt2: statements against a row's statements. -/
namespace Fo
open PySem L2 Evl PyProof.Rows
def noCompB : Expr → Bool
  | .ListComp .. => false
  | .SetComp .. => false
  | .DictComp .. => false
  | _ => true
/-- name = value: whether no exchange of stores, or the exchange of a list comprehension -/
def swapB (sc : Scope) (x : Str) (p : Pos) (v : Expr) : Bool := match v with
  | .ListComp _ _ scope q => (isLoc sc x && ((p.line == q.line) && !(scope.names.any fun (n, k) => n == x && (k == .local || k == .cell))))
  | _ => false
/-- pairs whose stores are exchanged -/
def parB (vs : List Expr) : Bool := vs.all notStar && (!(vs.all (foldedForSure 8)) && !(vs.all (constantsAlone 8)))
def notLoc (sc : Scope) : Expr → Bool
  | .Name x _ => !isLoc sc x
  | _ => true
def unpB (sc : Scope) (es : List Expr) (v : Expr) : Bool := match v with
  | .Tuple vs _ _ => !(es.length == 2 || es.length == 3) || (vs.all notStar && (vs.length == es.length && (vs.all (foldedForSure 8) || es.any (notLoc sc))))
  | _ => true
def isCall : E → Bool
  | .call _ _ _ => true
  | _ => false
mutual
def chkS (ck : Ck) (fr : Bool) : S → Stmt → Bool
  | .set i e, a => (match a with
    | .Assign [.Name x p] v _ => tgtB ck i x && (chkE ck e v && (noCompB v || (swapB ck.sc x p v && (frE ck e && !(isCall e)))))
    | _ => false)
  | .new i e, a => (match a with
    | .Assign [.Name x p] v _ => tgtB ck i x && (chkE ck e v && (frE ck e && (noCompB v || (swapB ck.sc x p v && !(isCall e)))))
    | _ => false)
  | .par i j e f, a => (match a with
    | .Assign [.Tuple [.Name x px, .Name y py] _ _] (.Tuple [v, u] _ _) _ => decide (ck.N[i]? = some x) && (decide (ck.N[j]? = some y) && (isLoc ck.sc x && (isLoc ck.sc y && (decide (i ≠ j) && ((px.line == py.line) && (chkE ck e v && (chkE ck f u && parB [v, u])))))))
    | _ => false)
  | .par3 i j l e f h, a => (match a with
    | .Assign [.Tuple [.Name x px, .Name y py, .Name z pz] _ _] (.Tuple [v, u, t] _ _) _ => decide (ck.N[i]? = some x) && (decide (ck.N[j]? = some y) && (decide (ck.N[l]? = some z) && (isLoc ck.sc x && (isLoc ck.sc y && (isLoc ck.sc z && (decide (i ≠ j) && (decide (i ≠ l) && (decide (j ≠ l) && ((px.line == py.line) && ((px.line == pz.line) && (chkE ck e v && (chkE ck f u && (chkE ck h t && parB [v, u, t])))))))))))))
    | _ => false)
  | .unp is e, a => (match a with
    | .Assign [.Tuple es _ _] v _ => chkNs ck is es && (chkE ck e v && unpB ck.sc es v)
    | _ => false)
  | .seti o b e, a => (match a with
    | .Assign [.Subscript x y _] v _ => chkE ck o x && (chkE ck b y && (chkE ck e v && notSlice y))
    | _ => false)
  | .ifs t b c, a => (match a with
    | .If e ss1 ss2 _ => chkE ck t e && (tstOk t && (chkSs ck fr b ss1 && chkSs ck fr c ss2))
    | _ => false)
  | .for tg w b, a => (match a with
    | .For t it body [] _ => chkW ck w it && (notSet it && (chkTg ck tg t && chkSs ck fr b body))
    | _ => false)
  | .whl t b, a => (match a with
    | .While e body [] _ => chkE ck t e && (tstOk t && chkSs ck fr b body)
    | _ => false)
  | .ret e, a => (match a with
    | .Return (some v) _ => chkE ck e v && (!fr || (frE ck e && !(isCall e)))
    | _ => false)
  | .retC i, a => (match a with
    | .Return (some (.Name x _)) _ => slotB ck i x
    | _ => false)
  | .app i e, a => (match a with
    | .Expr (.Call (.Attribute (.Name x _) m ap) [v] [] cp) _ => decide (m = ("append" : Str)) && (slotB ck i x && (notStar v && (chkE ck e v && (ap.endLine == cp.line))))
    | _ => false)
  | .ex e, a => (match a with
    | .Expr v _ => noCompB v && chkE ck e v
    | _ => false)
  | .pass, a => (match a with
    | .Pass _ => true
    | _ => false)
  | .cont, a => (match a with
    | .Continue _ => true
    | _ => false)
  | .never, _ => true
def chkSs (ck : Ck) (fr : Bool) : Ss → List Stmt → Bool
  | .nil, a => (match a with
    | [] => true
    | _ => false)
  | .cons s ss, a => (match a with
    | x :: xs => chkS ck fr s x && chkSs ck fr ss xs
    | _ => false)
end
structure FitS (X : Cx) (ad : Nat → Option Addr) (cl : Cl) (Ek : XK) (n : Nat) (ck : Ck) : Prop where
  fit : Fit X ad cl Ek n ck
  own : PassesOwn (model X.prog X.w) X.A X.env X.xe
  kind : X.env.scope.kind = .function
section
variable {X : Cx} {ad : Nat → Option Addr} {cl : Cl} {Ek : XK} {n : Nat} {ck : Ck} {fr : Bool}
theorem no_comp {v : Expr} {t : Option Expr} {l : Nat} {env : PySem.Env} (h : noCompB v = true) : swapsWith v t l env = pure false := by
  refine noComp ?_
  cases v <;> first
    | rfl
    | cases h
theorem sw_tup {es : List Expr} {k : Nat} {p : Pos} {v : Expr} {l : Nat} {env : PySem.Env} : swapsWithSole [.Tuple es k p] v l env = pure false := by
  cases v <;> rfl
theorem sw_sub {o i : Expr} {p : Pos} {v : Expr} {l : Nat} {env : PySem.Env} : swapsWith v (some (.Subscript o i p)) l env = pure false := by
  cases v <;> rfl
theorem block_fn {env : PySem.Env} (h : env.scope.kind = .function) : env.blockKind = .function := by
  unfold Env.blockKind
  rw [h]
  rfl
theorem star_filter {vs : List Expr} (h : vs.all notStar = true) : (vs.any fun | .Starred .. => true | _ => false) = false := by
  induction vs with
  | nil => rfl
  | cons v vs ih =>
    rw [List.all_cons, Bool.and_eq_true] at h
    rw [List.any_cons, ih h.2, Bool.or_false]
    cases v <;> first
      | rfl
      | exact absurd h.1 (fun z => by cases z)
theorem nodup_ix {α : Type} {x : α} : ∀ {N : List α} {i j : Nat}, N.Nodup → N[i]? = some x → N[j]? = some x → i = j
  | [], i, j, _, h, _ => by simp at h
  | a :: N, 0, 0, _, _, _ => rfl
  | a :: N, 0, j + 1, nd, h1, h2 => by
    simp at h1 h2
    subst h1
    exact absurd (List.mem_of_getElem? h2) (List.nodup_cons.mp nd).1
  | a :: N, i + 1, 0, nd, h1, h2 => by
    simp at h1 h2
    subst h2
    exact absurd (List.mem_of_getElem? h1) (List.nodup_cons.mp nd).1
  | a :: N, i + 1, j + 1, nd, h1, h2 => by
    simp at h1 h2
    exact congrArg (· + 1) (nodup_ix (List.nodup_cons.mp nd).2 h1 h2)
theorem par_swap {env : PySem.Env} {x y : Str} {px py pt : Pos} {kt k2 : Nat} {pt2 : Pos} {a b : Expr} (hk : env.scope.kind = .function) (hx : env.scope.names.lookup x = some .local) (hy : env.scope.names.lookup y = some .local) (hxy : x ≠ y)
    (hl : (px.line == py.line) = true) (h : parB [a, b] = true) : swappedStores [.Tuple [.Name x px, .Name y py] kt pt] (.Tuple [a, b] k2 pt2) env = pure (some [x, y]) := by
  unfold parB at h
  rw [Bool.and_eq_true, Bool.and_eq_true, Bool.not_eq_true', Bool.not_eq_true'] at h
  obtain ⟨h1, h2, h3⟩ := h
  have kx : env.kindOf x = some .local := hx
  have ky : env.kindOf y = some .local := hy
  have hl' : px.line = py.line := beq_iff_eq.mp hl
  have e1 := star_filter h1
  have e2 : (y == x) = false := beq_false_of_ne (Ne.symm hxy)
  have e3 : [x, y].eraseDups = [x, y] := by
    simp [List.eraseDups_cons, e2]
  have hlen : [a, b].length = 2 := rfl
  unfold swappedStores
  generalize [a, b] = vs at h1 h2 h3 e1 hlen ⊢
  simp only [block_fn hk, h2, h3, List.filterMap_cons, List.filterMap_nil, kx, ky, List.head?_cons, Option.map_some, Option.getD_some, Expr.pos, hl', beq_self_eq_true, Bool.and_self, if_true, e3, List.length_cons, List.length_nil, hlen]
  generalize hq : (vs.any _) = qq
  have hq : qq = false := hq.symm.trans (star_filter h1)
  subst hq
  rfl
theorem par_swap3 {env : PySem.Env} {x y z : Str} {px py pz pt : Pos} {kt k2 : Nat} {pt2 : Pos} {a b c : Expr} (hk : env.scope.kind = .function) (hx : env.scope.names.lookup x = some .local) (hy : env.scope.names.lookup y = some .local) (hz : env.scope.names.lookup z = some .local) (hxy : x ≠ y) (hxz : x ≠ z) (hyz : y ≠ z)
    (hl : (px.line == py.line) = true) (hl2 : (px.line == pz.line) = true) (h : parB [a, b, c] = true) : swappedStores [.Tuple [.Name x px, .Name y py, .Name z pz] kt pt] (.Tuple [a, b, c] k2 pt2) env = pure (some [x, y, z]) := by
  unfold parB at h
  rw [Bool.and_eq_true, Bool.and_eq_true, Bool.not_eq_true', Bool.not_eq_true'] at h
  obtain ⟨h1, h2, h3⟩ := h
  have kx : env.kindOf x = some .local := hx
  have ky : env.kindOf y = some .local := hy
  have kz : env.kindOf z = some .local := hz
  have hl' : py.line = px.line := (beq_iff_eq.mp hl).symm
  have hl2' : pz.line = px.line := (beq_iff_eq.mp hl2).symm
  have e1 := star_filter h1
  have e2 : (y == x) = false := beq_false_of_ne (Ne.symm hxy)
  have e2' : (z == x) = false := beq_false_of_ne (Ne.symm hxz)
  have e2'' : (z == y) = false := beq_false_of_ne (Ne.symm hyz)
  have e3 : [x, y, z].eraseDups = [x, y, z] := by
    simp [List.eraseDups_cons, e2, e2', e2'']
  have hlen : [a, b, c].length = 3 := rfl
  unfold swappedStores
  generalize [a, b, c] = vs at h1 h2 h3 e1 hlen ⊢
  simp only [block_fn hk, h2, h3, List.filterMap_cons, List.filterMap_nil, kx, ky, kz, List.head?_cons, Option.map_some, Option.getD_some, Expr.pos, hl', hl2', beq_self_eq_true, Bool.and_self, if_true, e3, List.length_cons, List.length_nil, hlen]
  generalize hq : (vs.any _) = qq
  have hq : qq = false := hq.symm.trans (star_filter h1)
  subst hq
  rfl
theorem fm_len {α β : Type} {f : α → Option β} : ∀ {l : List α}, (∃ x ∈ l, f x = none) → (l.filterMap f).length < l.length
  | [], h => by obtain ⟨_, h, _⟩ := h; cases h
  | y :: l, h => by
    rw [List.filterMap_cons]
    have le : (l.filterMap f).length ≤ l.length := List.length_filterMap_le f l
    cases e : f y with
    | none => exact Nat.lt_succ_of_le le
    | some b =>
      obtain ⟨x, hx, hn⟩ := h
      rcases List.mem_cons.mp hx with z | z
      · rw [z, e] at hn; cases hn
      · exact Nat.succ_lt_succ (fm_len ⟨x, z, hn⟩)
theorem unp_none {env : PySem.Env} {es : List Expr} {kt : Nat} {pt : Pos} {v : Expr} (hk : env.scope.kind = .function) (h : unpB env.scope es v = true) (hn : ∀ e ∈ es, ∃ x p, e = .Name x p) : swappedStores [.Tuple es kt pt] v env = pure none := by
  cases v with
  | Tuple vs k2 p2 =>
    simp only [unpB] at h
    unfold swappedStores
    cases c1 : (es.length == 2 || es.length == 3) with
    | false => simp only [c1]; rfl
    | true =>
      rw [c1] at h
      simp only [Bool.not_true, Bool.false_or, Bool.and_eq_true] at h
      obtain ⟨h1, h2, h3⟩ := h
      have e1 := star_filter h1
      have e2 : (vs.length != es.length) = false := by
        rw [bne, h2]; rfl
      simp only [c1, e2, block_fn hk]
      generalize hq : (vs.any _) = qq
      have hq : qq = false := hq.symm.trans (star_filter h1)
      subst hq
      rcases Bool.or_eq_true_iff.mp h3 with h3 | h3
      · simp only [h3]
        generalize (List.filterMap _ es) = nm
        generalize (nm.length != es.length || nm.eraseDups.length != nm.length) = c
        cases c <;> rfl
      · obtain ⟨e, he, hb⟩ := List.any_eq_true.mp h3
        obtain ⟨x, p, rfl⟩ := hn e he
        have hb : (!isLoc env.scope x) = true := hb
        have kk : env.kindOf x ≠ some .local := fun z => by
          have z : env.scope.names.lookup x = some .local := z
          unfold isLoc at hb
          rw [z] at hb
          cases hb
        generalize hf : (List.filterMap _ es) = nm
        have lt : nm.length < es.length := by
          rw [← hf]
          refine fm_len ⟨_, he, ?_⟩
          have : (env.kindOf x == some .local) = false := beq_false_of_ne kk
          simp [this]
        have c : (nm.length != es.length) = true := by
          rw [bne_iff_ne]
          omega
        rw [c]
        rfl
  | _ => rfl
theorem ns_names : ∀ {is : List Nat} {es : List Expr}, chkNs ck is es = true → ∀ e ∈ es, ∃ x p, e = .Name x p
  | [], [], _, e, he => by cases he
  | [], _ :: _, q, _, _ => by simp [chkNs] at q
  | _ :: _, [], q, _, _ => by simp [chkNs] at q
  | i :: is, y :: es, q, e, he => by
    cases y with
    | Name x p =>
      unfold chkNs at q
      rcases List.mem_cons.mp he with z | z
      · exact ⟨x, p, z⟩
      · exact ns_names (two q).2 e z
    | _ => simp [chkNs] at q
theorem fr_list {e : E} {sl : Slots} {st st' : Store} {v : SV} (h : frE ck e = true) (hc : isCall e = false) (q : evE cl e sl st = some (.ok v st')) : ∃ xs, v = .d (.lst xs) := by
  cases e with
  | lst es => exact lst_inv q
  | lc w tg c e => exact lc_inv q
  | call f es ds => cases hc
  | _ => cases h
/-- name = [..] with the stores exchanged -/
theorem set_lc (F : FitS X ad cl Ek n ck) {i : Nat} {e : E} {x : Str} {p pos : Pos} {v : Expr} (ht : tgtB ck i x = true) (hv : chkE ck e v = true) (hs : swapB ck.sc x p v = true) (hf : frE ck e = true) (hc : isCall e = false) :
    PS X (.Assign [.Name x p] v pos) (tAsg (tFr X.K ad Ek (evE cl e)) (gName i)) := by
  unfold swapB at hs
  split at hs
  · rename_i v elt gs scope q
    obtain ⟨s1, hs⟩ := two hs
    obtain ⟨s2, s3⟩ := two hs
    have s1 := loc_of s1
    have s1' : X.env.scope.names.lookup x = some .local := by rw [F.fit.sc]; exact s1
    have s2' : (p.line == q.line) = true := s2
    obtain ⟨t1, t2, t3⟩ := F.fit.tgt ht
    cases e with
    | lst es => simp only [chkE] at hv; cases hv
    | call f es ds => cases hc
    | lc w tg c ie =>
      simp only [chkE] at hv
      split at hv
      · rename_i _ elt' t it ifs as sc' pos' heq
        cases heq
        obtain ⟨h1, h⟩ := two hv
        obtain ⟨h2, h⟩ := two h
        obtain ⟨h3, h⟩ := two h
        obtain ⟨h4, h⟩ := two h
        obtain ⟨h5, h⟩ := two h
        obtain ⟨h6, h7⟩ := two h
        have h1' := of_decide_eq_true h1
        subst h1'
        exact s_setLc F.fit.calm F.fit.nd t1 s1' (sw_true F.kind s1' s2' (Bool.not_eq_true' _ ▸ s3)) (chkW_ok w X Ek ck F.fit _ h2 _) (by rw [F.fit.N, F.fit.sc]; exact blkOk_by h4) (fun s H C cls fp => F.fit.blk.pg h5)
          (fun s H C cls fp => chkC_ok c (X.blk s H scope (compEnvC scope cls C X.env) fp) (ck.blk scope) F.fit.blk _ h6) (fun s H C cls fp => (chkE_ok ie (X.blk s H scope (compEnvC scope cls C X.env) fp) E0 (ck.blk scope) F.fit.blk _ h7).pe) (folded_of h3)
      · cases hv
    | _ => cases hf
  · cases hs
mutual
theorem chkS_ok (F : FitS X ad cl Ek n ck) : ∀ (is : S) (s : Stmt), chkS ck fr is s = true → PS X s (tSv X.K ad fr Ek (evS cl is))
  | .set i e, s, h => by
    simp only [chkS] at h
    split at h
    · obtain ⟨h1, h⟩ := two h
      obtain ⟨h2, h3⟩ := two h
      obtain ⟨t1, t2, t3⟩ := F.fit.tgt h1
      rcases Bool.or_eq_true_iff.mp h3 with z | z
      · exact st_set F.fit.nd t1 t2 t3 (chkE_ok e X Ek ck F.fit _ h2).pe (no_comp z)
      · obtain ⟨z1, z⟩ := two z
        obtain ⟨z2, z3⟩ := two z
        have z3 : isCall e = false := by simpa using z3
        exact st_setF (set_lc F h1 h2 z1 z2 z3) fun _ _ _ _ q => fr_list z2 z3 q
    · cases h
  | .new i e, s, h => by
    simp only [chkS] at h
    split at h
    · obtain ⟨h1, h⟩ := two h
      obtain ⟨h2, h⟩ := two h
      obtain ⟨h3, h4⟩ := two h
      obtain ⟨t1, t2, t3⟩ := F.fit.tgt h1
      rcases Bool.or_eq_true_iff.mp h4 with z | z
      · exact st_new F.fit.nd t1 t2 t3 ((chkE_ok e X Ek ck F.fit _ h2).fr h3) (no_comp z)
      · obtain ⟨z1, z3⟩ := two z
        have z3 : isCall e = false := by simpa using z3
        exact st_newF (set_lc F h1 h2 z1 h3 z3)
    · cases h
  | .par i j e f, s, h => by
    simp only [chkS] at h
    split at h
    · rename_i x px y py _ _ v u _ _ _
      obtain ⟨h1, h⟩ := two h
      obtain ⟨h2, h⟩ := two h
      obtain ⟨h3, h⟩ := two h
      obtain ⟨h4, h⟩ := two h
      obtain ⟨h5, h⟩ := two h
      obtain ⟨h6, h⟩ := two h
      obtain ⟨h7, h⟩ := two h
      obtain ⟨h8, h9⟩ := two h
      have h1 := of_decide_eq_true h1
      have h2 := of_decide_eq_true h2
      have h5 := of_decide_eq_true h5
      have n9 : notStar v = true ∧ notStar u = true := by
        have := (two h9).1
        simpa using this
      have lx : X.env.scope.names.lookup x = some .local := by rw [F.fit.sc]; exact loc_of h3
      have ly : X.env.scope.names.lookup y = some .local := by rw [F.fit.sc]; exact loc_of h4
      have n1 : X.N[i]? = some x := by rw [F.fit.N]; exact h1
      have n2 : X.N[j]? = some y := by rw [F.fit.N]; exact h2
      have hxy : x ≠ y := fun z => by
        subst z
        exact h5 (nodup_ix F.fit.nd n1 n2)
      exact st_par F.fit.calm F.fit.nd n1 n2 h5 lx ly (chkE_ok e X Ek ck F.fit _ h7).pe (chkE_ok f X Ek ck F.fit _ h8).pe (star_cons n9.1) (star_cons n9.2) (par_swap F.kind lx ly hxy h6 h9)
    · cases h
  | .par3 i j l e f g, s, h => by
    simp only [chkS] at h
    split at h
    · rename_i x px y py z pz _ _ v u t _ _ _
      obtain ⟨h1, h⟩ := two h
      obtain ⟨h2, h⟩ := two h
      obtain ⟨h3, h⟩ := two h
      obtain ⟨h4, h⟩ := two h
      obtain ⟨h5, h⟩ := two h
      obtain ⟨h6, h⟩ := two h
      obtain ⟨h7, h⟩ := two h
      obtain ⟨h8, h⟩ := two h
      obtain ⟨h9, h⟩ := two h
      obtain ⟨k1, h⟩ := two h
      obtain ⟨k2, h⟩ := two h
      obtain ⟨k3, h⟩ := two h
      obtain ⟨k4, h⟩ := two h
      obtain ⟨k5, k6⟩ := two h
      have h7 := of_decide_eq_true h7
      have h8 := of_decide_eq_true h8
      have h9 := of_decide_eq_true h9
      have n9 : notStar v = true ∧ (notStar u = true ∧ notStar t = true) := by
        have := (two k6).1
        simpa using this
      have lx : X.env.scope.names.lookup x = some .local := by rw [F.fit.sc]; exact loc_of h4
      have ly : X.env.scope.names.lookup y = some .local := by rw [F.fit.sc]; exact loc_of h5
      have lz : X.env.scope.names.lookup z = some .local := by rw [F.fit.sc]; exact loc_of h6
      have n1 : X.N[i]? = some x := by rw [F.fit.N]; exact of_decide_eq_true h1
      have n2 : X.N[j]? = some y := by rw [F.fit.N]; exact of_decide_eq_true h2
      have n3 : X.N[l]? = some z := by rw [F.fit.N]; exact of_decide_eq_true h3
      have hxy : x ≠ y := fun q => h7 (nodup_ix F.fit.nd n1 (by rw [q]; exact n2))
      have hxz : x ≠ z := fun q => h8 (nodup_ix F.fit.nd n1 (by rw [q]; exact n3))
      have hyz : y ≠ z := fun q => h9 (nodup_ix F.fit.nd n2 (by rw [q]; exact n3))
      exact st_par3 F.fit.calm F.fit.nd n1 n2 n3 h7 h8 h9 lx ly lz (chkE_ok e X Ek ck F.fit _ k3).pe (chkE_ok f X Ek ck F.fit _ k4).pe (chkE_ok g X Ek ck F.fit _ k5).pe (star_cons n9.1) (star_cons n9.2.1) (star_cons n9.2.2) (par_swap3 F.kind lx ly lz hxy hxz hyz k1 k2 k6)
    · cases h
  | .unp is e, s, h => by
    simp only [chkS] at h
    split at h
    · obtain ⟨h1, h⟩ := two h
      obtain ⟨h2, h3⟩ := two h
      have hn := ns_names h1
      exact st_unp (chkE_ok e X Ek ck F.fit _ h2).pe ((F.fit.nms h1).pg F.fit.calm F.fit.nd) sw_tup (unp_none F.kind (by rw [F.fit.sc]; exact h3) hn) rfl
    · cases h
  | .seti o b e, s, h => by
    simp only [chkS] at h
    split at h
    · obtain ⟨h1, h⟩ := two h
      obtain ⟨h2, h⟩ := two h
      obtain ⟨h3, h4⟩ := two h
      exact st_seti h4 (chkE_ok e X Ek ck F.fit _ h3).pe (chkE_ok o X Ek ck F.fit _ h1).pe (chkE_ok b X Ek ck F.fit _ h2).pe sw_sub
    · cases h
  | .ifs t b c, s, h => by
    simp only [chkS] at h
    split at h
    · obtain ⟨h1, h⟩ := two h
      obtain ⟨h2, h⟩ := two h
      obtain ⟨h3, h4⟩ := two h
      exact st_if ((chkE_ok t X Ek ck F.fit _ h1).pt h2) (chkSs_ok F b _ h3) (chkSs_ok F c _ h4)
    · cases h
  | .for tg w b, s, h => by
    simp only [chkS] at h
    split at h
    · obtain ⟨h1, h⟩ := two h
      obtain ⟨h2, h⟩ := two h
      obtain ⟨h3, h4⟩ := two h
      exact st_for F.own F.fit.calm (chkW_ok w X Ek ck F.fit _ h1 _) (F.fit.pg h3) (chkSs_ok F b _ h4) (folded_of h2)
    · cases h
  | .whl t b, s, h => by
    simp only [chkS] at h
    split at h
    · obtain ⟨h1, h⟩ := two h
      obtain ⟨h2, h3⟩ := two h
      exact st_whl F.own ((chkE_ok t X Ek ck F.fit _ h1).pt h2) (chkSs_ok F b _ h3)
    · cases h
  | .ret e, s, h => by
    simp only [chkS] at h
    split at h
    · obtain ⟨h1, h2⟩ := two h
      cases fr with
      | false => exact st_ret (chkE_ok e X Ek ck F.fit _ h1).pe
      | true =>
        have h2 : (frE ck e && !(isCall e)) = true := h2
        obtain ⟨z2, z3⟩ := two h2
        have z3 : isCall e = false := by simpa using z3
        exact st_retF ((chkE_ok e X Ek ck F.fit _ h1).fr z2) fun _ _ _ _ q => fr_list z2 z3 q
    · cases h
  | .retC i, s, h => by
    simp only [chkS] at h
    split at h
    · exact st_retC (F.fit.slot h)
    · cases h
  | .app i e, s, h => by
    simp only [chkS] at h
    split at h
    · obtain ⟨h1, h⟩ := two h
      obtain ⟨h2, h⟩ := two h
      obtain ⟨h3, h⟩ := two h
      obtain ⟨h4, h5⟩ := two h
      have e1 := of_decide_eq_true h1
      subst e1
      exact st_app (F.fit.slot h2) (chkE_ok e X Ek ck F.fit _ h4).pe rfl (star_cons h3) h5 rfl
    · cases h
  | .ex e, s, h => by
    simp only [chkS] at h
    split at h
    · obtain ⟨h1, h2⟩ := two h
      exact st_ex (chkE_ok e X Ek ck F.fit _ h2).pe (no_comp h1)
    · cases h
  | .pass, s, h => by
    simp only [chkS] at h
    split at h
    · exact st_pass
    · cases h
  | .cont, s, h => by
    simp only [chkS] at h
    split at h
    · exact st_cont
    · cases h
  | .never, s, h => st_never
theorem chkSs_ok (F : FitS X ad cl Ek n ck) : ∀ (is : Ss) (s : List Stmt), chkSs ck fr is s = true → PSs X s (tSv X.K ad fr Ek (evSs cl is))
  | .nil, s, h => by
    simp only [chkSs] at h
    split at h
    · exact ss_nil
    · cases h
  | .cons i is, s, h => by
    simp only [chkSs] at h
    split at h
    · obtain ⟨h1, h2⟩ := two h
      exact ss_cons (chkS_ok F i _ h1) (chkSs_ok F is _ h2)
    · cases h
end
end
end Fo
end -- FoSt2

section -- FoBnd
set_option Elab.async false
set_option linter.all false
set_option maxRecDepth 100000
set_option maxHeartbeats 2000000
/-! FoBnd: how plain parameters are bound. -/
namespace Fo
open PySem L2 Evl PyProof.Rows
theorem lk_some {x : Str} : ∀ {ps : List Str} {us : List Value}, us.length = ps.length → x ∈ ps → ((ps.zip us).lookup x).isSome = true
  | p :: ps, u :: us, hl, h => by
    rw [List.zip_cons_cons, List.lookup_cons]
    cases e : x == p with
    | true => rfl
    | false =>
      rcases List.mem_cons.mp h with z | z
      · rw [z, beq_self_eq_true] at e; cases e
      · exact lk_some (Nat.succ.inj hl) z
theorem lk_zip : ∀ {ps : List Str} {us : List Value}, us.length = ps.length → ps.Nodup → (ps.filterMap fun n => ((ps.zip us).lookup n).map (n, ·)) = ps.zip us
  | [], [], _, _ => rfl
  | p :: ps, u :: us, hl, nd => by
    obtain ⟨n1, n2⟩ := List.nodup_cons.mp nd
    rw [List.zip_cons_cons, List.filterMap_cons, List.lookup_cons, beq_self_eq_true]
    show (p, u) :: _ = _
    congr 1
    have ih := lk_zip (Nat.succ.inj hl) n2
    refine Eq.trans ?_ ih
    have key : ∀ qs : List Str, (∀ q ∈ qs, q ≠ p) → (qs.filterMap fun n => (((p, u) :: ps.zip us).lookup n).map (n, ·)) = qs.filterMap fun n => ((ps.zip us).lookup n).map (n, ·) := by
      intro qs
      induction qs with
      | nil => intro _; rfl
      | cons q qs ih2 =>
        intro hq
        have e : (q == p) = false := beq_false_of_ne (hq q List.mem_cons_self)
        rw [List.filterMap_cons, List.filterMap_cons, ih2 fun r hr => hq r (List.mem_cons_of_mem _ hr), List.lookup_cons, e]
    exact key ps fun q hq z => n1 (z ▸ hq)
theorem bind_plain {x qual : Str} {params : Arguments} {body : List Stmt} {scope : Scope} {kV doc pm : Value} {an : Option Addr} {cdv ct : Value} {ps : List Str} {us : List Value} (hp : params.posonlyargs = []) (ha : params.args.map (·.arg) = ps) (hv : params.vararg = none)
    (hk : params.kwonlyargs = []) (hw : params.kwarg = none) (nd : ps.Nodup) (hl : us.length = ps.length) : bindArgs (PySem.W.fnOf x qual params body scope .none kV doc pm an cdv ct) ⟨us, []⟩ = pure (ps.zip us) := by
  unfold bindArgs PySem.W.fnOf
  have e1 : (ps.filter fun n => ((ps.zip us).lookup n).isNone) = [] := by
    rw [List.filter_eq_nil_iff]
    intro n hn
    have := lk_some hl hn
    rw [Option.isNone_iff_eq_none]
    intro z
    rw [z] at this
    cases this
  have e0 : seqItems? Value.none = pure none := rfl
  have e3 : (if false = true then (1 : Nat) else 0) = 0 := rfl
  simp only [hp, ha, hv, hk, hw, List.map_nil, List.nil_append, List.append_nil, e0, pure_bind, Option.getD_none, Array.toList_empty, List.drop_nil, List.length_nil, Nat.sub_zero, List.take_length, List.drop_length, e1, Bool.false_eq_true, if_false, Option.getD_none, hl, Nat.lt_irrefl, gt_iff_lt, decide_false, Bool.false_and, List.drop_nil, List.length_nil, Nat.sub_zero, List.take_length, e1, List.isEmpty_nil, Bool.not_true, List.zip_nil_right, List.forIn_nil, lk_zip hl nd]
end Fo
end -- FoBnd

section -- FoTop
set_option Elab.async false
set_option linter.all false
set_option maxRecDepth 100000
set_option maxHeartbeats 2000000
/-! FoTop: a table of defs, that each keeps; the head's facts; the law's end. -/
namespace Fo
open PySem L2 Evl PyProof.Rows
/-- a def of the row's top, its term, whether it hands a list of its own back, its defaults -/
structure Ent where
  s : Stmt
  f : Fn
  fr : Bool
  dfl : List Int
def Ent.x (e : Ent) : Str := Str.ofString e.f.name
def Ent.N (e : Ent) : List Str := e.f.N.map Str.ofString
def Ent.ps (e : Ent) : List Str := e.N.take e.f.np
def Ent.d (e : Ent) : He.DefD := ⟨(e.x, none), e.x, e.x, defArgs e.s, defBody e.s, defScope e.s, e.dfl.map .int, []⟩
def Ent.fi (e : Ent) : Fi := ⟨e.x, e.f.np, e.dfl, e.fr⟩
def tbOf (es : List Ent) : Nat → Option Fi := fun i => (es[i]?).map Ent.fi
def tblOf (es : List Ent) : Nat → Option Fn := fun i => (es[i]?).map (·.f)
def ckOf (es : List Ent) (cn : List (String × GC)) (e : Ent) : Ck := ⟨e.N, defScope e.s, fun _ => true, tbOf es, cn⟩
def scOk (e : Ent) : Bool :=
  (match (defScope e.s).kind with
    | .function => true
    | _ => false) && (!(defScope e.s).isCoroutine && (!(defScope e.s).isGenerator && (decide e.N.Nodup && (decide (e.f.np ≤ e.N.length) && (e.ps.all (fun x => isLoc (defScope e.s) x || isCel (defScope e.s) x) && (defScope e.s).names.all fun y => decide (y.2 ≠ .free))))))
def argsOk (a : Arguments) (ps : List Str) : Bool := a.posonlyargs.isEmpty && (decide (a.args.map (·.arg) = ps) && (a.vararg.isNone && (a.kwonlyargs.isEmpty && a.kwarg.isNone)))
def Ent.ok (es : List Ent) (cn : List (String × GC)) (e : Ent) : Bool := scOk e && (chkSs (ckOf es cn e) false e.f.body (defBody e.s) && (!e.fr || chkSs (ckOf es cn e) true e.f.body (defBody e.s)))
theorem scOk_ok {e : Ent} (h : scOk e = true) : FnScope e.N e.ps (defScope e.s) ∧ e.ps.length = e.f.np := by
  unfold scOk at h
  obtain ⟨h1, h⟩ := two h
  obtain ⟨h2, h⟩ := two h
  obtain ⟨h3, h⟩ := two h
  obtain ⟨h4, h⟩ := two h
  obtain ⟨h5, h⟩ := two h
  obtain ⟨h6, h7⟩ := two h
  have hl : e.ps.length = e.f.np := by
    unfold Ent.ps
    rw [List.length_take]
    have := of_decide_eq_true h5
    omega
  refine ⟨⟨?_, by simpa using h2, by simpa using h3, of_decide_eq_true h4, ?_, fun x hx => ?_, fun y hy => ?_⟩, hl⟩
  · split at h1
    · assumption
    · cases h1
  · rw [hl]; rfl
  · have := List.all_eq_true.mp h6 x hx
    rcases Bool.or_eq_true_iff.mp this with z | z
    · exact .inl (loc_of z)
    · exact .inr (cel_of z)
  · exact of_decide_eq_true (List.all_eq_true.mp h7 y hy)
/-- the defaults fill up -/
def Bd (e : Ent) : Prop := ∀ (K : PySem.W.Frag) (fd : FuncData) (f : Addr), FunD K e.x e.x (defArgs e.s) (defBody e.s) (defScope e.s) (e.dfl.map V.int) [] f fd → ∀ j, j ≤ e.dfl.length → ∃ ds, Vals ((e.dfl.drop j).map V.int) ds ∧ Binds K fd e.ps ds
def AllP {α : Type} (P : α → Prop) : List α → Prop
  | [] => True
  | x :: xs => P x ∧ AllP P xs
theorem AllP.get {α : Type} {P : α → Prop} : ∀ {xs : List α}, AllP P xs → ∀ x ∈ xs, P x
  | y :: ys, h, x, hx => by
    rcases List.mem_cons.mp hx with z | z
    · rw [z]; exact h.1
    · exact AllP.get h.2 x z
theorem argsOk_ok {a : Arguments} {ps : List Str} (h : argsOk a ps = true) : a.posonlyargs = [] ∧ a.args.map (·.arg) = ps ∧ a.vararg = none ∧ a.kwonlyargs = [] ∧ a.kwarg = none := by
  unfold argsOk at h
  obtain ⟨h1, h⟩ := two h
  obtain ⟨h2, h⟩ := two h
  obtain ⟨h3, h⟩ := two h
  obtain ⟨h4, h5⟩ := two h
  exact ⟨List.isEmpty_iff.mp h1, of_decide_eq_true h2, Option.isNone_iff_eq_none.mp h3, List.isEmpty_iff.mp h4, Option.isNone_iff_eq_none.mp h5⟩
theorem bd_plain {e : Ent} (h : argsOk (defArgs e.s) e.ps = true) (hd : e.dfl = []) (hs : scOk e = true) : Bd e := by
  intro K fd f F j hj
  rw [hd] at F hj ⊢
  have hj : j = 0 := Nat.le_zero.mp hj
  subst hj
  obtain ⟨a1, a2, a3, a4, a5⟩ := argsOk_ok h
  have nd : e.ps.Nodup := (scOk_ok hs).1.nd.sublist (List.take_sublist _ _)
  exact ⟨[], .nil, FunD.bindsN F fun kV doc pm an cdv ct us hl => bind_plain a1 a2 a3 a4 a5 nd hl⟩
theorem bd_law {K : PySem.W.Frag} {fd : FuncData} {f : Addr} {e : Ent} (F : FunD K e.x e.x (defArgs e.s) (defBody e.s) (defScope e.s) [] [] f fd) (h : argsOk (defArgs e.s) e.ps = true) (hs : scOk e = true) {x : Str} (hx : e.ps = [x]) (s : Shared) (u : Value) : BindsTo s fd ⟨[u], []⟩ [(x, u)] := by
  obtain ⟨a1, a2, a3, a4, a5⟩ := argsOk_ok h
  have nd : e.ps.Nodup := (scOk_ok hs).1.nd.sublist (List.take_sublist _ _)
  have q := FunD.bindsA (ps := e.ps) F (fun kV doc pm an cdv ct us hl => bind_plain a1 a2 a3 a4 a5 nd hl) s [u] (by rw [hx]; rfl)
  rw [hx] at q
  exact q
/-! ### the facts -/
def freeN : List Str := ["range", "isinstance", "len", "abs", "int", "max", "min", "tuple", "list", "all", "any", "repr", "bool", "str"]
structure Facts (es : List Ent) (cn : List (String × GC)) (K : PySem.W.Frag) (mg : Str → Option Value) : Prop where
  def_ : ∀ e ∈ es, ∃ fd, FunD K e.x e.x (defArgs e.s) (defBody e.s) (defScope e.s) (e.dfl.map V.int) [] (He.ga K e.x) fd
  glo : ∀ e ∈ es, mg e.x = some (.ref (He.ga K e.x))
  free : ∀ x ∈ freeN, mg x = none
  cn : ∀ (ad : Nat → Option Addr), ∀ p ∈ cn, ∃ u w, mg (Str.ofString p.1) = some u ∧ RelV w u ∧ ∀ F, Rep K ad F p.2.val w
def adOf (es : List Ent) (K : PySem.W.Frag) : Nat → Option Addr := fun i => (es[i]?).map fun e => He.ga K e.x
section
variable {es : List Ent} {cn : List (String × GC)} {P : Program} {w : World} {K : PySem.W.Frag} {mg : Str → Option Value} {base : Heap}
theorem tab_fnG (h : Facts es cn K mg) (ok : es.all (Ent.ok es cn) = true) (bd : AllP Bd es) : ∀ (n i : Nat) (e : Ent), es[i]? = some e → ∀ fd, FunD K e.x e.x (defArgs e.s) (defBody e.s) (defScope e.s) (e.dfl.map V.int) [] (He.ga K e.x) fd →
    ∀ fr, (fr = true → e.fr = true) → FnG P w K mg base (L2.CX P w) n (He.ga K e.x) fd e.ps (spF K (adOf es K) fr (callF (tblOf es) n i))
  | 0, i, e, he, fd, F, fr, hfr => by
    refine ⟨fun vs H Q E q => ?_, fun A outer s H args us vs Q E _ _ _ _ _ q => ?_⟩
    · obtain ⟨g, a, st, _, _, f⟩ := q
      exact f.elim
    · obtain ⟨g, a, st, _, _, f⟩ := q
      exact f.elim
  | n + 1, i, e, he, fd, F, fr, hfr => by
    have hm : e ∈ es := List.mem_of_getElem? he
    have hok := List.all_eq_true.mp ok e hm
    unfold Ent.ok at hok
    obtain ⟨k1, k⟩ := two hok
    obtain ⟨k2, k3⟩ := two k
    obtain ⟨S, hps⟩ := scOk_ok k1
    have hb : chkSs (ckOf es cn e) fr e.f.body (defBody e.s) = true := by
      cases fr with
      | false => exact k2
      | true =>
        rw [hfr rfl] at k3
        exact k3
    have hcl : callF (tblOf es) (n + 1) i = run (callF (tblOf es) n) e.f := by
      funext args
      show (match tblOf es i with
        | some fn => run (callF (tblOf es) n) fn args
        | none => stk) = _
      have : tblOf es i = some e.f := by unfold tblOf; rw [he]; rfl
      rw [this]
    rw [hcl]
    refine fnG_of F S hps (by unfold Ent.N; rw [List.length_map]) fun cdv A outer s H E hgd hr => ?_
    refine chkSs_ok (X := cxOf (L2.CX P w) P w K mg base e.N e.x (defScope e.s) (He.ga K e.x) cdv A outer s H E) (ad := adOf es K) (ck := ckOf es cn e) ⟨⟨rfl, S.nd, rfl, rfl, fun _ _ => rfl, hgd, hr, h.cn _, fun b => ?_, fun t => ?_, h.free _ (by decide +kernel), h.free _ (by decide +kernel), fun f i' hf => ?_, ?_⟩, passes_of rfl, S.kind⟩ e.f.body _ hb
    · refine h.free _ ?_
      cases b <;> decide +kernel
    · refine h.free _ ?_
      cases t <;> decide +kernel
    · have hf : (es[f]?).map Ent.fi = some i' := hf
      obtain ⟨e', h1, h2⟩ := Option.map_eq_some_iff.mp hf
      subst h2
      have hm' : e' ∈ es := List.mem_of_getElem? h1
      obtain ⟨fd', F'⟩ := h.def_ e' hm'
      have hok' := List.all_eq_true.mp ok e' hm'
      unfold Ent.ok at hok'
      refine ⟨He.ga K e'.x, ?_, h.glo e' hm', F'.kp, fd', e'.ps, (scOk_ok (two hok').1).2, fun j hj => AllP.get bd e' hm' K fd' _ F' j hj, fun fr' hfr' => ?_⟩
      · show (es[f]?).map _ = _
        rw [h1]
        rfl
      · exact tab_fnG h ok bd n f e' h1 fd' F' fr' hfr'
    · exact passes_call (takes_of rfl rfl rfl rfl) fun _ _ _ _ q => q
end
/-! ### the Hook -/
def cnB (cn : List (String × GC)) (K : PySem.W.Frag) : Bool := cn.all fun p => match p.2 with
  | .i z => (He.Fa.int (Str.ofString p.1) z).ok K
  | .s y => (He.Fa.str (Str.ofString p.1) (Str.ofString y)).ok K
  | .p a b => (He.Fa.glo (Str.ofString p.1)).ok K && He.tupB K (Str.ofString p.1) [.int a, .int b]
def faOf (es : List Ent) : List He.Fa := es.map (fun e => .glo e.x) ++ freeN.map .free
def fnD (es : List Ent) : List He.DefD := es.map Ent.d
abbrev AlY : Type := He.AlD × Bool
def obsY (n : Nat) (fa : List He.Fa) (fn : List He.DefD) (ex : PySem.W.Frag → Bool) (g : Addr → Option Obj) : AlY := (He.obsD fa fn (He.frG g (He.asD g n)), ex (He.frG g (He.asD g n)))
def hookY (n : Nat) (fa : List He.Fa) (fn : List He.DefD) (ex : PySem.W.Frag → Bool) : PySem.W.Hook where
  α := AlY
  obs := fun s => obsY n fa fn ex s.heap.get?
  val := fun _ => (He.valD fn, true)
  says := fun _ h => ∃ K : PySem.W.Frag, K.In h ∧ He.SaysD fa fn K ∧ ex K = true
  of := fun _ _ e => ⟨_, He.frG_in, congrArg (fun z : AlY => z.1) e, congrArg (fun z : AlY => z.2) e⟩
  keeps := fun _ _ _ ⟨K, hK, c⟩ k => ⟨K, PySem.W.Frag.In.keeps hK k, c⟩
theorem obsY_eq {n : Nat} {fa : List He.Fa} {fn : List He.DefD} {ex : PySem.W.Frag → Bool} {g : Addr → Option Obj} {s : Shared} (h : ∀ a, g a = s.heap.get? a) : obsY n fa fn ex g = (hookY n fa fn ex).obs s := by
  have e : g = s.heap.get? := funext h
  rw [e] <;> rfl
theorem facts_of {es : List Ent} {cn : List (String × GC)} {K : PySem.W.Frag} {h : Heap} {mg : Str → Option Value} (X : K.In h) (G : h.Ns mainGlobals mg) (c : He.SaysD (faOf es) (fnD es) K) (k : cnB cn K = true) : Facts es cn K mg := by
  have fact : ∀ f ∈ faOf es, f.ok K = true := fun f hf => by
    obtain ⟨i, hi, e⟩ := List.mem_iff_getElem.mp hf
    exact c.fact i (f := f) (by rw [List.getElem?_eq_getElem hi, e])
  refine ⟨fun e he => ?_, fun e he => ?_, fun x hx => ?_, fun ad p hp => ?_⟩
  · obtain ⟨i, hi, q⟩ := List.mem_iff_getElem.mp (show e.d ∈ fnD es from List.mem_map.mpr ⟨e, he, rfl⟩)
    obtain ⟨fd, F⟩ := c.def_ i (d := e.d) (by rw [List.getElem?_eq_getElem hi, q])
    refine ⟨fd, ?_⟩
    have e1 : e.d.dvs K = e.dfl.map V.int := by
      show (e.dfl.map He.Dv.int).map (He.Dv.v K) = _
      rw [List.map_map]
      rfl
    rw [e1] at F
    exact F
  · exact He.glo_ok X G (fact _ (List.mem_append_left _ (List.mem_map.mpr ⟨e, he, rfl⟩)))
  · exact He.free_ok X G (fact _ (List.mem_append_right _ (List.mem_map.mpr ⟨x, hx, rfl⟩)))
  · have q := List.all_eq_true.mp k p hp
    obtain ⟨x, g⟩ := p
    cases g with
    | i z =>
      obtain ⟨t, e⟩ := He.int_ok X G q
      exact ⟨_, .int z, e, ⟨t, rfl⟩, fun F => .int z⟩
    | s y =>
      obtain ⟨t, e⟩ := He.str_ok X G q
      exact ⟨_, .str (Str.ofString y), e, ⟨t, rfl⟩, fun F => .str _⟩
    | p a b =>
      obtain ⟨q1, q2⟩ := two q
      refine ⟨_, .ref (He.ga K (Str.ofString x)), He.glo_ok X G q1, rfl, fun F => ?_⟩
      exact .tup (He.tupB_ok q2 F) (show 2 ≤ lim from by decide) (.cons (.int a) (.cons (.int b) .nil))
/-! ### the law's end -/
theorem lawG {P : Program} {w : World} {K : PySem.W.Frag} {mg mb : Str → Option Value} {k : Nat} {f a : Addr} {fd : FuncData} {x : Str} {sp : Sp} {s1 : Shared} {us : List Value} {ns : List Int}
    (kx : K.In s1.heap) (n1 : s1.heap.Ns mainGlobals mg) (n2 : s1.heap.Ns builtinsNs mb) (n3 : ∀ y : Str, y ≠ "__name__" → mb y = bootBuiltins y) (nl : s1.heap.NoLimit) (gg : s1.gens = #[])
    (oa : s1.heap.get? a = some { cls := .type "list", data := .seq us.toArray }) (ii : IntsAre us ns) (hl : ns.length ≤ sizeLine) (rm : Room k callerA)
    (F : ∀ base : Heap, K.In base → base.Ns mainGlobals mg → FnG P w K mg base (L2.CX P w) k f fd [x] sp) (bn : ∀ (s : Shared) (u : Value), BindsTo s fd ⟨[u], []⟩ [(x, u)])
    (law : ∀ H : Hp, Only H → SqL K H a (ns.map V.int) → sp [.ref a] H (fun v _ => v = .bl true) fun _ _ _ => False) :
    codeAny (model P w) callerA (.call (.ref f) ⟨[.ref a], []⟩) (fun r s' => r = .ok (.ret (.bool true)) ∧ OldK s1.heap s'.heap ∧ s'.os = s1.os ∧ AllBare s'.gens) s1 := by
  have rv := vals_ints ii
  have lv := ii.length
  have core : ∀ T : Hp, Only T → SqL K T a (ns.map V.int) → HOk P w T s1.heap → (∀ b, T b ≠ none → b = a) → (T a ≠ none → K.lookup a = none) →
      codeAny (model P w) callerA (.call (.ref f) ⟨[.ref a], []⟩) (fun r s' => r = .ok (.ret (.bool true)) ∧ OldK s1.heap s'.heap ∧ s'.os = s1.os ∧ AllBare s'.gens) s1 := by
    intro T tO tS tk tA tK
    have out : ∀ {b : Addr}, b ≠ a → T b = none := fun {b} ne => by
      cases q : T b with
      | none => rfl
      | some u => exact absurd (tA b (by rw [q]; simp)) ne
    have kb : K.In (hidT s1.heap T) := fun b o e => by
      refine hidT_get (kx b o e) ?_
      by_cases z : b = a
      · subst z
        cases q : T b with
        | none => rfl
        | some u =>
          rw [tK (by rw [q]; simp)] at e
          cases e
      · exact out z
    have nk : ∀ {b : Addr} {m : Str → Option Value}, s1.heap.Ns b m → (hidT s1.heap T).Ns b m := fun {b m} ⟨o, es, ep, e, d, r⟩ => by
      refine ⟨o, es, ep, hidT_get e (out fun z => ?_), d, r⟩
      rw [z, oa] at e
      cases e
      cases d
    obtain ⟨mc, l1, l2⟩ := nl
    have md : Mod K mg (hidT s1.heap T) := ⟨kb, nk n1, ⟨mb, nk n2, n3⟩, ⟨mc, nk l1, l2⟩⟩
    have ev : Env0 P w K mg (hidT s1.heap T) callerA [] s1 T := ⟨rfl, md, fun _ _ e => of_hidT e, Nat.le_of_eq (hidT_size _ _), trivial, fun _ hb => (by cases hb), tk, .of_eq gg⟩
    have go := (F _ kb (nk n1)).go callerA [] s1 T ⟨[.ref a], []⟩ [.ref a] [.ref a] _ _ rfl rm ev (bn s1 (.ref a)) (.cons rfl .nil) (law T tO tS)
    refine codeAny_mono go fun r s' h => ?_
    match r, h with
    | .error e, h =>
      obtain ⟨_, _, _, _, _, _, _, _, _, _, _, _, z⟩ := h
      exact z.elim
    | .ok (.ret u), h =>
      obtain ⟨v, T', os, br, un, ok', rr, q⟩ := h
      have q : v = .bl true := q
      subst q
      have eu : u = Value.bool true := rr
      subst eu
      refine ⟨rfl, OldK.of_keep fun b o e => ?_, os, br⟩
      cases q : T b with
      | none => exact un.keep b o e q (fun z => by cases z) (fun z => by cases z)
      | some u =>
        rcases tO b with z | ⟨ob, xs, z⟩
        · rw [q] at z
          cases z
        · obtain ⟨e1, _⟩ := tk b _ z
          obtain ⟨e2, _⟩ := ok' b _ (un.frzs b ob _ z)
          rw [e] at e1
          cases e1
          exact e2
  cases hk : K.lookup a with
  | some o =>
    have e := kx a o hk
    rw [oa] at e
    cases e
    exact core (fun _ => none) (fun _ => .inl rfl) (.inr ⟨_, us.toArray, _, hk, rfl, rfl, rfl, by rw [List.size_toArray, lv]; exact hl, by simpa using rv⟩) (fun _ _ z => (by cases z)) (fun _ z => absurd rfl z) (fun z => absurd rfl z)
  | none =>
    refine core (fun b => if b = a then some (.frz { cls := .type "list", data := .seq us.toArray } (.lst (ns.map V.int))) else none) (fun b => ?_) (.inl (.inr ⟨{ cls := .type "list", data := .seq us.toArray }, if_pos rfl⟩)) (fun b u z => ?_) (fun b z => ?_) fun _ => hk
    · by_cases q : b = a
      · exact .inr ⟨_, _, if_pos q⟩
      · exact .inl (if_neg q)
    · by_cases q : b = a
      · have z := (if_pos q).symm.trans z
        cases z
        subst q
        exact ⟨oa, by rw [List.length_map]; exact hl, us, _, rv, oa⟩
      · have z := (if_neg q).symm.trans z
        cases z
    · by_cases q : b = a
      · exact q
      · exact absurd (if_neg q) z
theorem ints_rep2 {K : PySem.W.Frag} {ad : Nat → Option Addr} {F : Hp} : ∀ ns : List Int, RepA K ad F (ns.map PV.int) (ns.map V.int)
  | [] => .nil
  | n :: ns => .cons (.int n) (ints_rep2 ns)
/-- the law's promise from the evaluator's answer -/
theorem sp_of {K : PySem.W.Frag} {ad : Nat → Option Addr} {m : List SV → M SV} {H : Hp} {a : Addr} {ns : List Int} (hs : SqL K H a (ns.map V.int)) (hl : ns.length ≤ lim) (hm : m [.d (.fz (ns.map .int))] [] = some (.ok (.d (.bl true)) [])) :
    spF K ad false m [.ref a] H (fun v _ => v = .bl true) fun _ _ _ => False := by
  refine ⟨⟨H, [], []⟩, [.d (.fz (ns.map .int))], [], ⟨Ex.refl _, rfl, fun l c as h _ => by simp at h, by simp, fun a ha => by simp at ha, fun q hq => by simp at hq⟩, .cons (.fz hs (by rw [List.length_map]; exact hl) (ints_rep2 ns)) .nil, ?_⟩
  rw [hm]
  intro g' H' w _ _ r
  have r : Rep K ad g'.F (.bl true) w := r
  cases r
  rfl
end Fo
end -- FoTop

section -- FoNum
set_option Elab.async false
set_option linter.all false
set_option maxRecDepth 100000
set_option maxHeartbeats 1000000
/-! FoNum: runs of the evaluator: laws; fractions; the loop of the common divisor. -/
namespace Fo
open PySem
/-! ### pure runs -/
section
variable {α β γ : Type}
theorem bnd_bnd (m : M α) (f : α → M β) (k : β → M γ) : bnd (bnd m f) k = bnd m fun a => bnd (f a) k := by
  funext st
  unfold bnd
  cases m st with
  | none => rfl
  | some r => cases r <;> rfl
theorem rd_d (v : PV) : rd (.d v) = ok v := by rfl
theorem ofO_some (a : α) : ofO (some a) = ok a := by rfl
theorem asD_d (v : PV) : asD (.d v) = ok v := by rfl
theorem asI_int (i : Int) : asI (.d (.int i)) = ok i := by rfl
theorem asB_bl (b : Bool) : asB (.d (.bl b)) = ok b := by rfl
theorem op2_d (o : Op2) (x y : PV) : op2 o (.d x) (.d y) = ofO (op2v o x y) := by rfl
theorem cmp2_d (o : Cm) (x y : PV) : cmp2 o (.d x) (.d y) = ofO (cmpv o x y) := by rfl
theorem ix2_d (x y : PV) : ix2 (.d x) (.d y) = ofO (ixv x y) := by rfl
theorem biOf1 (b : Bi) (x : PV) : biOf b [.d x] = ofO (biv b [x]) := by rfl
theorem biOf2 (b : Bi) (x y : PV) : biOf b [.d x, .d y] = ofO (biv b [x, y]) := by rfl
theorem ite_ok {c : Prop} [Decidable c] (a b : α) : (if c then ok a else ok b) = ok (if c then a else b) := by
  split <;> rfl
theorem run_rt {cl : Cl} {fn : Fn} {args : List SV} {v : PV} (hl : args.length = fn.np) (h : evSs cl fn.body (args.map some ++ List.replicate (fn.N.length - args.length) none) = ok (.rt (.d v))) : run cl fn args = ok (.d v) := by
  funext st
  unfold run
  rw [if_pos hl, h]
  show some (Res.ok (SV.d v) (st.take st.length)) = some (.ok (.d v) st)
  rw [List.take_length]
theorem run_nx {cl : Cl} {fn : Fn} {args : List SV} {sl : Slots} (hl : args.length = fn.np) (h : evSs cl fn.body (args.map some ++ List.replicate (fn.N.length - args.length) none) = ok (.nx sl)) : run cl fn args = ok (.d .non) := by
  funext st
  unfold run
  rw [if_pos hl, h]
  show some (Res.ok (SV.d .non) (st.take st.length)) = some (.ok (.d .non) st)
  rw [List.take_length]
theorem callF_at {tbl : Nat → Option Fn} {n f : Nat} {fn : Fn} {args : List SV} (h : tbl f = some fn) : callF tbl (n + 1) f args = run (callF tbl n) fn args := by
  show (match tbl f with
    | some fn => run (callF tbl n) fn args
    | none => stk) = _
  rw [h]
end
/-! ### sizes -/
theorem log2_lt {n k : Nat} (h : n < 2 ^ k) (hk : 0 < k) : n.log2 < k := by
  by_cases z : n = 0
  · subst z
    have : Nat.log2 0 = 0 := by decide
    omega
  · exact (Nat.log2_lt z).mpr h
theorem mulOk_of {i j : Int} {k l : Nat} (h1 : i.natAbs < 2 ^ k) (h2 : j.natAbs < 2 ^ l) (h : k + l ≤ 100000000) : mulOk i j = true := by
  unfold mulOk
  refine decide_eq_true ?_
  have e1 : i.natAbs.log2 ≤ k := by
    rcases Nat.eq_zero_or_pos k with z | z
    · subst z
      have : i.natAbs = 0 := by omega
      rw [this]
      decide
    · exact Nat.le_of_lt (log2_lt h1 z)
  have e2 : j.natAbs.log2 < l ∨ j.natAbs = 0 := by
    rcases Nat.eq_zero_or_pos l with z | z
    · subst z
      right
      omega
    · exact .inl (log2_lt h2 z)
  rcases e2 with e2 | e2
  · omega
  · have e3 : j.natAbs.log2 = 0 := by rw [e2]; decide
    have e4 : k = 0 → i.natAbs.log2 = 0 := fun z => by
      subst z
      have : i.natAbs = 0 := by omega
      rw [this]
      decide
    rcases Nat.eq_zero_or_pos k with z | z
    · rw [e4 z, e3]; decide
    · have := log2_lt h1 z
      omega
/-! ### the loop of the common divisor -/
def iv (n : Nat) : Option SV := some (.d (.int n))
def st2 (sl : Slots) (i j : Nat) (a b : Nat) : Slots := (sl.set i (iv a)).set j (iv b)
theorem st2_i {sl : Slots} {i j a b : Nat} (hi : i < sl.length) (hj : j < sl.length) (ne : i ≠ j) : (st2 sl i j a b)[i]? = some (iv a) := by
  unfold st2
  rw [List.getElem?_set_ne (Ne.symm ne), List.getElem?_set_self hi]
theorem st2_j {sl : Slots} {i j a b : Nat} (hj : j < sl.length) : (st2 sl i j a b)[j]? = some (iv b) := by
  unfold st2
  rw [List.getElem?_set_self (by rw [List.length_set]; exact hj)]
theorem st2_set {sl : Slots} {i j a b c d : Nat} (ne : i ≠ j) : ((st2 sl i j a b).set i (iv c)).set j (iv d) = st2 sl i j c d := by
  unfold st2
  rw [List.set_comm _ _ (Ne.symm ne), List.set_set, List.set_set]
def gcdT (j : Nat) : E := .cmp .gt (.slot j) (.int 0)
def gcdB (i j : Nat) : Ss := .cons (.par i j (.slot j) (.bin .mod (.slot i) (.slot j))) .nil
theorem fmod_nat (a b : Nat) : Int.fmod (a : Int) (b : Int) = ((a % b : Nat) : Int) := by
  rw [Int.fmod_eq_emod_of_nonneg _ (Int.natCast_nonneg b)]
  rfl
theorem gcd_t {cl : Cl} {sl : Slots} {i j a b : Nat} (hi : i < sl.length) (hj : j < sl.length) (ne : i ≠ j) : bnd (evE cl (gcdT j) (st2 sl i j a b)) asB = ok (decide (0 < b)) := by
  unfold gcdT
  simp only [evE, st2_j hj, iv, ok_bnd, cmp2_d, cmpv, ofO_some, asB_bl]
  congr 1
  exact decide_eq_decide.mpr (by omega)
theorem gcd_b {cl : Cl} {sl : Slots} {i j a b : Nat} (hi : i < sl.length) (hj : j < sl.length) (ne : i ≠ j) (hb : 0 < b) : evSs cl (gcdB i j) (st2 sl i j a b) = ok (.nx (st2 sl i j b (a % b))) := by
  unfold gcdB
  have hb' : (b : Int) ≠ 0 := by omega
  simp only [evSs, evS, evE, st2_i hi hj ne, st2_j hj, iv, ok_bnd, op2_d, op2v, if_pos hb', ofO_some, fmod_nat]
  have := st2_set (sl := sl) (a := a) (b := b) (c := b) (d := a % b) ne
  simp only [iv] at this
  rw [this]
theorem gcd_go {cl : Cl} {sl : Slots} {i j : Nat} (hi : i < sl.length) (hj : j < sl.length) (ne : i ≠ j) : ∀ (k n a b : Nat), 2 * k + 1 ≤ n → b < 2 ^ k →
    whlGo (fun s => bnd (evE cl (gcdT j) s) asB) (evSs cl (gcdB i j)) n (st2 sl i j a b) = ok (.nx (st2 sl i j (Nat.gcd a b) 0)) := by
  have stop : ∀ n a, 1 ≤ n → whlGo (fun s => bnd (evE cl (gcdT j) s) asB) (evSs cl (gcdB i j)) n (st2 sl i j a 0) = ok (.nx (st2 sl i j a 0)) := by
    intro n a hn
    obtain ⟨m, rfl⟩ : ∃ m, n = m + 1 := ⟨n - 1, by omega⟩
    unfold whlGo
    rw [gcd_t hi hj ne]
    rfl
  have step : ∀ n a b, 0 < b → whlGo (fun s => bnd (evE cl (gcdT j) s) asB) (evSs cl (gcdB i j)) (n + 1) (st2 sl i j a b) = whlGo (fun s => bnd (evE cl (gcdT j) s) asB) (evSs cl (gcdB i j)) n (st2 sl i j b (a % b)) := by
    intro n a b hb
    rw [whlGo]
    rw [gcd_t hi hj ne, decide_eq_true hb]
    show bnd (evSs cl (gcdB i j) (st2 sl i j a b)) _ = _
    rw [gcd_b hi hj ne hb]
    rfl
  intro k
  induction k with
  | zero =>
    intro n a b hn hb
    have : b = 0 := by omega
    subst this
    rw [Nat.gcd_zero_right]
    exact stop n a (by omega)
  | succ k ih =>
    intro n a b hn hb
    by_cases b0 : b = 0
    · subst b0
      rw [Nat.gcd_zero_right]
      exact stop n a (by omega)
    · have hbp : 0 < b := Nat.pos_of_ne_zero b0
      obtain ⟨m, rfl⟩ : ∃ m, n = m + 2 := ⟨n - 2, by omega⟩
      rw [step (m + 1) a b hbp]
      have g1 : Nat.gcd a b = Nat.gcd b (a % b) := by rw [Nat.gcd_comm a b, Nat.gcd_rec b a, Nat.gcd_comm]
      rw [g1]
      have hr : a % b < b := Nat.mod_lt a hbp
      by_cases r0 : a % b = 0
      · rw [r0, Nat.gcd_zero_right]
        exact stop (m + 1) b (by omega)
      · have hrp : 0 < a % b := Nat.pos_of_ne_zero r0
        rw [step m b (a % b) hrp]
        have g2 : Nat.gcd b (a % b) = Nat.gcd (a % b) (b % (a % b)) := by rw [Nat.gcd_comm b, Nat.gcd_rec (a % b) b, Nat.gcd_comm]
        rw [g2]
        refine ih m (a % b) (b % (a % b)) (by omega) ?_
        generalize a % b = r at hr hrp
        have h1 : b % r < r := Nat.mod_lt b hrp
        have h2 : b % r + r ≤ b := by
          have e := Nat.div_add_mod b r
          have q : 1 ≤ b / r := (Nat.one_le_div_iff hrp).mpr (Nat.le_of_lt hr)
          have : r ≤ r * (b / r) := Nat.le_mul_of_pos_right r q
          omega
        rw [Nat.pow_succ] at hb
        omega
theorem fuel_big {k : Nat} (h : k ≤ 1000000000) : 2 * k + 1 ≤ fuel := by
  have : (2000000001 : Nat) ≤ fuel := by unfold fuel; decide +kernel
  omega
theorem gcd_loop {cl : Cl} {sl : Slots} {i j a b : Nat} (hi : i < sl.length) (hj : j < sl.length) (ne : i ≠ j) {k : Nat} (hk : k ≤ 1000000000) (hb : b < 2 ^ k) :
    evS cl (.whl (gcdT j) (gcdB i j)) (st2 sl i j a b) = ok (.nx (st2 sl i j (Nat.gcd a b) 0)) := by
  rw [evS]
  exact gcd_go hi hj ne k fuel a b (fuel_big hk) hb
/-! ### fractions -/
def fr (q : Rat) : PV := .tup [.int q.num, .int q.den]
theorem abs_nat (i : Int) : (if i < 0 then -i else i) = (i.natAbs : Int) := by
  split <;> omega
/-- both numbers below 2^k -/
def Sz (k : Nat) (q : Rat) : Prop := q.num.natAbs < 2 ^ k ∧ q.den < 2 ^ k
theorem Sz.mono {k l : Nat} {q : Rat} (h : Sz k q) (hl : k ≤ l) : Sz l q := ⟨Nat.lt_of_lt_of_le h.1 (Nat.pow_le_pow_right (by decide) hl), Nat.lt_of_lt_of_le h.2 (Nat.pow_le_pow_right (by decide) hl)⟩
theorem div_le (a b : Nat) : a / b ≤ a := Nat.div_le_self a b
theorem sz_divInt {k : Nat} {t b : Int} (h1 : t.natAbs < 2 ^ k) (h2 : b.natAbs < 2 ^ k) (hk : 0 < k) : Sz k (Rat.divInt t b) := by
  refine ⟨?_, ?_⟩
  · rw [Rat.num_divInt]
    refine Nat.lt_of_le_of_lt ?_ h1
    have e : (b.sign * t / (b.gcd t : Int)).natAbs ≤ (b.sign * t).natAbs := by
      rw [Int.natAbs_ediv_of_dvd]
      · exact Nat.div_le_self _ _
      · exact Int.dvd_mul_of_dvd_right (Int.gcd_dvd_right b t)
    refine Nat.le_trans e ?_
    rw [Int.natAbs_mul]
    have : b.sign.natAbs ≤ 1 := by
      rcases Int.lt_trichotomy b 0 with z | z | z
      · rw [Int.sign_eq_neg_one_of_neg z]; decide
      · rw [z]; decide
      · rw [Int.sign_eq_one_of_pos z]; decide
    calc b.sign.natAbs * t.natAbs ≤ 1 * t.natAbs := Nat.mul_le_mul_right _ this
      _ = t.natAbs := Nat.one_mul _
  · rw [Rat.den_divInt]
    split
    · exact Nat.one_lt_two_pow (by omega)
    · exact Nat.lt_of_le_of_lt (Nat.div_le_self _ _) h2
theorem natAbs_mul_lt {i j : Int} {k l : Nat} (h1 : i.natAbs < 2 ^ k) (h2 : j.natAbs < 2 ^ l) : (i * j).natAbs < 2 ^ (k + l) := by
  rw [Int.natAbs_mul, Nat.pow_add]
  rcases Nat.eq_zero_or_pos j.natAbs with z | z
  · rw [z, Nat.mul_zero]
    exact Nat.mul_pos (Nat.two_pow_pos k) (Nat.two_pow_pos l)
  · exact Nat.lt_of_lt_of_le (Nat.mul_lt_mul_of_pos_right h1 z) (Nat.mul_le_mul_left _ (Nat.le_of_lt h2))
theorem natAbs_add_lt {i j : Int} {k : Nat} (h1 : i.natAbs < 2 ^ k) (h2 : j.natAbs < 2 ^ k) : (i + j).natAbs < 2 ^ (k + 1) := by
  have := Int.natAbs_add_le i j
  rw [Nat.pow_succ]
  omega
theorem add_divInt (p q : Rat) : p + q = Rat.divInt (p.num * q.den + q.num * p.den) (p.den * q.den) := by
  rw [Rat.add_def', ← Rat.divInt_ofNat]
  rfl
theorem mul_divInt (p q : Rat) : p * q = Rat.divInt (p.num * q.num) (p.den * q.den) := by
  rw [Rat.mul_def', ← Rat.divInt_ofNat]
  rfl
theorem div_divInt (p q : Rat) : p / q = Rat.divInt (p.num * q.den) (p.den * q.num) := by
  rw [Rat.div_def]
  conv => lhs; rw [← Rat.num_divInt_den p, Rat.inv_def, Rat.divInt_mul_divInt]
theorem Sz.pos {k : Nat} {q : Rat} (h : Sz k q) : 0 < k := by
  rcases Nat.eq_zero_or_pos k with z | z
  · subst z
    have := h.2
    have := q.den_pos
    omega
  · exact z
theorem den_abs (q : Rat) : ((q.den : Int)).natAbs = q.den := rfl
theorem Sz.add {k l : Nat} {p q : Rat} (hp : Sz k p) (hq : Sz l q) : Sz (k + l + 1) (p + q) := by
  rw [add_divInt]
  refine sz_divInt (natAbs_add_lt ?_ ?_) ?_ (by omega)
  · exact natAbs_mul_lt hp.1 hq.2
  · rw [Nat.add_comm]; exact natAbs_mul_lt hq.1 hp.2
  · exact Nat.lt_of_lt_of_le (natAbs_mul_lt hp.2 hq.2) (Nat.pow_le_pow_right (by decide) (by omega))
theorem Sz.mul {k l : Nat} {p q : Rat} (hp : Sz k p) (hq : Sz l q) : Sz (k + l) (p * q) := by
  rw [mul_divInt]
  have := hp.pos
  exact sz_divInt (natAbs_mul_lt hp.1 hq.1) (natAbs_mul_lt hp.2 hq.2) (by omega)
theorem Sz.div {k l : Nat} {p q : Rat} (hp : Sz k p) (hq : Sz l q) : Sz (k + l) (p / q) := by
  rw [div_divInt]
  have := hp.pos
  exact sz_divInt (natAbs_mul_lt hp.1 hq.2) (natAbs_mul_lt hp.2 hq.1) (by omega)
theorem Sz.neg {k : Nat} {p : Rat} (hp : Sz k p) : Sz k (-p) := by
  refine ⟨?_, hp.2⟩
  rw [Rat.neg_num, Int.natAbs_neg]
  exact hp.1
end Fo
end -- FoNum

section -- FoNum2
set_option Elab.async false
set_option linter.all false
set_option maxRecDepth 100000
set_option maxHeartbeats 1000000
/-! FoNum2: facts for the fractions' defs. -/
namespace Fo
open PySem
theorem at0 {a b : PV} : L2.atI [a, b] 0 = some a := by rfl
theorem at1 {a b : PV} : L2.atI [a, b] 1 = some b := by rfl
theorem pyl_of {i j : Int} (h : i.natAbs < 2 ^ 13000) : Builtin.divisionGoesByPylong i j = false := by
  have e : i.natAbs.log2 < 13000 := log2_lt h (by decide)
  have d1 : (if (i == 0) = true then 0 else i.natAbs.log2 / 30 + 1) ≤ 434 := by
    split <;> omega
  have key : ∀ x y : Nat, x ≤ 434 → (decide (y > 300) && decide (x > y + 150)) = false := fun x y hx => by
    rw [Bool.and_eq_false_iff]
    by_cases c : y > 300
    · exact .inr (decide_eq_false (by omega))
    · exact .inl (decide_eq_false c)
  exact key _ _ d1
theorem fdiv_gcd {t b : Int} (g : Nat) : Int.fdiv t (g : Int) = t / (g : Int) := Int.fdiv_eq_ediv_of_nonneg _ (Int.natCast_nonneg g)
/-- the lowest terms -/
theorem low_pos {t b : Int} (hb : 0 < b) : fr (Rat.divInt t b) = .tup [.int (t / (Int.gcd t b : Int)), .int (b / (Int.gcd t b : Int))] := by
  unfold fr
  have h0 : b ≠ 0 := by omega
  rw [Rat.num_divInt, Rat.den_divInt, if_neg h0, Int.sign_eq_one_of_pos hb, Int.one_mul, Int.gcd_comm b t]
  have e : ((b.natAbs / Int.gcd t b : Nat) : Int) = b / (Int.gcd t b : Int) := by
    rw [Int.natCast_ediv]
    congr 1
    omega
  rw [e]
theorem low_neg {t b : Int} (hb : b < 0) : fr (Rat.divInt t b) = .tup [.int ((0 - t) / (Int.gcd t b : Int)), .int ((0 - b) / (Int.gcd t b : Int))] := by
  unfold fr
  have h0 : b ≠ 0 := by omega
  rw [Rat.num_divInt, Rat.den_divInt, if_neg h0, Int.sign_eq_neg_one_of_neg hb, Int.gcd_comm b t]
  have e : ((b.natAbs / Int.gcd t b : Nat) : Int) = (0 - b) / (Int.gcd t b : Int) := by
    rw [Int.natCast_ediv]
    congr 1
    omega
  rw [e]
  have e2 : -1 * t = 0 - t := by omega
  rw [e2]
theorem gcd_pos' {t b : Int} (hb : b ≠ 0) : (0 : Int) < (Int.gcd t b : Int) := by
  have := Int.gcd_pos_of_ne_zero_right t hb
  omega
theorem gcd_abs (t b : Int) : Nat.gcd t.natAbs b.natAbs = Int.gcd t b := rfl
theorem fr_den_pos (q : Rat) : (1 : Int) ≤ (q.den : Int) := by
  have := q.den_pos
  omega
theorem fr_gcd (q : Rat) : Int.gcd q.num (q.den : Int) = 1 := q.reduced
theorem one_divInt (p : Rat) (h : p.den = 1) : p = Rat.divInt p.num 1 := by
  conv => lhs; rw [← Rat.num_divInt_den p, h]
  rfl
theorem add_ones {p q : Rat} (hp : p.den = 1) (hq : q.den = 1) : fr (p + q) = .tup [.int (p.num + q.num), .int 1] := by
  have e : p + q = ((p.num + q.num : Int) : Rat) := by
    rw [Rat.add_def', hp, hq]
    simp [Rat.mkRat_def, Rat.normalize_eq]
  rw [e]
  rfl
theorem mul_ones {p q : Rat} (hp : p.den = 1) (hq : q.den = 1) : fr (p * q) = .tup [.int (p.num * q.num), .int 1] := by
  have e : p * q = ((p.num * q.num : Int) : Rat) := by
    rw [Rat.mul_def', hp, hq]
    simp [Rat.mkRat_def, Rat.normalize_eq]
  rw [e]
  rfl
theorem eqv_int (i j : Int) : eqv (.int i) (.int j) = some (decide (i = j)) := by
  show eqvD (.int i) (.int j) = _
  unfold eqvD
  simp only [PV.dat]
  have s : ∀ i : Int, SeqAt.shaped (.int i) = true := fun i => by rfl
  rw [if_pos ⟨s i, s j⟩]
  simp only [PyData.eqv]
  first
    | rfl
    | (congr 1; exact Bool.eq_iff_iff.mpr (by simp))
end Fo
namespace Fo
open PySem
theorem fr_zero : fr 0 = .tup [.int 0, .int 1] := rfl
theorem fr_one : fr 1 = .tup [.int 1, .int 1] := rfl
theorem dat_fr (q : Rat) : (fr q).dat = some (.tuple [.int q.num, .int q.den]) := rfl
theorem shaped_fr (q : Rat) : SeqAt.shaped (.tuple [.int q.num, .int q.den]) = true := by rfl
theorem eqv_fr (p q : Rat) : eqv (fr p) (fr q) = some (decide (p = q)) := by
  show eqvD (fr p) (fr q) = _
  unfold eqvD
  rw [dat_fr, dat_fr]
  dsimp only
  rw [if_pos ⟨shaped_fr p, shaped_fr q⟩]
  congr 1
  rw [Bool.eq_iff_iff, decide_eq_true_iff]
  simp only [PyData.eqv, PyData.eqvAll, Bool.and_true, Bool.and_eq_true, beq_iff_eq]
  constructor
  · rintro ⟨h1, h2⟩
    exact Rat.ext h1 (by omega)
  · intro h
    subst h
    exact ⟨rfl, rfl⟩
theorem rng_nat {c : Nat} (h : c ≤ 1000000) : rngOf 0 (c : Int) = some ((List.range c).map fun k => .int (0 + (k : Nat))) := by
  unfold rngOf
  have e1 : (-(2 ^ 62) ≤ (0 : Int)) := by decide
  have e2 : ((0 : Int) < 2 ^ 62) := by decide
  have e3 : (1000000 : Int) < 2 ^ 62 := by decide
  have e4 : -(2 ^ 62) ≤ (c : Int) := Int.le_trans e1 (Int.natCast_nonneg c)
  have e5 : (c : Int) < 2 ^ 62 := Int.lt_of_le_of_lt (by omega) e3
  rw [if_pos ⟨e1, e2, e4, e5⟩]
  rfl
end Fo
end -- FoNum2

section -- FoEv
set_option Elab.async false
set_option linter.all false
set_option maxRecDepth 100000
set_option maxHeartbeats 1000000
/-! FoEv: the evaluator's steps, by name. -/
namespace Fo
open PySem
section
variable {cl : Cl} {sl : Slots} {a b c t : E} {es : Es} {i : Nat} {o o' : Cm}
theorem e_slot : evE cl (.slot i) sl = (match sl[i]? with
    | some (some v) => ok v
    | _ => stk) := by rw [evE] <;> rfl
theorem e_slot' {v : SV} (h : sl[i]? = some (some v)) : evE cl (.slot i) sl = ok v := by rw [evE, h]
theorem e_non : evE cl .non sl = ok (.d .non) := by rw [evE]
theorem e_bl {b : Bool} : evE cl (.bl b) sl = ok (.d (.bl b)) := by rw [evE]
theorem e_int {i : Int} : evE cl (.int i) sl = ok (.d (.int i)) := by rw [evE]
theorem e_str {x : String} : evE cl (.str x) sl = ok (.d (.str (Str.ofString x))) := by rw [evE]
theorem e_glob {x : String} {c : GC} : evE cl (.glob x c) sl = ok (.d c.val) := by rw [evE]
theorem e_fnv {f : Nat} : evE cl (.fnv f) sl = ok (.d (.fn f)) := by rw [evE]
theorem e_tup : evE cl (.tup es) sl = bnd (evs cl es sl) fun vs => bnd (dAll vs) fun xs => ok (.d (.tup xs)) := by rw [evE]
theorem e_lst : evE cl (.lst es) sl = bnd (evs cl es sl) fun vs => bnd (dAll vs) fun xs => ok (.d (.lst xs)) := by rw [evE]
theorem e_bin {o : Op2} : evE cl (.bin o a b) sl = bnd (evE cl a sl) fun x => bnd (evE cl b sl) fun y => bnd (op2 o x y) fun z => ok (.d z) := by rw [evE]
theorem e_neg : evE cl (.neg a) sl = bnd (evE cl a sl) fun x => bnd (asI x) fun i => ok (.d (.int (-i))) := by rw [evE]
theorem e_not : evE cl (.not a) sl = bnd (evE cl a sl) fun x => bnd (asB x) fun b => ok (.d (.bl (!b))) := by rw [evE]
theorem e_cmp : evE cl (.cmp o a b) sl = bnd (evE cl a sl) fun x => bnd (evE cl b sl) fun y => bnd (cmp2 o x y) fun b => ok (.d (.bl b)) := by rw [evE]
theorem e_chain : evE cl (.chain o o' a b c) sl = bnd (evE cl a sl) fun x => bnd (evE cl b sl) fun y => bnd (cmp2 o x y) fun k =>
      if k then bnd (evE cl c sl) fun z => bnd (cmp2 o' y z) fun k' => ok (.d (.bl k')) else ok (.d (.bl false)) := by rw [evE]
theorem e_and : evE cl (.and a b) sl = bnd (evE cl a sl) fun x => bnd (asB x) fun k => if k then evE cl b sl else ok (.d (.bl false)) := by rw [evE]
theorem e_or : evE cl (.or a b) sl = bnd (evE cl a sl) fun x => bnd (asB x) fun k => if k then ok (.d (.bl true)) else evE cl b sl := by rw [evE]
theorem e_one : evE cl (.one a) sl = evE cl a sl := by rw [evE]
theorem e_ifx : evE cl (.ifx t a b) sl = bnd (evE cl t sl) fun x => bnd (asB x) fun k => if k then evE cl a sl else evE cl b sl := by rw [evE]
theorem e_ix : evE cl (.ix a b) sl = bnd (evE cl a sl) fun x => bnd (evE cl b sl) fun y => bnd (ix2 x y) fun z => ok (.d z) := by rw [evE]
theorem e_cut {lo hi : Oe} : evE cl (.cut a lo hi) sl = bnd (evE cl a sl) fun x => bnd (evO cl lo sl) fun l => bnd (evO cl hi sl) fun h => bnd (rd x) fun v => bnd (ofO (cutv l h v)) fun z => ok (.d z) := by rw [evE]
theorem e_rev : evE cl (.rev a) sl = bnd (evE cl a sl) fun x => bnd (rd x) fun v => bnd (ofO (revv v)) fun z => ok (.d z) := by rw [evE]
theorem e_call {f : Nat} {ds : List Int} : evE cl (.call f es ds) sl = bnd (evs cl es sl) fun vs => cl f (vs ++ ds.map fun i => .d (.int i)) := by rw [evE]
theorem e_bi {b : Bi} : evE cl (.bi b es) sl = bnd (evs cl es sl) fun vs => bnd (biOf b vs) fun z => ok (.d z) := by rw [evE]
theorem e_isi {t : Ty} : evE cl (.isi a t) sl = bnd (evE cl a sl) fun x => bnd (asD x) fun v => bnd (ofO (tyOk t v)) fun b => ok (.d (.bl b)) := by rw [evE]
theorem a_nil : evs cl .nil sl = ok [] := by rw [evs]
theorem a_cons {e : E} : evs cl (.cons e es) sl = bnd (evE cl e sl) fun v => bnd (evs cl es sl) fun vs => ok (v :: vs) := by rw [evs]
theorem o_no : evO cl .no sl = ok none := by rw [evO]
theorem o_ye {e : E} : evO cl (.ye e) sl = bnd (evE cl e sl) fun x => bnd (asI x) fun i => ok (some i) := by rw [evO]
theorem w_r1 : evW cl (.rng1 a) sl = bnd (evE cl a sl) fun x => bnd (asI x) fun j => ofO (rngOf 0 j) := by rw [evW]
theorem w_r2 : evW cl (.rng2 a b) sl = bnd (evE cl a sl) fun x => bnd (evE cl b sl) fun y => bnd (asI x) fun i => bnd (asI y) fun j => ofO (rngOf i j) := by rw [evW]
theorem w_ov : evW cl (.over a) sl = bnd (evE cl a sl) fun x => bnd (asD x) fun v => ofO (items v) := by rw [evW]
theorem d_nil : dAll [] = ok [] := by rw [dAll]
theorem d_cons {v : PV} {vs : List SV} : dAll (.d v :: vs) = bnd (dAll vs) fun xs => ok (v :: xs) := by rw [dAll]
variable {ss ss1 ss2 : Ss} {s : S} {e f g : E} {j l : Nat}
theorem q_nil : evSs cl .nil sl = ok (.nx sl) := by rw [evSs]
theorem q_cons : evSs cl (.cons s ss) sl = bnd (evS cl s sl) fun o => match o with
    | .nx s' => evSs cl ss s'
    | o => ok o := by rw [evSs] <;> rfl
theorem q_set : evS cl (.set i e) sl = bnd (evE cl e sl) fun v => ok (.nx (sl.set i (some v))) := by rw [evS]
theorem q_par : evS cl (.par i j e f) sl = bnd (evE cl e sl) fun x => bnd (evE cl f sl) fun y => ok (.nx ((sl.set i (some x)).set j (some y))) := by rw [evS]
theorem q_par3 : evS cl (.par3 i j l e f g) sl = bnd (evE cl e sl) fun x => bnd (evE cl f sl) fun y => bnd (evE cl g sl) fun z => ok (.nx (((sl.set i (some x)).set j (some y)).set l (some z))) := by rw [evS]
theorem q_unp {is : List Nat} : evS cl (.unp is e) sl = bnd (evE cl e sl) fun x => bnd (asD x) fun v => bnd (ofO (bindT (.t is) v sl)) fun s => ok (.nx s) := by rw [evS]
theorem q_ifs : evS cl (.ifs t ss1 ss2) sl = bnd (evE cl t sl) fun x => bnd (asB x) fun k => if k then evSs cl ss1 sl else evSs cl ss2 sl := by rw [evS]
theorem q_ret : evS cl (.ret e) sl = bnd (evE cl e sl) fun v => ok (.rt v) := by rw [evS]
theorem q_ex : evS cl (.ex e) sl = bnd (evE cl e sl) fun _ => ok (.nx sl) := by rw [evS]
theorem q_for {tg : Tg} {w : W} : evS cl (.for tg w ss) sl = bnd (evW cl w sl) fun xs => forGo tg (evSs cl ss) xs sl := by rw [evS]
theorem q_seti : evS cl (.seti a b e) sl = bnd (evE cl e sl) fun x => bnd (asD x) fun v => bnd (evE cl a sl) fun o => bnd (evE cl b sl) fun y => bnd (asI y) fun i => match o with
    | .r l => bnd (cellSet l fun xs => (L2.ixN xs.length i).map fun j => xs.set j v) fun _ => ok (.nx sl)
    | _ => stk := by rw [evS] <;> rfl
def natL (c : Nat) : List PV := (List.range c).map fun k => .int (0 + (k : Nat))
theorem natL_len (c : Nat) : (natL c).length = c := by unfold natL; rw [List.length_map, List.length_range]
theorem w_rng {c : Nat} (h : c ≤ 1000000) (ha : evE cl a sl = ok (.d (.int c))) : evW cl (.rng1 a) sl = ok (natL c) := by
  rw [w_r1, ha, ok_bnd, asI_int, ok_bnd, rng_nat h]
  rfl
/-- a list by one term, all taken -/
theorem e_lcm {w : W} {tg : Tg} {xs : List PV} {sf : PV → Slots} {f : PV → PV} (hw : evW cl w sl = ok xs) (hl : xs.length ≤ lim) (hb : ∀ x ∈ xs, bindT tg x sl = some (sf x)) (he : ∀ x ∈ xs, evE cl e (sf x) = ok (.d (f x))) :
    evE cl (.lc w tg .no e) sl = ok (.d (.lst (xs.map f))) := by
  have key : ∀ (ys acc : List PV), (∀ y ∈ ys, y ∈ xs) → lcGo sl tg (evC cl .no) (fun s => bnd (evE cl e s) asD) ys acc = ok (acc ++ ys.map f) := by
    intro ys
    induction ys with
    | nil => intro acc _; rw [lcGo, List.map_nil, List.append_nil]
    | cons y ys ih =>
      intro acc hy
      have hy0 := hy y List.mem_cons_self
      rw [lcGo, hb y hy0]
      show bnd (evC cl .no (sf y)) _ = _
      rw [show evC cl .no (sf y) = ok true from by rw [evC], ok_bnd, if_pos rfl]
      show bnd (bnd (evE cl e (sf y)) asD) _ = _
      rw [he y hy0, ok_bnd, asD_d, ok_bnd, ih _ fun z hz => hy z (List.mem_cons_of_mem _ hz), List.map_cons, List.append_assoc]
      rfl
  rw [evE, hw, ok_bnd, if_pos hl, key xs [] fun _ h => h]
  rfl
end
section
variable {i j : Int} {x y : PV} {xs ys : List PV} {b : Bool} {z w : Str}
theorem v_add : op2v .add (.int i) (.int j) = some (.int (i + j)) := by rfl
theorem v_sub : op2v .sub (.int i) (.int j) = some (.int (i - j)) := by rfl
theorem v_mul : op2v .mul (.int i) (.int j) = if mulOk i j = true then some (.int (i * j)) else none := by rfl
theorem v_fdiv : op2v .fdiv (.int i) (.int j) = if j ≠ 0 ∧ Builtin.divisionGoesByPylong i j = false then some (.int (i.fdiv j)) else none := by rfl
theorem v_mod : op2v .mod (.int i) (.int j) = if j ≠ 0 then some (.int (i.fmod j)) else none := by rfl
theorem v_pow : op2v .pow (.int i) (.int j) = if powOk i j = true then some (.int (i ^ j.toNat)) else none := by rfl
theorem v_catT : op2v .add (.tup xs) (.tup ys) = if xs.length + ys.length ≤ lim then some (.tup (xs ++ ys)) else none := by rfl
theorem v_catL : op2v .add (.lst xs) (.lst ys) = if xs.length + ys.length ≤ lim then some (.lst (xs ++ ys)) else none := by rfl
theorem v_catS : op2v .add (.str z) (.str w) = if z.length + w.length ≤ lim then some (.str (z ++ w)) else none := by rfl
theorem c_eq : cmpv .eq x y = eqv x y := by rfl
theorem c_ne : cmpv .ne x y = (eqv x y).map (!·) := by rfl
theorem c_lt : cmpv .lt (.int i) (.int j) = some (decide (i < j)) := by rfl
theorem c_le : cmpv .le (.int i) (.int j) = some (decide (i ≤ j)) := by rfl
theorem c_gt : cmpv .gt (.int i) (.int j) = some (decide (j < i)) := by rfl
theorem c_ge : cmpv .ge (.int i) (.int j) = some (decide (j ≤ i)) := by rfl
theorem c_isn : cmpv .isn x .non = some (isn x) := by rfl
theorem c_notn : cmpv .notn x .non = some (!isn x) := by rfl
theorem x_tup : ixv (.tup xs) (.int i) = L2.atI xs i := by rfl
theorem x_lst : ixv (.lst xs) (.int i) = L2.atI xs i := by rfl
theorem x_fz : ixv (.fz xs) (.int i) = L2.atI xs i := by rfl
theorem b_lenT : biv .len [.tup xs] = some (.int xs.length) := by rfl
theorem b_lenL : biv .len [.lst xs] = some (.int xs.length) := by rfl
theorem b_lenF : biv .len [.fz xs] = some (.int xs.length) := by rfl
theorem b_abs : biv .abs [.int i] = some (.int i.natAbs) := by
  show some (PV.int (if i < 0 then -i else i)) = _
  rw [abs_nat]
theorem b_int : biv .int [.int i] = some (.int i) := by rfl
theorem b_intB : biv .int [.bl b] = some (.int (if b then 1 else 0)) := by rfl
theorem b_max : biv .max2 [.int i, .int j] = some (.int (if j > i then j else i)) := by rfl
theorem b_min : biv .min2 [.int i, .int j] = some (.int (if j < i then j else i)) := by rfl
theorem b_tupT : biv .tuple [.tup xs] = some (.tup xs) := by rfl
theorem b_tupL : biv .tuple [.lst xs] = some (.tup xs) := by rfl
theorem b_lstT : biv .list [.tup xs] = some (.lst xs) := by rfl
theorem b_lstL : biv .list [.lst xs] = some (.lst xs) := by rfl
theorem b_all : biv .all [.lst xs] = (bls xs).map fun bs => .bl (bs.all id) := by rfl
theorem b_any : biv .any [.lst xs] = (bls xs).map fun bs => .bl (bs.any id) := by rfl
theorem b_repr : biv .repr [x] = reprv x := by rfl
theorem ix_fr0 (p : Rat) : ixv (fr p) (.int 0) = some (.int p.num) := by rfl
theorem ix_fr1 (p : Rat) : ixv (fr p) (.int 1) = some (.int p.den) := by rfl
theorem rev_lst : revv (.lst xs) = some (.lst xs.reverse) := by rfl
end
end Fo
end -- FoEv

section -- FoWp
set_option Elab.async false
set_option linter.all false
set_option maxRecDepth 100000
set_option maxHeartbeats 1000000
/-! FoWp: runs that change cells; the dice; what repr gives. -/
namespace Fo
open PySem
section
variable {α β : Type}
def Wp (r : Option (Res α)) (P : α → Store → Prop) : Prop := ∃ a s, r = some (.ok a s) ∧ P a s
theorem Wp.bnd {m : M α} {k : α → M β} {st : Store} {P' : α → Store → Prop} {P : β → Store → Prop} (h : Wp (m st) P') (n : ∀ a s, P' a s → Wp (k a s) P) : Wp (bnd m k st) P := by
  obtain ⟨a, s, e, h⟩ := h
  rw [bnd_ok e]
  exact n a s h
theorem Wp.ok {a : α} {st : Store} {P : α → Store → Prop} (h : P a st) : Wp (Fo.ok a st) P := ⟨a, st, rfl, h⟩
theorem Wp.imp {r : Option (Res α)} {P P' : α → Store → Prop} (h : Wp r P) (i : ∀ a s, P a s → P' a s) : Wp r P' := by
  obtain ⟨a, s, e, h⟩ := h
  exact ⟨a, s, e, i a s h⟩
theorem Wp.run {cl : Cl} {fn : Fn} {args : List SV} {st : Store} {P : SV → Store → Prop} (hl : args.length = fn.np) (h : Wp (evSs cl fn.body (args.map some ++ List.replicate (fn.N.length - args.length) none) st) fun o s => ∃ v, o = .rt (.d v) ∧ P (.d v) (s.take st.length)) : Wp (run cl fn args st) P := by
  obtain ⟨o, s, e, v, e2, h⟩ := h
  subst e2
  refine ⟨.d v, s.take st.length, ?_, h⟩
  unfold Fo.run
  rw [if_pos hl, e]
  rfl
theorem take_self {s st : Store} (h : s.length = st.length) : s.take st.length = s := by rw [← h, List.take_length]
end
/-! ### the dice -/
def DS (st : Store) (l k : Nat) : Prop := ∃ a b c : Int, st[l]? = some (.lst [.int a, .int b, .int c]) ∧ (0 ≤ a ∧ a.natAbs < 2 ^ 1100) ∧ (0 ≤ b ∧ b.natAbs < 2 ^ 80) ∧ (0 ≤ c ∧ c ≤ k)
theorem DS.mono {st : Store} {l k k' : Nat} (h : DS st l k) (hk : k ≤ k') : DS st l k' := by
  obtain ⟨a, b, c, h1, h2, h3, h4⟩ := h
  exact ⟨a, b, c, h1, h2, h3, h4.1, by omega⟩
theorem DS.lt {st : Store} {l k : Nat} (h : DS st l k) : l < st.length := by
  obtain ⟨a, b, c, h1, _⟩ := h
  exact (List.getElem?_eq_some_iff.mp h1).1
section
variable {β : Type} {st : Store} {l : Nat} {a b c v : PV} (h : st[l]? = some (.lst [a, b, c]))
include h
theorem rd_at : rd (.r l) st = some (.ok (.lst [a, b, c]) st) := by
  unfold rd
  simp only [h]
theorem ix_at {i : Int} {x : PV} (hx : L2.atI [a, b, c] i = some x) (k : PV → M β) : bnd (ix2 (.r l) (.d (.int i))) k st = k x st := by
  refine bnd_ok ?_
  unfold ix2
  rw [bnd_ok (rd_at h), rd_d, ok_bnd]
  show ofO (L2.atI [a, b, c] i) st = _
  rw [hx]
  rfl
theorem get0 (k : PV → M β) : bnd (ix2 (.r l) (.d (.int 0))) k st = k a st := ix_at h rfl k
theorem get1 (k : PV → M β) : bnd (ix2 (.r l) (.d (.int 1))) k st = k b st := ix_at h rfl k
theorem get2 (k : PV → M β) : bnd (ix2 (.r l) (.d (.int 2))) k st = k c st := ix_at h rfl k
theorem set0 (k : Unit → M β) : bnd (cellSet l fun xs => (L2.ixN xs.length 0).map fun j => xs.set j v) k st = k () (st.set l (.lst [v, b, c])) := by
  refine bnd_ok ?_
  unfold cellSet
  simp only [h]
  rfl
theorem set2 (k : Unit → M β) : bnd (cellSet l fun xs => (L2.ixN xs.length 2).map fun j => xs.set j v) k st = k () (st.set l (.lst [a, b, v])) := by
  refine bnd_ok ?_
  unfold cellSet
  simp only [h]
  rfl
end
theorem fm_lo (x : Int) {m : Int} (hm : 0 < m) : 0 ≤ x.fmod m := Int.fmod_nonneg_of_pos x hm
theorem fm_hi (x : Int) {m : Int} (hm : 0 < m) : x.fmod m < m := Int.fmod_lt_of_pos x hm
/-! ### repr -/
def frD (q : Rat) : PyData := .tuple [.int q.num, .int q.den]
theorem shown_short {i : Int} (h : i.natAbs < 2 ^ 1900) : (PyData.shown (.int i)).length ≤ 801 := by
  have e := PySem.int_text_length_le10 (a := i) (k := 800) (by decide) (Nat.lt_of_lt_of_le h (by
    have : (2 : Nat) ^ 1900 ≤ 10 ^ 800 := by decide +kernel
    exact this))
  show (Str.ofString (toString i)).length ≤ 801
  rw [ofString_length]
  exact e
theorem showable_int {i : Int} (h : i.natAbs < 2 ^ 1900) : (PyData.int i).showable = true := by
  simp only [PyData.showable]
  exact decide_eq_true (Nat.lt_of_lt_of_le (log2_lt h (by decide)) (by decide))
theorem dats_frs : ∀ qs : List Rat, PV.dats (qs.map fr) = some (qs.map frD)
  | [] => rfl
  | q :: qs => by
    rw [List.map_cons, List.map_cons, PV.dats, dats_frs qs, dat_fr]
    rfl
theorem frs_ok : ∀ qs : List Rat, (∀ q ∈ qs, Sz 1900 q) → PyData.showableAll (qs.map frD) = true ∧ PyData.leavesShortAll 801 (qs.map frD) = true ∧ PyData.bulkAll (qs.map frD) = 3 * qs.length
  | [], _ => ⟨by rfl, by rfl, by rfl⟩
  | q :: qs, h => by
    obtain ⟨h1, h2, h3⟩ := frs_ok qs fun r hr => h r (List.mem_cons_of_mem _ hr)
    have hq := h q List.mem_cons_self
    have d1 : ((q.den : Int)).natAbs < 2 ^ 1900 := hq.2
    have s1 := showable_int hq.1
    have s2 := showable_int d1
    refine ⟨?_, ?_, ?_⟩
    · simp only [List.map_cons, frD, PyData.showableAll, PyData.showable, Bool.and_true, Bool.and_eq_true] at s1 s2 h1 ⊢
      exact ⟨⟨s1, s2⟩, h1⟩
    · simp only [List.map_cons, frD, PyData.leavesShortAll, PyData.leavesShort, Bool.and_true, Bool.and_eq_true, decide_eq_true_eq] at h2 ⊢
      exact ⟨⟨shown_short hq.1, shown_short d1⟩, h2⟩
    · simp only [List.map_cons, frD, PyData.bulkAll, PyData.bulk, List.length_cons] at h3 ⊢
      omega
theorem depth_frs : ∀ qs : List Rat, PyData.depthAll (qs.map frD) ≤ 2
  | [] => by simp only [List.map_nil, PyData.depthAll]; omega
  | q :: qs => by
    have := depth_frs qs
    simp only [List.map_cons, frD, PyData.depthAll, PyData.depth] at this ⊢
    omega
theorem repr_frs {qs : List Rat} (h : ∀ q ∈ qs, Sz 1900 q) (hl : qs.length ≤ 1000) : reprv (.lst (qs.map fr)) = some (.str (PyData.shown (.list (qs.map frD)))) := by
  obtain ⟨h1, h2, h3⟩ := frs_ok qs h
  unfold reprv
  have e : (PV.lst (qs.map fr)).dat = some (.list (qs.map frD)) := by
    rw [PV.dat, dats_frs]
    rfl
  rw [e]
  dsimp only
  have l := PyData.shown_le_bulk 801 (by decide) (.list (qs.map frD)) (by simp only [PyData.leavesShort]; exact h2)
  have dp := depth_frs qs
  refine if_pos ⟨by simp only [PyData.showable]; exact h1, ?_, ?_⟩
  · simp only [PyData.bulk] at l
    rw [h3] at l
    have : (lim : Nat) = 16777216 := rfl
    omega
  · simp only [PyData.depth]
    omega
theorem repr_fr {q : Rat} (h : Sz 1900 q) : reprv (fr q) = some (.str (PyData.shown (frD q))) := by
  obtain ⟨h1, h2, h3⟩ := frs_ok [q] fun r hr => by
    rcases List.mem_cons.mp hr with z | z
    · rw [z]; exact h
    · cases z
  have l := PyData.shown_le_bulk 801 (by decide) (frD q) (by simp only [List.map_cons, List.map_nil, PyData.leavesShortAll, Bool.and_true] at h2; exact h2)
  unfold reprv
  rw [dat_fr]
  dsimp only
  refine if_pos ⟨?_, ?_, ?_⟩
  · simp only [List.map_cons, List.map_nil, PyData.showableAll, Bool.and_true] at h1
    exact h1
  · have e : (frD q).bulk = 2 := by simp only [frD, PyData.bulk, PyData.bulkAll]
    rw [e] at l
    have : (lim : Nat) = 16777216 := rfl
    have l : (PyData.shown (.tuple [.int q.num, .int q.den])).length ≤ (801 + 2) * 2 + 801 := l
    omega
  · simp only [PyData.depth, PyData.depthAll]
    omega
theorem eqv_str (x y : Str) : eqv (.str x) (.str y) = some (decide (x = y)) := rfl
/-! ### one statement after the other -/
def Then (cl : Cl) (ss : Ss) (P : Out → Store → Prop) (sl : Slots) (s : Store) : Prop := Wp (evSs cl ss sl s) P
theorem Wp.cons {cl : Cl} {s : S} {ss : Ss} {sl : Slots} {st : Store} {P : Out → Store → Prop} (h : Wp (evS cl s sl st) fun o s' => ∃ sl', o = .nx sl' ∧ Then cl ss P sl' s') : Wp (evSs cl (.cons s ss) sl st) P := by
  rw [q_cons]
  refine Wp.bnd h ?_
  rintro o s' ⟨sl', rfl, t⟩
  exact t
theorem Then.go {cl : Cl} {ss : Ss} {P : Out → Store → Prop} {sl : Slots} {s : Store} (h : Wp (evSs cl ss sl s) P) : Then cl ss P sl s := h
theorem Wp.nox {α : Type} {m : M α} {st : Store} {P : α → Store → Prop} (h : Wp (m st) P) : Wp (nox m st) P := by
  obtain ⟨a, s, e, h⟩ := h
  refine ⟨a, s, ?_, h⟩
  unfold Fo.nox
  rw [e]
theorem e_lc {cl : Cl} {w : W} {tg : Tg} {c : Oe} {e : E} {sl : Slots} : evE cl (.lc w tg c e) sl = bnd (evW cl w sl) fun xs => if xs.length ≤ lim then bnd (nox (lcGo sl tg (evC cl c) (fun s => bnd (evE cl e s) asD) xs [])) fun ys => ok (.d (.lst ys)) else stk := by rw [evE]
/-- a list by a term that changes cells: J counts -/
theorem lc_wp {sl : Slots} {tg : Tg} {cc : Slots → M Bool} {g : Slots → M PV} {sf : PV → Slots} {Q : PV → Prop} {J : Nat → Store → Prop} {d : Nat} : ∀ (ys acc : List PV) (j : Nat) (st : Store), (∀ x ∈ ys, bindT tg x sl = some (sf x)) → (∀ x ∈ ys, cc (sf x) = ok true) →
    (∀ x ∈ ys, ∀ i st, i + d ≤ j + d * ys.length → J i st → Wp (g (sf x) st) fun u s => Q u ∧ J (i + d) s) → J j st →
    Wp (lcGo sl tg cc g ys acc st) fun zs s => ∃ us, zs = acc ++ us ∧ us.length = ys.length ∧ (∀ u ∈ us, Q u) ∧ J (j + d * ys.length) s
  | [], acc, j, st, _, _, _, hj => by
    rw [lcGo]
    exact Wp.ok ⟨[], (List.append_nil _).symm, rfl, fun u hu => (by cases hu), hj⟩
  | y :: ys, acc, j, st, hb, hc, he, hj => by
    have hl : d * (y :: ys).length = d * ys.length + d := by rw [List.length_cons, Nat.mul_succ]
    rw [lcGo, hb y List.mem_cons_self]
    show Wp (bnd (cc (sf y)) _ st) _
    rw [hc y List.mem_cons_self, ok_bnd, if_pos rfl]
    refine Wp.bnd (he y List.mem_cons_self j st (by omega) hj) ?_
    rintro u s ⟨hu, hj2⟩
    refine (lc_wp ys (acc ++ [u]) (j + d) s (fun x hx => hb x (List.mem_cons_of_mem _ hx)) (fun x hx => hc x (List.mem_cons_of_mem _ hx)) (fun x hx i st hi => he x (List.mem_cons_of_mem _ hx) i st (by omega)) hj2).imp ?_
    rintro zs s2 ⟨us, rfl, h1, h2, h3⟩
    refine ⟨u :: us, by rw [List.append_assoc]; rfl, by rw [List.length_cons, List.length_cons, h1], fun x hx => ?_, ?_⟩
    · rcases List.mem_cons.mp hx with z | z
      · rw [z]; exact hu
      · exact h2 x z
    · rw [hl]
      rw [show j + d + d * ys.length = j + (d * ys.length + d) by omega] at h3
      exact h3
theorem all_fr {us : List PV} {k : Nat} (h : ∀ u ∈ us, ∃ q, u = fr q ∧ Sz k q) : ∃ qs : List Rat, us = qs.map fr ∧ ∀ q ∈ qs, Sz k q := by
  induction us with
  | nil => exact ⟨[], rfl, fun q hq => (by cases hq)⟩
  | cons u us ih =>
    obtain ⟨qs, e, h2⟩ := ih fun v hv => h v (List.mem_cons_of_mem _ hv)
    obtain ⟨q, e1, h1⟩ := h u List.mem_cons_self
    refine ⟨q :: qs, by rw [e1, e]; rfl, fun r hr => ?_⟩
    rcases List.mem_cons.mp hr with z | z
    · rw [z]; exact h1
    · exact h2 r z
theorem foldl_add (qs : List Rat) (a : Rat) : qs.foldl (· + ·) a = a + qs.foldl (· + ·) 0 := by
  induction qs generalizing a with
  | nil => rw [List.foldl_nil, List.foldl_nil, Rat.add_zero]
  | cons q qs ih => rw [List.foldl_cons, List.foldl_cons, ih (a + q), ih (0 + q), Rat.zero_add, Rat.add_assoc]
theorem foldl_rev (qs : List Rat) : qs.reverse.foldl (· + ·) 0 = qs.foldl (· + ·) 0 := by
  induction qs with
  | nil => rfl
  | cons q qs ih =>
    rw [List.reverse_cons, List.foldl_append, List.foldl_cons, List.foldl_nil, List.foldl_cons, ih, foldl_add qs (0 + q), Rat.zero_add, Rat.add_comm]
theorem int_divInt (t : Int) : Rat.divInt t 1 = (t : Rat) := (one_divInt (t : Rat) rfl).symm
theorem fr_int (t : Int) : fr (t : Rat) = .tup [.int t, .int 1] := rfl
end Fo
end -- FoWp

section -- K21a
set_option Elab.async false
set_option linter.all false
set_option maxRecDepth 100000
set_option maxHeartbeats 4000000
/-! K21: the terms of the law's row, that they are its defs, the head. -/
namespace K21
open PySem PySem.Spec PyProof.Rows L2 Fo
def top (i : Nat) : Stmt := PySem.Challenge.pw_fairoffers_k21_whole_numbers.main.body.getD i (.Pass ⟨0, 0, 0, 0⟩)
abbrev ix__law_dice : Nat := 0
abbrev ix_common_divisor : Nat := 1
abbrev ix_is_integer : Nat := 2
abbrev ix_is_number : Nat := 3
abbrev ix_require_number : Nat := 4
abbrev ix_reduced : Nat := 5
abbrev ix_added : Nat := 6
abbrev ix_plus : Nat := 7
abbrev ix__law_fr : Nat := 8
abbrev ix__law_plus : Nat := 9
abbrev ix_require_count : Nat := 10
abbrev ix_multiplied : Nat := 11
abbrev ix_power : Nat := 12
abbrev ix_number : Nat := 13
abbrev ix_sum_of : Nat := 14
abbrev ix_total : Nat := 15
abbrev ix_compared : Nat := 16
abbrev ix__law_roll : Nat := 17
abbrev ix__law_pick : Nat := 18
abbrev ix__law_integer : Nat := 19
abbrev ix__law_drawn : Nat := 20
abbrev ix_opposite : Nat := 21
abbrev ix_minus : Nat := 22
abbrev ix_times : Nat := 23
abbrev ix__law_times : Nat := 24
abbrev ix__law_minus : Nat := 25
abbrev ix_divided : Nat := 26
abbrev ix_over : Nat := 27
abbrev ix__law_right : Nat := 28
abbrev ix_law : Nat := 29
def f__law_dice : Fn := ⟨"_law_dice", ["script", "spot", "cell", "great", "seed"], 2,
  (.cons (.set 2 (.ifx (.cmp .lt (.slot 1) (.bi .len (.cons (.slot 0) .nil))) (.bi .int (.cons (.ix (.slot 0) (.slot 1)) .nil)) (.bin .add (.bin .mul (.int 131) (.slot 1)) (.int 37))))
  (.cons (.set 3 (.bin .mod (.bi .int (.cons (.bi .abs (.cons (.slot 2) .nil)) .nil)) (.bin .pow (.bin .pow (.int 10) (.int 53)) (.int 6))))
  (.cons (.set 4 (.bin .add (.bin .add (.bin .add (.bin .mul (.bin .mod (.slot 3) (.int 2305843009213693907)) (.int 73)) (.bin .mul (.int 619) (.slot 1))) (.bin .mul (.int 41) (.bi .int (.cons (.cmp .lt (.slot 2) (.int 0)) .nil)))) (.int 17)))
  (.cons (.ret (.lst (.cons (.bi .max2 (.cons (.int 0) (.cons (.bin .sub (.slot 3) (.bin .pow (.int 10) (.int 16))) .nil))) (.cons (.slot 4) (.cons (.int 0) .nil)))))
  .nil))))⟩
def f_common_divisor : Fn := ⟨"common_divisor", ["one", "other"], 2,
  (.cons (.par 0 1 (.bi .abs (.cons (.slot 0) .nil)) (.bi .abs (.cons (.slot 1) .nil)))
  (.cons (.whl (.cmp .gt (.slot 1) (.int 0)) (.cons (.par 0 1 (.slot 1) (.bin .mod (.slot 0) (.slot 1)))
  .nil))
  (.cons (.ret (.slot 0))
  .nil)))⟩
def f_is_integer : Fn := ⟨"is_integer", ["value"], 1,
  (.cons (.ret (.and (.isi (.slot 0) .int) (.one (.not (.isi (.slot 0) .bool)))))
  .nil)⟩
def f_is_number : Fn := ⟨"is_number", ["value", "one"], 1,
  (.cons (.ifs (.or (.not (.isi (.slot 0) .tup)) (.or (.cmp .ne (.bi .len (.cons (.slot 0) .nil)) (.int 2)) (.one (.not (.bi .all (.cons (.lc (.over (.slot 0)) (.n 1) .no (.call ix_is_integer (.cons (.slot 1) .nil) [])) .nil)))))) (.cons (.ret (.bl false))
  .nil) .nil)
  (.cons (.ret (.and (.cmp .ge (.ix (.slot 0) (.int 1)) (.int 1)) (.one (.cmp .eq (.call ix_common_divisor (.cons (.ix (.slot 0) (.int 0)) (.cons (.ix (.slot 0) (.int 1)) .nil)) []) (.int 1)))))
  .nil))⟩
def f_require_number : Fn := ⟨"require_number", ["value"], 1,
  (.cons (.ifs (.not (.call ix_is_number (.cons (.slot 0) .nil) [])) (.cons (.never)
  .nil) .nil)
  .nil)⟩
def f_reduced : Fn := ⟨"reduced", ["top", "bottom", "divisor"], 2,
  (.cons (.ifs (.cmp .lt (.slot 1) (.int 0)) (.cons (.par 0 1 (.bin .sub (.int 0) (.slot 0)) (.bin .sub (.int 0) (.slot 1)))
  .nil) .nil)
  (.cons (.set 2 (.call ix_common_divisor (.cons (.slot 0) (.cons (.slot 1) .nil)) []))
  (.cons (.ret (.tup (.cons (.bin .fdiv (.slot 0) (.slot 2)) (.cons (.bin .fdiv (.slot 1) (.slot 2)) .nil))))
  .nil)))⟩
def f_added : Fn := ⟨"added", ["one", "other"], 2,
  (.cons (.ifs (.chain .eq .eq (.ix (.slot 0) (.int 1)) (.ix (.slot 1) (.int 1)) (.int 1)) (.cons (.ret (.tup (.cons (.bin .add (.ix (.slot 0) (.int 0)) (.ix (.slot 1) (.int 0))) (.cons (.int 1) .nil))))
  .nil) .nil)
  (.cons (.ret (.call ix_reduced (.cons (.bin .add (.bin .mul (.ix (.slot 0) (.int 0)) (.ix (.slot 1) (.int 1))) (.bin .mul (.ix (.slot 1) (.int 0)) (.ix (.slot 0) (.int 1)))) (.cons (.bin .mul (.ix (.slot 0) (.int 1)) (.ix (.slot 1) (.int 1))) .nil)) []))
  .nil))⟩
def f_plus : Fn := ⟨"plus", ["one", "other"], 2,
  (.cons (.ex (.call ix_require_number (.cons (.slot 0) .nil) []))
  (.cons (.ex (.call ix_require_number (.cons (.slot 1) .nil) []))
  (.cons (.ret (.call ix_added (.cons (.slot 0) (.cons (.slot 1) .nil)) []))
  .nil)))⟩
def f__law_fr : Fn := ⟨"_law_fr", ["top", "bottom", "sign", "one", "other"], 2,
  (.cons (.par 3 4 (.bi .abs (.cons (.slot 0) .nil)) (.bi .abs (.cons (.slot 1) .nil)))
  (.cons (.whl (.cmp .gt (.slot 4) (.int 0)) (.cons (.par 3 4 (.slot 4) (.bin .mod (.slot 3) (.slot 4)))
  .nil))
  (.cons (.set 2 (.ifx (.cmp .lt (.slot 1) (.int 0)) (.neg (.int 1)) (.int 1)))
  (.cons (.ret (.tup (.cons (.bin .fdiv (.bin .mul (.slot 2) (.slot 0)) (.slot 3)) (.cons (.bin .fdiv (.bin .mul (.slot 2) (.slot 1)) (.slot 3)) .nil))))
  .nil))))⟩
def f__law_plus : Fn := ⟨"_law_plus", ["one", "other"], 2,
  (.cons (.ret (.call ix__law_fr (.cons (.bin .add (.bin .mul (.ix (.slot 0) (.int 0)) (.ix (.slot 1) (.int 1))) (.bin .mul (.ix (.slot 1) (.int 0)) (.ix (.slot 0) (.int 1)))) (.cons (.bin .mul (.ix (.slot 0) (.int 1)) (.ix (.slot 1) (.int 1))) .nil)) []))
  .nil)⟩
def f_require_count : Fn := ⟨"require_count", ["value", "least", "most"], 3,
  (.cons (.ifs (.or (.not (.call ix_is_integer (.cons (.slot 0) .nil) [])) (.one (.not (.chain .le .le (.slot 1) (.slot 0) (.slot 2))))) (.cons (.never)
  .nil) .nil)
  .nil)⟩
def f_multiplied : Fn := ⟨"multiplied", ["one", "other"], 2,
  (.cons (.ifs (.chain .eq .eq (.ix (.slot 0) (.int 1)) (.ix (.slot 1) (.int 1)) (.int 1)) (.cons (.ret (.tup (.cons (.bin .mul (.ix (.slot 0) (.int 0)) (.ix (.slot 1) (.int 0))) (.cons (.int 1) .nil))))
  .nil) .nil)
  (.cons (.ret (.call ix_reduced (.cons (.bin .mul (.ix (.slot 0) (.int 0)) (.ix (.slot 1) (.int 0))) (.cons (.bin .mul (.ix (.slot 0) (.int 1)) (.ix (.slot 1) (.int 1))) .nil)) []))
  .nil))⟩
def f_power : Fn := ⟨"power", ["one", "many", "found", "_"], 2,
  (.cons (.ex (.call ix_require_number (.cons (.slot 0) .nil) []))
  (.cons (.ex (.call ix_require_count (.cons (.slot 1) .nil) [0, 60]))
  (.cons (.set 2 (.glob "ONE" (.p 1 1)))
  (.cons (.for (.n 3) (.rng1 (.slot 1)) (.cons (.set 2 (.call ix_multiplied (.cons (.slot 2) (.cons (.slot 0) .nil)) []))
  .nil))
  (.cons (.ret (.slot 2))
  .nil)))))⟩
def f_number : Fn := ⟨"number", ["top", "bottom"], 2,
  (.cons (.ifs (.or (.not (.call ix_is_integer (.cons (.slot 0) .nil) [])) (.one (.cmp .ge (.bi .abs (.cons (.slot 0) .nil)) (.glob "MOST_PASSED" (.i 10000000000000000000000000000000000000000))))) (.cons (.never)
  .nil) .nil)
  (.cons (.ifs (.or (.not (.call ix_is_integer (.cons (.slot 1) .nil) [])) (.or (.cmp .ge (.bi .abs (.cons (.slot 1) .nil)) (.glob "MOST_PASSED" (.i 10000000000000000000000000000000000000000))) (.one (.cmp .eq (.slot 1) (.int 0))))) (.cons (.never)
  .nil) .nil)
  (.cons (.ret (.call ix_reduced (.cons (.slot 0) (.cons (.slot 1) .nil)) []))
  .nil)))⟩
def f_sum_of : Fn := ⟨"sum_of", ["numbers", "found", "one"], 1,
  (.cons (.set 1 (.glob "NOUGHT" (.p 0 1)))
  (.cons (.for (.n 2) (.over (.slot 0)) (.cons (.set 1 (.call ix_added (.cons (.slot 1) (.cons (.slot 2) .nil)) []))
  .nil))
  (.cons (.ret (.slot 1))
  .nil)))⟩
def f_total : Fn := ⟨"total", ["numbers", "one"], 1,
  (.cons (.ifs (.or (.not (.isi (.slot 0) .tup)) (.one (.not (.bi .all (.cons (.lc (.over (.slot 0)) (.n 1) .no (.call ix_is_number (.cons (.slot 1) .nil) [])) .nil))))) (.cons (.never)
  .nil) .nil)
  (.cons (.ret (.call ix_sum_of (.cons (.slot 0) .nil) []))
  .nil))⟩
def f_compared : Fn := ⟨"compared", ["one", "other", "left", "right"], 2,
  (.cons (.ex (.call ix_require_number (.cons (.slot 0) .nil) []))
  (.cons (.ex (.call ix_require_number (.cons (.slot 1) .nil) []))
  (.cons (.par 2 3 (.bin .mul (.ix (.slot 0) (.int 0)) (.ix (.slot 1) (.int 1))) (.bin .mul (.ix (.slot 1) (.int 0)) (.ix (.slot 0) (.int 1))))
  (.cons (.ret (.bin .sub (.bi .int (.cons (.cmp .gt (.slot 2) (.slot 3)) .nil)) (.bi .int (.cons (.cmp .lt (.slot 2) (.slot 3)) .nil))))
  .nil))))⟩
def f__law_roll : Fn := ⟨"_law_roll", ["dice", "many", "one", "two", "found"], 2,
  (.cons (.ifs (.cmp .gt (.ix (.slot 0) (.int 0)) (.int 0)) (.cons (.set 4 (.bin .mod (.ix (.slot 0) (.int 0)) (.slot 1)))
  (.cons (.seti (.slot 0) (.int 0) (.bin .fdiv (.ix (.slot 0) (.int 0)) (.slot 1)))
  (.cons (.ret (.bi .int (.cons (.slot 4) .nil)))
  .nil))) .nil)
  (.cons (.seti (.slot 0) (.int 2) (.bin .add (.ix (.slot 0) (.int 2)) (.int 1)))
  (.cons (.set 2 (.bin .mod (.bin .add (.ix (.slot 0) (.int 1)) (.bin .mul (.int 49979687) (.ix (.slot 0) (.int 2)))) (.int 2305843009213693951)))
  (.cons (.set 3 (.bin .add (.bin .mul (.bin .mod (.bin .add (.bin .mul (.slot 2) (.slot 2)) (.bin .mul (.int 131) (.ix (.slot 0) (.int 2)))) (.int 2305843009213693921)) (.int 32452843)) (.slot 2)))
  (.cons (.ret (.bin .mod (.bi .int (.cons (.bin .fdiv (.slot 3) (.int 65587)) .nil)) (.slot 1)))
  .nil)))))⟩
def f__law_pick : Fn := ⟨"_law_pick", ["dice", "items"], 2,
  (.cons (.ret (.ix (.slot 1) (.call ix__law_roll (.cons (.slot 0) (.cons (.bi .len (.cons (.slot 1) .nil)) .nil)) [])))
  .nil)⟩
def f__law_integer : Fn := ⟨"_law_integer", ["dice", "bound"], 1,
  (.cons (.set 1 (.call ix__law_pick (.cons (.slot 0) (.cons (.lst (.cons (.int 10) (.cons (.int 10) (.cons (.int 10) (.cons (.int 100) (.cons (.bin .pow (.int 10) (.int 6)) (.cons (.bin .pow (.int 10) (.int 19)) .nil))))))) .nil)) []))
  (.cons (.ret (.bin .mul (.bin .add (.int 1) (.call ix__law_roll (.cons (.slot 0) (.cons (.slot 1) .nil)) [])) (.call ix__law_pick (.cons (.slot 0) (.cons (.lst (.cons (.int 1) (.cons (.neg (.int 1)) .nil))) .nil)) [])))
  .nil))⟩
def f__law_drawn : Fn := ⟨"_law_drawn", ["dice"], 1,
  (.cons (.ifs (.cmp .eq (.call ix__law_roll (.cons (.slot 0) (.cons (.int 6) .nil)) []) (.int 0)) (.cons (.ret (.tup (.cons (.int 0) (.cons (.int 1) .nil))))
  .nil) .nil)
  (.cons (.ret (.call ix__law_fr (.cons (.call ix__law_integer (.cons (.slot 0) .nil) []) (.cons (.bi .abs (.cons (.call ix__law_integer (.cons (.slot 0) .nil) []) .nil)) .nil)) []))
  .nil))⟩
def f_opposite : Fn := ⟨"opposite", ["one"], 1,
  (.cons (.ret (.tup (.cons (.bin .sub (.int 0) (.ix (.slot 0) (.int 0))) (.cons (.ix (.slot 0) (.int 1)) .nil))))
  .nil)⟩
def f_minus : Fn := ⟨"minus", ["one", "other"], 2,
  (.cons (.ex (.call ix_require_number (.cons (.slot 0) .nil) []))
  (.cons (.ex (.call ix_require_number (.cons (.slot 1) .nil) []))
  (.cons (.ret (.call ix_added (.cons (.slot 0) (.cons (.call ix_opposite (.cons (.slot 1) .nil) []) .nil)) []))
  .nil)))⟩
def f_times : Fn := ⟨"times", ["one", "other"], 2,
  (.cons (.ex (.call ix_require_number (.cons (.slot 0) .nil) []))
  (.cons (.ex (.call ix_require_number (.cons (.slot 1) .nil) []))
  (.cons (.ret (.call ix_multiplied (.cons (.slot 0) (.cons (.slot 1) .nil)) []))
  .nil)))⟩
def f__law_times : Fn := ⟨"_law_times", ["one", "other"], 2,
  (.cons (.ret (.call ix__law_fr (.cons (.bin .mul (.ix (.slot 0) (.int 0)) (.ix (.slot 1) (.int 0))) (.cons (.bin .mul (.ix (.slot 0) (.int 1)) (.ix (.slot 1) (.int 1))) .nil)) []))
  .nil)⟩
def f__law_minus : Fn := ⟨"_law_minus", ["one", "other"], 2,
  (.cons (.ret (.call ix__law_fr (.cons (.bin .sub (.bin .mul (.ix (.slot 0) (.int 0)) (.ix (.slot 1) (.int 1))) (.bin .mul (.ix (.slot 1) (.int 0)) (.ix (.slot 0) (.int 1)))) (.cons (.bin .mul (.ix (.slot 0) (.int 1)) (.ix (.slot 1) (.int 1))) .nil)) []))
  .nil)⟩
def f_divided : Fn := ⟨"divided", ["one", "other"], 2,
  (.cons (.ret (.call ix_reduced (.cons (.bin .mul (.ix (.slot 0) (.int 0)) (.ix (.slot 1) (.int 1))) (.cons (.bin .mul (.ix (.slot 0) (.int 1)) (.ix (.slot 1) (.int 0))) .nil)) []))
  .nil)⟩
def f_over : Fn := ⟨"over", ["one", "other"], 2,
  (.cons (.ex (.call ix_require_number (.cons (.slot 0) .nil) []))
  (.cons (.ex (.call ix_require_number (.cons (.slot 1) .nil) []))
  (.cons (.ifs (.cmp .eq (.slot 1) (.glob "NOUGHT" (.p 0 1))) (.cons (.never)
  .nil) .nil)
  (.cons (.ret (.call ix_divided (.cons (.slot 0) (.cons (.slot 1) .nil)) []))
  .nil))))⟩
def f__law_right : Fn := ⟨"_law_right", ["dice", "told", "item", "turn", "one", "other", "third", "due", "left", "right", "row", "many", "top", "bottom"], 1,
  (.cons (.par3 4 5 6 (.call ix__law_drawn (.cons (.slot 0) .nil) []) (.call ix__law_drawn (.cons (.slot 0) .nil) []) (.call ix__law_drawn (.cons (.slot 0) .nil) []))
  (.cons (.set 1 (.lst (.cons (.call ix_plus (.cons (.slot 4) (.cons (.slot 5) .nil)) []) (.cons (.call ix_minus (.cons (.slot 4) (.cons (.slot 5) .nil)) []) (.cons (.call ix_times (.cons (.slot 4) (.cons (.slot 5) .nil)) []) (.cons (.call ix_plus (.cons (.call ix_minus (.cons (.slot 4) (.cons (.slot 5) .nil)) []) (.cons (.slot 5) .nil)) []) .nil))))))
  (.cons (.ifs (.cmp .ne (.bi .repr (.cons (.slot 1) .nil)) (.bi .repr (.cons (.lst (.cons (.call ix__law_plus (.cons (.slot 4) (.cons (.slot 5) .nil)) []) (.cons (.call ix__law_minus (.cons (.slot 4) (.cons (.slot 5) .nil)) []) (.cons (.call ix__law_times (.cons (.slot 4) (.cons (.slot 5) .nil)) []) (.cons (.slot 4) .nil))))) .nil))) (.cons (.ret (.bl false))
  .nil) .nil)
  (.cons (.ifs (.cmp .ne (.ix (.slot 5) (.int 0)) (.int 0)) (.cons (.set 7 (.call ix__law_fr (.cons (.bin .mul (.ix (.slot 4) (.int 0)) (.ix (.slot 5) (.int 1))) (.cons (.bin .mul (.ix (.slot 4) (.int 1)) (.ix (.slot 5) (.int 0))) .nil)) []))
  (.cons (.ifs (.or (.cmp .ne (.bi .repr (.cons (.call ix_over (.cons (.slot 4) (.cons (.slot 5) .nil)) []) .nil)) (.bi .repr (.cons (.slot 7) .nil))) (.one (.cmp .ne (.call ix_times (.cons (.call ix_over (.cons (.slot 4) (.cons (.slot 5) .nil)) []) (.cons (.slot 5) .nil)) []) (.slot 4)))) (.cons (.ret (.bl false))
  .nil) .nil)
  .nil)) .nil)
  (.cons (.par 8 9 (.bin .mul (.ix (.slot 4) (.int 0)) (.ix (.slot 5) (.int 1))) (.bin .mul (.ix (.slot 5) (.int 0)) (.ix (.slot 4) (.int 1))))
  (.cons (.ifs (.or (.cmp .ne (.call ix_compared (.cons (.slot 4) (.cons (.slot 5) .nil)) []) (.bin .sub (.bi .int (.cons (.cmp .gt (.slot 8) (.slot 9)) .nil)) (.bi .int (.cons (.cmp .lt (.slot 8) (.slot 9)) .nil)))) (.one (.cmp .ne (.call ix_compared (.cons (.slot 4) (.cons (.slot 4) .nil)) []) (.int 0)))) (.cons (.ret (.bl false))
  .nil) .nil)
  (.cons (.ifs (.cmp .ne (.call ix_times (.cons (.call ix_plus (.cons (.slot 4) (.cons (.slot 5) .nil)) []) (.cons (.slot 6) .nil)) []) (.call ix_plus (.cons (.call ix_times (.cons (.slot 4) (.cons (.slot 6) .nil)) []) (.cons (.call ix_times (.cons (.slot 5) (.cons (.slot 6) .nil)) []) .nil)) [])) (.cons (.ret (.bl false))
  .nil) .nil)
  (.cons (.par 10 7 (.lc (.rng1 (.call ix__law_roll (.cons (.slot 0) (.cons (.int 6) .nil)) [])) (.n 3) .no (.call ix__law_drawn (.cons (.slot 0) .nil) [])) (.tup (.cons (.int 0) (.cons (.int 1) .nil))))
  (.cons (.for (.n 2) (.over (.slot 10)) (.cons (.set 7 (.call ix__law_plus (.cons (.slot 7) (.cons (.slot 2) .nil)) []))
  .nil))
  (.cons (.ifs (.or (.cmp .ne (.call ix_total (.cons (.bi .tuple (.cons (.slot 10) .nil)) .nil) []) (.slot 7)) (.one (.cmp .ne (.call ix_total (.cons (.bi .tuple (.cons (.rev (.slot 10)) .nil)) .nil) []) (.slot 7)))) (.cons (.ret (.bl false))
  .nil) .nil)
  (.cons (.par 11 7 (.call ix__law_roll (.cons (.slot 0) (.cons (.int 7) .nil)) []) (.tup (.cons (.int 1) (.cons (.int 1) .nil))))
  (.cons (.for (.n 3) (.rng1 (.slot 11)) (.cons (.set 7 (.call ix__law_times (.cons (.slot 7) (.cons (.slot 4) .nil)) []))
  .nil))
  (.cons (.ifs (.or (.cmp .ne (.call ix_power (.cons (.slot 4) (.cons (.slot 11) .nil)) []) (.slot 7)) (.one (.cmp .ne (.call ix_power (.cons (.slot 4) (.cons (.int 0) .nil)) []) (.tup (.cons (.int 1) (.cons (.int 1) .nil)))))) (.cons (.ret (.bl false))
  .nil) .nil)
  (.cons (.par 12 13 (.call ix__law_pick (.cons (.slot 0) (.cons (.lst (.cons (.int 0) (.cons (.call ix__law_integer (.cons (.slot 0) .nil) []) .nil))) .nil)) []) (.call ix__law_integer (.cons (.slot 0) .nil) []))
  (.cons (.ret (.and (.cmp .eq (.call ix_number (.cons (.slot 12) (.cons (.slot 13) .nil)) []) (.call ix__law_fr (.cons (.slot 12) (.cons (.slot 13) .nil)) [])) (.one (.cmp .eq (.bi .repr (.cons (.call ix_number (.cons (.slot 12) .nil) [1]) .nil)) (.bi .repr (.cons (.tup (.cons (.slot 12) (.cons (.int 1) .nil))) .nil))))))
  .nil)))))))))))))))⟩
def f_law : Fn := ⟨"law", ["script", "spot", "great", "told", "dice", "turn"], 1,
  (.cons (.for (.n 1) (.rng1 (.bi .max2 (.cons (.int 1) (.cons (.bi .min2 (.cons (.int 6) (.cons (.bi .len (.cons (.slot 0) .nil)) .nil))) .nil)))) (.cons (.new 4 (.call ix__law_dice (.cons (.slot 0) (.cons (.slot 1) .nil)) []))
  (.cons (.for (.n 5) (.rng1 (.int 3)) (.cons (.ifs (.not (.call ix__law_right (.cons (.slot 4) .nil) [])) (.cons (.ret (.bl false))
  .nil) .nil)
  .nil))
  .nil)))
  (.cons (.set 2 (.tup (.cons (.bin .add (.bin .pow (.int 10) (.int 60)) (.int 1)) (.cons (.bin .add (.bin .pow (.int 10) (.int 59)) (.int 3)) .nil))))
  (.cons (.set 3 (.lst (.cons (.cmp .eq (.call ix_plus (.cons (.slot 2) (.cons (.tup (.cons (.int 1) (.cons (.int 3) .nil))) .nil)) []) (.call ix__law_plus (.cons (.slot 2) (.cons (.tup (.cons (.int 1) (.cons (.int 3) .nil))) .nil)) [])) (.cons (.cmp .eq (.call ix_power (.cons (.tup (.cons (.neg (.int 1)) (.cons (.int 2) .nil))) (.cons (.int 60) .nil)) []) (.tup (.cons (.int 1) (.cons (.int 1152921504606846976) .nil)))) .nil))))
  (.cons (.set 3 (.bin .add (.slot 3) (.lst (.cons (.call ix_number (.cons (.bin .pow (.int 10) (.int 39)) (.cons (.neg (.bin .pow (.int 10) (.int 39))) .nil)) []) (.cons (.call ix_number (.cons (.neg (.int 6)) (.cons (.int 4) .nil)) []) (.cons (.call ix_total (.cons (.tup .nil) .nil) []) (.cons (.call ix_compared (.cons (.tup (.cons (.neg (.int 1)) (.cons (.int 2) .nil))) (.cons (.tup (.cons (.neg (.int 1)) (.cons (.int 3) .nil))) .nil)) []) .nil)))))))
  (.cons (.ret (.cmp .eq (.slot 3) (.lst (.cons (.bl true) (.cons (.bl true) (.cons (.tup (.cons (.neg (.int 1)) (.cons (.int 1) .nil))) (.cons (.tup (.cons (.neg (.int 3)) (.cons (.int 2) .nil))) (.cons (.tup (.cons (.int 0) (.cons (.int 1) .nil))) (.cons (.neg (.int 1)) .nil)))))))))
  .nil)))))⟩
def ents : List Ent := [
  ⟨top 30, f__law_dice, true, []⟩,
  ⟨top 11, f_common_divisor, false, []⟩,
  ⟨top 10, f_is_integer, false, []⟩,
  ⟨top 12, f_is_number, false, []⟩,
  ⟨top 15, f_require_number, false, []⟩,
  ⟨top 13, f_reduced, false, []⟩,
  ⟨top 17, f_added, false, []⟩,
  ⟨top 22, f_plus, false, []⟩,
  ⟨top 33, f__law_fr, false, []⟩,
  ⟨top 34, f__law_plus, false, []⟩,
  ⟨top 16, f_require_count, false, [0, 60]⟩,
  ⟨top 18, f_multiplied, false, []⟩,
  ⟨top 28, f_power, false, []⟩,
  ⟨top 14, f_number, false, [1]⟩,
  ⟨top 21, f_sum_of, false, []⟩,
  ⟨top 27, f_total, false, []⟩,
  ⟨top 26, f_compared, false, []⟩,
  ⟨top 31, f__law_roll, false, []⟩,
  ⟨top 32, f__law_pick, false, []⟩,
  ⟨top 37, f__law_integer, false, []⟩,
  ⟨top 38, f__law_drawn, false, []⟩,
  ⟨top 19, f_opposite, false, []⟩,
  ⟨top 23, f_minus, false, []⟩,
  ⟨top 24, f_times, false, []⟩,
  ⟨top 35, f__law_times, false, []⟩,
  ⟨top 36, f__law_minus, false, []⟩,
  ⟨top 20, f_divided, false, []⟩,
  ⟨top 25, f_over, false, []⟩,
  ⟨top 39, f__law_right, false, []⟩,
  ⟨top 40, f_law, false, []⟩]
def cn : List (String × GC) := [("ONE", .p 1 1), ("MOST_PASSED", .i 10000000000000000000000000000000000000000), ("NOUGHT", .p 0 1)]

theorem chk : (ents.all (Ent.ok ents cn)) = true := by decide +kernel
end K21
end -- K21a

section -- K21b
set_option Elab.async false
set_option linter.all false
set_option maxRecDepth 100000
set_option maxHeartbeats 0
/-! K21b: the head's run. -/
namespace K21
open PySem PySem.Spec PyProof.Rows L2 Fo
abbrev R : PySem.W.OpenRow := PySem.W.OpenLaw.row PySem.Challenge.rw_fairoffers_k21_whole_numbers
abbrev lawIx : Nat := 40
def hk : PySem.W.Hook := hookY 4 (faOf ents) (fnD ents) (cnB cn)
def ob (s : PySem.W.SharedT) : AlY := obsY 4 (faOf ents) (fnD ents) (cnB cn) (HandSHeadRun.getT s)
theorem ob_eq (s : PySem.W.SharedT) : ob s = hk.obs s.abs := obsY_eq (HandSHeadRun.getT_eq s)
def loose0 : List PySem.Str := ["OfferError", "InvalidFraction", "InvalidCount", "Refused", "NOUGHT", "ONE", "MAX_COUNT", "MOST_PASSED", "is_integer", "common_divisor", "is_number", "reduced", "number", "require_number", "require_count", "added", "multiplied", "opposite", "divided", "sum_of", "plus", "minus", "times", "over", "compared", "total", "power", "_law_dice", "_law_roll", "_law_pick"]
def loose1 : List PySem.Str := ["_law_fr", "_law_plus", "_law_times", "_law_minus", "_law_integer", "_law_drawn", "_law_right"]
abbrev loose : List PySem.Str := loose0 ++ loose1
theorem run (w : World) : HandSHeadRun.RunEq R (PySem.W.view R.prog [40]) hk ob 4000 loose w := by
  intro os
  kernel_rfl
end K21
end -- K21b

section -- K21c
set_option Elab.async false
set_option linter.all false
set_option maxRecDepth 100000
set_option maxHeartbeats 4000000
/-! K21c: the defaults, the end. -/
namespace K21
open PySem PySem.Spec PyProof.Rows L2 Fo
def e0 : Ent := ⟨top 30, f__law_dice, true, []⟩
theorem b0 : Bd e0 := bd_plain (by decide +kernel) rfl (by decide +kernel)
def e1 : Ent := ⟨top 11, f_common_divisor, false, []⟩
theorem b1 : Bd e1 := bd_plain (by decide +kernel) rfl (by decide +kernel)
def e2 : Ent := ⟨top 10, f_is_integer, false, []⟩
theorem b2 : Bd e2 := bd_plain (by decide +kernel) rfl (by decide +kernel)
def e3 : Ent := ⟨top 12, f_is_number, false, []⟩
theorem b3 : Bd e3 := bd_plain (by decide +kernel) rfl (by decide +kernel)
def e4 : Ent := ⟨top 15, f_require_number, false, []⟩
theorem b4 : Bd e4 := bd_plain (by decide +kernel) rfl (by decide +kernel)
def e5 : Ent := ⟨top 13, f_reduced, false, []⟩
theorem b5 : Bd e5 := bd_plain (by decide +kernel) rfl (by decide +kernel)
def e6 : Ent := ⟨top 17, f_added, false, []⟩
theorem b6 : Bd e6 := bd_plain (by decide +kernel) rfl (by decide +kernel)
def e7 : Ent := ⟨top 22, f_plus, false, []⟩
theorem b7 : Bd e7 := bd_plain (by decide +kernel) rfl (by decide +kernel)
def e8 : Ent := ⟨top 33, f__law_fr, false, []⟩
theorem b8 : Bd e8 := bd_plain (by decide +kernel) rfl (by decide +kernel)
def e9 : Ent := ⟨top 34, f__law_plus, false, []⟩
theorem b9 : Bd e9 := bd_plain (by decide +kernel) rfl (by decide +kernel)
def e10 : Ent := ⟨top 16, f_require_count, false, [0, 60]⟩
theorem b10 : Bd e10 := by
  intro K fd f F j hj
  have hj : j ≤ 2 := hj
  match j, hj with
  | 0, _ => exact FunD.binds1 F 1 0 (by decide) rfl fun T kV doc pm an cdv ct us its h1 h2 => match us, its, h1, h2 with
    | [_], [_, _], _, _ => ⟨_, rfl, rfl⟩
  | 1, _ => exact FunD.binds1 F 2 1 (by decide) rfl fun T kV doc pm an cdv ct us its h1 h2 => match us, its, h1, h2 with
    | [_, _], [_, _], _, _ => ⟨_, rfl, rfl⟩
  | 2, _ => exact FunD.binds1 F 3 2 (by decide) rfl fun T kV doc pm an cdv ct us its h1 h2 => match us, its, h1, h2 with
    | [_, _, _], [_, _], _, _ => ⟨_, rfl, rfl⟩
def e11 : Ent := ⟨top 18, f_multiplied, false, []⟩
theorem b11 : Bd e11 := bd_plain (by decide +kernel) rfl (by decide +kernel)
def e12 : Ent := ⟨top 28, f_power, false, []⟩
theorem b12 : Bd e12 := bd_plain (by decide +kernel) rfl (by decide +kernel)
def e13 : Ent := ⟨top 14, f_number, false, [1]⟩
theorem b13 : Bd e13 := by
  intro K fd f F j hj
  have hj : j ≤ 1 := hj
  match j, hj with
  | 0, _ => exact FunD.binds1 F 1 0 (by decide) rfl fun T kV doc pm an cdv ct us its h1 h2 => match us, its, h1, h2 with
    | [_], [_], _, _ => ⟨_, rfl, rfl⟩
  | 1, _ => exact FunD.binds1 F 2 1 (by decide) rfl fun T kV doc pm an cdv ct us its h1 h2 => match us, its, h1, h2 with
    | [_, _], [_], _, _ => ⟨_, rfl, rfl⟩
def e14 : Ent := ⟨top 21, f_sum_of, false, []⟩
theorem b14 : Bd e14 := bd_plain (by decide +kernel) rfl (by decide +kernel)
def e15 : Ent := ⟨top 27, f_total, false, []⟩
theorem b15 : Bd e15 := bd_plain (by decide +kernel) rfl (by decide +kernel)
def e16 : Ent := ⟨top 26, f_compared, false, []⟩
theorem b16 : Bd e16 := bd_plain (by decide +kernel) rfl (by decide +kernel)
def e17 : Ent := ⟨top 31, f__law_roll, false, []⟩
theorem b17 : Bd e17 := bd_plain (by decide +kernel) rfl (by decide +kernel)
def e18 : Ent := ⟨top 32, f__law_pick, false, []⟩
theorem b18 : Bd e18 := bd_plain (by decide +kernel) rfl (by decide +kernel)
def e19 : Ent := ⟨top 37, f__law_integer, false, []⟩
theorem b19 : Bd e19 := bd_plain (by decide +kernel) rfl (by decide +kernel)
def e20 : Ent := ⟨top 38, f__law_drawn, false, []⟩
theorem b20 : Bd e20 := bd_plain (by decide +kernel) rfl (by decide +kernel)
def e21 : Ent := ⟨top 19, f_opposite, false, []⟩
theorem b21 : Bd e21 := bd_plain (by decide +kernel) rfl (by decide +kernel)
def e22 : Ent := ⟨top 23, f_minus, false, []⟩
theorem b22 : Bd e22 := bd_plain (by decide +kernel) rfl (by decide +kernel)
def e23 : Ent := ⟨top 24, f_times, false, []⟩
theorem b23 : Bd e23 := bd_plain (by decide +kernel) rfl (by decide +kernel)
def e24 : Ent := ⟨top 35, f__law_times, false, []⟩
theorem b24 : Bd e24 := bd_plain (by decide +kernel) rfl (by decide +kernel)
def e25 : Ent := ⟨top 36, f__law_minus, false, []⟩
theorem b25 : Bd e25 := bd_plain (by decide +kernel) rfl (by decide +kernel)
def e26 : Ent := ⟨top 20, f_divided, false, []⟩
theorem b26 : Bd e26 := bd_plain (by decide +kernel) rfl (by decide +kernel)
def e27 : Ent := ⟨top 25, f_over, false, []⟩
theorem b27 : Bd e27 := bd_plain (by decide +kernel) rfl (by decide +kernel)
def e28 : Ent := ⟨top 39, f__law_right, false, []⟩
theorem b28 : Bd e28 := bd_plain (by decide +kernel) rfl (by decide +kernel)
def e29 : Ent := ⟨top 40, f_law, false, []⟩
theorem b29 : Bd e29 := bd_plain (by decide +kernel) rfl (by decide +kernel)
theorem bds : Fo.AllP Bd ents := ⟨b0, b1, b2, b3, b4, b5, b6, b7, b8, b9, b10, b11, b12, b13, b14, b15, b16, b17, b18, b19, b20, b21, b22, b23, b24, b25, b26, b27, b28, b29, trivial⟩
theorem sc_law : scOk e29 = true := by decide +kernel
theorem ar_law : argsOk (defArgs e29.s) e29.ps = true := by decide +kernel
theorem ps_law : e29.ps = [("script" : PySem.Str)] := by decide +kernel
theorem x_law : (HandSHeadRun.topDef R.prog lawIx).name = e29.x := by decide +kernel
end K21
open PySem PySem.W PySem.Calls PyProof.Rows
theorem K21.holds_of (main : ∀ ns : List Int, ns.length ≤ 63 → Fo.callF (Fo.tblOf K21.ents) 30 29 [.d (.fz (ns.map .int))] [] = some (.ok (.d (.bl true)) [])) : PySem.Challenge.rw_fairoffers_k21_whole_numbers.Holds := by
  w_on; o_law
  refine HandSHeadRun.head_any (r := K21.R) (q := view K21.R.prog [K21.lawIx]) (H := K21.hk) (ob := K21.ob) (M := 4000) (loose := K21.loose) (d := HandSHeadRun.topDef K21.R.prog K21.lawIx) (kwd := []) K21.ob_eq
    (by kernel_rfl) (fun s => by kernel_rfl) K21.run (by kernel_rfl) (by kernel_rfl) (by kernel_rfl) (by rfl) (by first | assumption | decide +kernel) (by decide +kernel) ⟨rfl, rfl, rfl, rfl, rfl, by decide +kernel⟩ ?hw ?hc
  case hw => w_witness2
  case hc =>
    refine Att.attach_call (l := PySem.Challenge.rw_fairoffers_k21_whole_numbers) (n := 63) rfl (by kernel_rfl) fun w s0 s1 mg mb f o pm cd doc a us ns G Y ho hd hcd hmg hobj hints hlen hg => ?_
    obtain ⟨K, KX, c, k⟩ := Y
    have fs := Fo.facts_of (es := K21.ents) (cn := K21.cn) KX G.T.g c k
    have em : K21.e29 ∈ K21.ents := List.mem_of_getElem? (i := 29) rfl
    obtain ⟨fd, F⟩ := fs.def_ K21.e29 em
    have hmg : mg K21.e29.x = some (.ref f) := by
      rw [← K21.x_law]
      exact hmg
    have ef : He.ga K K21.e29.x = f := by
      have z := (fs.glo K21.e29 em).symm.trans hmg
      cases z
      rfl
    have Fl := fun base : Heap => Fo.tab_fnG (P := PySem.Challenge.rw_fairoffers_k21_whole_numbers.prog) (w := w) (base := base) fs K21.chk K21.bds 30 29 K21.e29 rfl fd F false (fun z => by cases z)
    have bn := Fo.bd_law F K21.ar_law K21.sc_law K21.ps_law
    rw [ef, K21.ps_law] at Fl
    refine Fo.lawG (k := 30) KX G.T.g G.T.b G.T.builtins G.T.nolimit hg hobj hints (Nat.le_trans hlen (by decide)) ⟨rfl, by decide, by decide⟩ (fun base _ _ => Fl base) bn fun H _ hS => ?_
    exact Fo.sp_of hS (Nat.le_trans hlen (by decide)) (main ns hlen)
end -- K21c

section -- K21n
set_option Elab.async false
set_option linter.all false
set_option maxRecDepth 100000
set_option maxHeartbeats 1000000
set_option exponentiation.threshold 14000
namespace K21
open PySem Fo
/-! ### the defs of the fractions -/
abbrev T : Nat → Option Fn := tblOf ents
theorem s_common_divisor {n k : Nat} {a b : Int} (hn : 1 ≤ n) (hk : k ≤ 1000000000) (hb : b.natAbs < 2 ^ k) : callF T n ix_common_divisor [.d (.int a), .d (.int b)] = ok (.d (.int (Int.gcd a b))) := by
  obtain ⟨m, rfl⟩ : ∃ m, n = m + 1 := ⟨n - 1, by omega⟩
  rw [callF_at (fn := f_common_divisor) rfl]
  refine run_rt rfl ?_
  show evSs (callF T m) f_common_divisor.body [some (.d (.int a)), some (.d (.int b))] = _
  have w : evS (callF T m) (.whl (.cmp .gt (.slot 1) (.int 0)) (.cons (.par 0 1 (.slot 1) (.bin .mod (.slot 0) (.slot 1))) .nil)) [some (.d (.int (a.natAbs : Int))), some (.d (.int (b.natAbs : Int)))] = ok (.nx [some (.d (.int (Int.gcd a b))), some (.d (.int (0 : Nat)))]) :=
    gcd_loop (cl := callF T m) (sl := [some (.d (.int a)), some (.d (.int b))]) (i := 0) (j := 1) (a := a.natAbs) (b := b.natAbs) (by simp) (by simp) (by decide) hk hb
  simp only [f_common_divisor, w, q_nil, q_cons, q_set, q_par, q_par3, q_ifs, q_ret, q_ex, e_slot, e_non, e_bl, e_int, e_str, e_glob, e_fnv, e_tup, e_lst, e_bin, e_neg, e_not, e_cmp, e_chain, e_and, e_or, e_one, e_ifx, e_ix, e_cut, e_rev, e_call, e_bi, e_isi, a_nil, a_cons, o_no, o_ye, d_nil, d_cons, w_ov, ok_bnd, bnd_bnd, rd_d, ofO_some, asD_d, asI_int, asB_bl, op2_d, cmp2_d, ix2_d, biOf1, biOf2, v_add, v_sub, v_mul, v_fdiv, v_mod, v_pow, v_catT, v_catL, v_catS, c_eq, c_ne, c_lt, c_le, c_gt, c_ge, c_isn, c_notn, x_tup, x_lst, x_fz, b_lenT, b_lenL, b_lenF, b_abs, b_int, b_intB, b_max, b_min, b_tupT, b_tupL, b_lstT, b_lstL, b_all, b_any, b_repr, rev_lst, tyOk, eqv_int, abs_nat, at0, at1, GC.val, List.getElem?_cons_zero, List.getElem?_cons_succ, List.set_cons_zero, List.set_cons_succ, List.append_nil, List.nil_append, List.cons_append, List.map_nil, List.map_cons, Option.map_some, List.length_cons, List.length_nil, Bool.not_true, Bool.not_false, if_true, if_false, Bool.false_eq_true, items]
theorem s_is_integer {n : Nat} {a : Int} (hn : 1 ≤ n) : callF T n ix_is_integer [.d (.int a)] = ok (.d (.bl true)) := by
  obtain ⟨m, rfl⟩ : ∃ m, n = m + 1 := ⟨n - 1, by omega⟩
  rw [callF_at (fn := f_is_integer) rfl]
  exact run_rt rfl rfl
theorem s_is_number {n k : Nat} {q : Rat} (hn : 2 ≤ n) (hk : k ≤ 1000000000) (hq : Sz k q) : callF T n ix_is_number [.d (fr q)] = ok (.d (.bl true)) := by
  obtain ⟨m, rfl⟩ : ∃ m, n = m + 1 := ⟨n - 1, by omega⟩
  rw [callF_at (fn := f_is_number) rfl]
  refine run_rt rfl ?_
  show evSs (callF T m) f_is_number.body [some (.d (.tup [.int q.num, .int q.den])), none] = _
  have h2 : callF T m ix_common_divisor [.d (.int q.num), .d (.int (q.den : Int))] = ok (.d (.int (Int.gcd q.num (q.den : Int)))) := s_common_divisor (by omega) hk hq.2
  have h3 : evE (callF T m) (.lc (.over (.slot 0)) (.n 1) .no (.call ix_is_integer (.cons (.slot 1) .nil) [])) [some (.d (.tup [.int q.num, .int q.den])), none] = ok (.d (.lst [.bl true, .bl true])) := by
    refine e_lcm (xs := [.int q.num, .int q.den]) (sf := fun x => [some (.d (.tup [.int q.num, .int q.den])), some (.d x)]) (f := fun _ => .bl true) (by rfl) (show 2 ≤ lim from by decide) (fun _ _ => rfl) fun x hx => ?_
    have h : ∀ a : Int, callF T m ix_is_integer [.d (.int a)] = ok (.d (.bl true)) := fun a => s_is_integer (by omega)
    rcases List.mem_cons.mp hx with z | z
    · subst z
      simp only [h, q_nil, q_cons, q_set, q_par, q_par3, q_ifs, q_ret, q_ex, e_slot, e_non, e_bl, e_int, e_str, e_glob, e_fnv, e_tup, e_lst, e_bin, e_neg, e_not, e_cmp, e_chain, e_and, e_or, e_one, e_ifx, e_ix, e_cut, e_rev, e_call, e_bi, e_isi, a_nil, a_cons, o_no, o_ye, d_nil, d_cons, w_ov, ok_bnd, bnd_bnd, rd_d, ofO_some, asD_d, asI_int, asB_bl, op2_d, cmp2_d, ix2_d, biOf1, biOf2, v_add, v_sub, v_mul, v_fdiv, v_mod, v_pow, v_catT, v_catL, v_catS, c_eq, c_ne, c_lt, c_le, c_gt, c_ge, c_isn, c_notn, x_tup, x_lst, x_fz, b_lenT, b_lenL, b_lenF, b_abs, b_int, b_intB, b_max, b_min, b_tupT, b_tupL, b_lstT, b_lstL, b_all, b_any, b_repr, rev_lst, tyOk, eqv_int, abs_nat, at0, at1, GC.val, List.getElem?_cons_zero, List.getElem?_cons_succ, List.set_cons_zero, List.set_cons_succ, List.append_nil, List.nil_append, List.cons_append, List.map_nil, List.map_cons, Option.map_some, List.length_cons, List.length_nil, Bool.not_true, Bool.not_false, if_true, if_false, Bool.false_eq_true, items]
    · rcases List.mem_cons.mp z with z | z
      · subst z
        simp only [h, q_nil, q_cons, q_set, q_par, q_par3, q_ifs, q_ret, q_ex, e_slot, e_non, e_bl, e_int, e_str, e_glob, e_fnv, e_tup, e_lst, e_bin, e_neg, e_not, e_cmp, e_chain, e_and, e_or, e_one, e_ifx, e_ix, e_cut, e_rev, e_call, e_bi, e_isi, a_nil, a_cons, o_no, o_ye, d_nil, d_cons, w_ov, ok_bnd, bnd_bnd, rd_d, ofO_some, asD_d, asI_int, asB_bl, op2_d, cmp2_d, ix2_d, biOf1, biOf2, v_add, v_sub, v_mul, v_fdiv, v_mod, v_pow, v_catT, v_catL, v_catS, c_eq, c_ne, c_lt, c_le, c_gt, c_ge, c_isn, c_notn, x_tup, x_lst, x_fz, b_lenT, b_lenL, b_lenF, b_abs, b_int, b_intB, b_max, b_min, b_tupT, b_tupL, b_lstT, b_lstL, b_all, b_any, b_repr, rev_lst, tyOk, eqv_int, abs_nat, at0, at1, GC.val, List.getElem?_cons_zero, List.getElem?_cons_succ, List.set_cons_zero, List.set_cons_succ, List.append_nil, List.nil_append, List.cons_append, List.map_nil, List.map_cons, Option.map_some, List.length_cons, List.length_nil, Bool.not_true, Bool.not_false, if_true, if_false, Bool.false_eq_true, items]
      · cases z
  have h4 : (bls [.bl true, .bl true]) = some [true, true] := rfl
  have c1 : decide ((((0 + 1 + 1 : Nat)) : Int) = 2) = true := by decide
  have c3 : decide ((1 : Int) ≤ (q.den : Int)) = true := decide_eq_true (fr_den_pos q)
  have c4 : decide (((1 : Nat) : Int) = 1) = true := by decide
  simp only [f_is_number, h2, h3, h4, c1, c3, c4, fr_gcd, List.all_cons, List.all_nil, id_eq, Bool.and_self, q_nil, q_cons, q_set, q_par, q_par3, q_ifs, q_ret, q_ex, e_slot, e_non, e_bl, e_int, e_str, e_glob, e_fnv, e_tup, e_lst, e_bin, e_neg, e_not, e_cmp, e_chain, e_and, e_or, e_one, e_ifx, e_ix, e_cut, e_rev, e_call, e_bi, e_isi, a_nil, a_cons, o_no, o_ye, d_nil, d_cons, w_ov, ok_bnd, bnd_bnd, rd_d, ofO_some, asD_d, asI_int, asB_bl, op2_d, cmp2_d, ix2_d, biOf1, biOf2, v_add, v_sub, v_mul, v_fdiv, v_mod, v_pow, v_catT, v_catL, v_catS, c_eq, c_ne, c_lt, c_le, c_gt, c_ge, c_isn, c_notn, x_tup, x_lst, x_fz, b_lenT, b_lenL, b_lenF, b_abs, b_int, b_intB, b_max, b_min, b_tupT, b_tupL, b_lstT, b_lstL, b_all, b_any, b_repr, rev_lst, tyOk, eqv_int, abs_nat, at0, at1, GC.val, List.getElem?_cons_zero, List.getElem?_cons_succ, List.set_cons_zero, List.set_cons_succ, List.append_nil, List.nil_append, List.cons_append, List.map_nil, List.map_cons, Option.map_some, List.length_cons, List.length_nil, Bool.not_true, Bool.not_false, if_true, if_false, Bool.false_eq_true, items]
theorem s_require_number {n k : Nat} {q : Rat} (hn : 3 ≤ n) (hk : k ≤ 1000000000) (hq : Sz k q) : callF T n ix_require_number [.d (fr q)] = ok (.d .non) := by
  obtain ⟨m, rfl⟩ : ∃ m, n = m + 1 := ⟨n - 1, by omega⟩
  rw [callF_at (fn := f_require_number) rfl]
  refine run_nx (sl := [some (.d (fr q))]) rfl ?_
  show evSs (callF T m) f_require_number.body [some (.d (fr q))] = _
  have h1 : callF T m ix_is_number [.d (fr q)] = ok (.d (.bl true)) := s_is_number (by omega) hk hq
  simp only [f_require_number, h1, q_nil, q_cons, q_set, q_par, q_par3, q_ifs, q_ret, q_ex, e_slot, e_non, e_bl, e_int, e_str, e_glob, e_fnv, e_tup, e_lst, e_bin, e_neg, e_not, e_cmp, e_chain, e_and, e_or, e_one, e_ifx, e_ix, e_cut, e_rev, e_call, e_bi, e_isi, a_nil, a_cons, o_no, o_ye, d_nil, d_cons, w_ov, ok_bnd, bnd_bnd, rd_d, ofO_some, asD_d, asI_int, asB_bl, op2_d, cmp2_d, ix2_d, biOf1, biOf2, v_add, v_sub, v_mul, v_fdiv, v_mod, v_pow, v_catT, v_catL, v_catS, c_eq, c_ne, c_lt, c_le, c_gt, c_ge, c_isn, c_notn, x_tup, x_lst, x_fz, b_lenT, b_lenL, b_lenF, b_abs, b_int, b_intB, b_max, b_min, b_tupT, b_tupL, b_lstT, b_lstL, b_all, b_any, b_repr, rev_lst, tyOk, eqv_int, abs_nat, at0, at1, GC.val, List.getElem?_cons_zero, List.getElem?_cons_succ, List.set_cons_zero, List.set_cons_succ, List.append_nil, List.nil_append, List.cons_append, List.map_nil, List.map_cons, Option.map_some, List.length_cons, List.length_nil, Bool.not_true, Bool.not_false, if_true, if_false, Bool.false_eq_true, items]
theorem s_reduced {n : Nat} {t b : Int} (hn : 2 ≤ n) (h0 : b ≠ 0) (ht : t.natAbs < 2 ^ 13000) (hb : b.natAbs < 2 ^ 13000) : callF T n ix_reduced [.d (.int t), .d (.int b)] = ok (.d (fr (Rat.divInt t b))) := by
  obtain ⟨m, rfl⟩ : ∃ m, n = m + 1 := ⟨n - 1, by omega⟩
  rw [callF_at (fn := f_reduced) rfl]
  refine run_rt rfl ?_
  show evSs (callF T m) f_reduced.body [some (.d (.int t)), some (.d (.int b)), none] = _
  have h1 : ∀ t b : Int, b.natAbs < 2 ^ 13000 → callF T m ix_common_divisor [.d (.int t), .d (.int b)] = ok (.d (.int (Int.gcd t b))) := fun t b hb => s_common_divisor (by omega) (by decide) hb
  have g0 : (Int.gcd t b : Int) ≠ 0 := by have := gcd_pos' (t := t) h0; omega
  by_cases c : b < 0
  · have g : Int.gcd (0 - t) (0 - b) = Int.gcd t b := by rw [Int.zero_sub, Int.zero_sub, Int.gcd_neg, Int.neg_gcd]
    have ht' : (0 - t).natAbs < 2 ^ 13000 := by rw [Int.zero_sub, Int.natAbs_neg]; exact ht
    have hb' : (0 - b).natAbs < 2 ^ 13000 := by rw [Int.zero_sub, Int.natAbs_neg]; exact hb
    rw [low_neg c]
    simp only [f_reduced, decide_eq_true c, h1 _ _ hb', g, g0, pyl_of ht', pyl_of hb', ne_eq, not_false_eq_true, and_self, Int.fdiv_eq_ediv_of_nonneg _ (Int.natCast_nonneg (Int.gcd t b)), q_nil, q_cons, q_set, q_par, q_par3, q_ifs, q_ret, q_ex, e_slot, e_non, e_bl, e_int, e_str, e_glob, e_fnv, e_tup, e_lst, e_bin, e_neg, e_not, e_cmp, e_chain, e_and, e_or, e_one, e_ifx, e_ix, e_cut, e_rev, e_call, e_bi, e_isi, a_nil, a_cons, o_no, o_ye, d_nil, d_cons, w_ov, ok_bnd, bnd_bnd, rd_d, ofO_some, asD_d, asI_int, asB_bl, op2_d, cmp2_d, ix2_d, biOf1, biOf2, v_add, v_sub, v_mul, v_fdiv, v_mod, v_pow, v_catT, v_catL, v_catS, c_eq, c_ne, c_lt, c_le, c_gt, c_ge, c_isn, c_notn, x_tup, x_lst, x_fz, b_lenT, b_lenL, b_lenF, b_abs, b_int, b_intB, b_max, b_min, b_tupT, b_tupL, b_lstT, b_lstL, b_all, b_any, b_repr, rev_lst, tyOk, eqv_int, abs_nat, at0, at1, GC.val, List.getElem?_cons_zero, List.getElem?_cons_succ, List.set_cons_zero, List.set_cons_succ, List.append_nil, List.nil_append, List.cons_append, List.map_nil, List.map_cons, Option.map_some, List.length_cons, List.length_nil, Bool.not_true, Bool.not_false, if_true, if_false, Bool.false_eq_true, items]
  · rw [low_pos (show 0 < b by omega)]
    simp only [f_reduced, decide_eq_false c, h1 _ _ hb, g0, pyl_of ht, pyl_of hb, ne_eq, not_false_eq_true, and_self, Int.fdiv_eq_ediv_of_nonneg _ (Int.natCast_nonneg (Int.gcd t b)), q_nil, q_cons, q_set, q_par, q_par3, q_ifs, q_ret, q_ex, e_slot, e_non, e_bl, e_int, e_str, e_glob, e_fnv, e_tup, e_lst, e_bin, e_neg, e_not, e_cmp, e_chain, e_and, e_or, e_one, e_ifx, e_ix, e_cut, e_rev, e_call, e_bi, e_isi, a_nil, a_cons, o_no, o_ye, d_nil, d_cons, w_ov, ok_bnd, bnd_bnd, rd_d, ofO_some, asD_d, asI_int, asB_bl, op2_d, cmp2_d, ix2_d, biOf1, biOf2, v_add, v_sub, v_mul, v_fdiv, v_mod, v_pow, v_catT, v_catL, v_catS, c_eq, c_ne, c_lt, c_le, c_gt, c_ge, c_isn, c_notn, x_tup, x_lst, x_fz, b_lenT, b_lenL, b_lenF, b_abs, b_int, b_intB, b_max, b_min, b_tupT, b_tupL, b_lstT, b_lstL, b_all, b_any, b_repr, rev_lst, tyOk, eqv_int, abs_nat, at0, at1, GC.val, List.getElem?_cons_zero, List.getElem?_cons_succ, List.set_cons_zero, List.set_cons_succ, List.append_nil, List.nil_append, List.cons_append, List.map_nil, List.map_cons, Option.map_some, List.length_cons, List.length_nil, Bool.not_true, Bool.not_false, if_true, if_false, Bool.false_eq_true, items]
theorem s_added {n k l : Nat} {p q : Rat} (hn : 3 ≤ n) (hp : Sz k p) (hq : Sz l q) (hkl : k + l + 1 ≤ 13000) : callF T n ix_added [.d (fr p), .d (fr q)] = ok (.d (fr (p + q))) := by
  obtain ⟨m, rfl⟩ : ∃ m, n = m + 1 := ⟨n - 1, by omega⟩
  rw [callF_at (fn := f_added) rfl]
  refine run_rt rfl ?_
  show evSs (callF T m) f_added.body [some (.d (.tup [.int p.num, .int p.den])), some (.d (.tup [.int q.num, .int q.den]))] = _
  have big : ∀ {x : Nat}, x < 2 ^ (k + l + 1) → x < 2 ^ 13000 := fun h => Nat.lt_of_lt_of_le h (Nat.pow_le_pow_right (by decide) hkl)
  have m1 : (p.num * (q.den : Int)).natAbs < 2 ^ (k + l) := natAbs_mul_lt hp.1 hq.2
  have m2 : (q.num * (p.den : Int)).natAbs < 2 ^ (k + l) := by rw [Nat.add_comm]; exact natAbs_mul_lt hq.1 hp.2
  have m3 : ((p.den : Int) * (q.den : Int)).natAbs < 2 ^ (k + l) := natAbs_mul_lt hp.2 hq.2
  have h0 : (p.den : Int) * (q.den : Int) ≠ 0 := Int.mul_ne_zero (by have := p.den_pos; omega) (by have := q.den_pos; omega)
  have o1 : mulOk p.num q.den = true := mulOk_of hp.1 hq.2 (by omega)
  have o2 : mulOk q.num p.den = true := mulOk_of hq.1 hp.2 (by omega)
  have o3 : mulOk p.den q.den = true := mulOk_of hp.2 hq.2 (by omega)
  have h1 := s_reduced (n := m) (by omega) h0 (big (natAbs_add_lt m1 m2)) (big (Nat.lt_of_lt_of_le m3 (Nat.pow_le_pow_right (by decide) (by omega))))
  rw [← add_divInt] at h1
  by_cases c : (p.den : Int) = (q.den : Int)
  · by_cases c2 : (q.den : Int) = 1
    · rw [add_ones (show p.den = 1 by omega) (show q.den = 1 by omega)]
      simp only [f_added, decide_eq_true c, decide_eq_true c2, q_nil, q_cons, q_set, q_par, q_par3, q_ifs, q_ret, q_ex, e_slot, e_non, e_bl, e_int, e_str, e_glob, e_fnv, e_tup, e_lst, e_bin, e_neg, e_not, e_cmp, e_chain, e_and, e_or, e_one, e_ifx, e_ix, e_cut, e_rev, e_call, e_bi, e_isi, a_nil, a_cons, o_no, o_ye, d_nil, d_cons, w_ov, ok_bnd, bnd_bnd, rd_d, ofO_some, asD_d, asI_int, asB_bl, op2_d, cmp2_d, ix2_d, biOf1, biOf2, v_add, v_sub, v_mul, v_fdiv, v_mod, v_pow, v_catT, v_catL, v_catS, c_eq, c_ne, c_lt, c_le, c_gt, c_ge, c_isn, c_notn, x_tup, x_lst, x_fz, b_lenT, b_lenL, b_lenF, b_abs, b_int, b_intB, b_max, b_min, b_tupT, b_tupL, b_lstT, b_lstL, b_all, b_any, b_repr, rev_lst, tyOk, eqv_int, abs_nat, at0, at1, GC.val, List.getElem?_cons_zero, List.getElem?_cons_succ, List.set_cons_zero, List.set_cons_succ, List.append_nil, List.nil_append, List.cons_append, List.map_nil, List.map_cons, Option.map_some, List.length_cons, List.length_nil, Bool.not_true, Bool.not_false, if_true, if_false, Bool.false_eq_true, items]
    · simp only [f_added, decide_eq_true c, decide_eq_false c2, o1, o2, o3, h1, q_nil, q_cons, q_set, q_par, q_par3, q_ifs, q_ret, q_ex, e_slot, e_non, e_bl, e_int, e_str, e_glob, e_fnv, e_tup, e_lst, e_bin, e_neg, e_not, e_cmp, e_chain, e_and, e_or, e_one, e_ifx, e_ix, e_cut, e_rev, e_call, e_bi, e_isi, a_nil, a_cons, o_no, o_ye, d_nil, d_cons, w_ov, ok_bnd, bnd_bnd, rd_d, ofO_some, asD_d, asI_int, asB_bl, op2_d, cmp2_d, ix2_d, biOf1, biOf2, v_add, v_sub, v_mul, v_fdiv, v_mod, v_pow, v_catT, v_catL, v_catS, c_eq, c_ne, c_lt, c_le, c_gt, c_ge, c_isn, c_notn, x_tup, x_lst, x_fz, b_lenT, b_lenL, b_lenF, b_abs, b_int, b_intB, b_max, b_min, b_tupT, b_tupL, b_lstT, b_lstL, b_all, b_any, b_repr, rev_lst, tyOk, eqv_int, abs_nat, at0, at1, GC.val, List.getElem?_cons_zero, List.getElem?_cons_succ, List.set_cons_zero, List.set_cons_succ, List.append_nil, List.nil_append, List.cons_append, List.map_nil, List.map_cons, Option.map_some, List.length_cons, List.length_nil, Bool.not_true, Bool.not_false, if_true, if_false, Bool.false_eq_true, items]
  · simp only [f_added, decide_eq_false c, o1, o2, o3, h1, q_nil, q_cons, q_set, q_par, q_par3, q_ifs, q_ret, q_ex, e_slot, e_non, e_bl, e_int, e_str, e_glob, e_fnv, e_tup, e_lst, e_bin, e_neg, e_not, e_cmp, e_chain, e_and, e_or, e_one, e_ifx, e_ix, e_cut, e_rev, e_call, e_bi, e_isi, a_nil, a_cons, o_no, o_ye, d_nil, d_cons, w_ov, ok_bnd, bnd_bnd, rd_d, ofO_some, asD_d, asI_int, asB_bl, op2_d, cmp2_d, ix2_d, biOf1, biOf2, v_add, v_sub, v_mul, v_fdiv, v_mod, v_pow, v_catT, v_catL, v_catS, c_eq, c_ne, c_lt, c_le, c_gt, c_ge, c_isn, c_notn, x_tup, x_lst, x_fz, b_lenT, b_lenL, b_lenF, b_abs, b_int, b_intB, b_max, b_min, b_tupT, b_tupL, b_lstT, b_lstL, b_all, b_any, b_repr, rev_lst, tyOk, eqv_int, abs_nat, at0, at1, GC.val, List.getElem?_cons_zero, List.getElem?_cons_succ, List.set_cons_zero, List.set_cons_succ, List.append_nil, List.nil_append, List.cons_append, List.map_nil, List.map_cons, Option.map_some, List.length_cons, List.length_nil, Bool.not_true, Bool.not_false, if_true, if_false, Bool.false_eq_true, items]
theorem s_multiplied {n k l : Nat} {p q : Rat} (hn : 3 ≤ n) (hp : Sz k p) (hq : Sz l q) (hkl : k + l ≤ 13000) : callF T n ix_multiplied [.d (fr p), .d (fr q)] = ok (.d (fr (p * q))) := by
  obtain ⟨m, rfl⟩ : ∃ m, n = m + 1 := ⟨n - 1, by omega⟩
  rw [callF_at (fn := f_multiplied) rfl]
  refine run_rt rfl ?_
  show evSs (callF T m) f_multiplied.body [some (.d (.tup [.int p.num, .int p.den])), some (.d (.tup [.int q.num, .int q.den]))] = _
  have big : ∀ {x : Nat}, x < 2 ^ (k + l) → x < 2 ^ 13000 := fun h => Nat.lt_of_lt_of_le h (Nat.pow_le_pow_right (by decide) hkl)
  have m1 : (p.num * q.num).natAbs < 2 ^ (k + l) := natAbs_mul_lt hp.1 hq.1
  have m3 : ((p.den : Int) * (q.den : Int)).natAbs < 2 ^ (k + l) := natAbs_mul_lt hp.2 hq.2
  have h0 : (p.den : Int) * (q.den : Int) ≠ 0 := Int.mul_ne_zero (by have := p.den_pos; omega) (by have := q.den_pos; omega)
  have o1 : mulOk p.num q.num = true := mulOk_of hp.1 hq.1 (by omega)
  have o3 : mulOk p.den q.den = true := mulOk_of hp.2 hq.2 (by omega)
  have h1 := s_reduced (n := m) (by omega) h0 (big m1) (big m3)
  rw [← mul_divInt] at h1
  by_cases c : (p.den : Int) = (q.den : Int)
  · by_cases c2 : (q.den : Int) = 1
    · rw [mul_ones (show p.den = 1 by omega) (show q.den = 1 by omega)]
      simp only [f_multiplied, decide_eq_true c, decide_eq_true c2, o1, q_nil, q_cons, q_set, q_par, q_par3, q_ifs, q_ret, q_ex, e_slot, e_non, e_bl, e_int, e_str, e_glob, e_fnv, e_tup, e_lst, e_bin, e_neg, e_not, e_cmp, e_chain, e_and, e_or, e_one, e_ifx, e_ix, e_cut, e_rev, e_call, e_bi, e_isi, a_nil, a_cons, o_no, o_ye, d_nil, d_cons, w_ov, ok_bnd, bnd_bnd, rd_d, ofO_some, asD_d, asI_int, asB_bl, op2_d, cmp2_d, ix2_d, biOf1, biOf2, v_add, v_sub, v_mul, v_fdiv, v_mod, v_pow, v_catT, v_catL, v_catS, c_eq, c_ne, c_lt, c_le, c_gt, c_ge, c_isn, c_notn, x_tup, x_lst, x_fz, b_lenT, b_lenL, b_lenF, b_abs, b_int, b_intB, b_max, b_min, b_tupT, b_tupL, b_lstT, b_lstL, b_all, b_any, b_repr, rev_lst, tyOk, eqv_int, abs_nat, at0, at1, GC.val, List.getElem?_cons_zero, List.getElem?_cons_succ, List.set_cons_zero, List.set_cons_succ, List.append_nil, List.nil_append, List.cons_append, List.map_nil, List.map_cons, Option.map_some, List.length_cons, List.length_nil, Bool.not_true, Bool.not_false, if_true, if_false, Bool.false_eq_true, items]
    · simp only [f_multiplied, decide_eq_true c, decide_eq_false c2, o1, o3, h1, q_nil, q_cons, q_set, q_par, q_par3, q_ifs, q_ret, q_ex, e_slot, e_non, e_bl, e_int, e_str, e_glob, e_fnv, e_tup, e_lst, e_bin, e_neg, e_not, e_cmp, e_chain, e_and, e_or, e_one, e_ifx, e_ix, e_cut, e_rev, e_call, e_bi, e_isi, a_nil, a_cons, o_no, o_ye, d_nil, d_cons, w_ov, ok_bnd, bnd_bnd, rd_d, ofO_some, asD_d, asI_int, asB_bl, op2_d, cmp2_d, ix2_d, biOf1, biOf2, v_add, v_sub, v_mul, v_fdiv, v_mod, v_pow, v_catT, v_catL, v_catS, c_eq, c_ne, c_lt, c_le, c_gt, c_ge, c_isn, c_notn, x_tup, x_lst, x_fz, b_lenT, b_lenL, b_lenF, b_abs, b_int, b_intB, b_max, b_min, b_tupT, b_tupL, b_lstT, b_lstL, b_all, b_any, b_repr, rev_lst, tyOk, eqv_int, abs_nat, at0, at1, GC.val, List.getElem?_cons_zero, List.getElem?_cons_succ, List.set_cons_zero, List.set_cons_succ, List.append_nil, List.nil_append, List.cons_append, List.map_nil, List.map_cons, Option.map_some, List.length_cons, List.length_nil, Bool.not_true, Bool.not_false, if_true, if_false, Bool.false_eq_true, items]
  · simp only [f_multiplied, decide_eq_false c, o1, o3, h1, q_nil, q_cons, q_set, q_par, q_par3, q_ifs, q_ret, q_ex, e_slot, e_non, e_bl, e_int, e_str, e_glob, e_fnv, e_tup, e_lst, e_bin, e_neg, e_not, e_cmp, e_chain, e_and, e_or, e_one, e_ifx, e_ix, e_cut, e_rev, e_call, e_bi, e_isi, a_nil, a_cons, o_no, o_ye, d_nil, d_cons, w_ov, ok_bnd, bnd_bnd, rd_d, ofO_some, asD_d, asI_int, asB_bl, op2_d, cmp2_d, ix2_d, biOf1, biOf2, v_add, v_sub, v_mul, v_fdiv, v_mod, v_pow, v_catT, v_catL, v_catS, c_eq, c_ne, c_lt, c_le, c_gt, c_ge, c_isn, c_notn, x_tup, x_lst, x_fz, b_lenT, b_lenL, b_lenF, b_abs, b_int, b_intB, b_max, b_min, b_tupT, b_tupL, b_lstT, b_lstL, b_all, b_any, b_repr, rev_lst, tyOk, eqv_int, abs_nat, at0, at1, GC.val, List.getElem?_cons_zero, List.getElem?_cons_succ, List.set_cons_zero, List.set_cons_succ, List.append_nil, List.nil_append, List.cons_append, List.map_nil, List.map_cons, Option.map_some, List.length_cons, List.length_nil, Bool.not_true, Bool.not_false, if_true, if_false, Bool.false_eq_true, items]
theorem s_opposite {n : Nat} {p : Rat} (hn : 1 ≤ n) : callF T n ix_opposite [.d (fr p)] = ok (.d (fr (-p))) := by
  obtain ⟨m, rfl⟩ : ∃ m, n = m + 1 := ⟨n - 1, by omega⟩
  rw [callF_at (fn := f_opposite) rfl]
  refine run_rt rfl ?_
  show evSs (callF T m) f_opposite.body [some (.d (.tup [.int p.num, .int p.den]))] = _
  have e : fr (-p) = .tup [.int (0 - p.num), .int p.den] := by
    unfold fr
    rw [Rat.neg_num, Rat.neg_den, Int.zero_sub]
  rw [e]
  simp only [f_opposite, q_nil, q_cons, q_set, q_par, q_par3, q_ifs, q_ret, q_ex, e_slot, e_non, e_bl, e_int, e_str, e_glob, e_fnv, e_tup, e_lst, e_bin, e_neg, e_not, e_cmp, e_chain, e_and, e_or, e_one, e_ifx, e_ix, e_cut, e_rev, e_call, e_bi, e_isi, a_nil, a_cons, o_no, o_ye, d_nil, d_cons, w_ov, ok_bnd, bnd_bnd, rd_d, ofO_some, asD_d, asI_int, asB_bl, op2_d, cmp2_d, ix2_d, biOf1, biOf2, v_add, v_sub, v_mul, v_fdiv, v_mod, v_pow, v_catT, v_catL, v_catS, c_eq, c_ne, c_lt, c_le, c_gt, c_ge, c_isn, c_notn, x_tup, x_lst, x_fz, b_lenT, b_lenL, b_lenF, b_abs, b_int, b_intB, b_max, b_min, b_tupT, b_tupL, b_lstT, b_lstL, b_all, b_any, b_repr, rev_lst, tyOk, eqv_int, abs_nat, at0, at1, GC.val, List.getElem?_cons_zero, List.getElem?_cons_succ, List.set_cons_zero, List.set_cons_succ, List.append_nil, List.nil_append, List.cons_append, List.map_nil, List.map_cons, Option.map_some, List.length_cons, List.length_nil, Bool.not_true, Bool.not_false, if_true, if_false, Bool.false_eq_true, items]
theorem s_divided {n k l : Nat} {p q : Rat} (hn : 3 ≤ n) (hp : Sz k p) (hq : Sz l q) (h : q ≠ 0) (hkl : k + l ≤ 13000) : callF T n ix_divided [.d (fr p), .d (fr q)] = ok (.d (fr (p / q))) := by
  obtain ⟨m, rfl⟩ : ∃ m, n = m + 1 := ⟨n - 1, by omega⟩
  rw [callF_at (fn := f_divided) rfl]
  refine run_rt rfl ?_
  show evSs (callF T m) f_divided.body [some (.d (.tup [.int p.num, .int p.den])), some (.d (.tup [.int q.num, .int q.den]))] = _
  have big : ∀ {x : Nat}, x < 2 ^ (k + l) → x < 2 ^ 13000 := fun h => Nat.lt_of_lt_of_le h (Nat.pow_le_pow_right (by decide) hkl)
  have m1 : (p.num * (q.den : Int)).natAbs < 2 ^ (k + l) := natAbs_mul_lt hp.1 hq.2
  have m3 : ((p.den : Int) * q.num).natAbs < 2 ^ (k + l) := natAbs_mul_lt hp.2 hq.1
  have hq0 : q.num ≠ 0 := fun z => h (Rat.num_eq_zero.mp z)
  have h0 : (p.den : Int) * q.num ≠ 0 := Int.mul_ne_zero (by have := p.den_pos; omega) hq0
  have o1 : mulOk p.num q.den = true := mulOk_of hp.1 hq.2 (by omega)
  have o3 : mulOk p.den q.num = true := mulOk_of hp.2 hq.1 (by omega)
  have h1 := s_reduced (n := m) (by omega) h0 (big m1) (big m3)
  rw [← div_divInt] at h1
  simp only [f_divided, o1, o3, h1, q_nil, q_cons, q_set, q_par, q_par3, q_ifs, q_ret, q_ex, e_slot, e_non, e_bl, e_int, e_str, e_glob, e_fnv, e_tup, e_lst, e_bin, e_neg, e_not, e_cmp, e_chain, e_and, e_or, e_one, e_ifx, e_ix, e_cut, e_rev, e_call, e_bi, e_isi, a_nil, a_cons, o_no, o_ye, d_nil, d_cons, w_ov, ok_bnd, bnd_bnd, rd_d, ofO_some, asD_d, asI_int, asB_bl, op2_d, cmp2_d, ix2_d, biOf1, biOf2, v_add, v_sub, v_mul, v_fdiv, v_mod, v_pow, v_catT, v_catL, v_catS, c_eq, c_ne, c_lt, c_le, c_gt, c_ge, c_isn, c_notn, x_tup, x_lst, x_fz, b_lenT, b_lenL, b_lenF, b_abs, b_int, b_intB, b_max, b_min, b_tupT, b_tupL, b_lstT, b_lstL, b_all, b_any, b_repr, rev_lst, tyOk, eqv_int, abs_nat, at0, at1, GC.val, List.getElem?_cons_zero, List.getElem?_cons_succ, List.set_cons_zero, List.set_cons_succ, List.append_nil, List.nil_append, List.cons_append, List.map_nil, List.map_cons, Option.map_some, List.length_cons, List.length_nil, Bool.not_true, Bool.not_false, if_true, if_false, Bool.false_eq_true, items]
/-! ### the public ones -/
theorem s_plus {n k l : Nat} {p q : Rat} (hn : 4 ≤ n) (hp : Sz k p) (hq : Sz l q) (hkl : k + l + 1 ≤ 13000) : callF T n ix_plus [.d (fr p), .d (fr q)] = ok (.d (fr (p + q))) := by
  obtain ⟨m, rfl⟩ : ∃ m, n = m + 1 := ⟨n - 1, by omega⟩
  rw [callF_at (fn := f_plus) rfl]
  refine run_rt rfl ?_
  show evSs (callF T m) f_plus.body [some (.d (fr p)), some (.d (fr q))] = _
  have h1 := s_require_number (n := m) (by omega) (by omega) hp
  have h2 := s_require_number (n := m) (by omega) (by omega) hq
  have h3 := s_added (n := m) (by omega) hp hq hkl
  simp only [f_plus, h1, h2, h3, q_nil, q_cons, q_set, q_par, q_par3, q_ifs, q_ret, q_ex, e_slot, e_non, e_bl, e_int, e_str, e_glob, e_fnv, e_tup, e_lst, e_bin, e_neg, e_not, e_cmp, e_chain, e_and, e_or, e_one, e_ifx, e_ix, e_cut, e_rev, e_call, e_bi, e_isi, a_nil, a_cons, o_no, o_ye, d_nil, d_cons, w_ov, ok_bnd, bnd_bnd, rd_d, ofO_some, asD_d, asI_int, asB_bl, op2_d, cmp2_d, ix2_d, biOf1, biOf2, v_add, v_sub, v_mul, v_fdiv, v_mod, v_pow, v_catT, v_catL, v_catS, c_eq, c_ne, c_lt, c_le, c_gt, c_ge, c_isn, c_notn, x_tup, x_lst, x_fz, b_lenT, b_lenL, b_lenF, b_abs, b_int, b_intB, b_max, b_min, b_tupT, b_tupL, b_lstT, b_lstL, b_all, b_any, b_repr, rev_lst, tyOk, eqv_int, abs_nat, at0, at1, GC.val, List.getElem?_cons_zero, List.getElem?_cons_succ, List.set_cons_zero, List.set_cons_succ, List.append_nil, List.nil_append, List.cons_append, List.map_nil, List.map_cons, Option.map_some, List.length_cons, List.length_nil, Bool.not_true, Bool.not_false, if_true, if_false, Bool.false_eq_true, items]
theorem s_minus {n k l : Nat} {p q : Rat} (hn : 4 ≤ n) (hp : Sz k p) (hq : Sz l q) (hkl : k + l + 1 ≤ 13000) : callF T n ix_minus [.d (fr p), .d (fr q)] = ok (.d (fr (p - q))) := by
  obtain ⟨m, rfl⟩ : ∃ m, n = m + 1 := ⟨n - 1, by omega⟩
  rw [callF_at (fn := f_minus) rfl]
  refine run_rt rfl ?_
  show evSs (callF T m) f_minus.body [some (.d (fr p)), some (.d (fr q))] = _
  have h1 := s_require_number (n := m) (by omega) (by omega) hp
  have h2 := s_require_number (n := m) (by omega) (by omega) hq
  have h3 := s_added (n := m) (by omega) hp hq.neg hkl
  have h4 := s_opposite (n := m) (p := q) (by omega)
  rw [Rat.sub_eq_add_neg]
  simp only [f_minus, h1, h2, h3, h4, q_nil, q_cons, q_set, q_par, q_par3, q_ifs, q_ret, q_ex, e_slot, e_non, e_bl, e_int, e_str, e_glob, e_fnv, e_tup, e_lst, e_bin, e_neg, e_not, e_cmp, e_chain, e_and, e_or, e_one, e_ifx, e_ix, e_cut, e_rev, e_call, e_bi, e_isi, a_nil, a_cons, o_no, o_ye, d_nil, d_cons, w_ov, ok_bnd, bnd_bnd, rd_d, ofO_some, asD_d, asI_int, asB_bl, op2_d, cmp2_d, ix2_d, biOf1, biOf2, v_add, v_sub, v_mul, v_fdiv, v_mod, v_pow, v_catT, v_catL, v_catS, c_eq, c_ne, c_lt, c_le, c_gt, c_ge, c_isn, c_notn, x_tup, x_lst, x_fz, b_lenT, b_lenL, b_lenF, b_abs, b_int, b_intB, b_max, b_min, b_tupT, b_tupL, b_lstT, b_lstL, b_all, b_any, b_repr, rev_lst, tyOk, eqv_int, abs_nat, at0, at1, GC.val, List.getElem?_cons_zero, List.getElem?_cons_succ, List.set_cons_zero, List.set_cons_succ, List.append_nil, List.nil_append, List.cons_append, List.map_nil, List.map_cons, Option.map_some, List.length_cons, List.length_nil, Bool.not_true, Bool.not_false, if_true, if_false, Bool.false_eq_true, items]
theorem s_times {n k l : Nat} {p q : Rat} (hn : 4 ≤ n) (hp : Sz k p) (hq : Sz l q) (hkl : k + l ≤ 13000) : callF T n ix_times [.d (fr p), .d (fr q)] = ok (.d (fr (p * q))) := by
  obtain ⟨m, rfl⟩ : ∃ m, n = m + 1 := ⟨n - 1, by omega⟩
  rw [callF_at (fn := f_times) rfl]
  refine run_rt rfl ?_
  show evSs (callF T m) f_times.body [some (.d (fr p)), some (.d (fr q))] = _
  have h1 := s_require_number (n := m) (by omega) (by omega) hp
  have h2 := s_require_number (n := m) (by omega) (by omega) hq
  have h3 := s_multiplied (n := m) (by omega) hp hq hkl
  simp only [f_times, h1, h2, h3, q_nil, q_cons, q_set, q_par, q_par3, q_ifs, q_ret, q_ex, e_slot, e_non, e_bl, e_int, e_str, e_glob, e_fnv, e_tup, e_lst, e_bin, e_neg, e_not, e_cmp, e_chain, e_and, e_or, e_one, e_ifx, e_ix, e_cut, e_rev, e_call, e_bi, e_isi, a_nil, a_cons, o_no, o_ye, d_nil, d_cons, w_ov, ok_bnd, bnd_bnd, rd_d, ofO_some, asD_d, asI_int, asB_bl, op2_d, cmp2_d, ix2_d, biOf1, biOf2, v_add, v_sub, v_mul, v_fdiv, v_mod, v_pow, v_catT, v_catL, v_catS, c_eq, c_ne, c_lt, c_le, c_gt, c_ge, c_isn, c_notn, x_tup, x_lst, x_fz, b_lenT, b_lenL, b_lenF, b_abs, b_int, b_intB, b_max, b_min, b_tupT, b_tupL, b_lstT, b_lstL, b_all, b_any, b_repr, rev_lst, tyOk, eqv_int, abs_nat, at0, at1, GC.val, List.getElem?_cons_zero, List.getElem?_cons_succ, List.set_cons_zero, List.set_cons_succ, List.append_nil, List.nil_append, List.cons_append, List.map_nil, List.map_cons, Option.map_some, List.length_cons, List.length_nil, Bool.not_true, Bool.not_false, if_true, if_false, Bool.false_eq_true, items]
theorem s_over {n k l : Nat} {p q : Rat} (hn : 4 ≤ n) (hp : Sz k p) (hq : Sz l q) (h : q ≠ 0) (hkl : k + l ≤ 13000) : callF T n ix_over [.d (fr p), .d (fr q)] = ok (.d (fr (p / q))) := by
  obtain ⟨m, rfl⟩ : ∃ m, n = m + 1 := ⟨n - 1, by omega⟩
  rw [callF_at (fn := f_over) rfl]
  refine run_rt rfl ?_
  show evSs (callF T m) f_over.body [some (.d (fr p)), some (.d (fr q))] = _
  have h1 := s_require_number (n := m) (by omega) (by omega) hp
  have h2 := s_require_number (n := m) (by omega) (by omega) hq
  have h3 := s_divided (n := m) (by omega) hp hq h hkl
  have h4 : eqv (fr q) (.tup [.int 0, .int 1]) = some false := by
    rw [← fr_zero, eqv_fr, decide_eq_false h]
  simp only [f_over, h1, h2, h3, h4, q_nil, q_cons, q_set, q_par, q_par3, q_ifs, q_ret, q_ex, e_slot, e_non, e_bl, e_int, e_str, e_glob, e_fnv, e_tup, e_lst, e_bin, e_neg, e_not, e_cmp, e_chain, e_and, e_or, e_one, e_ifx, e_ix, e_cut, e_rev, e_call, e_bi, e_isi, a_nil, a_cons, o_no, o_ye, d_nil, d_cons, w_ov, ok_bnd, bnd_bnd, rd_d, ofO_some, asD_d, asI_int, asB_bl, op2_d, cmp2_d, ix2_d, biOf1, biOf2, v_add, v_sub, v_mul, v_fdiv, v_mod, v_pow, v_catT, v_catL, v_catS, c_eq, c_ne, c_lt, c_le, c_gt, c_ge, c_isn, c_notn, x_tup, x_lst, x_fz, b_lenT, b_lenL, b_lenF, b_abs, b_int, b_intB, b_max, b_min, b_tupT, b_tupL, b_lstT, b_lstL, b_all, b_any, b_repr, rev_lst, tyOk, eqv_int, abs_nat, at0, at1, GC.val, List.getElem?_cons_zero, List.getElem?_cons_succ, List.set_cons_zero, List.set_cons_succ, List.append_nil, List.nil_append, List.cons_append, List.map_nil, List.map_cons, Option.map_some, List.length_cons, List.length_nil, Bool.not_true, Bool.not_false, if_true, if_false, Bool.false_eq_true, items]
theorem s_compared {n k l : Nat} {p q : Rat} (hn : 4 ≤ n) (hp : Sz k p) (hq : Sz l q) (hkl : k + l ≤ 13000) : callF T n ix_compared [.d (fr p), .d (fr q)] = ok (.d (.int ((if p.num * q.den > q.num * p.den then 1 else 0) - (if p.num * q.den < q.num * p.den then 1 else 0)))) := by
  obtain ⟨m, rfl⟩ : ∃ m, n = m + 1 := ⟨n - 1, by omega⟩
  rw [callF_at (fn := f_compared) rfl]
  refine run_rt rfl ?_
  show evSs (callF T m) f_compared.body [some (.d (.tup [.int p.num, .int p.den])), some (.d (.tup [.int q.num, .int q.den])), none, none] = _
  have h1 : callF T m ix_require_number [.d (.tup [.int p.num, .int p.den])] = ok (.d .non) := s_require_number (n := m) (by omega) (by omega) hp
  have h2 : callF T m ix_require_number [.d (.tup [.int q.num, .int q.den])] = ok (.d .non) := s_require_number (n := m) (by omega) (by omega) hq
  have o1 : mulOk p.num q.den = true := mulOk_of hp.1 hq.2 (by omega)
  have o2 : mulOk q.num p.den = true := mulOk_of hq.1 hp.2 (by omega)
  simp only [f_compared, h1, h2, o1, o2, decide_eq_true_eq, q_nil, q_cons, q_set, q_par, q_par3, q_ifs, q_ret, q_ex, e_slot, e_non, e_bl, e_int, e_str, e_glob, e_fnv, e_tup, e_lst, e_bin, e_neg, e_not, e_cmp, e_chain, e_and, e_or, e_one, e_ifx, e_ix, e_cut, e_rev, e_call, e_bi, e_isi, a_nil, a_cons, o_no, o_ye, d_nil, d_cons, w_ov, ok_bnd, bnd_bnd, rd_d, ofO_some, asD_d, asI_int, asB_bl, op2_d, cmp2_d, ix2_d, biOf1, biOf2, v_add, v_sub, v_mul, v_fdiv, v_mod, v_pow, v_catT, v_catL, v_catS, c_eq, c_ne, c_lt, c_le, c_gt, c_ge, c_isn, c_notn, x_tup, x_lst, x_fz, b_lenT, b_lenL, b_lenF, b_abs, b_int, b_intB, b_max, b_min, b_tupT, b_tupL, b_lstT, b_lstL, b_all, b_any, b_repr, rev_lst, tyOk, eqv_int, abs_nat, at0, at1, GC.val, List.getElem?_cons_zero, List.getElem?_cons_succ, List.set_cons_zero, List.set_cons_succ, List.append_nil, List.nil_append, List.cons_append, List.map_nil, List.map_cons, Option.map_some, List.length_cons, List.length_nil, Bool.not_true, Bool.not_false, if_true, if_false, Bool.false_eq_true, items]
theorem s_sum_of {n k : Nat} {qs : List Rat} (hn : 4 ≤ n) (hq : ∀ q ∈ qs, Sz k q) (hk : (qs.length + 1) * (k + 1) ≤ 12000) : callF T n ix_sum_of [.d (.tup (qs.map fr))] = ok (.d (fr (qs.foldl (· + ·) 0))) := by
  obtain ⟨m, rfl⟩ : ∃ m, n = m + 1 := ⟨n - 1, by omega⟩
  rw [callF_at (fn := f_sum_of) rfl]
  refine run_rt rfl ?_
  show evSs (callF T m) f_sum_of.body [some (.d (.tup (qs.map fr))), none, none] = _
  have loop : ∀ (rs : List Rat) (a : Rat) (x : Option SV) (j : Nat), (∀ q ∈ rs, Sz k q) → Sz j a → j + rs.length * (k + 1) ≤ 12000 → ∃ x', forGo (.n 2) (evSs (callF T m) (.cons (.set 1 (.call ix_added (.cons (.slot 1) (.cons (.slot 2) .nil)) [])) .nil)) (rs.map fr) [some (.d (.tup (qs.map fr))), some (.d (fr a)), x] = ok (.nx [some (.d (.tup (qs.map fr))), some (.d (fr (rs.foldl (· + ·) a))), x']) := by
    intro rs
    induction rs with
    | nil =>
      intro a x j _ _ _
      exact ⟨x, rfl⟩
    | cons r rs ih =>
      intro a x j hr ha hj
      have hr0 := hr r List.mem_cons_self
      have hl : (r :: rs).length * (k + 1) = rs.length * (k + 1) + (k + 1) := by rw [List.length_cons, Nat.succ_mul]
      have h1 := s_added (n := m) (p := a) (q := r) (by omega) ha hr0 (by omega)
      obtain ⟨x', e⟩ := ih (a + r) (some (.d (fr r))) (j + k + 1) (fun q hq => hr q (List.mem_cons_of_mem _ hq)) (ha.add hr0) (by omega)
      refine ⟨x', ?_⟩
      rw [List.map_cons, forGo]
      show bnd (evSs _ _ [some (.d (.tup (qs.map fr))), some (.d (fr a)), some (.d (fr r))]) _ = _
      simp only [h1, q_nil, q_cons, q_set, q_par, q_par3, q_ifs, q_ret, q_ex, e_slot, e_non, e_bl, e_int, e_str, e_glob, e_fnv, e_tup, e_lst, e_bin, e_neg, e_not, e_cmp, e_chain, e_and, e_or, e_one, e_ifx, e_ix, e_cut, e_rev, e_call, e_bi, e_isi, a_nil, a_cons, o_no, o_ye, d_nil, d_cons, w_ov, ok_bnd, bnd_bnd, rd_d, ofO_some, asD_d, asI_int, asB_bl, op2_d, cmp2_d, ix2_d, biOf1, biOf2, v_add, v_sub, v_mul, v_fdiv, v_mod, v_pow, v_catT, v_catL, v_catS, c_eq, c_ne, c_lt, c_le, c_gt, c_ge, c_isn, c_notn, x_tup, x_lst, x_fz, b_lenT, b_lenL, b_lenF, b_abs, b_int, b_intB, b_max, b_min, b_tupT, b_tupL, b_lstT, b_lstL, b_all, b_any, b_repr, rev_lst, tyOk, eqv_int, abs_nat, at0, at1, GC.val, List.getElem?_cons_zero, List.getElem?_cons_succ, List.set_cons_zero, List.set_cons_succ, List.append_nil, List.nil_append, List.cons_append, List.map_nil, List.map_cons, Option.map_some, List.length_cons, List.length_nil, Bool.not_true, Bool.not_false, if_true, if_false, Bool.false_eq_true, items]
      exact e
  obtain ⟨x', e⟩ := loop qs 0 none 1 hq ⟨by decide, by decide⟩ (by rw [Nat.succ_mul] at hk; omega)
  rw [fr_zero] at e
  simp only [f_sum_of, e, q_for, q_nil, q_cons, q_set, q_par, q_par3, q_ifs, q_ret, q_ex, e_slot, e_non, e_bl, e_int, e_str, e_glob, e_fnv, e_tup, e_lst, e_bin, e_neg, e_not, e_cmp, e_chain, e_and, e_or, e_one, e_ifx, e_ix, e_cut, e_rev, e_call, e_bi, e_isi, a_nil, a_cons, o_no, o_ye, d_nil, d_cons, w_ov, ok_bnd, bnd_bnd, rd_d, ofO_some, asD_d, asI_int, asB_bl, op2_d, cmp2_d, ix2_d, biOf1, biOf2, v_add, v_sub, v_mul, v_fdiv, v_mod, v_pow, v_catT, v_catL, v_catS, c_eq, c_ne, c_lt, c_le, c_gt, c_ge, c_isn, c_notn, x_tup, x_lst, x_fz, b_lenT, b_lenL, b_lenF, b_abs, b_int, b_intB, b_max, b_min, b_tupT, b_tupL, b_lstT, b_lstL, b_all, b_any, b_repr, rev_lst, tyOk, eqv_int, abs_nat, at0, at1, GC.val, List.getElem?_cons_zero, List.getElem?_cons_succ, List.set_cons_zero, List.set_cons_succ, List.append_nil, List.nil_append, List.cons_append, List.map_nil, List.map_cons, Option.map_some, List.length_cons, List.length_nil, Bool.not_true, Bool.not_false, if_true, if_false, Bool.false_eq_true, items]
theorem s_total {n k : Nat} {qs : List Rat} (hn : 5 ≤ n) (hq : ∀ q ∈ qs, Sz k q) (hk : (qs.length + 1) * (k + 1) ≤ 12000) (hl : qs.length ≤ lim) : callF T n ix_total [.d (.tup (qs.map fr))] = ok (.d (fr (qs.foldl (· + ·) 0))) := by
  obtain ⟨m, rfl⟩ : ∃ m, n = m + 1 := ⟨n - 1, by omega⟩
  rw [callF_at (fn := f_total) rfl]
  refine run_rt rfl ?_
  show evSs (callF T m) f_total.body [some (.d (.tup (qs.map fr))), none] = _
  have h1 := s_sum_of (n := m) (by omega) hq hk
  have kk : k ≤ 1000000000 ∨ qs = [] := by
    have := Nat.le_mul_of_pos_left (k + 1) (show 0 < qs.length + 1 by omega)
    omega
  have h3 : evE (callF T m) (.lc (.over (.slot 0)) (.n 1) .no (.call ix_is_number (.cons (.slot 1) .nil) [])) [some (.d (.tup (qs.map fr))), none] = ok (.d (.lst ((qs.map fr).map fun _ => .bl true))) := by
    refine e_lcm (xs := qs.map fr) (sf := fun x => [some (.d (.tup (qs.map fr))), some (.d x)]) (f := fun _ => .bl true) (by rfl) (by rw [List.length_map]; exact hl) (fun _ _ => rfl) fun x hx => ?_
    obtain ⟨q, hq', rfl⟩ := List.mem_map.mp hx
    have h := s_is_number (n := m) (by omega) (by rcases kk with z | z; exact z; subst z; cases hq') (hq q hq')
    simp only [h, q_nil, q_cons, q_set, q_par, q_par3, q_ifs, q_ret, q_ex, e_slot, e_non, e_bl, e_int, e_str, e_glob, e_fnv, e_tup, e_lst, e_bin, e_neg, e_not, e_cmp, e_chain, e_and, e_or, e_one, e_ifx, e_ix, e_cut, e_rev, e_call, e_bi, e_isi, a_nil, a_cons, o_no, o_ye, d_nil, d_cons, w_ov, ok_bnd, bnd_bnd, rd_d, ofO_some, asD_d, asI_int, asB_bl, op2_d, cmp2_d, ix2_d, biOf1, biOf2, v_add, v_sub, v_mul, v_fdiv, v_mod, v_pow, v_catT, v_catL, v_catS, c_eq, c_ne, c_lt, c_le, c_gt, c_ge, c_isn, c_notn, x_tup, x_lst, x_fz, b_lenT, b_lenL, b_lenF, b_abs, b_int, b_intB, b_max, b_min, b_tupT, b_tupL, b_lstT, b_lstL, b_all, b_any, b_repr, rev_lst, tyOk, eqv_int, abs_nat, at0, at1, GC.val, List.getElem?_cons_zero, List.getElem?_cons_succ, List.set_cons_zero, List.set_cons_succ, List.append_nil, List.nil_append, List.cons_append, List.map_nil, List.map_cons, Option.map_some, List.length_cons, List.length_nil, Bool.not_true, Bool.not_false, if_true, if_false, Bool.false_eq_true, items]
  have h4 : bls ((qs.map fr).map fun _ => .bl true) = some (qs.map fun _ => true) := by
    rw [List.map_map]
    clear h1 h3 kk hl hk hq
    induction qs with
    | nil => rfl
    | cons q qs ih =>
      show (bls (qs.map _)).map _ = _
      rw [ih]
      rfl
  have h5 : (qs.map fun _ => true).all id = true := by
    rw [List.all_eq_true]
    intro x hx
    obtain ⟨_, _, rfl⟩ := List.mem_map.mp hx
    rfl
  simp only [f_total, h1, h3, h4, h5, q_nil, q_cons, q_set, q_par, q_par3, q_ifs, q_ret, q_ex, e_slot, e_non, e_bl, e_int, e_str, e_glob, e_fnv, e_tup, e_lst, e_bin, e_neg, e_not, e_cmp, e_chain, e_and, e_or, e_one, e_ifx, e_ix, e_cut, e_rev, e_call, e_bi, e_isi, a_nil, a_cons, o_no, o_ye, d_nil, d_cons, w_ov, ok_bnd, bnd_bnd, rd_d, ofO_some, asD_d, asI_int, asB_bl, op2_d, cmp2_d, ix2_d, biOf1, biOf2, v_add, v_sub, v_mul, v_fdiv, v_mod, v_pow, v_catT, v_catL, v_catS, c_eq, c_ne, c_lt, c_le, c_gt, c_ge, c_isn, c_notn, x_tup, x_lst, x_fz, b_lenT, b_lenL, b_lenF, b_abs, b_int, b_intB, b_max, b_min, b_tupT, b_tupL, b_lstT, b_lstL, b_all, b_any, b_repr, rev_lst, tyOk, eqv_int, abs_nat, at0, at1, GC.val, List.getElem?_cons_zero, List.getElem?_cons_succ, List.set_cons_zero, List.set_cons_succ, List.append_nil, List.nil_append, List.cons_append, List.map_nil, List.map_cons, Option.map_some, List.length_cons, List.length_nil, Bool.not_true, Bool.not_false, if_true, if_false, Bool.false_eq_true, items]
theorem s_require_count {n : Nat} {a : Int} (hn : 2 ≤ n) (h1 : 0 ≤ a) (h2 : a ≤ 60) : callF T n ix_require_count [.d (.int a), .d (.int 0), .d (.int 60)] = ok (.d .non) := by
  obtain ⟨m, rfl⟩ : ∃ m, n = m + 1 := ⟨n - 1, by omega⟩
  rw [callF_at (fn := f_require_count) rfl]
  refine run_nx (sl := [some (.d (.int a)), some (.d (.int 0)), some (.d (.int 60))]) rfl ?_
  show evSs (callF T m) f_require_count.body [some (.d (.int a)), some (.d (.int 0)), some (.d (.int 60))] = _
  have h := s_is_integer (n := m) (a := a) (by omega)
  simp only [f_require_count, h, decide_eq_true h1, decide_eq_true h2, q_nil, q_cons, q_set, q_par, q_par3, q_ifs, q_ret, q_ex, e_slot, e_non, e_bl, e_int, e_str, e_glob, e_fnv, e_tup, e_lst, e_bin, e_neg, e_not, e_cmp, e_chain, e_and, e_or, e_one, e_ifx, e_ix, e_cut, e_rev, e_call, e_bi, e_isi, a_nil, a_cons, o_no, o_ye, d_nil, d_cons, w_ov, ok_bnd, bnd_bnd, rd_d, ofO_some, asD_d, asI_int, asB_bl, op2_d, cmp2_d, ix2_d, biOf1, biOf2, v_add, v_sub, v_mul, v_fdiv, v_mod, v_pow, v_catT, v_catL, v_catS, c_eq, c_ne, c_lt, c_le, c_gt, c_ge, c_isn, c_notn, x_tup, x_lst, x_fz, b_lenT, b_lenL, b_lenF, b_abs, b_int, b_intB, b_max, b_min, b_tupT, b_tupL, b_lstT, b_lstL, b_all, b_any, b_repr, rev_lst, tyOk, eqv_int, abs_nat, at0, at1, GC.val, List.getElem?_cons_zero, List.getElem?_cons_succ, List.set_cons_zero, List.set_cons_succ, List.append_nil, List.nil_append, List.cons_append, List.map_nil, List.map_cons, Option.map_some, List.length_cons, List.length_nil, Bool.not_true, Bool.not_false, if_true, if_false, Bool.false_eq_true, items]
theorem s_power {n k : Nat} {p : Rat} {c : Nat} (hn : 4 ≤ n) (hp : Sz k p) (hc : c ≤ 60) (hk : (c + 1) * (k + 1) ≤ 12000) : callF T n ix_power [.d (fr p), .d (.int c)] = ok (.d (fr (p ^ c))) := by
  obtain ⟨m, rfl⟩ : ∃ m, n = m + 1 := ⟨n - 1, by omega⟩
  rw [callF_at (fn := f_power) rfl]
  refine run_rt rfl ?_
  show evSs (callF T m) f_power.body [some (.d (fr p)), some (.d (.int c)), none, none] = _
  have k0 : k + 1 ≤ 12000 := by
    have := Nat.le_mul_of_pos_left (k + 1) (show 0 < c + 1 by omega)
    omega
  have h1 := s_require_number (n := m) (by omega) (by omega) hp
  have h2 := s_require_count (n := m) (a := (c : Int)) (by omega) (by omega) (by omega)
  have loop : ∀ (xs : List PV) (a : Rat) (x : Option SV) (j : Nat), Sz j a → j + xs.length * (k + 1) ≤ 12000 → ∃ x', forGo (.n 3) (evSs (callF T m) (.cons (.set 2 (.call ix_multiplied (.cons (.slot 2) (.cons (.slot 0) .nil)) [])) .nil)) xs [some (.d (fr p)), some (.d (.int c)), some (.d (fr a)), x] = ok (.nx [some (.d (fr p)), some (.d (.int c)), some (.d (fr (a * p ^ xs.length))), x']) := by
    intro xs
    induction xs with
    | nil =>
      intro a x j _ _
      refine ⟨x, ?_⟩
      rw [List.length_nil, Rat.pow_zero, Rat.mul_one]
      rfl
    | cons y xs ih =>
      intro a x j ha hj
      have hl : (y :: xs).length * (k + 1) = xs.length * (k + 1) + (k + 1) := by rw [List.length_cons, Nat.succ_mul]
      have h1 := s_multiplied (n := m) (p := a) (q := p) (by omega) ha hp (by omega)
      obtain ⟨x', e⟩ := ih (a * p) (some (.d y)) (j + k) (ha.mul hp) (by omega)
      refine ⟨x', ?_⟩
      rw [forGo]
      show bnd (evSs _ _ [some (.d (fr p)), some (.d (.int c)), some (.d (fr a)), some (.d y)]) _ = _
      simp only [h1, q_nil, q_cons, q_set, q_par, q_par3, q_ifs, q_ret, q_ex, e_slot, e_non, e_bl, e_int, e_str, e_glob, e_fnv, e_tup, e_lst, e_bin, e_neg, e_not, e_cmp, e_chain, e_and, e_or, e_one, e_ifx, e_ix, e_cut, e_rev, e_call, e_bi, e_isi, a_nil, a_cons, o_no, o_ye, d_nil, d_cons, w_ov, ok_bnd, bnd_bnd, rd_d, ofO_some, asD_d, asI_int, asB_bl, op2_d, cmp2_d, ix2_d, biOf1, biOf2, v_add, v_sub, v_mul, v_fdiv, v_mod, v_pow, v_catT, v_catL, v_catS, c_eq, c_ne, c_lt, c_le, c_gt, c_ge, c_isn, c_notn, x_tup, x_lst, x_fz, b_lenT, b_lenL, b_lenF, b_abs, b_int, b_intB, b_max, b_min, b_tupT, b_tupL, b_lstT, b_lstL, b_all, b_any, b_repr, rev_lst, tyOk, eqv_int, abs_nat, at0, at1, GC.val, List.getElem?_cons_zero, List.getElem?_cons_succ, List.set_cons_zero, List.set_cons_succ, List.append_nil, List.nil_append, List.cons_append, List.map_nil, List.map_cons, Option.map_some, List.length_cons, List.length_nil, Bool.not_true, Bool.not_false, if_true, if_false, Bool.false_eq_true, items]
      rw [Rat.pow_succ, Rat.mul_comm (p ^ xs.length) p, ← Rat.mul_assoc]
      exact e
  obtain ⟨x', e⟩ := loop (natL c) 1 none 1 ⟨by decide, by decide⟩ (by rw [natL_len]; rw [Nat.succ_mul] at hk; omega)
  rw [fr_one, natL_len, Rat.one_mul] at e
  have hr : evW (callF T m) (.rng1 (.slot 1)) [some (.d (fr p)), some (.d (.int c)), some (.d (.tup [.int 1, .int 1])), none] = ok (natL c) := w_rng (by omega) rfl
  simp only [f_power, h1, h2, hr, e, q_for, q_nil, q_cons, q_set, q_par, q_par3, q_ifs, q_ret, q_ex, e_slot, e_non, e_bl, e_int, e_str, e_glob, e_fnv, e_tup, e_lst, e_bin, e_neg, e_not, e_cmp, e_chain, e_and, e_or, e_one, e_ifx, e_ix, e_cut, e_rev, e_call, e_bi, e_isi, a_nil, a_cons, o_no, o_ye, d_nil, d_cons, w_ov, ok_bnd, bnd_bnd, rd_d, ofO_some, asD_d, asI_int, asB_bl, op2_d, cmp2_d, ix2_d, biOf1, biOf2, v_add, v_sub, v_mul, v_fdiv, v_mod, v_pow, v_catT, v_catL, v_catS, c_eq, c_ne, c_lt, c_le, c_gt, c_ge, c_isn, c_notn, x_tup, x_lst, x_fz, b_lenT, b_lenL, b_lenF, b_abs, b_int, b_intB, b_max, b_min, b_tupT, b_tupL, b_lstT, b_lstL, b_all, b_any, b_repr, rev_lst, tyOk, eqv_int, abs_nat, at0, at1, GC.val, List.getElem?_cons_zero, List.getElem?_cons_succ, List.set_cons_zero, List.set_cons_succ, List.append_nil, List.nil_append, List.cons_append, List.map_nil, List.map_cons, Option.map_some, List.length_cons, List.length_nil, Bool.not_true, Bool.not_false, if_true, if_false, Bool.false_eq_true, items]
theorem s_number {n : Nat} {t b : Int} (hn : 3 ≤ n) (h0 : b ≠ 0) (ht : t.natAbs < 10 ^ 40) (hb : b.natAbs < 10 ^ 40) : callF T n ix_number [.d (.int t), .d (.int b)] = ok (.d (fr (Rat.divInt t b))) := by
  obtain ⟨m, rfl⟩ : ∃ m, n = m + 1 := ⟨n - 1, by omega⟩
  rw [callF_at (fn := f_number) rfl]
  refine run_rt rfl ?_
  show evSs (callF T m) f_number.body [some (.d (.int t)), some (.d (.int b))] = _
  have i1 := s_is_integer (n := m) (a := t) (by omega)
  have i2 := s_is_integer (n := m) (a := b) (by omega)
  have big : ∀ {x : Nat}, x < 10 ^ 40 → x < 2 ^ 13000 := fun h => Nat.lt_of_lt_of_le h (Nat.le_trans (show 10 ^ 40 ≤ 2 ^ 200 by decide) (Nat.pow_le_pow_right (by decide) (by decide)))
  have h1 := s_reduced (n := m) (by omega) h0 (big ht) (big hb)
  have e : ∀ x : Int, x.natAbs < 10 ^ 40 → decide ((10000000000000000000000000000000000000000 : Int) ≤ (x.natAbs : Int)) = false := fun x hx => decide_eq_false (by
    have : (10 ^ 40 : Nat) = 10000000000000000000000000000000000000000 := by decide
    omega)
  have e1 := e t ht
  have e2 := e b hb
  simp only [f_number, i1, i2, h1, e1, e2, decide_eq_false h0, q_nil, q_cons, q_set, q_par, q_par3, q_ifs, q_ret, q_ex, e_slot, e_non, e_bl, e_int, e_str, e_glob, e_fnv, e_tup, e_lst, e_bin, e_neg, e_not, e_cmp, e_chain, e_and, e_or, e_one, e_ifx, e_ix, e_cut, e_rev, e_call, e_bi, e_isi, a_nil, a_cons, o_no, o_ye, d_nil, d_cons, w_ov, ok_bnd, bnd_bnd, rd_d, ofO_some, asD_d, asI_int, asB_bl, op2_d, cmp2_d, ix2_d, biOf1, biOf2, v_add, v_sub, v_mul, v_fdiv, v_mod, v_pow, v_catT, v_catL, v_catS, c_eq, c_ne, c_lt, c_le, c_gt, c_ge, c_isn, c_notn, x_tup, x_lst, x_fz, b_lenT, b_lenL, b_lenF, b_abs, b_int, b_intB, b_max, b_min, b_tupT, b_tupL, b_lstT, b_lstL, b_all, b_any, b_repr, rev_lst, tyOk, eqv_int, abs_nat, at0, at1, GC.val, List.getElem?_cons_zero, List.getElem?_cons_succ, List.set_cons_zero, List.set_cons_succ, List.append_nil, List.nil_append, List.cons_append, List.map_nil, List.map_cons, Option.map_some, List.length_cons, List.length_nil, Bool.not_true, Bool.not_false, if_true, if_false, Bool.false_eq_true, items]
end K21
end -- K21n

section -- K21d
set_option Elab.async false
set_option linter.all false
set_option maxRecDepth 100000
set_option maxHeartbeats 1000000
set_option exponentiation.threshold 14000
namespace K21
open PySem Fo
/-! ### the dice -/
theorem s_roll {n l k : Nat} {many : Int} {st : Store} (hn : 1 ≤ n) (h : DS st l k) (hk : k ≤ 1000000) (hm : 0 < many) (hm2 : many.natAbs < 2 ^ 100) : Wp (callF T n ix__law_roll [.r l, .d (.int many)] st) fun v s => ∃ r : Int, v = .d (.int r) ∧ 0 ≤ r ∧ r < many ∧ DS s l (k + 1) ∧ s.length = st.length := by
  obtain ⟨m, rfl⟩ : ∃ m, n = m + 1 := ⟨n - 1, by omega⟩
  rw [callF_at (fn := f__law_roll) rfl]
  obtain ⟨a, b, c, h1, ⟨ha, ha2⟩, ⟨hb, hb2⟩, hc, hc2⟩ := h
  have hl := (List.getElem?_eq_some_iff.mp h1).1
  have m0 : many ≠ 0 := by omega
  refine Wp.run rfl ?_
  show Wp (evSs (callF T m) f__law_roll.body [some (.r l), some (.d (.int many)), none, none, none] st) _
  by_cases c0 : 0 < a
  · have big : a.natAbs < 2 ^ 13000 := Nat.lt_of_lt_of_le ha2 (Nat.pow_le_pow_right (by decide) (by decide))
    simp only [f__law_roll, q_seti, get0 h1, set0 h1, decide_eq_true c0, m0, pyl_of big, ne_eq, not_false_eq_true, and_self, q_nil, q_cons, q_set, q_par, q_par3, q_ifs, q_ret, q_ex, e_slot, e_non, e_bl, e_int, e_str, e_glob, e_fnv, e_tup, e_lst, e_bin, e_neg, e_not, e_cmp, e_chain, e_and, e_or, e_one, e_ifx, e_ix, e_cut, e_rev, e_call, e_bi, e_isi, a_nil, a_cons, o_no, o_ye, d_nil, d_cons, w_ov, ok_bnd, bnd_bnd, rd_d, ofO_some, asD_d, asI_int, asB_bl, op2_d, cmp2_d, ix2_d, biOf1, biOf2, v_add, v_sub, v_mul, v_fdiv, v_mod, v_pow, v_catT, v_catL, v_catS, c_eq, c_ne, c_lt, c_le, c_gt, c_ge, c_isn, c_notn, x_tup, x_lst, x_fz, b_lenT, b_lenL, b_lenF, b_abs, b_int, b_intB, b_max, b_min, b_tupT, b_tupL, b_lstT, b_lstL, b_all, b_any, b_repr, rev_lst, tyOk, eqv_int, abs_nat, at0, at1, GC.val, List.getElem?_cons_zero, List.getElem?_cons_succ, List.set_cons_zero, List.set_cons_succ, List.append_nil, List.nil_append, List.cons_append, List.map_nil, List.map_cons, Option.map_some, List.length_cons, List.length_nil, Bool.not_true, Bool.not_false, if_true, if_false, Bool.false_eq_true, items]
    refine Wp.ok ⟨_, rfl, a.fmod many, rfl, fm_lo a hm, fm_hi a hm, ?_, ?_⟩
    · rw [take_self (by rw [List.length_set])]
      refine ⟨a.fdiv many, b, c, List.getElem?_set_self hl, ⟨?_, ?_⟩, ⟨hb, hb2⟩, hc, by omega⟩
      · exact Int.fdiv_nonneg ha (Int.le_of_lt hm)
      · rw [Int.fdiv_eq_ediv_of_nonneg _ (Int.le_of_lt hm)]
        refine Nat.lt_of_le_of_lt ?_ ha2
        exact Int.natAbs_ediv_le_natAbs a many
    · rw [take_self (by rw [List.length_set]), List.length_set]
  · have e1 : (c + 1).natAbs < 2 ^ 30 := by omega
    have o1 : mulOk 49979687 (c + 1) = true := mulOk_of (k := 30) (l := 30) (by decide) e1 (by decide)
    have o2 : mulOk 131 (c + 1) = true := mulOk_of (k := 30) (l := 30) (by decide) e1 (by decide)
    have p1 : (0 : Int) < 2305843009213693951 := by decide
    have p2 : (0 : Int) < 2305843009213693921 := by decide
    have p3 : (0 : Int) < 65587 := by decide
    have hs : (st.set l (.lst [.int a, .int b, .int (c + 1)]))[l]? = some (.lst [.int a, .int b, .int (c + 1)]) := List.getElem?_set_self hl
    have b1 := fm_lo (b + 49979687 * (c + 1)) p1
    have b2 := fm_hi (b + 49979687 * (c + 1)) p1
    generalize ho : (b + 49979687 * (c + 1)).fmod 2305843009213693951 = one at b1 b2
    have a1 : one.natAbs < 2 ^ 62 := by omega
    have o3 : mulOk one one = true := mulOk_of a1 a1 (by decide)
    have b3 := fm_lo (one * one + 131 * (c + 1)) p2
    have b4 := fm_hi (one * one + 131 * (c + 1)) p2
    generalize ht : (one * one + 131 * (c + 1)).fmod 2305843009213693921 = two at b3 b4
    have a2 : two.natAbs < 2 ^ 62 := by omega
    have o4 : mulOk two 32452843 = true := mulOk_of (l := 30) a2 (by decide) (by decide)
    have a3 : (two * 32452843 + one).natAbs < 2 ^ 13000 := Nat.lt_of_lt_of_le (natAbs_add_lt (k := 92) (natAbs_mul_lt (l := 30) a2 (by decide)) (Nat.lt_of_lt_of_le a1 (Nat.pow_le_pow_right (by decide) (by decide)))) (Nat.pow_le_pow_right (by decide) (by decide))
    have p3' : (65587 : Int) ≠ 0 := by decide
    have p1' : (2305843009213693951 : Int) ≠ 0 := by decide
    have p2' : (2305843009213693921 : Int) ≠ 0 := by decide
    simp only [f__law_roll, q_seti, get0 h1, get1 hs, get2 h1, get2 hs, set2 h1, decide_eq_false c0, m0, o1, o2, o3, o4, ho, ht, p1', p2', p3', pyl_of a3, ne_eq, not_false_eq_true, and_self, q_nil, q_cons, q_set, q_par, q_par3, q_ifs, q_ret, q_ex, e_slot, e_non, e_bl, e_int, e_str, e_glob, e_fnv, e_tup, e_lst, e_bin, e_neg, e_not, e_cmp, e_chain, e_and, e_or, e_one, e_ifx, e_ix, e_cut, e_rev, e_call, e_bi, e_isi, a_nil, a_cons, o_no, o_ye, d_nil, d_cons, w_ov, ok_bnd, bnd_bnd, rd_d, ofO_some, asD_d, asI_int, asB_bl, op2_d, cmp2_d, ix2_d, biOf1, biOf2, v_add, v_sub, v_mul, v_fdiv, v_mod, v_pow, v_catT, v_catL, v_catS, c_eq, c_ne, c_lt, c_le, c_gt, c_ge, c_isn, c_notn, x_tup, x_lst, x_fz, b_lenT, b_lenL, b_lenF, b_abs, b_int, b_intB, b_max, b_min, b_tupT, b_tupL, b_lstT, b_lstL, b_all, b_any, b_repr, rev_lst, tyOk, eqv_int, abs_nat, at0, at1, GC.val, List.getElem?_cons_zero, List.getElem?_cons_succ, List.set_cons_zero, List.set_cons_succ, List.append_nil, List.nil_append, List.cons_append, List.map_nil, List.map_cons, Option.map_some, List.length_cons, List.length_nil, Bool.not_true, Bool.not_false, if_true, if_false, Bool.false_eq_true, items]
    refine Wp.ok ⟨_, rfl, ((two * 32452843 + one).fdiv 65587).fmod many, rfl, fm_lo _ hm, fm_hi _ hm, ?_, ?_⟩
    · rw [take_self (by rw [List.length_set])]
      exact ⟨a, b, c + 1, hs, ⟨ha, ha2⟩, ⟨hb, hb2⟩, by omega, by omega⟩
    · rw [take_self (by rw [List.length_set]), List.length_set]
theorem s_pick {n l k : Nat} {xs : List PV} {st : Store} (hn : 2 ≤ n) (h : DS st l k) (hk : k ≤ 1000000) (hx : xs ≠ []) (hx2 : xs.length ≤ 1000000) : Wp (callF T n ix__law_pick [.r l, .d (.lst xs)] st) fun v s => ∃ x, x ∈ xs ∧ v = .d x ∧ DS s l (k + 1) ∧ s.length = st.length := by
  obtain ⟨m, rfl⟩ : ∃ m, n = m + 1 := ⟨n - 1, by omega⟩
  rw [callF_at (fn := f__law_pick) rfl]
  refine Wp.run rfl ?_
  show Wp (evSs (callF T m) f__law_pick.body [some (.r l), some (.d (.lst xs))] st) _
  have hl : 0 < xs.length := List.length_pos_iff.mpr hx
  have q := s_roll (n := m) (many := (xs.length : Int)) (by omega) h hk (by omega) (by
    have : (1000000 : Nat) < 2 ^ 100 := by decide
    omega)
  simp only [f__law_pick, q_nil, q_cons, q_set, q_par, q_par3, q_ifs, q_ret, q_ex, e_slot, e_non, e_bl, e_int, e_str, e_glob, e_fnv, e_tup, e_lst, e_bin, e_neg, e_not, e_cmp, e_chain, e_and, e_or, e_one, e_ifx, e_ix, e_cut, e_rev, e_call, e_bi, e_isi, a_nil, a_cons, o_no, o_ye, d_nil, d_cons, w_ov, ok_bnd, bnd_bnd, rd_d, ofO_some, asD_d, asI_int, asB_bl, op2_d, cmp2_d, ix2_d, biOf1, biOf2, v_add, v_sub, v_mul, v_fdiv, v_mod, v_pow, v_catT, v_catL, v_catS, c_eq, c_ne, c_lt, c_le, c_gt, c_ge, c_isn, c_notn, x_tup, x_lst, x_fz, b_lenT, b_lenL, b_lenF, b_abs, b_int, b_intB, b_max, b_min, b_tupT, b_tupL, b_lstT, b_lstL, b_all, b_any, b_repr, rev_lst, tyOk, eqv_int, abs_nat, at0, at1, GC.val, List.getElem?_cons_zero, List.getElem?_cons_succ, List.set_cons_zero, List.set_cons_succ, List.append_nil, List.nil_append, List.cons_append, List.map_nil, List.map_cons, Option.map_some, List.length_cons, List.length_nil, Bool.not_true, Bool.not_false, if_true, if_false, Bool.false_eq_true, items]
  refine Wp.bnd q ?_
  rintro v s ⟨r, rfl, r1, r2, r3, r4⟩
  have e : L2.atI xs r = some (xs[r.toNat]'(by omega)) := by
    unfold L2.atI L2.ixN
    rw [if_pos r1, if_pos r2]
    show xs[r.toNat]? = _
    exact List.getElem?_eq_getElem (by omega)
  simp only [e, q_nil, q_cons, q_set, q_par, q_par3, q_ifs, q_ret, q_ex, e_slot, e_non, e_bl, e_int, e_str, e_glob, e_fnv, e_tup, e_lst, e_bin, e_neg, e_not, e_cmp, e_chain, e_and, e_or, e_one, e_ifx, e_ix, e_cut, e_rev, e_call, e_bi, e_isi, a_nil, a_cons, o_no, o_ye, d_nil, d_cons, w_ov, ok_bnd, bnd_bnd, rd_d, ofO_some, asD_d, asI_int, asB_bl, op2_d, cmp2_d, ix2_d, biOf1, biOf2, v_add, v_sub, v_mul, v_fdiv, v_mod, v_pow, v_catT, v_catL, v_catS, c_eq, c_ne, c_lt, c_le, c_gt, c_ge, c_isn, c_notn, x_tup, x_lst, x_fz, b_lenT, b_lenL, b_lenF, b_abs, b_int, b_intB, b_max, b_min, b_tupT, b_tupL, b_lstT, b_lstL, b_all, b_any, b_repr, rev_lst, tyOk, eqv_int, abs_nat, at0, at1, GC.val, List.getElem?_cons_zero, List.getElem?_cons_succ, List.set_cons_zero, List.set_cons_succ, List.append_nil, List.nil_append, List.cons_append, List.map_nil, List.map_cons, Option.map_some, List.length_cons, List.length_nil, Bool.not_true, Bool.not_false, if_true, if_false, Bool.false_eq_true, items]
  refine Wp.ok ⟨_, rfl, xs[r.toNat]'(by omega), List.getElem_mem _, rfl, ?_⟩
  rw [take_self r4]
  exact ⟨r3, r4⟩
end K21
end -- K21d

section -- K21e
set_option Elab.async false
set_option linter.all false
set_option maxRecDepth 100000
set_option maxHeartbeats 1000000
set_option exponentiation.threshold 14000
namespace K21
open PySem Fo
/-! ### the law's own fractions -/
theorem s_law_fr {n : Nat} {t b : Int} (hn : 1 ≤ n) (h0 : b ≠ 0) (ht : t.natAbs < 2 ^ 12900) (hb : b.natAbs < 2 ^ 12900) : callF T n ix__law_fr [.d (.int t), .d (.int b)] = ok (.d (fr (Rat.divInt t b))) := by
  obtain ⟨m, rfl⟩ : ∃ m, n = m + 1 := ⟨n - 1, by omega⟩
  rw [callF_at (fn := f__law_fr) rfl]
  refine run_rt rfl ?_
  show evSs (callF T m) f__law_fr.body [some (.d (.int t)), some (.d (.int b)), none, none, none] = _
  have w : evS (callF T m) (.whl (.cmp .gt (.slot 4) (.int 0)) (.cons (.par 3 4 (.slot 4) (.bin .mod (.slot 3) (.slot 4))) .nil)) [some (.d (.int t)), some (.d (.int b)), none, some (.d (.int (t.natAbs : Int))), some (.d (.int (b.natAbs : Int)))] = ok (.nx [some (.d (.int t)), some (.d (.int b)), none, some (.d (.int (Int.gcd t b))), some (.d (.int (0 : Nat)))]) :=
    gcd_loop (cl := callF T m) (sl := [some (.d (.int t)), some (.d (.int b)), none, none, none]) (i := 3) (j := 4) (a := t.natAbs) (b := b.natAbs) (by simp) (by simp) (by decide) (k := 12900) (by decide) hb
  have g0 : (Int.gcd t b : Int) ≠ 0 := by have := gcd_pos' (t := t) h0; omega
  have big : ∀ {x : Nat}, x < 2 ^ 12900 → x < 2 ^ 13000 := fun h => Nat.lt_of_lt_of_le h (Nat.pow_le_pow_right (by decide) (by decide))
  by_cases c : b < 0
  · have o1 : mulOk (-1) t = true := mulOk_of (k := 1) (by decide) ht (by decide)
    have o2 : mulOk (-1) b = true := mulOk_of (k := 1) (by decide) hb (by decide)
    have e1 : -1 * t = 0 - t := by omega
    have e2 : -1 * b = 0 - b := by omega
    have p1 : Builtin.divisionGoesByPylong (0 - t) (Int.gcd t b : Int) = false := pyl_of (by rw [Int.zero_sub, Int.natAbs_neg]; exact big ht)
    have p2 : Builtin.divisionGoesByPylong (0 - b) (Int.gcd t b : Int) = false := pyl_of (by rw [Int.zero_sub, Int.natAbs_neg]; exact big hb)
    rw [low_neg c]
    simp only [f__law_fr, w, decide_eq_true c, o1, o2, e1, e2, g0, p1, p2, ne_eq, not_false_eq_true, and_self, Int.fdiv_eq_ediv_of_nonneg _ (Int.natCast_nonneg (Int.gcd t b)), q_nil, q_cons, q_set, q_par, q_par3, q_ifs, q_ret, q_ex, e_slot, e_non, e_bl, e_int, e_str, e_glob, e_fnv, e_tup, e_lst, e_bin, e_neg, e_not, e_cmp, e_chain, e_and, e_or, e_one, e_ifx, e_ix, e_cut, e_rev, e_call, e_bi, e_isi, a_nil, a_cons, o_no, o_ye, d_nil, d_cons, w_ov, ok_bnd, bnd_bnd, rd_d, ofO_some, asD_d, asI_int, asB_bl, op2_d, cmp2_d, ix2_d, biOf1, biOf2, v_add, v_sub, v_mul, v_fdiv, v_mod, v_pow, v_catT, v_catL, v_catS, c_eq, c_ne, c_lt, c_le, c_gt, c_ge, c_isn, c_notn, x_tup, x_lst, x_fz, b_lenT, b_lenL, b_lenF, b_abs, b_int, b_intB, b_max, b_min, b_tupT, b_tupL, b_lstT, b_lstL, b_all, b_any, b_repr, rev_lst, tyOk, eqv_int, abs_nat, at0, at1, GC.val, List.getElem?_cons_zero, List.getElem?_cons_succ, List.set_cons_zero, List.set_cons_succ, List.append_nil, List.nil_append, List.cons_append, List.map_nil, List.map_cons, Option.map_some, List.length_cons, List.length_nil, Bool.not_true, Bool.not_false, if_true, if_false, Bool.false_eq_true, items]
  · have o1 : mulOk 1 t = true := mulOk_of (k := 1) (by decide) ht (by decide)
    have o2 : mulOk 1 b = true := mulOk_of (k := 1) (by decide) hb (by decide)
    rw [low_pos (show 0 < b by omega)]
    simp only [f__law_fr, w, decide_eq_false c, o1, o2, Int.one_mul, g0, pyl_of (big ht), pyl_of (big hb), ne_eq, not_false_eq_true, and_self, Int.fdiv_eq_ediv_of_nonneg _ (Int.natCast_nonneg (Int.gcd t b)), q_nil, q_cons, q_set, q_par, q_par3, q_ifs, q_ret, q_ex, e_slot, e_non, e_bl, e_int, e_str, e_glob, e_fnv, e_tup, e_lst, e_bin, e_neg, e_not, e_cmp, e_chain, e_and, e_or, e_one, e_ifx, e_ix, e_cut, e_rev, e_call, e_bi, e_isi, a_nil, a_cons, o_no, o_ye, d_nil, d_cons, w_ov, ok_bnd, bnd_bnd, rd_d, ofO_some, asD_d, asI_int, asB_bl, op2_d, cmp2_d, ix2_d, biOf1, biOf2, v_add, v_sub, v_mul, v_fdiv, v_mod, v_pow, v_catT, v_catL, v_catS, c_eq, c_ne, c_lt, c_le, c_gt, c_ge, c_isn, c_notn, x_tup, x_lst, x_fz, b_lenT, b_lenL, b_lenF, b_abs, b_int, b_intB, b_max, b_min, b_tupT, b_tupL, b_lstT, b_lstL, b_all, b_any, b_repr, rev_lst, tyOk, eqv_int, abs_nat, at0, at1, GC.val, List.getElem?_cons_zero, List.getElem?_cons_succ, List.set_cons_zero, List.set_cons_succ, List.append_nil, List.nil_append, List.cons_append, List.map_nil, List.map_cons, Option.map_some, List.length_cons, List.length_nil, Bool.not_true, Bool.not_false, if_true, if_false, Bool.false_eq_true, items]
theorem s_law_plus {n k l : Nat} {p q : Rat} (hn : 2 ≤ n) (hp : Sz k p) (hq : Sz l q) (hkl : k + l + 1 ≤ 12900) : callF T n ix__law_plus [.d (fr p), .d (fr q)] = ok (.d (fr (p + q))) := by
  obtain ⟨m, rfl⟩ : ∃ m, n = m + 1 := ⟨n - 1, by omega⟩
  rw [callF_at (fn := f__law_plus) rfl]
  refine run_rt rfl ?_
  show evSs (callF T m) f__law_plus.body [some (.d (.tup [.int p.num, .int p.den])), some (.d (.tup [.int q.num, .int q.den]))] = _
  have big : ∀ {x : Nat}, x < 2 ^ (k + l + 1) → x < 2 ^ 12900 := fun h => Nat.lt_of_lt_of_le h (Nat.pow_le_pow_right (by decide) hkl)
  have m1 : (p.num * (q.den : Int)).natAbs < 2 ^ (k + l) := natAbs_mul_lt hp.1 hq.2
  have m2 : (q.num * (p.den : Int)).natAbs < 2 ^ (k + l) := by rw [Nat.add_comm]; exact natAbs_mul_lt hq.1 hp.2
  have m3 : ((p.den : Int) * (q.den : Int)).natAbs < 2 ^ (k + l) := natAbs_mul_lt hp.2 hq.2
  have h0 : (p.den : Int) * (q.den : Int) ≠ 0 := Int.mul_ne_zero (by have := p.den_pos; omega) (by have := q.den_pos; omega)
  have o1 : mulOk p.num q.den = true := mulOk_of hp.1 hq.2 (by omega)
  have o2 : mulOk q.num p.den = true := mulOk_of hq.1 hp.2 (by omega)
  have o3 : mulOk p.den q.den = true := mulOk_of hp.2 hq.2 (by omega)
  have h1 := s_law_fr (n := m) (by omega) h0 (big (natAbs_add_lt m1 m2)) (big (Nat.lt_of_lt_of_le m3 (Nat.pow_le_pow_right (by decide) (by omega))))
  rw [← add_divInt] at h1
  simp only [f__law_plus, o1, o2, o3, h1, q_nil, q_cons, q_set, q_par, q_par3, q_ifs, q_ret, q_ex, e_slot, e_non, e_bl, e_int, e_str, e_glob, e_fnv, e_tup, e_lst, e_bin, e_neg, e_not, e_cmp, e_chain, e_and, e_or, e_one, e_ifx, e_ix, e_cut, e_rev, e_call, e_bi, e_isi, a_nil, a_cons, o_no, o_ye, d_nil, d_cons, w_ov, ok_bnd, bnd_bnd, rd_d, ofO_some, asD_d, asI_int, asB_bl, op2_d, cmp2_d, ix2_d, biOf1, biOf2, v_add, v_sub, v_mul, v_fdiv, v_mod, v_pow, v_catT, v_catL, v_catS, c_eq, c_ne, c_lt, c_le, c_gt, c_ge, c_isn, c_notn, x_tup, x_lst, x_fz, b_lenT, b_lenL, b_lenF, b_abs, b_int, b_intB, b_max, b_min, b_tupT, b_tupL, b_lstT, b_lstL, b_all, b_any, b_repr, rev_lst, tyOk, eqv_int, abs_nat, at0, at1, GC.val, List.getElem?_cons_zero, List.getElem?_cons_succ, List.set_cons_zero, List.set_cons_succ, List.append_nil, List.nil_append, List.cons_append, List.map_nil, List.map_cons, Option.map_some, List.length_cons, List.length_nil, Bool.not_true, Bool.not_false, if_true, if_false, Bool.false_eq_true, items]
theorem s_law_times {n k l : Nat} {p q : Rat} (hn : 2 ≤ n) (hp : Sz k p) (hq : Sz l q) (hkl : k + l ≤ 12900) : callF T n ix__law_times [.d (fr p), .d (fr q)] = ok (.d (fr (p * q))) := by
  obtain ⟨m, rfl⟩ : ∃ m, n = m + 1 := ⟨n - 1, by omega⟩
  rw [callF_at (fn := f__law_times) rfl]
  refine run_rt rfl ?_
  show evSs (callF T m) f__law_times.body [some (.d (.tup [.int p.num, .int p.den])), some (.d (.tup [.int q.num, .int q.den]))] = _
  have big : ∀ {x : Nat}, x < 2 ^ (k + l) → x < 2 ^ 12900 := fun h => Nat.lt_of_lt_of_le h (Nat.pow_le_pow_right (by decide) hkl)
  have m1 : (p.num * q.num).natAbs < 2 ^ (k + l) := natAbs_mul_lt hp.1 hq.1
  have m3 : ((p.den : Int) * (q.den : Int)).natAbs < 2 ^ (k + l) := natAbs_mul_lt hp.2 hq.2
  have h0 : (p.den : Int) * (q.den : Int) ≠ 0 := Int.mul_ne_zero (by have := p.den_pos; omega) (by have := q.den_pos; omega)
  have o1 : mulOk p.num q.num = true := mulOk_of hp.1 hq.1 (by omega)
  have o3 : mulOk p.den q.den = true := mulOk_of hp.2 hq.2 (by omega)
  have h1 := s_law_fr (n := m) (by omega) h0 (big m1) (big m3)
  rw [← mul_divInt] at h1
  simp only [f__law_times, o1, o3, h1, q_nil, q_cons, q_set, q_par, q_par3, q_ifs, q_ret, q_ex, e_slot, e_non, e_bl, e_int, e_str, e_glob, e_fnv, e_tup, e_lst, e_bin, e_neg, e_not, e_cmp, e_chain, e_and, e_or, e_one, e_ifx, e_ix, e_cut, e_rev, e_call, e_bi, e_isi, a_nil, a_cons, o_no, o_ye, d_nil, d_cons, w_ov, ok_bnd, bnd_bnd, rd_d, ofO_some, asD_d, asI_int, asB_bl, op2_d, cmp2_d, ix2_d, biOf1, biOf2, v_add, v_sub, v_mul, v_fdiv, v_mod, v_pow, v_catT, v_catL, v_catS, c_eq, c_ne, c_lt, c_le, c_gt, c_ge, c_isn, c_notn, x_tup, x_lst, x_fz, b_lenT, b_lenL, b_lenF, b_abs, b_int, b_intB, b_max, b_min, b_tupT, b_tupL, b_lstT, b_lstL, b_all, b_any, b_repr, rev_lst, tyOk, eqv_int, abs_nat, at0, at1, GC.val, List.getElem?_cons_zero, List.getElem?_cons_succ, List.set_cons_zero, List.set_cons_succ, List.append_nil, List.nil_append, List.cons_append, List.map_nil, List.map_cons, Option.map_some, List.length_cons, List.length_nil, Bool.not_true, Bool.not_false, if_true, if_false, Bool.false_eq_true, items]
theorem s_law_minus {n k l : Nat} {p q : Rat} (hn : 2 ≤ n) (hp : Sz k p) (hq : Sz l q) (hkl : k + l + 1 ≤ 12900) : callF T n ix__law_minus [.d (fr p), .d (fr q)] = ok (.d (fr (p - q))) := by
  obtain ⟨m, rfl⟩ : ∃ m, n = m + 1 := ⟨n - 1, by omega⟩
  rw [callF_at (fn := f__law_minus) rfl]
  refine run_rt rfl ?_
  show evSs (callF T m) f__law_minus.body [some (.d (.tup [.int p.num, .int p.den])), some (.d (.tup [.int q.num, .int q.den]))] = _
  have big : ∀ {x : Nat}, x < 2 ^ (k + l + 1) → x < 2 ^ 12900 := fun h => Nat.lt_of_lt_of_le h (Nat.pow_le_pow_right (by decide) hkl)
  have m1 : (p.num * (q.den : Int)).natAbs < 2 ^ (k + l) := natAbs_mul_lt hp.1 hq.2
  have m2 : (q.num * (p.den : Int)).natAbs < 2 ^ (k + l) := by rw [Nat.add_comm]; exact natAbs_mul_lt hq.1 hp.2
  have m2' : (-(q.num * (p.den : Int))).natAbs < 2 ^ (k + l) := by rw [Int.natAbs_neg]; exact m2
  have m3 : ((p.den : Int) * (q.den : Int)).natAbs < 2 ^ (k + l) := natAbs_mul_lt hp.2 hq.2
  have h0 : (p.den : Int) * (q.den : Int) ≠ 0 := Int.mul_ne_zero (by have := p.den_pos; omega) (by have := q.den_pos; omega)
  have o1 : mulOk p.num q.den = true := mulOk_of hp.1 hq.2 (by omega)
  have o2 : mulOk q.num p.den = true := mulOk_of hq.1 hp.2 (by omega)
  have o3 : mulOk p.den q.den = true := mulOk_of hp.2 hq.2 (by omega)
  have h1 := s_law_fr (n := m) (by omega) h0 (big (natAbs_add_lt m1 m2')) (big (Nat.lt_of_lt_of_le m3 (Nat.pow_le_pow_right (by decide) (by omega))))
  have e : Rat.divInt (p.num * q.den + -(q.num * p.den)) (p.den * q.den) = p - q := by
    rw [Rat.sub_def', ← Rat.divInt_ofNat]
    rfl
  rw [e, ← Int.sub_eq_add_neg] at h1
  simp only [f__law_minus, o1, o2, o3, h1, q_nil, q_cons, q_set, q_par, q_par3, q_ifs, q_ret, q_ex, e_slot, e_non, e_bl, e_int, e_str, e_glob, e_fnv, e_tup, e_lst, e_bin, e_neg, e_not, e_cmp, e_chain, e_and, e_or, e_one, e_ifx, e_ix, e_cut, e_rev, e_call, e_bi, e_isi, a_nil, a_cons, o_no, o_ye, d_nil, d_cons, w_ov, ok_bnd, bnd_bnd, rd_d, ofO_some, asD_d, asI_int, asB_bl, op2_d, cmp2_d, ix2_d, biOf1, biOf2, v_add, v_sub, v_mul, v_fdiv, v_mod, v_pow, v_catT, v_catL, v_catS, c_eq, c_ne, c_lt, c_le, c_gt, c_ge, c_isn, c_notn, x_tup, x_lst, x_fz, b_lenT, b_lenL, b_lenF, b_abs, b_int, b_intB, b_max, b_min, b_tupT, b_tupL, b_lstT, b_lstL, b_all, b_any, b_repr, rev_lst, tyOk, eqv_int, abs_nat, at0, at1, GC.val, List.getElem?_cons_zero, List.getElem?_cons_succ, List.set_cons_zero, List.set_cons_succ, List.append_nil, List.nil_append, List.cons_append, List.map_nil, List.map_cons, Option.map_some, List.length_cons, List.length_nil, Bool.not_true, Bool.not_false, if_true, if_false, Bool.false_eq_true, items]
theorem s_integer {n l k : Nat} {st : Store} (hn : 3 ≤ n) (h : DS st l k) (hk : k ≤ 900000) : Wp (callF T n ix__law_integer [.r l] st) fun v s => ∃ i : Int, v = .d (.int i) ∧ i ≠ 0 ∧ i.natAbs ≤ 10 ^ 19 ∧ DS s l (k + 3) ∧ s.length = st.length := by
  obtain ⟨m, rfl⟩ : ∃ m, n = m + 1 := ⟨n - 1, by omega⟩
  rw [callF_at (fn := f__law_integer) rfl]
  refine Wp.run rfl ?_
  show Wp (evSs (callF T m) f__law_integer.body [some (.r l), none] st) _
  have pw : powOk 10 6 = true := by decide
  have pw2 : powOk 10 19 = true := by decide
  have q := s_pick (n := m) (xs := [.int 10, .int 10, .int 10, .int 100, .int (10 ^ Int.toNat 6), .int (10 ^ Int.toNat 19)]) (by omega) h (by omega) (by simp) (show 6 ≤ 1000000 by decide)
  simp only [f__law_integer, pw, pw2, q_nil, q_cons, q_set, q_par, q_par3, q_ifs, q_ret, q_ex, e_slot, e_non, e_bl, e_int, e_str, e_glob, e_fnv, e_tup, e_lst, e_bin, e_neg, e_not, e_cmp, e_chain, e_and, e_or, e_one, e_ifx, e_ix, e_cut, e_rev, e_call, e_bi, e_isi, a_nil, a_cons, o_no, o_ye, d_nil, d_cons, w_ov, ok_bnd, bnd_bnd, rd_d, ofO_some, asD_d, asI_int, asB_bl, op2_d, cmp2_d, ix2_d, biOf1, biOf2, v_add, v_sub, v_mul, v_fdiv, v_mod, v_pow, v_catT, v_catL, v_catS, c_eq, c_ne, c_lt, c_le, c_gt, c_ge, c_isn, c_notn, x_tup, x_lst, x_fz, b_lenT, b_lenL, b_lenF, b_abs, b_int, b_intB, b_max, b_min, b_tupT, b_tupL, b_lstT, b_lstL, b_all, b_any, b_repr, rev_lst, tyOk, eqv_int, abs_nat, at0, at1, GC.val, List.getElem?_cons_zero, List.getElem?_cons_succ, List.set_cons_zero, List.set_cons_succ, List.append_nil, List.nil_append, List.cons_append, List.map_nil, List.map_cons, Option.map_some, List.length_cons, List.length_nil, Bool.not_true, Bool.not_false, if_true, if_false, Bool.false_eq_true, items]
  refine Wp.bnd q ?_
  rintro v s ⟨x, hx, rfl, d1, l1⟩
  have hx2 : ∃ bd : Int, x = .int bd ∧ 0 < bd ∧ bd ≤ 10 ^ 19 := by
    simp only [List.mem_cons, List.not_mem_nil, or_false] at hx
    rcases hx with z | z | z | z | z | z <;> exact ⟨_, z, by decide, by decide⟩
  obtain ⟨bd, rfl, hb1, hb2⟩ := hx2
  have e19 : (10 : Int) ^ 19 = 10000000000000000000 := by decide
  rw [e19] at hb2
  have q2 := s_roll (n := m) (many := bd) (st := s) (by omega) d1 (by omega) hb1 (by
    have : (10000000000000000000 : Nat) < 2 ^ 100 := by decide
    omega)
  try simp only [q_nil, q_cons, q_set, q_par, q_par3, q_ifs, q_ret, q_ex, e_slot, e_non, e_bl, e_int, e_str, e_glob, e_fnv, e_tup, e_lst, e_bin, e_neg, e_not, e_cmp, e_chain, e_and, e_or, e_one, e_ifx, e_ix, e_cut, e_rev, e_call, e_bi, e_isi, a_nil, a_cons, o_no, o_ye, d_nil, d_cons, w_ov, ok_bnd, bnd_bnd, rd_d, ofO_some, asD_d, asI_int, asB_bl, op2_d, cmp2_d, ix2_d, biOf1, biOf2, v_add, v_sub, v_mul, v_fdiv, v_mod, v_pow, v_catT, v_catL, v_catS, c_eq, c_ne, c_lt, c_le, c_gt, c_ge, c_isn, c_notn, x_tup, x_lst, x_fz, b_lenT, b_lenL, b_lenF, b_abs, b_int, b_intB, b_max, b_min, b_tupT, b_tupL, b_lstT, b_lstL, b_all, b_any, b_repr, rev_lst, tyOk, eqv_int, abs_nat, at0, at1, GC.val, List.getElem?_cons_zero, List.getElem?_cons_succ, List.set_cons_zero, List.set_cons_succ, List.append_nil, List.nil_append, List.cons_append, List.map_nil, List.map_cons, Option.map_some, List.length_cons, List.length_nil, Bool.not_true, Bool.not_false, if_true, if_false, Bool.false_eq_true, items]
  refine Wp.bnd q2 ?_
  rintro v s2 ⟨r, rfl, r1, r2, d2, l2⟩
  have q3 := s_pick (n := m) (xs := [.int 1, .int (-1)]) (st := s2) (by omega) d2 (by omega) (by simp) (show 2 ≤ 1000000 by decide)
  try simp only [q_nil, q_cons, q_set, q_par, q_par3, q_ifs, q_ret, q_ex, e_slot, e_non, e_bl, e_int, e_str, e_glob, e_fnv, e_tup, e_lst, e_bin, e_neg, e_not, e_cmp, e_chain, e_and, e_or, e_one, e_ifx, e_ix, e_cut, e_rev, e_call, e_bi, e_isi, a_nil, a_cons, o_no, o_ye, d_nil, d_cons, w_ov, ok_bnd, bnd_bnd, rd_d, ofO_some, asD_d, asI_int, asB_bl, op2_d, cmp2_d, ix2_d, biOf1, biOf2, v_add, v_sub, v_mul, v_fdiv, v_mod, v_pow, v_catT, v_catL, v_catS, c_eq, c_ne, c_lt, c_le, c_gt, c_ge, c_isn, c_notn, x_tup, x_lst, x_fz, b_lenT, b_lenL, b_lenF, b_abs, b_int, b_intB, b_max, b_min, b_tupT, b_tupL, b_lstT, b_lstL, b_all, b_any, b_repr, rev_lst, tyOk, eqv_int, abs_nat, at0, at1, GC.val, List.getElem?_cons_zero, List.getElem?_cons_succ, List.set_cons_zero, List.set_cons_succ, List.append_nil, List.nil_append, List.cons_append, List.map_nil, List.map_cons, Option.map_some, List.length_cons, List.length_nil, Bool.not_true, Bool.not_false, if_true, if_false, Bool.false_eq_true, items]
  refine Wp.bnd q3 ?_
  rintro v s3 ⟨x, hx, rfl, d3, l3⟩
  have n19 : (10 : Nat) ^ 19 = 10000000000000000000 := by decide
  have ha : (1 + r).natAbs < 2 ^ 70 := by
    have : (10000000000000000000 : Nat) + 1 < 2 ^ 70 := by decide
    omega
  simp only [List.mem_cons, List.not_mem_nil, or_false] at hx
  rcases hx with z | z
  · subst z
    have o : mulOk (1 + r) 1 = true := mulOk_of (l := 1) ha (by decide) (by decide)
    simp only [o, q_nil, q_cons, q_set, q_par, q_par3, q_ifs, q_ret, q_ex, e_slot, e_non, e_bl, e_int, e_str, e_glob, e_fnv, e_tup, e_lst, e_bin, e_neg, e_not, e_cmp, e_chain, e_and, e_or, e_one, e_ifx, e_ix, e_cut, e_rev, e_call, e_bi, e_isi, a_nil, a_cons, o_no, o_ye, d_nil, d_cons, w_ov, ok_bnd, bnd_bnd, rd_d, ofO_some, asD_d, asI_int, asB_bl, op2_d, cmp2_d, ix2_d, biOf1, biOf2, v_add, v_sub, v_mul, v_fdiv, v_mod, v_pow, v_catT, v_catL, v_catS, c_eq, c_ne, c_lt, c_le, c_gt, c_ge, c_isn, c_notn, x_tup, x_lst, x_fz, b_lenT, b_lenL, b_lenF, b_abs, b_int, b_intB, b_max, b_min, b_tupT, b_tupL, b_lstT, b_lstL, b_all, b_any, b_repr, rev_lst, tyOk, eqv_int, abs_nat, at0, at1, GC.val, List.getElem?_cons_zero, List.getElem?_cons_succ, List.set_cons_zero, List.set_cons_succ, List.append_nil, List.nil_append, List.cons_append, List.map_nil, List.map_cons, Option.map_some, List.length_cons, List.length_nil, Bool.not_true, Bool.not_false, if_true, if_false, Bool.false_eq_true, items]
    refine Wp.ok ⟨_, rfl, _, rfl, by omega, by omega, ?_⟩
    rw [take_self (by omega)]
    exact ⟨d3, by omega⟩
  · subst z
    have o : mulOk (1 + r) (-1) = true := mulOk_of (l := 1) ha (by decide) (by decide)
    simp only [o, q_nil, q_cons, q_set, q_par, q_par3, q_ifs, q_ret, q_ex, e_slot, e_non, e_bl, e_int, e_str, e_glob, e_fnv, e_tup, e_lst, e_bin, e_neg, e_not, e_cmp, e_chain, e_and, e_or, e_one, e_ifx, e_ix, e_cut, e_rev, e_call, e_bi, e_isi, a_nil, a_cons, o_no, o_ye, d_nil, d_cons, w_ov, ok_bnd, bnd_bnd, rd_d, ofO_some, asD_d, asI_int, asB_bl, op2_d, cmp2_d, ix2_d, biOf1, biOf2, v_add, v_sub, v_mul, v_fdiv, v_mod, v_pow, v_catT, v_catL, v_catS, c_eq, c_ne, c_lt, c_le, c_gt, c_ge, c_isn, c_notn, x_tup, x_lst, x_fz, b_lenT, b_lenL, b_lenF, b_abs, b_int, b_intB, b_max, b_min, b_tupT, b_tupL, b_lstT, b_lstL, b_all, b_any, b_repr, rev_lst, tyOk, eqv_int, abs_nat, at0, at1, GC.val, List.getElem?_cons_zero, List.getElem?_cons_succ, List.set_cons_zero, List.set_cons_succ, List.append_nil, List.nil_append, List.cons_append, List.map_nil, List.map_cons, Option.map_some, List.length_cons, List.length_nil, Bool.not_true, Bool.not_false, if_true, if_false, Bool.false_eq_true, items]
    refine Wp.ok ⟨_, rfl, _, rfl, by omega, by omega, ?_⟩
    rw [take_self (by omega)]
    exact ⟨d3, by omega⟩
theorem s_drawn {n l k : Nat} {st : Store} (hn : 4 ≤ n) (h : DS st l k) (hk : k ≤ 800000) : Wp (callF T n ix__law_drawn [.r l] st) fun v s => ∃ q : Rat, v = .d (fr q) ∧ Sz 64 q ∧ DS s l (k + 7) ∧ s.length = st.length := by
  obtain ⟨m, rfl⟩ : ∃ m, n = m + 1 := ⟨n - 1, by omega⟩
  rw [callF_at (fn := f__law_drawn) rfl]
  refine Wp.run rfl ?_
  show Wp (evSs (callF T m) f__law_drawn.body [some (.r l)] st) _
  have q := s_roll (n := m) (many := 6) (st := st) (by omega) h (by omega) (by decide) (by decide)
  simp only [f__law_drawn, q_nil, q_cons, q_set, q_par, q_par3, q_ifs, q_ret, q_ex, e_slot, e_non, e_bl, e_int, e_str, e_glob, e_fnv, e_tup, e_lst, e_bin, e_neg, e_not, e_cmp, e_chain, e_and, e_or, e_one, e_ifx, e_ix, e_cut, e_rev, e_call, e_bi, e_isi, a_nil, a_cons, o_no, o_ye, d_nil, d_cons, w_ov, ok_bnd, bnd_bnd, rd_d, ofO_some, asD_d, asI_int, asB_bl, op2_d, cmp2_d, ix2_d, biOf1, biOf2, v_add, v_sub, v_mul, v_fdiv, v_mod, v_pow, v_catT, v_catL, v_catS, c_eq, c_ne, c_lt, c_le, c_gt, c_ge, c_isn, c_notn, x_tup, x_lst, x_fz, b_lenT, b_lenL, b_lenF, b_abs, b_int, b_intB, b_max, b_min, b_tupT, b_tupL, b_lstT, b_lstL, b_all, b_any, b_repr, rev_lst, tyOk, eqv_int, abs_nat, at0, at1, GC.val, List.getElem?_cons_zero, List.getElem?_cons_succ, List.set_cons_zero, List.set_cons_succ, List.append_nil, List.nil_append, List.cons_append, List.map_nil, List.map_cons, Option.map_some, List.length_cons, List.length_nil, Bool.not_true, Bool.not_false, if_true, if_false, Bool.false_eq_true, items]
  refine Wp.bnd q ?_
  rintro v s ⟨r, rfl, r1, r2, d1, l1⟩
  by_cases c : r = 0
  · simp only [decide_eq_true c, q_nil, q_cons, q_set, q_par, q_par3, q_ifs, q_ret, q_ex, e_slot, e_non, e_bl, e_int, e_str, e_glob, e_fnv, e_tup, e_lst, e_bin, e_neg, e_not, e_cmp, e_chain, e_and, e_or, e_one, e_ifx, e_ix, e_cut, e_rev, e_call, e_bi, e_isi, a_nil, a_cons, o_no, o_ye, d_nil, d_cons, w_ov, ok_bnd, bnd_bnd, rd_d, ofO_some, asD_d, asI_int, asB_bl, op2_d, cmp2_d, ix2_d, biOf1, biOf2, v_add, v_sub, v_mul, v_fdiv, v_mod, v_pow, v_catT, v_catL, v_catS, c_eq, c_ne, c_lt, c_le, c_gt, c_ge, c_isn, c_notn, x_tup, x_lst, x_fz, b_lenT, b_lenL, b_lenF, b_abs, b_int, b_intB, b_max, b_min, b_tupT, b_tupL, b_lstT, b_lstL, b_all, b_any, b_repr, rev_lst, tyOk, eqv_int, abs_nat, at0, at1, GC.val, List.getElem?_cons_zero, List.getElem?_cons_succ, List.set_cons_zero, List.set_cons_succ, List.append_nil, List.nil_append, List.cons_append, List.map_nil, List.map_cons, Option.map_some, List.length_cons, List.length_nil, Bool.not_true, Bool.not_false, if_true, if_false, Bool.false_eq_true, items]
    refine Wp.ok ⟨_, rfl, 0, rfl, ⟨by decide, by decide⟩, ?_⟩
    rw [take_self (by omega)]
    exact ⟨d1.mono (by omega), by omega⟩
  · simp only [decide_eq_false c, q_nil, q_cons, q_set, q_par, q_par3, q_ifs, q_ret, q_ex, e_slot, e_non, e_bl, e_int, e_str, e_glob, e_fnv, e_tup, e_lst, e_bin, e_neg, e_not, e_cmp, e_chain, e_and, e_or, e_one, e_ifx, e_ix, e_cut, e_rev, e_call, e_bi, e_isi, a_nil, a_cons, o_no, o_ye, d_nil, d_cons, w_ov, ok_bnd, bnd_bnd, rd_d, ofO_some, asD_d, asI_int, asB_bl, op2_d, cmp2_d, ix2_d, biOf1, biOf2, v_add, v_sub, v_mul, v_fdiv, v_mod, v_pow, v_catT, v_catL, v_catS, c_eq, c_ne, c_lt, c_le, c_gt, c_ge, c_isn, c_notn, x_tup, x_lst, x_fz, b_lenT, b_lenL, b_lenF, b_abs, b_int, b_intB, b_max, b_min, b_tupT, b_tupL, b_lstT, b_lstL, b_all, b_any, b_repr, rev_lst, tyOk, eqv_int, abs_nat, at0, at1, GC.val, List.getElem?_cons_zero, List.getElem?_cons_succ, List.set_cons_zero, List.set_cons_succ, List.append_nil, List.nil_append, List.cons_append, List.map_nil, List.map_cons, Option.map_some, List.length_cons, List.length_nil, Bool.not_true, Bool.not_false, if_true, if_false, Bool.false_eq_true, items]
    refine Wp.bnd (s_integer (n := m) (by omega) d1 (by omega)) ?_
    rintro v s2 ⟨i, rfl, i0, i1, d2, l2⟩
    try simp only [q_nil, q_cons, q_set, q_par, q_par3, q_ifs, q_ret, q_ex, e_slot, e_non, e_bl, e_int, e_str, e_glob, e_fnv, e_tup, e_lst, e_bin, e_neg, e_not, e_cmp, e_chain, e_and, e_or, e_one, e_ifx, e_ix, e_cut, e_rev, e_call, e_bi, e_isi, a_nil, a_cons, o_no, o_ye, d_nil, d_cons, w_ov, ok_bnd, bnd_bnd, rd_d, ofO_some, asD_d, asI_int, asB_bl, op2_d, cmp2_d, ix2_d, biOf1, biOf2, v_add, v_sub, v_mul, v_fdiv, v_mod, v_pow, v_catT, v_catL, v_catS, c_eq, c_ne, c_lt, c_le, c_gt, c_ge, c_isn, c_notn, x_tup, x_lst, x_fz, b_lenT, b_lenL, b_lenF, b_abs, b_int, b_intB, b_max, b_min, b_tupT, b_tupL, b_lstT, b_lstL, b_all, b_any, b_repr, rev_lst, tyOk, eqv_int, abs_nat, at0, at1, GC.val, List.getElem?_cons_zero, List.getElem?_cons_succ, List.set_cons_zero, List.set_cons_succ, List.append_nil, List.nil_append, List.cons_append, List.map_nil, List.map_cons, Option.map_some, List.length_cons, List.length_nil, Bool.not_true, Bool.not_false, if_true, if_false, Bool.false_eq_true, items]
    refine Wp.bnd (s_integer (n := m) (by omega) d2 (by omega)) ?_
    rintro v s3 ⟨j, rfl, j0, j1, d3, l3⟩
    have n19 : (10 : Nat) ^ 19 < 2 ^ 64 := by decide
    have j2 : ((j.natAbs : Int)).natAbs < 2 ^ 64 := by rw [Int.natAbs_natCast]; omega
    have i2 : i.natAbs < 2 ^ 64 := by omega
    have big : ∀ {x : Nat}, x < 2 ^ 64 → x < 2 ^ 12900 := fun h => Nat.lt_of_lt_of_le h (Nat.pow_le_pow_right (by decide) (by decide))
    have f := s_law_fr (n := m) (t := i) (b := (j.natAbs : Int)) (by omega) (by omega) (big i2) (big j2)
    simp only [f, q_nil, q_cons, q_set, q_par, q_par3, q_ifs, q_ret, q_ex, e_slot, e_non, e_bl, e_int, e_str, e_glob, e_fnv, e_tup, e_lst, e_bin, e_neg, e_not, e_cmp, e_chain, e_and, e_or, e_one, e_ifx, e_ix, e_cut, e_rev, e_call, e_bi, e_isi, a_nil, a_cons, o_no, o_ye, d_nil, d_cons, w_ov, ok_bnd, bnd_bnd, rd_d, ofO_some, asD_d, asI_int, asB_bl, op2_d, cmp2_d, ix2_d, biOf1, biOf2, v_add, v_sub, v_mul, v_fdiv, v_mod, v_pow, v_catT, v_catL, v_catS, c_eq, c_ne, c_lt, c_le, c_gt, c_ge, c_isn, c_notn, x_tup, x_lst, x_fz, b_lenT, b_lenL, b_lenF, b_abs, b_int, b_intB, b_max, b_min, b_tupT, b_tupL, b_lstT, b_lstL, b_all, b_any, b_repr, rev_lst, tyOk, eqv_int, abs_nat, at0, at1, GC.val, List.getElem?_cons_zero, List.getElem?_cons_succ, List.set_cons_zero, List.set_cons_succ, List.append_nil, List.nil_append, List.cons_append, List.map_nil, List.map_cons, Option.map_some, List.length_cons, List.length_nil, Bool.not_true, Bool.not_false, if_true, if_false, Bool.false_eq_true, items]
    refine Wp.ok ⟨_, rfl, _, rfl, sz_divInt i2 j2 (by decide), ?_⟩
    rw [take_self (by omega)]
    exact ⟨d3, by omega⟩
end K21
end -- K21e

section -- K21f
set_option Elab.async false
set_option linter.all false
set_option maxRecDepth 100000
set_option maxHeartbeats 4000000
set_option exponentiation.threshold 14000
namespace K21
open PySem Fo
theorem big_of {x k : Nat} (h : x < 2 ^ k) (hk : k ≤ 12900) : x < 2 ^ 12900 := Nat.lt_of_lt_of_le h (Nat.pow_le_pow_right (by decide) hk)
theorem s_right {n l k : Nat} {st : Store} (hn : 6 ≤ n) (h : DS st l k) (hk : k ≤ 500000) : Wp (callF T n ix__law_right [.r l] st) fun v s => v = .d (.bl true) ∧ DS s l (k + 200) ∧ s.length = st.length := by
  obtain ⟨m, rfl⟩ : ∃ m, n = m + 1 := ⟨n - 1, by omega⟩
  rw [callF_at (fn := f__law_right) rfl]
  refine Wp.run rfl ?_
  show Wp (evSs (callF T m) f__law_right.body [some (.r l), none, none, none, none, none, none, none, none, none, none, none, none, none] st) _
  rw [f__law_right]
  dsimp only
  -- three numbers
  refine Wp.cons ?_
  simp only [q_nil, q_cons, q_set, q_par, q_par3, q_ifs, q_ret, q_ex, e_slot, e_non, e_bl, e_int, e_str, e_glob, e_fnv, e_tup, e_lst, e_bin, e_neg, e_not, e_cmp, e_chain, e_and, e_or, e_one, e_ifx, e_ix, e_cut, e_rev, e_call, e_bi, e_isi, a_nil, a_cons, o_no, o_ye, d_nil, d_cons, w_ov, ok_bnd, bnd_bnd, rd_d, ofO_some, asD_d, asI_int, asB_bl, op2_d, cmp2_d, ix2_d, biOf1, biOf2, v_add, v_sub, v_mul, v_fdiv, v_mod, v_pow, v_catT, v_catL, v_catS, c_eq, c_ne, c_lt, c_le, c_gt, c_ge, c_isn, c_notn, x_tup, x_lst, x_fz, b_lenT, b_lenL, b_lenF, b_abs, b_int, b_intB, b_max, b_min, b_tupT, b_tupL, b_lstT, b_lstL, b_all, b_any, b_repr, rev_lst, tyOk, eqv_int, abs_nat, at0, at1, GC.val, List.getElem?_cons_zero, List.getElem?_cons_succ, List.set_cons_zero, List.set_cons_succ, List.append_nil, List.nil_append, List.cons_append, List.map_nil, List.map_cons, Option.map_some, List.length_cons, List.length_nil, Bool.not_true, Bool.not_false, if_true, if_false, Bool.false_eq_true, items]
  refine Wp.bnd (s_drawn (n := m) (by omega) h (by omega)) ?_
  rintro v s1 ⟨p, rfl, hp, d1, l1⟩
  try simp only [q_nil, q_cons, q_set, q_par, q_par3, q_ifs, q_ret, q_ex, e_slot, e_non, e_bl, e_int, e_str, e_glob, e_fnv, e_tup, e_lst, e_bin, e_neg, e_not, e_cmp, e_chain, e_and, e_or, e_one, e_ifx, e_ix, e_cut, e_rev, e_call, e_bi, e_isi, a_nil, a_cons, o_no, o_ye, d_nil, d_cons, w_ov, ok_bnd, bnd_bnd, rd_d, ofO_some, asD_d, asI_int, asB_bl, op2_d, cmp2_d, ix2_d, biOf1, biOf2, v_add, v_sub, v_mul, v_fdiv, v_mod, v_pow, v_catT, v_catL, v_catS, c_eq, c_ne, c_lt, c_le, c_gt, c_ge, c_isn, c_notn, x_tup, x_lst, x_fz, b_lenT, b_lenL, b_lenF, b_abs, b_int, b_intB, b_max, b_min, b_tupT, b_tupL, b_lstT, b_lstL, b_all, b_any, b_repr, rev_lst, tyOk, eqv_int, abs_nat, at0, at1, GC.val, List.getElem?_cons_zero, List.getElem?_cons_succ, List.set_cons_zero, List.set_cons_succ, List.append_nil, List.nil_append, List.cons_append, List.map_nil, List.map_cons, Option.map_some, List.length_cons, List.length_nil, Bool.not_true, Bool.not_false, if_true, if_false, Bool.false_eq_true, items]
  refine Wp.bnd (s_drawn (n := m) (by omega) d1 (by omega)) ?_
  rintro v s2 ⟨q, rfl, hq, d2, l2⟩
  try simp only [q_nil, q_cons, q_set, q_par, q_par3, q_ifs, q_ret, q_ex, e_slot, e_non, e_bl, e_int, e_str, e_glob, e_fnv, e_tup, e_lst, e_bin, e_neg, e_not, e_cmp, e_chain, e_and, e_or, e_one, e_ifx, e_ix, e_cut, e_rev, e_call, e_bi, e_isi, a_nil, a_cons, o_no, o_ye, d_nil, d_cons, w_ov, ok_bnd, bnd_bnd, rd_d, ofO_some, asD_d, asI_int, asB_bl, op2_d, cmp2_d, ix2_d, biOf1, biOf2, v_add, v_sub, v_mul, v_fdiv, v_mod, v_pow, v_catT, v_catL, v_catS, c_eq, c_ne, c_lt, c_le, c_gt, c_ge, c_isn, c_notn, x_tup, x_lst, x_fz, b_lenT, b_lenL, b_lenF, b_abs, b_int, b_intB, b_max, b_min, b_tupT, b_tupL, b_lstT, b_lstL, b_all, b_any, b_repr, rev_lst, tyOk, eqv_int, abs_nat, at0, at1, GC.val, List.getElem?_cons_zero, List.getElem?_cons_succ, List.set_cons_zero, List.set_cons_succ, List.append_nil, List.nil_append, List.cons_append, List.map_nil, List.map_cons, Option.map_some, List.length_cons, List.length_nil, Bool.not_true, Bool.not_false, if_true, if_false, Bool.false_eq_true, items]
  refine Wp.bnd (s_drawn (n := m) (by omega) d2 (by omega)) ?_
  rintro v s3 ⟨r, rfl, hr, d3, l3⟩
  try simp only [q_nil, q_cons, q_set, q_par, q_par3, q_ifs, q_ret, q_ex, e_slot, e_non, e_bl, e_int, e_str, e_glob, e_fnv, e_tup, e_lst, e_bin, e_neg, e_not, e_cmp, e_chain, e_and, e_or, e_one, e_ifx, e_ix, e_cut, e_rev, e_call, e_bi, e_isi, a_nil, a_cons, o_no, o_ye, d_nil, d_cons, w_ov, ok_bnd, bnd_bnd, rd_d, ofO_some, asD_d, asI_int, asB_bl, op2_d, cmp2_d, ix2_d, biOf1, biOf2, v_add, v_sub, v_mul, v_fdiv, v_mod, v_pow, v_catT, v_catL, v_catS, c_eq, c_ne, c_lt, c_le, c_gt, c_ge, c_isn, c_notn, x_tup, x_lst, x_fz, b_lenT, b_lenL, b_lenF, b_abs, b_int, b_intB, b_max, b_min, b_tupT, b_tupL, b_lstT, b_lstL, b_all, b_any, b_repr, rev_lst, tyOk, eqv_int, abs_nat, at0, at1, GC.val, List.getElem?_cons_zero, List.getElem?_cons_succ, List.set_cons_zero, List.set_cons_succ, List.append_nil, List.nil_append, List.cons_append, List.map_nil, List.map_cons, Option.map_some, List.length_cons, List.length_nil, Bool.not_true, Bool.not_false, if_true, if_false, Bool.false_eq_true, items]
  refine Wp.ok ⟨_, rfl, Then.go ?_⟩
  -- told
  have a1 := s_plus (n := m) (by omega) hp hq (by decide)
  have a2 := s_minus (n := m) (by omega) hp hq (by decide)
  have a3 := s_times (n := m) (by omega) hp hq (by decide)
  have hm : Sz 129 (p - q) := by rw [Rat.sub_eq_add_neg]; exact hp.add hq.neg
  have a4 := s_plus (n := m) (by omega) hm hq (by decide)
  rw [Rat.sub_add_cancel] at a4
  refine Wp.cons ?_
  simp only [a1, a2, a3, a4, q_nil, q_cons, q_set, q_par, q_par3, q_ifs, q_ret, q_ex, e_slot, e_non, e_bl, e_int, e_str, e_glob, e_fnv, e_tup, e_lst, e_bin, e_neg, e_not, e_cmp, e_chain, e_and, e_or, e_one, e_ifx, e_ix, e_cut, e_rev, e_call, e_bi, e_isi, a_nil, a_cons, o_no, o_ye, d_nil, d_cons, w_ov, ok_bnd, bnd_bnd, rd_d, ofO_some, asD_d, asI_int, asB_bl, op2_d, cmp2_d, ix2_d, biOf1, biOf2, v_add, v_sub, v_mul, v_fdiv, v_mod, v_pow, v_catT, v_catL, v_catS, c_eq, c_ne, c_lt, c_le, c_gt, c_ge, c_isn, c_notn, x_tup, x_lst, x_fz, b_lenT, b_lenL, b_lenF, b_abs, b_int, b_intB, b_max, b_min, b_tupT, b_tupL, b_lstT, b_lstL, b_all, b_any, b_repr, rev_lst, tyOk, eqv_int, abs_nat, at0, at1, GC.val, List.getElem?_cons_zero, List.getElem?_cons_succ, List.set_cons_zero, List.set_cons_succ, List.append_nil, List.nil_append, List.cons_append, List.map_nil, List.map_cons, Option.map_some, List.length_cons, List.length_nil, Bool.not_true, Bool.not_false, if_true, if_false, Bool.false_eq_true, items]
  refine Wp.ok ⟨_, rfl, Then.go ?_⟩
  -- repr
  have b1 := s_law_plus (n := m) (by omega) hp hq (by decide)
  have b2 := s_law_minus (n := m) (by omega) hp hq (by decide)
  have b3 := s_law_times (n := m) (by omega) hp hq (by decide)
  have r1 : reprv (.lst [fr (p + q), fr (p - q), fr (p * q), fr p]) = some (.str (PyData.shown (.list ([p + q, p - q, p * q, p].map frD)))) := repr_frs (qs := [p + q, p - q, p * q, p]) (fun x hx => by
    simp only [List.mem_cons, List.not_mem_nil, or_false] at hx
    rcases hx with z | z | z | z
    · rw [z]; exact (hp.add hq).mono (by decide)
    · rw [z]; exact hm.mono (by decide)
    · rw [z]; exact (hp.mul hq).mono (by decide)
    · rw [z]; exact hp.mono (by decide)) (show 4 ≤ 1000 by decide)
  refine Wp.cons ?_
  simp only [b1, b2, b3, r1, eqv_str, decide_true, q_nil, q_cons, q_set, q_par, q_par3, q_ifs, q_ret, q_ex, e_slot, e_non, e_bl, e_int, e_str, e_glob, e_fnv, e_tup, e_lst, e_bin, e_neg, e_not, e_cmp, e_chain, e_and, e_or, e_one, e_ifx, e_ix, e_cut, e_rev, e_call, e_bi, e_isi, a_nil, a_cons, o_no, o_ye, d_nil, d_cons, w_ov, ok_bnd, bnd_bnd, rd_d, ofO_some, asD_d, asI_int, asB_bl, op2_d, cmp2_d, ix2_d, biOf1, biOf2, v_add, v_sub, v_mul, v_fdiv, v_mod, v_pow, v_catT, v_catL, v_catS, c_eq, c_ne, c_lt, c_le, c_gt, c_ge, c_isn, c_notn, x_tup, x_lst, x_fz, b_lenT, b_lenL, b_lenF, b_abs, b_int, b_intB, b_max, b_min, b_tupT, b_tupL, b_lstT, b_lstL, b_all, b_any, b_repr, rev_lst, tyOk, eqv_int, abs_nat, at0, at1, GC.val, List.getElem?_cons_zero, List.getElem?_cons_succ, List.set_cons_zero, List.set_cons_succ, List.append_nil, List.nil_append, List.cons_append, List.map_nil, List.map_cons, Option.map_some, List.length_cons, List.length_nil, Bool.not_true, Bool.not_false, if_true, if_false, Bool.false_eq_true, items]
  refine Wp.ok ⟨_, rfl, Then.go ?_⟩
  -- over
  refine Wp.cons ?_
  have over : Wp (evS (callF T m) (.ifs (.cmp .ne (.ix (.slot 5) (.int 0)) (.int 0)) (.cons (.set 7 (.call ix__law_fr (.cons (.bin .mul (.ix (.slot 4) (.int 0)) (.ix (.slot 5) (.int 1))) (.cons (.bin .mul (.ix (.slot 4) (.int 1)) (.ix (.slot 5) (.int 0))) .nil)) []))
      (.cons (.ifs (.or (.cmp .ne (.bi .repr (.cons (.call ix_over (.cons (.slot 4) (.cons (.slot 5) .nil)) []) .nil)) (.bi .repr (.cons (.slot 7) .nil))) (.one (.cmp .ne (.call ix_times (.cons (.call ix_over (.cons (.slot 4) (.cons (.slot 5) .nil)) []) (.cons (.slot 5) .nil)) []) (.slot 4)))) (.cons (.ret (.bl false)) .nil) .nil) .nil)) .nil)
      [some (.r l), some (.d (.lst [fr (p + q), fr (p - q), fr (p * q), fr p])), none, none, some (.d (fr p)), some (.d (fr q)), some (.d (fr r)), none, none, none, none, none, none, none] s3) fun o s' => s' = s3 ∧ ∃ x, o = .nx [some (.r l), some (.d (.lst [fr (p + q), fr (p - q), fr (p * q), fr p])), none, none, some (.d (fr p)), some (.d (fr q)), some (.d (fr r)), x, none, none, none, none, none, none] := by
    by_cases c : q.num = 0
    · simp only [ix_fr0, ix_fr1, decide_eq_true c, q_nil, q_cons, q_set, q_par, q_par3, q_ifs, q_ret, q_ex, e_slot, e_non, e_bl, e_int, e_str, e_glob, e_fnv, e_tup, e_lst, e_bin, e_neg, e_not, e_cmp, e_chain, e_and, e_or, e_one, e_ifx, e_ix, e_cut, e_rev, e_call, e_bi, e_isi, a_nil, a_cons, o_no, o_ye, d_nil, d_cons, w_ov, ok_bnd, bnd_bnd, rd_d, ofO_some, asD_d, asI_int, asB_bl, op2_d, cmp2_d, ix2_d, biOf1, biOf2, v_add, v_sub, v_mul, v_fdiv, v_mod, v_pow, v_catT, v_catL, v_catS, c_eq, c_ne, c_lt, c_le, c_gt, c_ge, c_isn, c_notn, x_tup, x_lst, x_fz, b_lenT, b_lenL, b_lenF, b_abs, b_int, b_intB, b_max, b_min, b_tupT, b_tupL, b_lstT, b_lstL, b_all, b_any, b_repr, rev_lst, tyOk, eqv_int, abs_nat, at0, at1, GC.val, List.getElem?_cons_zero, List.getElem?_cons_succ, List.set_cons_zero, List.set_cons_succ, List.append_nil, List.nil_append, List.cons_append, List.map_nil, List.map_cons, Option.map_some, List.length_cons, List.length_nil, Bool.not_true, Bool.not_false, if_true, if_false, Bool.false_eq_true, items]
      exact Wp.ok ⟨rfl, _, rfl⟩
    · have q0 : q ≠ 0 := fun z => c (by rw [z]; rfl)
      have o1 : mulOk p.num q.den = true := mulOk_of (k := 64) (l := 64) hp.1 hq.2 (by decide)
      have o2 : mulOk p.den q.num = true := mulOk_of (k := 64) (l := 64) hp.2 hq.1 (by decide)
      have h0 : (p.den : Int) * q.num ≠ 0 := Int.mul_ne_zero (by have := p.den_pos; omega) c
      have f1 := s_law_fr (n := m) (by omega) h0 (big_of (natAbs_mul_lt hp.1 (show ((q.den : Int)).natAbs < 2 ^ 64 from hq.2)) (by decide)) (big_of (natAbs_mul_lt (show ((p.den : Int)).natAbs < 2 ^ 64 from hp.2) hq.1) (by decide))
      rw [← div_divInt] at f1
      have f2 := s_over (n := m) (by omega) hp hq q0 (by decide)
      have f3 := s_times (n := m) (by omega) (hp.div hq) hq (by decide)
      rw [Rat.div_mul_cancel q0] at f3
      have f4 := repr_fr ((hp.div hq).mono (show 64 + 64 ≤ 1900 by decide))
      simp only [ix_fr0, ix_fr1, decide_eq_false c, o1, o2, f1, f2, f3, f4, eqv_str, eqv_fr, decide_true, q_nil, q_cons, q_set, q_par, q_par3, q_ifs, q_ret, q_ex, e_slot, e_non, e_bl, e_int, e_str, e_glob, e_fnv, e_tup, e_lst, e_bin, e_neg, e_not, e_cmp, e_chain, e_and, e_or, e_one, e_ifx, e_ix, e_cut, e_rev, e_call, e_bi, e_isi, a_nil, a_cons, o_no, o_ye, d_nil, d_cons, w_ov, ok_bnd, bnd_bnd, rd_d, ofO_some, asD_d, asI_int, asB_bl, op2_d, cmp2_d, ix2_d, biOf1, biOf2, v_add, v_sub, v_mul, v_fdiv, v_mod, v_pow, v_catT, v_catL, v_catS, c_eq, c_ne, c_lt, c_le, c_gt, c_ge, c_isn, c_notn, x_tup, x_lst, x_fz, b_lenT, b_lenL, b_lenF, b_abs, b_int, b_intB, b_max, b_min, b_tupT, b_tupL, b_lstT, b_lstL, b_all, b_any, b_repr, rev_lst, tyOk, eqv_int, abs_nat, at0, at1, GC.val, List.getElem?_cons_zero, List.getElem?_cons_succ, List.set_cons_zero, List.set_cons_succ, List.append_nil, List.nil_append, List.cons_append, List.map_nil, List.map_cons, Option.map_some, List.length_cons, List.length_nil, Bool.not_true, Bool.not_false, if_true, if_false, Bool.false_eq_true, items]
      exact Wp.ok ⟨rfl, _, rfl⟩
  refine over.imp ?_
  rintro o s' ⟨rfl, x7, rfl⟩
  refine ⟨_, rfl, Then.go ?_⟩
  -- compared
  have o1 : mulOk p.num q.den = true := mulOk_of (k := 64) (l := 64) hp.1 hq.2 (by decide)
  have o2 : mulOk q.num p.den = true := mulOk_of (k := 64) (l := 64) hq.1 hp.2 (by decide)
  have c1 := s_compared (n := m) (by omega) hp hq (by decide)
  have c2 := s_compared (n := m) (by omega) hp hp (by decide)
  simp only [gt_iff_lt, Int.lt_irrefl, if_false, Int.sub_self] at c1 c2
  refine Wp.cons ?_
  simp only [ix_fr0, ix_fr1, o1, o2, q_nil, q_cons, q_set, q_par, q_par3, q_ifs, q_ret, q_ex, e_slot, e_non, e_bl, e_int, e_str, e_glob, e_fnv, e_tup, e_lst, e_bin, e_neg, e_not, e_cmp, e_chain, e_and, e_or, e_one, e_ifx, e_ix, e_cut, e_rev, e_call, e_bi, e_isi, a_nil, a_cons, o_no, o_ye, d_nil, d_cons, w_ov, ok_bnd, bnd_bnd, rd_d, ofO_some, asD_d, asI_int, asB_bl, op2_d, cmp2_d, ix2_d, biOf1, biOf2, v_add, v_sub, v_mul, v_fdiv, v_mod, v_pow, v_catT, v_catL, v_catS, c_eq, c_ne, c_lt, c_le, c_gt, c_ge, c_isn, c_notn, x_tup, x_lst, x_fz, b_lenT, b_lenL, b_lenF, b_abs, b_int, b_intB, b_max, b_min, b_tupT, b_tupL, b_lstT, b_lstL, b_all, b_any, b_repr, rev_lst, tyOk, eqv_int, abs_nat, at0, at1, GC.val, List.getElem?_cons_zero, List.getElem?_cons_succ, List.set_cons_zero, List.set_cons_succ, List.append_nil, List.nil_append, List.cons_append, List.map_nil, List.map_cons, Option.map_some, List.length_cons, List.length_nil, Bool.not_true, Bool.not_false, if_true, if_false, Bool.false_eq_true, items]
  refine Wp.ok ⟨_, rfl, Then.go ?_⟩
  refine Wp.cons ?_
  simp only [c1, c2, gt_iff_lt, decide_eq_true_eq, decide_true, q_nil, q_cons, q_set, q_par, q_par3, q_ifs, q_ret, q_ex, e_slot, e_non, e_bl, e_int, e_str, e_glob, e_fnv, e_tup, e_lst, e_bin, e_neg, e_not, e_cmp, e_chain, e_and, e_or, e_one, e_ifx, e_ix, e_cut, e_rev, e_call, e_bi, e_isi, a_nil, a_cons, o_no, o_ye, d_nil, d_cons, w_ov, ok_bnd, bnd_bnd, rd_d, ofO_some, asD_d, asI_int, asB_bl, op2_d, cmp2_d, ix2_d, biOf1, biOf2, v_add, v_sub, v_mul, v_fdiv, v_mod, v_pow, v_catT, v_catL, v_catS, c_eq, c_ne, c_lt, c_le, c_gt, c_ge, c_isn, c_notn, x_tup, x_lst, x_fz, b_lenT, b_lenL, b_lenF, b_abs, b_int, b_intB, b_max, b_min, b_tupT, b_tupL, b_lstT, b_lstL, b_all, b_any, b_repr, rev_lst, tyOk, eqv_int, abs_nat, at0, at1, GC.val, List.getElem?_cons_zero, List.getElem?_cons_succ, List.set_cons_zero, List.set_cons_succ, List.append_nil, List.nil_append, List.cons_append, List.map_nil, List.map_cons, Option.map_some, List.length_cons, List.length_nil, Bool.not_true, Bool.not_false, if_true, if_false, Bool.false_eq_true, items]
  refine Wp.ok ⟨_, rfl, Then.go ?_⟩
  -- times
  have t1 := s_times (n := m) (by omega) (hp.add hq) hr (by decide)
  have t2 := s_times (n := m) (by omega) hp hr (by decide)
  have t3 := s_times (n := m) (by omega) hq hr (by decide)
  have t4 := s_plus (n := m) (by omega) (hp.mul hr) (hq.mul hr) (by decide)
  rw [Rat.add_mul] at t1
  refine Wp.cons ?_
  simp only [a1, t1, t2, t3, t4, eqv_fr, decide_true, q_nil, q_cons, q_set, q_par, q_par3, q_ifs, q_ret, q_ex, e_slot, e_non, e_bl, e_int, e_str, e_glob, e_fnv, e_tup, e_lst, e_bin, e_neg, e_not, e_cmp, e_chain, e_and, e_or, e_one, e_ifx, e_ix, e_cut, e_rev, e_call, e_bi, e_isi, a_nil, a_cons, o_no, o_ye, d_nil, d_cons, w_ov, ok_bnd, bnd_bnd, rd_d, ofO_some, asD_d, asI_int, asB_bl, op2_d, cmp2_d, ix2_d, biOf1, biOf2, v_add, v_sub, v_mul, v_fdiv, v_mod, v_pow, v_catT, v_catL, v_catS, c_eq, c_ne, c_lt, c_le, c_gt, c_ge, c_isn, c_notn, x_tup, x_lst, x_fz, b_lenT, b_lenL, b_lenF, b_abs, b_int, b_intB, b_max, b_min, b_tupT, b_tupL, b_lstT, b_lstL, b_all, b_any, b_repr, rev_lst, tyOk, eqv_int, abs_nat, at0, at1, GC.val, List.getElem?_cons_zero, List.getElem?_cons_succ, List.set_cons_zero, List.set_cons_succ, List.append_nil, List.nil_append, List.cons_append, List.map_nil, List.map_cons, Option.map_some, List.length_cons, List.length_nil, Bool.not_true, Bool.not_false, if_true, if_false, Bool.false_eq_true, items]
  refine Wp.ok ⟨_, rfl, Then.go ?_⟩
  -- a row
  refine Wp.cons ?_
  simp only [e_lc, w_r1, q_nil, q_cons, q_set, q_par, q_par3, q_ifs, q_ret, q_ex, e_slot, e_non, e_bl, e_int, e_str, e_glob, e_fnv, e_tup, e_lst, e_bin, e_neg, e_not, e_cmp, e_chain, e_and, e_or, e_one, e_ifx, e_ix, e_cut, e_rev, e_call, e_bi, e_isi, a_nil, a_cons, o_no, o_ye, d_nil, d_cons, w_ov, ok_bnd, bnd_bnd, rd_d, ofO_some, asD_d, asI_int, asB_bl, op2_d, cmp2_d, ix2_d, biOf1, biOf2, v_add, v_sub, v_mul, v_fdiv, v_mod, v_pow, v_catT, v_catL, v_catS, c_eq, c_ne, c_lt, c_le, c_gt, c_ge, c_isn, c_notn, x_tup, x_lst, x_fz, b_lenT, b_lenL, b_lenF, b_abs, b_int, b_intB, b_max, b_min, b_tupT, b_tupL, b_lstT, b_lstL, b_all, b_any, b_repr, rev_lst, tyOk, eqv_int, abs_nat, at0, at1, GC.val, List.getElem?_cons_zero, List.getElem?_cons_succ, List.set_cons_zero, List.set_cons_succ, List.append_nil, List.nil_append, List.cons_append, List.map_nil, List.map_cons, Option.map_some, List.length_cons, List.length_nil, Bool.not_true, Bool.not_false, if_true, if_false, Bool.false_eq_true, items]
  refine Wp.bnd (s_roll (n := m) (many := 6) (by omega) d3 (by omega) (by decide) (by decide)) ?_
  rintro v s4 ⟨c, rfl, z1, z2, d4, l4⟩
  obtain ⟨c, rfl⟩ : ∃ c' : Nat, c = c' := ⟨c.toNat, by omega⟩
  simp only [rng_nat (show c ≤ 1000000 by omega), q_nil, q_cons, q_set, q_par, q_par3, q_ifs, q_ret, q_ex, e_slot, e_non, e_bl, e_int, e_str, e_glob, e_fnv, e_tup, e_lst, e_bin, e_neg, e_not, e_cmp, e_chain, e_and, e_or, e_one, e_ifx, e_ix, e_cut, e_rev, e_call, e_bi, e_isi, a_nil, a_cons, o_no, o_ye, d_nil, d_cons, w_ov, ok_bnd, bnd_bnd, rd_d, ofO_some, asD_d, asI_int, asB_bl, op2_d, cmp2_d, ix2_d, biOf1, biOf2, v_add, v_sub, v_mul, v_fdiv, v_mod, v_pow, v_catT, v_catL, v_catS, c_eq, c_ne, c_lt, c_le, c_gt, c_ge, c_isn, c_notn, x_tup, x_lst, x_fz, b_lenT, b_lenL, b_lenF, b_abs, b_int, b_intB, b_max, b_min, b_tupT, b_tupL, b_lstT, b_lstL, b_all, b_any, b_repr, rev_lst, tyOk, eqv_int, abs_nat, at0, at1, GC.val, List.getElem?_cons_zero, List.getElem?_cons_succ, List.set_cons_zero, List.set_cons_succ, List.append_nil, List.nil_append, List.cons_append, List.map_nil, List.map_cons, Option.map_some, List.length_cons, List.length_nil, Bool.not_true, Bool.not_false, if_true, if_false, Bool.false_eq_true, items]
  have hl : (natL c).length ≤ lim := by
    rw [natL_len]
    have : (lim : Nat) = 16777216 := rfl
    omega
  rw [show (List.range c).map (fun k : Nat => PV.int (0 + (k : Int))) = natL c from rfl, if_pos hl, bnd_bnd]
  refine Wp.bnd (Wp.nox (lc_wp (sf := fun x => _) (Q := fun u => ∃ q, u = fr q ∧ Sz 64 q) (J := fun j s => DS s l (k + 22 + j) ∧ s.length = st.length) (d := 7) (natL c) [] 0 s4 (fun x _ => rfl) (fun x _ => by rw [evC]) (fun x hx i st' hi hj => ?_) ⟨d4, by omega⟩)) ?_
  · rw [natL_len] at hi
    simp only [q_nil, q_cons, q_set, q_par, q_par3, q_ifs, q_ret, q_ex, e_slot, e_non, e_bl, e_int, e_str, e_glob, e_fnv, e_tup, e_lst, e_bin, e_neg, e_not, e_cmp, e_chain, e_and, e_or, e_one, e_ifx, e_ix, e_cut, e_rev, e_call, e_bi, e_isi, a_nil, a_cons, o_no, o_ye, d_nil, d_cons, w_ov, ok_bnd, bnd_bnd, rd_d, ofO_some, asD_d, asI_int, asB_bl, op2_d, cmp2_d, ix2_d, biOf1, biOf2, v_add, v_sub, v_mul, v_fdiv, v_mod, v_pow, v_catT, v_catL, v_catS, c_eq, c_ne, c_lt, c_le, c_gt, c_ge, c_isn, c_notn, x_tup, x_lst, x_fz, b_lenT, b_lenL, b_lenF, b_abs, b_int, b_intB, b_max, b_min, b_tupT, b_tupL, b_lstT, b_lstL, b_all, b_any, b_repr, rev_lst, tyOk, eqv_int, abs_nat, at0, at1, GC.val, List.getElem?_cons_zero, List.getElem?_cons_succ, List.set_cons_zero, List.set_cons_succ, List.append_nil, List.nil_append, List.cons_append, List.map_nil, List.map_cons, Option.map_some, List.length_cons, List.length_nil, Bool.not_true, Bool.not_false, if_true, if_false, Bool.false_eq_true, items]
    refine Wp.bnd (s_drawn (n := m) (by omega) hj.1 (by omega)) ?_
    rintro v s ⟨q, rfl, g1, g2, g3⟩
    exact Wp.ok ⟨⟨q, rfl, g1⟩, by rw [show k + 22 + (i + 7) = k + 22 + i + 7 by omega]; exact g2, g3.trans hj.2⟩
  rintro us s5 ⟨us, rfl, g1, g2, d5, l5⟩
  obtain ⟨qs, rfl, hqs⟩ := all_fr g2
  rw [List.length_map, natL_len] at g1
  rw [natL_len] at d5
  try simp only [q_nil, q_cons, q_set, q_par, q_par3, q_ifs, q_ret, q_ex, e_slot, e_non, e_bl, e_int, e_str, e_glob, e_fnv, e_tup, e_lst, e_bin, e_neg, e_not, e_cmp, e_chain, e_and, e_or, e_one, e_ifx, e_ix, e_cut, e_rev, e_call, e_bi, e_isi, a_nil, a_cons, o_no, o_ye, d_nil, d_cons, w_ov, ok_bnd, bnd_bnd, rd_d, ofO_some, asD_d, asI_int, asB_bl, op2_d, cmp2_d, ix2_d, biOf1, biOf2, v_add, v_sub, v_mul, v_fdiv, v_mod, v_pow, v_catT, v_catL, v_catS, c_eq, c_ne, c_lt, c_le, c_gt, c_ge, c_isn, c_notn, x_tup, x_lst, x_fz, b_lenT, b_lenL, b_lenF, b_abs, b_int, b_intB, b_max, b_min, b_tupT, b_tupL, b_lstT, b_lstL, b_all, b_any, b_repr, rev_lst, tyOk, eqv_int, abs_nat, at0, at1, GC.val, List.getElem?_cons_zero, List.getElem?_cons_succ, List.set_cons_zero, List.set_cons_succ, List.append_nil, List.nil_append, List.cons_append, List.map_nil, List.map_cons, Option.map_some, List.length_cons, List.length_nil, Bool.not_true, Bool.not_false, if_true, if_false, Bool.false_eq_true, items]
  refine Wp.ok ⟨_, rfl, Then.go ?_⟩
  -- its sum
  have loop : ∀ (rs : List Rat) (a : Rat) (x y : Option SV) (j : Nat) (s0 s1 s2 s3 s4 s5 s6 s7 s8 s9 s10 s11 : Option SV), (∀ q ∈ rs, Sz 64 q) → Sz j a → j + rs.length * 65 ≤ 12000 → ∃ x', forGo (.n 2) (evSs (callF T m) (.cons (.set 7 (.call ix__law_plus (.cons (.slot 7) (.cons (.slot 2) .nil)) [])) .nil)) (rs.map fr) [s0, s1, x, s2, s3, s4, s5, some (.d (fr a)), s6, s7, s8, s9, s10, s11] = ok (.nx [s0, s1, x', s2, s3, s4, s5, some (.d (fr (rs.foldl (· + ·) a))), s6, s7, s8, s9, s10, s11]) := by
    intro rs
    induction rs with
    | nil =>
      intros
      exact ⟨_, rfl⟩
    | cons r rs ih =>
      intro a x y j s0 s1 s2 s3 s4 s5 s6 s7 s8 s9 s10 s11 hr ha hj
      have hr0 := hr r List.mem_cons_self
      have hl : (r :: rs).length * 65 = rs.length * 65 + 65 := by rw [List.length_cons, Nat.succ_mul]
      have h1 := s_law_plus (n := m) (p := a) (q := r) (by omega) ha hr0 (by omega)
      obtain ⟨x', e⟩ := ih (a + r) (some (.d (fr r))) y (j + 64 + 1) s0 s1 s2 s3 s4 s5 s6 s7 s8 s9 s10 s11 (fun q hq => hr q (List.mem_cons_of_mem _ hq)) (ha.add hr0) (by omega)
      refine ⟨x', ?_⟩
      rw [List.map_cons, forGo]
      show bnd (evSs _ _ [s0, s1, some (.d (fr r)), s2, s3, s4, s5, some (.d (fr a)), s6, s7, s8, s9, s10, s11]) _ = _
      simp only [h1, q_nil, q_cons, q_set, q_par, q_par3, q_ifs, q_ret, q_ex, e_slot, e_non, e_bl, e_int, e_str, e_glob, e_fnv, e_tup, e_lst, e_bin, e_neg, e_not, e_cmp, e_chain, e_and, e_or, e_one, e_ifx, e_ix, e_cut, e_rev, e_call, e_bi, e_isi, a_nil, a_cons, o_no, o_ye, d_nil, d_cons, w_ov, ok_bnd, bnd_bnd, rd_d, ofO_some, asD_d, asI_int, asB_bl, op2_d, cmp2_d, ix2_d, biOf1, biOf2, v_add, v_sub, v_mul, v_fdiv, v_mod, v_pow, v_catT, v_catL, v_catS, c_eq, c_ne, c_lt, c_le, c_gt, c_ge, c_isn, c_notn, x_tup, x_lst, x_fz, b_lenT, b_lenL, b_lenF, b_abs, b_int, b_intB, b_max, b_min, b_tupT, b_tupL, b_lstT, b_lstL, b_all, b_any, b_repr, rev_lst, tyOk, eqv_int, abs_nat, at0, at1, GC.val, List.getElem?_cons_zero, List.getElem?_cons_succ, List.set_cons_zero, List.set_cons_succ, List.append_nil, List.nil_append, List.cons_append, List.map_nil, List.map_cons, Option.map_some, List.length_cons, List.length_nil, Bool.not_true, Bool.not_false, if_true, if_false, Bool.false_eq_true, items]
      exact e
  have hqn : qs.length * 65 ≤ 400 := by omega
  obtain ⟨x', e⟩ := loop qs 0 none none 1 (some (.r l)) (some (.d (.lst [fr (p + q), fr (p - q), fr (p * q), fr p]))) none (some (.d (fr p))) (some (.d (fr q))) (some (.d (fr r))) (some (.d (.int (p.num * q.den)))) (some (.d (.int (q.num * p.den)))) (some (.d (.lst (qs.map fr)))) none none none hqs ⟨by decide, by decide⟩ (by omega)
  rw [fr_zero] at e
  refine Wp.cons ?_
  simp only [q_for, q_nil, q_cons, q_set, q_par, q_par3, q_ifs, q_ret, q_ex, e_slot, e_non, e_bl, e_int, e_str, e_glob, e_fnv, e_tup, e_lst, e_bin, e_neg, e_not, e_cmp, e_chain, e_and, e_or, e_one, e_ifx, e_ix, e_cut, e_rev, e_call, e_bi, e_isi, a_nil, a_cons, o_no, o_ye, d_nil, d_cons, w_ov, ok_bnd, bnd_bnd, rd_d, ofO_some, asD_d, asI_int, asB_bl, op2_d, cmp2_d, ix2_d, biOf1, biOf2, v_add, v_sub, v_mul, v_fdiv, v_mod, v_pow, v_catT, v_catL, v_catS, c_eq, c_ne, c_lt, c_le, c_gt, c_ge, c_isn, c_notn, x_tup, x_lst, x_fz, b_lenT, b_lenL, b_lenF, b_abs, b_int, b_intB, b_max, b_min, b_tupT, b_tupL, b_lstT, b_lstL, b_all, b_any, b_repr, rev_lst, tyOk, eqv_int, abs_nat, at0, at1, GC.val, List.getElem?_cons_zero, List.getElem?_cons_succ, List.set_cons_zero, List.set_cons_succ, List.append_nil, List.nil_append, List.cons_append, List.map_nil, List.map_cons, Option.map_some, List.length_cons, List.length_nil, Bool.not_true, Bool.not_false, if_true, if_false, Bool.false_eq_true, items]
  rw [e]
  refine Wp.ok ⟨_, rfl, Then.go ?_⟩
  have lm : qs.length ≤ lim := by
    have : (lim : Nat) = 16777216 := rfl
    omega
  have u1 := s_total (n := m) (by omega) hqs (by rw [Nat.succ_mul]; omega) lm
  have u2 := s_total (n := m) (qs := qs.reverse) (by omega) (fun q hq => hqs q (List.mem_reverse.mp hq)) (by rw [List.length_reverse, Nat.succ_mul]; omega) (by rw [List.length_reverse]; exact lm)
  rw [foldl_rev, List.map_reverse] at u2
  refine Wp.cons ?_
  simp only [u1, u2, eqv_fr, decide_true, q_nil, q_cons, q_set, q_par, q_par3, q_ifs, q_ret, q_ex, e_slot, e_non, e_bl, e_int, e_str, e_glob, e_fnv, e_tup, e_lst, e_bin, e_neg, e_not, e_cmp, e_chain, e_and, e_or, e_one, e_ifx, e_ix, e_cut, e_rev, e_call, e_bi, e_isi, a_nil, a_cons, o_no, o_ye, d_nil, d_cons, w_ov, ok_bnd, bnd_bnd, rd_d, ofO_some, asD_d, asI_int, asB_bl, op2_d, cmp2_d, ix2_d, biOf1, biOf2, v_add, v_sub, v_mul, v_fdiv, v_mod, v_pow, v_catT, v_catL, v_catS, c_eq, c_ne, c_lt, c_le, c_gt, c_ge, c_isn, c_notn, x_tup, x_lst, x_fz, b_lenT, b_lenL, b_lenF, b_abs, b_int, b_intB, b_max, b_min, b_tupT, b_tupL, b_lstT, b_lstL, b_all, b_any, b_repr, rev_lst, tyOk, eqv_int, abs_nat, at0, at1, GC.val, List.getElem?_cons_zero, List.getElem?_cons_succ, List.set_cons_zero, List.set_cons_succ, List.append_nil, List.nil_append, List.cons_append, List.map_nil, List.map_cons, Option.map_some, List.length_cons, List.length_nil, Bool.not_true, Bool.not_false, if_true, if_false, Bool.false_eq_true, items]
  refine Wp.ok ⟨_, rfl, Then.go ?_⟩
  -- a power
  refine Wp.cons ?_
  simp only [q_nil, q_cons, q_set, q_par, q_par3, q_ifs, q_ret, q_ex, e_slot, e_non, e_bl, e_int, e_str, e_glob, e_fnv, e_tup, e_lst, e_bin, e_neg, e_not, e_cmp, e_chain, e_and, e_or, e_one, e_ifx, e_ix, e_cut, e_rev, e_call, e_bi, e_isi, a_nil, a_cons, o_no, o_ye, d_nil, d_cons, w_ov, ok_bnd, bnd_bnd, rd_d, ofO_some, asD_d, asI_int, asB_bl, op2_d, cmp2_d, ix2_d, biOf1, biOf2, v_add, v_sub, v_mul, v_fdiv, v_mod, v_pow, v_catT, v_catL, v_catS, c_eq, c_ne, c_lt, c_le, c_gt, c_ge, c_isn, c_notn, x_tup, x_lst, x_fz, b_lenT, b_lenL, b_lenF, b_abs, b_int, b_intB, b_max, b_min, b_tupT, b_tupL, b_lstT, b_lstL, b_all, b_any, b_repr, rev_lst, tyOk, eqv_int, abs_nat, at0, at1, GC.val, List.getElem?_cons_zero, List.getElem?_cons_succ, List.set_cons_zero, List.set_cons_succ, List.append_nil, List.nil_append, List.cons_append, List.map_nil, List.map_cons, Option.map_some, List.length_cons, List.length_nil, Bool.not_true, Bool.not_false, if_true, if_false, Bool.false_eq_true, items]
  refine Wp.bnd (s_roll (n := m) (many := 7) (by omega) d5 (by omega) (by decide) (by decide)) ?_
  rintro v s6 ⟨c2, rfl, y1, y2, d6, l6⟩
  obtain ⟨c2, rfl⟩ : ∃ c' : Nat, c2 = c' := ⟨c2.toNat, by omega⟩
  try simp only [q_nil, q_cons, q_set, q_par, q_par3, q_ifs, q_ret, q_ex, e_slot, e_non, e_bl, e_int, e_str, e_glob, e_fnv, e_tup, e_lst, e_bin, e_neg, e_not, e_cmp, e_chain, e_and, e_or, e_one, e_ifx, e_ix, e_cut, e_rev, e_call, e_bi, e_isi, a_nil, a_cons, o_no, o_ye, d_nil, d_cons, w_ov, ok_bnd, bnd_bnd, rd_d, ofO_some, asD_d, asI_int, asB_bl, op2_d, cmp2_d, ix2_d, biOf1, biOf2, v_add, v_sub, v_mul, v_fdiv, v_mod, v_pow, v_catT, v_catL, v_catS, c_eq, c_ne, c_lt, c_le, c_gt, c_ge, c_isn, c_notn, x_tup, x_lst, x_fz, b_lenT, b_lenL, b_lenF, b_abs, b_int, b_intB, b_max, b_min, b_tupT, b_tupL, b_lstT, b_lstL, b_all, b_any, b_repr, rev_lst, tyOk, eqv_int, abs_nat, at0, at1, GC.val, List.getElem?_cons_zero, List.getElem?_cons_succ, List.set_cons_zero, List.set_cons_succ, List.append_nil, List.nil_append, List.cons_append, List.map_nil, List.map_cons, Option.map_some, List.length_cons, List.length_nil, Bool.not_true, Bool.not_false, if_true, if_false, Bool.false_eq_true, items]
  refine Wp.ok ⟨_, rfl, Then.go ?_⟩
  have loop2 : ∀ (xs : List PV) (a : Rat) (x : Option SV) (j : Nat) (s0 s1 s2 s4 s5 s6 s7 s8 s9 s10 s11 : Option SV), Sz j a → j + xs.length * 65 ≤ 12000 → ∃ x', forGo (.n 3) (evSs (callF T m) (.cons (.set 7 (.call ix__law_times (.cons (.slot 7) (.cons (.slot 4) .nil)) [])) .nil)) xs [s0, s1, s2, x, some (.d (fr p)), s4, s5, some (.d (fr a)), s6, s7, s8, s9, s10, s11] = ok (.nx [s0, s1, s2, x', some (.d (fr p)), s4, s5, some (.d (fr (a * p ^ xs.length))), s6, s7, s8, s9, s10, s11]) := by
    intro xs
    induction xs with
    | nil =>
      intro a x j s0 s1 s2 s4 s5 s6 s7 s8 s9 s10 s11 ha hj
      refine ⟨x, ?_⟩
      rw [List.length_nil, Rat.pow_zero, Rat.mul_one]
      rfl
    | cons y xs ih =>
      intro a x j s0 s1 s2 s4 s5 s6 s7 s8 s9 s10 s11 ha hj
      have hl : (y :: xs).length * 65 = xs.length * 65 + 65 := by rw [List.length_cons, Nat.succ_mul]
      have h1 := s_law_times (n := m) (p := a) (q := p) (by omega) ha hp (by omega)
      obtain ⟨x', e⟩ := ih (a * p) (some (.d y)) (j + 64) s0 s1 s2 s4 s5 s6 s7 s8 s9 s10 s11 (ha.mul hp) (by omega)
      refine ⟨x', ?_⟩
      rw [forGo]
      show bnd (evSs _ _ [s0, s1, s2, some (.d y), some (.d (fr p)), s4, s5, some (.d (fr a)), s6, s7, s8, s9, s10, s11]) _ = _
      simp only [h1, q_nil, q_cons, q_set, q_par, q_par3, q_ifs, q_ret, q_ex, e_slot, e_non, e_bl, e_int, e_str, e_glob, e_fnv, e_tup, e_lst, e_bin, e_neg, e_not, e_cmp, e_chain, e_and, e_or, e_one, e_ifx, e_ix, e_cut, e_rev, e_call, e_bi, e_isi, a_nil, a_cons, o_no, o_ye, d_nil, d_cons, w_ov, ok_bnd, bnd_bnd, rd_d, ofO_some, asD_d, asI_int, asB_bl, op2_d, cmp2_d, ix2_d, biOf1, biOf2, v_add, v_sub, v_mul, v_fdiv, v_mod, v_pow, v_catT, v_catL, v_catS, c_eq, c_ne, c_lt, c_le, c_gt, c_ge, c_isn, c_notn, x_tup, x_lst, x_fz, b_lenT, b_lenL, b_lenF, b_abs, b_int, b_intB, b_max, b_min, b_tupT, b_tupL, b_lstT, b_lstL, b_all, b_any, b_repr, rev_lst, tyOk, eqv_int, abs_nat, at0, at1, GC.val, List.getElem?_cons_zero, List.getElem?_cons_succ, List.set_cons_zero, List.set_cons_succ, List.append_nil, List.nil_append, List.cons_append, List.map_nil, List.map_cons, Option.map_some, List.length_cons, List.length_nil, Bool.not_true, Bool.not_false, if_true, if_false, Bool.false_eq_true, items]
      rw [Rat.pow_succ, Rat.mul_comm (p ^ xs.length) p, ← Rat.mul_assoc]
      exact e
  obtain ⟨x2, e2⟩ := loop2 (natL c2) 1 none 1 (some (.r l)) (some (.d (.lst [fr (p + q), fr (p - q), fr (p * q), fr p]))) x' (some (.d (fr q))) (some (.d (fr r))) (some (.d (.int (p.num * q.den)))) (some (.d (.int (q.num * p.den)))) (some (.d (.lst (qs.map fr)))) (some (.d (.int c2))) none none ⟨by decide, by decide⟩ (by rw [natL_len]; omega)
  rw [fr_one, natL_len, Rat.one_mul] at e2
  refine Wp.cons ?_
  simp only [q_for, w_r1, rng_nat (show c2 ≤ 1000000 by omega), q_nil, q_cons, q_set, q_par, q_par3, q_ifs, q_ret, q_ex, e_slot, e_non, e_bl, e_int, e_str, e_glob, e_fnv, e_tup, e_lst, e_bin, e_neg, e_not, e_cmp, e_chain, e_and, e_or, e_one, e_ifx, e_ix, e_cut, e_rev, e_call, e_bi, e_isi, a_nil, a_cons, o_no, o_ye, d_nil, d_cons, w_ov, ok_bnd, bnd_bnd, rd_d, ofO_some, asD_d, asI_int, asB_bl, op2_d, cmp2_d, ix2_d, biOf1, biOf2, v_add, v_sub, v_mul, v_fdiv, v_mod, v_pow, v_catT, v_catL, v_catS, c_eq, c_ne, c_lt, c_le, c_gt, c_ge, c_isn, c_notn, x_tup, x_lst, x_fz, b_lenT, b_lenL, b_lenF, b_abs, b_int, b_intB, b_max, b_min, b_tupT, b_tupL, b_lstT, b_lstL, b_all, b_any, b_repr, rev_lst, tyOk, eqv_int, abs_nat, at0, at1, GC.val, List.getElem?_cons_zero, List.getElem?_cons_succ, List.set_cons_zero, List.set_cons_succ, List.append_nil, List.nil_append, List.cons_append, List.map_nil, List.map_cons, Option.map_some, List.length_cons, List.length_nil, Bool.not_true, Bool.not_false, if_true, if_false, Bool.false_eq_true, items]
  rw [show (List.range c2).map (fun k : Nat => PV.int (0 + (k : Int))) = natL c2 from rfl, e2]
  refine Wp.ok ⟨_, rfl, Then.go ?_⟩
  have v1 := s_power (n := m) (c := c2) (by omega) hp (by omega) (by
    have := Nat.mul_le_mul_right (64 + 1) (show c2 + 1 ≤ 7 by omega)
    omega)
  have v2 := s_power (n := m) (c := 0) (by omega) hp (by omega) (by decide)
  rw [Rat.pow_zero, fr_one] at v2
  have v3 : eqv (.tup [.int 1, .int 1]) (.tup [.int 1, .int 1]) = some true := by rw [← fr_one, eqv_fr]; simp
  have v2 : callF T m ix_power [.d (fr p), .d (.int 0)] = ok (.d (.tup [.int 1, .int 1])) := v2
  refine Wp.cons ?_
  simp only [v1, v2, v3, eqv_fr, decide_true, q_nil, q_cons, q_set, q_par, q_par3, q_ifs, q_ret, q_ex, e_slot, e_non, e_bl, e_int, e_str, e_glob, e_fnv, e_tup, e_lst, e_bin, e_neg, e_not, e_cmp, e_chain, e_and, e_or, e_one, e_ifx, e_ix, e_cut, e_rev, e_call, e_bi, e_isi, a_nil, a_cons, o_no, o_ye, d_nil, d_cons, w_ov, ok_bnd, bnd_bnd, rd_d, ofO_some, asD_d, asI_int, asB_bl, op2_d, cmp2_d, ix2_d, biOf1, biOf2, v_add, v_sub, v_mul, v_fdiv, v_mod, v_pow, v_catT, v_catL, v_catS, c_eq, c_ne, c_lt, c_le, c_gt, c_ge, c_isn, c_notn, x_tup, x_lst, x_fz, b_lenT, b_lenL, b_lenF, b_abs, b_int, b_intB, b_max, b_min, b_tupT, b_tupL, b_lstT, b_lstL, b_all, b_any, b_repr, rev_lst, tyOk, eqv_int, abs_nat, at0, at1, GC.val, List.getElem?_cons_zero, List.getElem?_cons_succ, List.set_cons_zero, List.set_cons_succ, List.append_nil, List.nil_append, List.cons_append, List.map_nil, List.map_cons, Option.map_some, List.length_cons, List.length_nil, Bool.not_true, Bool.not_false, if_true, if_false, Bool.false_eq_true, items]
  refine Wp.ok ⟨_, rfl, Then.go ?_⟩
  -- number
  refine Wp.cons ?_
  simp only [q_nil, q_cons, q_set, q_par, q_par3, q_ifs, q_ret, q_ex, e_slot, e_non, e_bl, e_int, e_str, e_glob, e_fnv, e_tup, e_lst, e_bin, e_neg, e_not, e_cmp, e_chain, e_and, e_or, e_one, e_ifx, e_ix, e_cut, e_rev, e_call, e_bi, e_isi, a_nil, a_cons, o_no, o_ye, d_nil, d_cons, w_ov, ok_bnd, bnd_bnd, rd_d, ofO_some, asD_d, asI_int, asB_bl, op2_d, cmp2_d, ix2_d, biOf1, biOf2, v_add, v_sub, v_mul, v_fdiv, v_mod, v_pow, v_catT, v_catL, v_catS, c_eq, c_ne, c_lt, c_le, c_gt, c_ge, c_isn, c_notn, x_tup, x_lst, x_fz, b_lenT, b_lenL, b_lenF, b_abs, b_int, b_intB, b_max, b_min, b_tupT, b_tupL, b_lstT, b_lstL, b_all, b_any, b_repr, rev_lst, tyOk, eqv_int, abs_nat, at0, at1, GC.val, List.getElem?_cons_zero, List.getElem?_cons_succ, List.set_cons_zero, List.set_cons_succ, List.append_nil, List.nil_append, List.cons_append, List.map_nil, List.map_cons, Option.map_some, List.length_cons, List.length_nil, Bool.not_true, Bool.not_false, if_true, if_false, Bool.false_eq_true, items]
  refine Wp.bnd (s_integer (n := m) (by omega) d6 (by omega)) ?_
  rintro v s7 ⟨i, rfl, i0, i1, d7, l7⟩
  try simp only [q_nil, q_cons, q_set, q_par, q_par3, q_ifs, q_ret, q_ex, e_slot, e_non, e_bl, e_int, e_str, e_glob, e_fnv, e_tup, e_lst, e_bin, e_neg, e_not, e_cmp, e_chain, e_and, e_or, e_one, e_ifx, e_ix, e_cut, e_rev, e_call, e_bi, e_isi, a_nil, a_cons, o_no, o_ye, d_nil, d_cons, w_ov, ok_bnd, bnd_bnd, rd_d, ofO_some, asD_d, asI_int, asB_bl, op2_d, cmp2_d, ix2_d, biOf1, biOf2, v_add, v_sub, v_mul, v_fdiv, v_mod, v_pow, v_catT, v_catL, v_catS, c_eq, c_ne, c_lt, c_le, c_gt, c_ge, c_isn, c_notn, x_tup, x_lst, x_fz, b_lenT, b_lenL, b_lenF, b_abs, b_int, b_intB, b_max, b_min, b_tupT, b_tupL, b_lstT, b_lstL, b_all, b_any, b_repr, rev_lst, tyOk, eqv_int, abs_nat, at0, at1, GC.val, List.getElem?_cons_zero, List.getElem?_cons_succ, List.set_cons_zero, List.set_cons_succ, List.append_nil, List.nil_append, List.cons_append, List.map_nil, List.map_cons, Option.map_some, List.length_cons, List.length_nil, Bool.not_true, Bool.not_false, if_true, if_false, Bool.false_eq_true, items]
  refine Wp.bnd (s_pick (n := m) (xs := [.int 0, .int i]) (by omega) d7 (by omega) (by simp) (show 2 ≤ 1000000 by decide)) ?_
  rintro v s8 ⟨x, hx, rfl, d8, l8⟩
  obtain ⟨t, rfl, ht⟩ : ∃ t : Int, x = .int t ∧ t.natAbs ≤ 10 ^ 19 := by
    simp only [List.mem_cons, List.not_mem_nil, or_false] at hx
    rcases hx with z | z
    · exact ⟨0, z, by decide⟩
    · exact ⟨i, z, i1⟩
  try simp only [q_nil, q_cons, q_set, q_par, q_par3, q_ifs, q_ret, q_ex, e_slot, e_non, e_bl, e_int, e_str, e_glob, e_fnv, e_tup, e_lst, e_bin, e_neg, e_not, e_cmp, e_chain, e_and, e_or, e_one, e_ifx, e_ix, e_cut, e_rev, e_call, e_bi, e_isi, a_nil, a_cons, o_no, o_ye, d_nil, d_cons, w_ov, ok_bnd, bnd_bnd, rd_d, ofO_some, asD_d, asI_int, asB_bl, op2_d, cmp2_d, ix2_d, biOf1, biOf2, v_add, v_sub, v_mul, v_fdiv, v_mod, v_pow, v_catT, v_catL, v_catS, c_eq, c_ne, c_lt, c_le, c_gt, c_ge, c_isn, c_notn, x_tup, x_lst, x_fz, b_lenT, b_lenL, b_lenF, b_abs, b_int, b_intB, b_max, b_min, b_tupT, b_tupL, b_lstT, b_lstL, b_all, b_any, b_repr, rev_lst, tyOk, eqv_int, abs_nat, at0, at1, GC.val, List.getElem?_cons_zero, List.getElem?_cons_succ, List.set_cons_zero, List.set_cons_succ, List.append_nil, List.nil_append, List.cons_append, List.map_nil, List.map_cons, Option.map_some, List.length_cons, List.length_nil, Bool.not_true, Bool.not_false, if_true, if_false, Bool.false_eq_true, items]
  refine Wp.bnd (s_integer (n := m) (by omega) d8 (by omega)) ?_
  rintro v s9 ⟨b, rfl, b0, b1, d9, l9⟩
  try simp only [q_nil, q_cons, q_set, q_par, q_par3, q_ifs, q_ret, q_ex, e_slot, e_non, e_bl, e_int, e_str, e_glob, e_fnv, e_tup, e_lst, e_bin, e_neg, e_not, e_cmp, e_chain, e_and, e_or, e_one, e_ifx, e_ix, e_cut, e_rev, e_call, e_bi, e_isi, a_nil, a_cons, o_no, o_ye, d_nil, d_cons, w_ov, ok_bnd, bnd_bnd, rd_d, ofO_some, asD_d, asI_int, asB_bl, op2_d, cmp2_d, ix2_d, biOf1, biOf2, v_add, v_sub, v_mul, v_fdiv, v_mod, v_pow, v_catT, v_catL, v_catS, c_eq, c_ne, c_lt, c_le, c_gt, c_ge, c_isn, c_notn, x_tup, x_lst, x_fz, b_lenT, b_lenL, b_lenF, b_abs, b_int, b_intB, b_max, b_min, b_tupT, b_tupL, b_lstT, b_lstL, b_all, b_any, b_repr, rev_lst, tyOk, eqv_int, abs_nat, at0, at1, GC.val, List.getElem?_cons_zero, List.getElem?_cons_succ, List.set_cons_zero, List.set_cons_succ, List.append_nil, List.nil_append, List.cons_append, List.map_nil, List.map_cons, Option.map_some, List.length_cons, List.length_nil, Bool.not_true, Bool.not_false, if_true, if_false, Bool.false_eq_true, items]
  refine Wp.ok ⟨_, rfl, Then.go ?_⟩
  have n1 : (10 : Nat) ^ 19 < 10 ^ 40 := by decide
  have n2 : (10 : Nat) ^ 19 < 2 ^ 64 := by decide
  have w1 := s_number (n := m) (by omega) b0 (Nat.lt_of_le_of_lt ht n1) (Nat.lt_of_le_of_lt b1 n1)
  have w2 := s_law_fr (n := m) (by omega) b0 (big_of (Nat.lt_of_le_of_lt ht n2) (by decide)) (big_of (Nat.lt_of_le_of_lt b1 n2) (by decide))
  have w3 := s_number (n := m) (t := t) (b := 1) (by omega) (by decide) (Nat.lt_of_le_of_lt ht n1) (by decide)
  rw [int_divInt, fr_int] at w3
  have st64 : Sz 64 (t : Rat) := ⟨Nat.lt_of_le_of_lt ht n2, by
    show 1 < 2 ^ 64
    decide⟩
  have w4 := repr_fr (st64.mono (show 64 ≤ 1900 by decide))
  rw [fr_int] at w4
  simp only [w1, w2, w3, w4, eqv_str, eqv_fr, decide_true, q_nil, q_cons, q_set, q_par, q_par3, q_ifs, q_ret, q_ex, e_slot, e_non, e_bl, e_int, e_str, e_glob, e_fnv, e_tup, e_lst, e_bin, e_neg, e_not, e_cmp, e_chain, e_and, e_or, e_one, e_ifx, e_ix, e_cut, e_rev, e_call, e_bi, e_isi, a_nil, a_cons, o_no, o_ye, d_nil, d_cons, w_ov, ok_bnd, bnd_bnd, rd_d, ofO_some, asD_d, asI_int, asB_bl, op2_d, cmp2_d, ix2_d, biOf1, biOf2, v_add, v_sub, v_mul, v_fdiv, v_mod, v_pow, v_catT, v_catL, v_catS, c_eq, c_ne, c_lt, c_le, c_gt, c_ge, c_isn, c_notn, x_tup, x_lst, x_fz, b_lenT, b_lenL, b_lenF, b_abs, b_int, b_intB, b_max, b_min, b_tupT, b_tupL, b_lstT, b_lstL, b_all, b_any, b_repr, rev_lst, tyOk, eqv_int, abs_nat, at0, at1, GC.val, List.getElem?_cons_zero, List.getElem?_cons_succ, List.set_cons_zero, List.set_cons_succ, List.append_nil, List.nil_append, List.cons_append, List.map_nil, List.map_cons, Option.map_some, List.length_cons, List.length_nil, Bool.not_true, Bool.not_false, if_true, if_false, Bool.false_eq_true, items]
  refine Wp.ok ⟨_, rfl, rfl, ?_⟩
  rw [take_self (by omega)]
  exact ⟨d9.mono (by omega), by omega⟩
end K21
end -- K21f

section -- K21g
set_option Elab.async false
set_option linter.all false
set_option maxRecDepth 100000
set_option maxHeartbeats 4000000
set_option simprocs false
set_option exponentiation.threshold 14000
namespace K21
open PySem Fo
/-! ### the law -/
theorem s_dice {n : Nat} {ns : List Int} {i : Nat} (hn : 1 ≤ n) (hl : ns.length ≤ 63) (hi : i ≤ 100) : ∃ a b : Int, callF T n ix__law_dice [.d (.fz (ns.map .int)), .d (.int i)] = ok (.d (.lst [.int a, .int b, .int 0])) ∧ (0 ≤ a ∧ a.natAbs < 2 ^ 1100) ∧ (0 ≤ b ∧ b.natAbs < 2 ^ 80) := by
  obtain ⟨m, rfl⟩ : ∃ m, n = m + 1 := ⟨n - 1, by omega⟩
  rw [callF_at (fn := f__law_dice) rfl]
  have fin : ∀ cell : Int, ∃ a b : Int, evSs (callF T m) (.cons (.set 3 (.bin .mod (.bi .int (.cons (.bi .abs (.cons (.slot 2) .nil)) .nil)) (.bin .pow (.bin .pow (.int 10) (.int 53)) (.int 6))))
      (.cons (.set 4 (.bin .add (.bin .add (.bin .add (.bin .mul (.bin .mod (.slot 3) (.int 2305843009213693907)) (.int 73)) (.bin .mul (.int 619) (.slot 1))) (.bin .mul (.int 41) (.bi .int (.cons (.cmp .lt (.slot 2) (.int 0)) .nil)))) (.int 17)))
      (.cons (.ret (.lst (.cons (.bi .max2 (.cons (.int 0) (.cons (.bin .sub (.slot 3) (.bin .pow (.int 10) (.int 16))) .nil))) (.cons (.slot 4) (.cons (.int 0) .nil))))) .nil)))
      [some (.d (.fz (ns.map .int))), some (.d (.int i)), some (.d (.int cell)), none, none] = ok (.rt (.d (.lst [.int a, .int b, .int 0]))) ∧ (0 ≤ a ∧ a.natAbs < 2 ^ 1100) ∧ (0 ≤ b ∧ b.natAbs < 2 ^ 80) := by
    intro cell
    have w1 : powOk 10 53 = true := by decide +kernel
    have w2 : powOk (10 ^ Int.toNat 53) 6 = true := by decide +kernel
    have w3 : powOk 10 16 = true := by decide +kernel
    have big0 : (0 : Int) < (10 ^ Int.toNat 53) ^ Int.toNat 6 := by decide +kernel
    have big1 : ((10 ^ Int.toNat 53 : Int) ^ Int.toNat 6) < 2 ^ 1100 := by decide +kernel
    have big2 : ((10 ^ Int.toNat 53 : Int) ^ Int.toNat 6) ≠ 0 := by omega
    have g1 := fm_lo (cell.natAbs : Int) big0
    have g2 := fm_hi (cell.natAbs : Int) big0
    generalize hg : (cell.natAbs : Int).fmod ((10 ^ Int.toNat 53 : Int) ^ Int.toNat 6) = great at g1 g2
    have p0 : (0 : Int) < 2305843009213693907 := by decide
    have p0' : (2305843009213693907 : Int) ≠ 0 := by decide
    have e1 := fm_lo great p0
    have e2 := fm_hi great p0
    generalize he : great.fmod 2305843009213693907 = sm at e1 e2
    have o1 : mulOk sm 73 = true := mulOk_of (k := 62) (l := 10) (by omega) (by decide) (by decide)
    have o2 : mulOk 619 (i : Int) = true := mulOk_of (k := 20) (l := 20) (by decide) (by omega) (by decide)
    have o3 : ∀ c : Bool, mulOk 41 (if c = true then 1 else 0) = true := by
      intro c
      cases c <;> decide
    have hc : ∀ c : Bool, (0 : Int) ≤ (if c = true then 1 else 0) ∧ (if c = true then (1 : Int) else 0) ≤ 1 := by
      intro c
      cases c <;> decide
    have hc' := hc (decide (cell < 0))
    simp only [w1, w2, w3, big2, hg, he, p0', o1, o2, o3, ne_eq, not_false_eq_true, q_nil, q_cons, q_set, q_par, q_par3, q_ifs, q_ret, q_ex, e_slot, e_non, e_bl, e_int, e_str, e_glob, e_fnv, e_tup, e_lst, e_bin, e_neg, e_not, e_cmp, e_chain, e_and, e_or, e_one, e_ifx, e_ix, e_cut, e_rev, e_call, e_bi, e_isi, a_nil, a_cons, o_no, o_ye, d_nil, d_cons, w_ov, ok_bnd, bnd_bnd, rd_d, ofO_some, asD_d, asI_int, asB_bl, op2_d, cmp2_d, ix2_d, biOf1, biOf2, v_add, v_sub, v_mul, v_fdiv, v_mod, v_pow, v_catT, v_catL, v_catS, c_eq, c_ne, c_lt, c_le, c_gt, c_ge, c_isn, c_notn, x_tup, x_lst, x_fz, b_lenT, b_lenL, b_lenF, b_abs, b_int, b_intB, b_max, b_min, b_tupT, b_tupL, b_lstT, b_lstL, b_all, b_any, b_repr, rev_lst, tyOk, eqv_int, abs_nat, at0, at1, GC.val, List.getElem?_cons_zero, List.getElem?_cons_succ, List.set_cons_zero, List.set_cons_succ, List.append_nil, List.nil_append, List.cons_append, List.map_nil, List.map_cons, Option.map_some, List.length_cons, List.length_nil, Bool.not_true, Bool.not_false, if_true, if_false, Bool.false_eq_true, items]
    generalize hcc : (if decide (cell < 0) = true then (1 : Int) else 0) = cc at hc'
    refine ⟨_, _, rfl, ?_, ?_⟩
    · have k16 : (0 : Int) ≤ 10 ^ Int.toNat 16 := by decide +kernel
      generalize (10 : Int) ^ Int.toNat 16 = t at k16
      have k1100 : (0 : Int) < 2 ^ 1100 := by decide +kernel
      have c1100 : ((2 ^ 1100 : Nat) : Int) = 2 ^ 1100 := by decide +kernel
      generalize (10 ^ Int.toNat 53 : Int) ^ Int.toNat 6 = u at *
      have lt2 : great < ((2 ^ 1100 : Nat) : Int) := by rw [c1100]; omega
      generalize (2 : Nat) ^ 1100 = w at *
      split <;> omega
    · have : (2 : Nat) ^ 80 = 1208925819614629174706176 := by decide
      omega
  have start : ∃ cell : Int, evS (callF T m) (.set 2 (.ifx (.cmp .lt (.slot 1) (.bi .len (.cons (.slot 0) .nil))) (.bi .int (.cons (.ix (.slot 0) (.slot 1)) .nil)) (.bin .add (.bin .mul (.int 131) (.slot 1)) (.int 37)))) [some (.d (.fz (ns.map .int))), some (.d (.int i)), none, none, none] = ok (.nx [some (.d (.fz (ns.map .int))), some (.d (.int i)), some (.d (.int cell)), none, none]) := by
    by_cases c : (i : Int) < ((ns.map PV.int).length : Int)
    · have ci : i < ns.length := by rw [List.length_map] at c; omega
      have e : L2.atI (ns.map PV.int) (i : Int) = some (.int (ns[i]'ci)) := by
        unfold L2.atI L2.ixN
        rw [if_pos (Int.natCast_nonneg i), if_pos c]
        show (ns.map PV.int)[i]? = _
        rw [List.getElem?_map, List.getElem?_eq_getElem ci]
        rfl
      refine ⟨ns[i]'ci, ?_⟩
      simp only [decide_eq_true c, e, q_nil, q_cons, q_set, q_par, q_par3, q_ifs, q_ret, q_ex, e_slot, e_non, e_bl, e_int, e_str, e_glob, e_fnv, e_tup, e_lst, e_bin, e_neg, e_not, e_cmp, e_chain, e_and, e_or, e_one, e_ifx, e_ix, e_cut, e_rev, e_call, e_bi, e_isi, a_nil, a_cons, o_no, o_ye, d_nil, d_cons, w_ov, ok_bnd, bnd_bnd, rd_d, ofO_some, asD_d, asI_int, asB_bl, op2_d, cmp2_d, ix2_d, biOf1, biOf2, v_add, v_sub, v_mul, v_fdiv, v_mod, v_pow, v_catT, v_catL, v_catS, c_eq, c_ne, c_lt, c_le, c_gt, c_ge, c_isn, c_notn, x_tup, x_lst, x_fz, b_lenT, b_lenL, b_lenF, b_abs, b_int, b_intB, b_max, b_min, b_tupT, b_tupL, b_lstT, b_lstL, b_all, b_any, b_repr, rev_lst, tyOk, eqv_int, abs_nat, at0, at1, GC.val, List.getElem?_cons_zero, List.getElem?_cons_succ, List.set_cons_zero, List.set_cons_succ, List.append_nil, List.nil_append, List.cons_append, List.map_nil, List.map_cons, Option.map_some, List.length_cons, List.length_nil, Bool.not_true, Bool.not_false, if_true, if_false, Bool.false_eq_true, items]
    · have o : mulOk 131 (i : Int) = true := mulOk_of (k := 20) (l := 20) (by decide) (by omega) (by decide)
      refine ⟨131 * i + 37, ?_⟩
      simp only [decide_eq_false c, o, q_nil, q_cons, q_set, q_par, q_par3, q_ifs, q_ret, q_ex, e_slot, e_non, e_bl, e_int, e_str, e_glob, e_fnv, e_tup, e_lst, e_bin, e_neg, e_not, e_cmp, e_chain, e_and, e_or, e_one, e_ifx, e_ix, e_cut, e_rev, e_call, e_bi, e_isi, a_nil, a_cons, o_no, o_ye, d_nil, d_cons, w_ov, ok_bnd, bnd_bnd, rd_d, ofO_some, asD_d, asI_int, asB_bl, op2_d, cmp2_d, ix2_d, biOf1, biOf2, v_add, v_sub, v_mul, v_fdiv, v_mod, v_pow, v_catT, v_catL, v_catS, c_eq, c_ne, c_lt, c_le, c_gt, c_ge, c_isn, c_notn, x_tup, x_lst, x_fz, b_lenT, b_lenL, b_lenF, b_abs, b_int, b_intB, b_max, b_min, b_tupT, b_tupL, b_lstT, b_lstL, b_all, b_any, b_repr, rev_lst, tyOk, eqv_int, abs_nat, at0, at1, GC.val, List.getElem?_cons_zero, List.getElem?_cons_succ, List.set_cons_zero, List.set_cons_succ, List.append_nil, List.nil_append, List.cons_append, List.map_nil, List.map_cons, Option.map_some, List.length_cons, List.length_nil, Bool.not_true, Bool.not_false, if_true, if_false, Bool.false_eq_true, items]
  obtain ⟨cell, hs⟩ := start
  obtain ⟨a, b, hf, ha, hb2⟩ := fin cell
  refine ⟨a, b, run_rt rfl ?_, ha, hb2⟩
  show evSs (callF T m) f__law_dice.body [some (.d (.fz (ns.map .int))), some (.d (.int i)), none, none, none] = _
  rw [f__law_dice]
  dsimp only
  rw [q_cons, hs, ok_bnd]
  exact hf
def G1 : Rat := mkRat (10 ^ 60 + 1) (10 ^ 59 + 3)
theorem G1_fr : fr G1 = .tup [.int (10 ^ Int.toNat 60 + 1), .int (10 ^ Int.toNat 59 + 3)] := by
  have e1 : G1.num = 10 ^ Int.toNat 60 + 1 := by decide +kernel
  have e2 : (G1.den : Int) = 10 ^ Int.toNat 59 + 3 := by decide +kernel
  unfold fr
  rw [e1, e2]
theorem G1_sz : Sz 210 G1 := ⟨by decide +kernel, by decide +kernel⟩
def R2 (a b : Int) : Rat := Rat.divInt a b
theorem main (ns : List Int) (hl : ns.length ≤ 63) : callF T 30 ix_law [.d (.fz (ns.map .int))] [] = some (.ok (.d (.bl true)) []) := by
  have key : Wp (callF T (29 + 1) ix_law [.d (.fz (ns.map .int))] []) fun v s => v = .d (.bl true) ∧ s = [] := by
    rw [callF_at (fn := f_law) rfl]
    refine Wp.run rfl ?_
    show Wp (evSs (callF T 29) f_law.body [some (.d (.fz (ns.map .int))), none, none, none, none, none] []) _
    rw [f_law]
    dsimp only
    refine Wp.cons ?_
    have turns : ∀ (l : Nat) (x4 : Option SV) (s1 s2 s3 : Option SV), ∀ (xs : List PV) (x5 : Option SV) (st : Store) (k : Nat), k + xs.length * 200 ≤ 10000 → DS st l k → Wp (forGo (.n 5) (evSs (callF T 29) (.cons (.ifs (.not (.call ix__law_right (.cons (.slot 4) .nil) [])) (.cons (.ret (.bl false)) .nil) .nil) .nil)) xs [some (.d (.fz (ns.map .int))), s1, s2, s3, some (.r l), x5] st) fun o s => ∃ x5', o = .nx [some (.d (.fz (ns.map .int))), s1, s2, s3, some (.r l), x5'] := by
      intro l x4 s1 s2 s3 xs
      induction xs with
      | nil =>
        intro x5 st k hk hd
        rw [forGo]
        exact Wp.ok ⟨x5, rfl⟩
      | cons x xs ih =>
        intro x5 st k hk hd
        have hl : (x :: xs).length * 200 = xs.length * 200 + 200 := by rw [List.length_cons, Nat.succ_mul]
        rw [forGo]
        show Wp (bnd (evSs _ _ [some (.d (.fz (ns.map .int))), s1, s2, s3, some (.r l), some (.d x)]) _ st) _
        simp only [q_nil, q_cons, q_set, q_par, q_par3, q_ifs, q_ret, q_ex, e_slot, e_non, e_bl, e_int, e_str, e_glob, e_fnv, e_tup, e_lst, e_bin, e_neg, e_not, e_cmp, e_chain, e_and, e_or, e_one, e_ifx, e_ix, e_cut, e_rev, e_call, e_bi, e_isi, a_nil, a_cons, o_no, o_ye, d_nil, d_cons, w_ov, ok_bnd, bnd_bnd, rd_d, ofO_some, asD_d, asI_int, asB_bl, op2_d, cmp2_d, ix2_d, biOf1, biOf2, v_add, v_sub, v_mul, v_fdiv, v_mod, v_pow, v_catT, v_catL, v_catS, c_eq, c_ne, c_lt, c_le, c_gt, c_ge, c_isn, c_notn, x_tup, x_lst, x_fz, b_lenT, b_lenL, b_lenF, b_abs, b_int, b_intB, b_max, b_min, b_tupT, b_tupL, b_lstT, b_lstL, b_all, b_any, b_repr, rev_lst, tyOk, eqv_int, abs_nat, at0, at1, GC.val, List.getElem?_cons_zero, List.getElem?_cons_succ, List.set_cons_zero, List.set_cons_succ, List.append_nil, List.nil_append, List.cons_append, List.map_nil, List.map_cons, Option.map_some, List.length_cons, List.length_nil, Bool.not_true, Bool.not_false, if_true, if_false, Bool.false_eq_true, items]
        refine Wp.bnd (s_right (n := 29) (by decide) hd (by omega)) ?_
        rintro v s ⟨rfl, hd2, _⟩
        simp only [q_nil, q_cons, q_set, q_par, q_par3, q_ifs, q_ret, q_ex, e_slot, e_non, e_bl, e_int, e_str, e_glob, e_fnv, e_tup, e_lst, e_bin, e_neg, e_not, e_cmp, e_chain, e_and, e_or, e_one, e_ifx, e_ix, e_cut, e_rev, e_call, e_bi, e_isi, a_nil, a_cons, o_no, o_ye, d_nil, d_cons, w_ov, ok_bnd, bnd_bnd, rd_d, ofO_some, asD_d, asI_int, asB_bl, op2_d, cmp2_d, ix2_d, biOf1, biOf2, v_add, v_sub, v_mul, v_fdiv, v_mod, v_pow, v_catT, v_catL, v_catS, c_eq, c_ne, c_lt, c_le, c_gt, c_ge, c_isn, c_notn, x_tup, x_lst, x_fz, b_lenT, b_lenL, b_lenF, b_abs, b_int, b_intB, b_max, b_min, b_tupT, b_tupL, b_lstT, b_lstL, b_all, b_any, b_repr, rev_lst, tyOk, eqv_int, abs_nat, at0, at1, GC.val, List.getElem?_cons_zero, List.getElem?_cons_succ, List.set_cons_zero, List.set_cons_succ, List.append_nil, List.nil_append, List.cons_append, List.map_nil, List.map_cons, Option.map_some, List.length_cons, List.length_nil, Bool.not_true, Bool.not_false, if_true, if_false, Bool.false_eq_true, items]
        exact ih (some (.d x)) s (k + 200) (by omega) hd2
    have spots : ∀ (xs : List Nat) (x1 x4 x5 : Option SV) (st : Store), (∀ x ∈ xs, x ≤ 100) → Wp (forGo (.n 1) (evSs (callF T 29) (.cons (.new 4 (.call ix__law_dice (.cons (.slot 0) (.cons (.slot 1) .nil)) [])) (.cons (.for (.n 5) (.rng1 (.int 3)) (.cons (.ifs (.not (.call ix__law_right (.cons (.slot 4) .nil) [])) (.cons (.ret (.bl false)) .nil) .nil) .nil)) .nil)))
        (xs.map fun x : Nat => PV.int (0 + (x : Int))) [some (.d (.fz (ns.map .int))), x1, none, none, x4, x5] st) fun o s => ∃ x1' x4' x5', o = .nx [some (.d (.fz (ns.map .int))), x1', none, none, x4', x5'] := by
      intro xs
      induction xs with
      | nil =>
        intro x1 x4 x5 st _
        rw [List.map_nil, forGo]
        exact Wp.ok ⟨x1, x4, x5, rfl⟩
      | cons x xs ih =>
        intro x1 x4 x5 st hx
        rw [List.map_cons, forGo]
        show Wp (bnd (evSs _ _ [some (.d (.fz (ns.map .int))), some (.d (.int (0 + (x : Int)))), none, none, x4, x5]) _ st) _
        rw [Int.zero_add]
        obtain ⟨a, b, hd, ha, hb⟩ := s_dice (n := 29) (ns := ns) (i := x) (by decide) hl (hx x List.mem_cons_self)
        refine Wp.bnd (P' := fun o s => ∃ x1' x4' x5', o = .nx [some (.d (.fz (ns.map .int))), x1', none, none, x4', x5']) ?_ ?_
        · refine Wp.cons ?_
          rw [evS]
          simp only [hd, q_nil, q_cons, q_set, q_par, q_par3, q_ifs, q_ret, q_ex, e_slot, e_non, e_bl, e_int, e_str, e_glob, e_fnv, e_tup, e_lst, e_bin, e_neg, e_not, e_cmp, e_chain, e_and, e_or, e_one, e_ifx, e_ix, e_cut, e_rev, e_call, e_bi, e_isi, a_nil, a_cons, o_no, o_ye, d_nil, d_cons, w_ov, ok_bnd, bnd_bnd, rd_d, ofO_some, asD_d, asI_int, asB_bl, op2_d, cmp2_d, ix2_d, biOf1, biOf2, v_add, v_sub, v_mul, v_fdiv, v_mod, v_pow, v_catT, v_catL, v_catS, c_eq, c_ne, c_lt, c_le, c_gt, c_ge, c_isn, c_notn, x_tup, x_lst, x_fz, b_lenT, b_lenL, b_lenF, b_abs, b_int, b_intB, b_max, b_min, b_tupT, b_tupL, b_lstT, b_lstL, b_all, b_any, b_repr, rev_lst, tyOk, eqv_int, abs_nat, at0, at1, GC.val, List.getElem?_cons_zero, List.getElem?_cons_succ, List.set_cons_zero, List.set_cons_succ, List.append_nil, List.nil_append, List.cons_append, List.map_nil, List.map_cons, Option.map_some, List.length_cons, List.length_nil, Bool.not_true, Bool.not_false, if_true, if_false, Bool.false_eq_true, items]
          refine ⟨_, _, rfl, _, rfl, Then.go ?_⟩
          refine Wp.cons ?_
          simp only [q_for, w_r1, rng_nat (show 3 ≤ 1000000 by decide), q_nil, q_cons, q_set, q_par, q_par3, q_ifs, q_ret, q_ex, e_slot, e_non, e_bl, e_int, e_str, e_glob, e_fnv, e_tup, e_lst, e_bin, e_neg, e_not, e_cmp, e_chain, e_and, e_or, e_one, e_ifx, e_ix, e_cut, e_rev, e_call, e_bi, e_isi, a_nil, a_cons, o_no, o_ye, d_nil, d_cons, w_ov, ok_bnd, bnd_bnd, rd_d, ofO_some, asD_d, asI_int, asB_bl, op2_d, cmp2_d, ix2_d, biOf1, biOf2, v_add, v_sub, v_mul, v_fdiv, v_mod, v_pow, v_catT, v_catL, v_catS, c_eq, c_ne, c_lt, c_le, c_gt, c_ge, c_isn, c_notn, x_tup, x_lst, x_fz, b_lenT, b_lenL, b_lenF, b_abs, b_int, b_intB, b_max, b_min, b_tupT, b_tupL, b_lstT, b_lstL, b_all, b_any, b_repr, rev_lst, tyOk, eqv_int, abs_nat, at0, at1, GC.val, List.getElem?_cons_zero, List.getElem?_cons_succ, List.set_cons_zero, List.set_cons_succ, List.append_nil, List.nil_append, List.cons_append, List.map_nil, List.map_cons, Option.map_some, List.length_cons, List.length_nil, Bool.not_true, Bool.not_false, if_true, if_false, Bool.false_eq_true, items]
          have t := turns st.length none (some (.d (.int x))) none none ((List.range 3).map fun k : Nat => PV.int (0 + (k : Int))) x5 (st ++ [.lst [.int a, .int b, .int 0]]) 0 (by decide) ⟨a, b, 0, by rw [List.getElem?_append_right (Nat.le_refl _), Nat.sub_self]; rfl, ha, hb, by decide, by decide⟩
          have r3 : rngOf 0 3 = some ((List.range 3).map fun k : Nat => PV.int (0 + (k : Int))) := rng_nat (c := 3) (by decide)
          simp only [r3, q_nil, q_cons, q_set, q_par, q_par3, q_ifs, q_ret, q_ex, e_slot, e_non, e_bl, e_int, e_str, e_glob, e_fnv, e_tup, e_lst, e_bin, e_neg, e_not, e_cmp, e_chain, e_and, e_or, e_one, e_ifx, e_ix, e_cut, e_rev, e_call, e_bi, e_isi, a_nil, a_cons, o_no, o_ye, d_nil, d_cons, w_ov, ok_bnd, bnd_bnd, rd_d, ofO_some, asD_d, asI_int, asB_bl, op2_d, cmp2_d, ix2_d, biOf1, biOf2, v_add, v_sub, v_mul, v_fdiv, v_mod, v_pow, v_catT, v_catL, v_catS, c_eq, c_ne, c_lt, c_le, c_gt, c_ge, c_isn, c_notn, x_tup, x_lst, x_fz, b_lenT, b_lenL, b_lenF, b_abs, b_int, b_intB, b_max, b_min, b_tupT, b_tupL, b_lstT, b_lstL, b_all, b_any, b_repr, rev_lst, tyOk, eqv_int, abs_nat, at0, at1, GC.val, List.getElem?_cons_zero, List.getElem?_cons_succ, List.set_cons_zero, List.set_cons_succ, List.append_nil, List.nil_append, List.cons_append, List.map_nil, List.map_cons, Option.map_some, List.length_cons, List.length_nil, Bool.not_true, Bool.not_false, if_true, if_false, Bool.false_eq_true, items]
          refine t.imp ?_
          rintro o s ⟨x5', rfl⟩
          refine ⟨_, rfl, Then.go ?_⟩
          simp only [q_nil, q_cons, q_set, q_par, q_par3, q_ifs, q_ret, q_ex, e_slot, e_non, e_bl, e_int, e_str, e_glob, e_fnv, e_tup, e_lst, e_bin, e_neg, e_not, e_cmp, e_chain, e_and, e_or, e_one, e_ifx, e_ix, e_cut, e_rev, e_call, e_bi, e_isi, a_nil, a_cons, o_no, o_ye, d_nil, d_cons, w_ov, ok_bnd, bnd_bnd, rd_d, ofO_some, asD_d, asI_int, asB_bl, op2_d, cmp2_d, ix2_d, biOf1, biOf2, v_add, v_sub, v_mul, v_fdiv, v_mod, v_pow, v_catT, v_catL, v_catS, c_eq, c_ne, c_lt, c_le, c_gt, c_ge, c_isn, c_notn, x_tup, x_lst, x_fz, b_lenT, b_lenL, b_lenF, b_abs, b_int, b_intB, b_max, b_min, b_tupT, b_tupL, b_lstT, b_lstL, b_all, b_any, b_repr, rev_lst, tyOk, eqv_int, abs_nat, at0, at1, GC.val, List.getElem?_cons_zero, List.getElem?_cons_succ, List.set_cons_zero, List.set_cons_succ, List.append_nil, List.nil_append, List.cons_append, List.map_nil, List.map_cons, Option.map_some, List.length_cons, List.length_nil, Bool.not_true, Bool.not_false, if_true, if_false, Bool.false_eq_true, items]
          exact Wp.ok ⟨_, _, _, rfl⟩
        · rintro o s ⟨x1', x4', x5', rfl⟩
          exact ih x1' x4' x5' s fun y hy => hx y (List.mem_cons_of_mem _ hy)
    obtain ⟨c, hc, hce⟩ : ∃ c : Nat, c ≤ 6 ∧ (if (if ((ns.map PV.int).length : Int) < 6 then ((ns.map PV.int).length : Int) else 6) > 1 then (if ((ns.map PV.int).length : Int) < 6 then ((ns.map PV.int).length : Int) else 6) else 1) = (c : Int) := by
      generalize (ns.map PV.int).length = y
      by_cases z : (y : Int) < 6
      · rw [if_pos z]
        by_cases z2 : (y : Int) > 1
        · rw [if_pos z2]
          exact ⟨y, by omega, rfl⟩
        · rw [if_neg z2]
          exact ⟨1, by decide, rfl⟩
      · rw [if_neg z]
        exact ⟨6, by decide, rfl⟩
    simp only [q_for, w_r1, hce, rng_nat (show c ≤ 1000000 by omega), q_nil, q_cons, q_set, q_par, q_par3, q_ifs, q_ret, q_ex, e_slot, e_non, e_bl, e_int, e_str, e_glob, e_fnv, e_tup, e_lst, e_bin, e_neg, e_not, e_cmp, e_chain, e_and, e_or, e_one, e_ifx, e_ix, e_cut, e_rev, e_call, e_bi, e_isi, a_nil, a_cons, o_no, o_ye, d_nil, d_cons, w_ov, ok_bnd, bnd_bnd, rd_d, ofO_some, asD_d, asI_int, asB_bl, op2_d, cmp2_d, ix2_d, biOf1, biOf2, v_add, v_sub, v_mul, v_fdiv, v_mod, v_pow, v_catT, v_catL, v_catS, c_eq, c_ne, c_lt, c_le, c_gt, c_ge, c_isn, c_notn, x_tup, x_lst, x_fz, b_lenT, b_lenL, b_lenF, b_abs, b_int, b_intB, b_max, b_min, b_tupT, b_tupL, b_lstT, b_lstL, b_all, b_any, b_repr, rev_lst, tyOk, eqv_int, abs_nat, at0, at1, GC.val, List.getElem?_cons_zero, List.getElem?_cons_succ, List.set_cons_zero, List.set_cons_succ, List.append_nil, List.nil_append, List.cons_append, List.map_nil, List.map_cons, Option.map_some, List.length_cons, List.length_nil, Bool.not_true, Bool.not_false, if_true, if_false, Bool.false_eq_true, items]
    refine (spots (List.range c) none none none [] (fun x hx => by have := List.mem_range.mp hx; omega)).imp ?_
    rintro o s ⟨x1, x4, x5, rfl⟩
    refine ⟨_, rfl, Then.go ?_⟩
    have w1 : powOk 10 60 = true := by decide +kernel
    have w2 : powOk 10 59 = true := by decide +kernel
    have w3 : powOk 10 39 = true := by decide +kernel
    refine Wp.cons ?_
    simp only [w1, w2, q_nil, q_cons, q_set, q_par, q_par3, q_ifs, q_ret, q_ex, e_slot, e_non, e_bl, e_int, e_str, e_glob, e_fnv, e_tup, e_lst, e_bin, e_neg, e_not, e_cmp, e_chain, e_and, e_or, e_one, e_ifx, e_ix, e_cut, e_rev, e_call, e_bi, e_isi, a_nil, a_cons, o_no, o_ye, d_nil, d_cons, w_ov, ok_bnd, bnd_bnd, rd_d, ofO_some, asD_d, asI_int, asB_bl, op2_d, cmp2_d, ix2_d, biOf1, biOf2, v_add, v_sub, v_mul, v_fdiv, v_mod, v_pow, v_catT, v_catL, v_catS, c_eq, c_ne, c_lt, c_le, c_gt, c_ge, c_isn, c_notn, x_tup, x_lst, x_fz, b_lenT, b_lenL, b_lenF, b_abs, b_int, b_intB, b_max, b_min, b_tupT, b_tupL, b_lstT, b_lstL, b_all, b_any, b_repr, rev_lst, tyOk, eqv_int, abs_nat, at0, at1, GC.val, List.getElem?_cons_zero, List.getElem?_cons_succ, List.set_cons_zero, List.set_cons_succ, List.append_nil, List.nil_append, List.cons_append, List.map_nil, List.map_cons, Option.map_some, List.length_cons, List.length_nil, Bool.not_true, Bool.not_false, if_true, if_false, Bool.false_eq_true, items]
    refine Wp.ok ⟨_, rfl, Then.go ?_⟩
    have r13 : fr (R2 1 3) = .tup [.int 1, .int 3] := by
      have e1 : (R2 1 3).num = 1 := by decide +kernel
      have e2 : ((R2 1 3).den : Int) = 3 := by decide +kernel
      unfold fr
      rw [e1, e2]
    have rm12 : fr (R2 (-1) 2) = .tup [.int (-1), .int 2] := by
      have e1 : (R2 (-1) 2).num = -1 := by decide +kernel
      have e2 : ((R2 (-1) 2).den : Int) = 2 := by decide +kernel
      unfold fr
      rw [e1, e2]
    have rm13 : fr (R2 (-1) 3) = .tup [.int (-1), .int 3] := by
      have e1 : (R2 (-1) 3).num = -1 := by decide +kernel
      have e2 : ((R2 (-1) 3).den : Int) = 3 := by decide +kernel
      unfold fr
      rw [e1, e2]
    have s13 : Sz 2 (R2 1 3) := ⟨by decide +kernel, by decide +kernel⟩
    have sm12 : Sz 2 (R2 (-1) 2) := ⟨by decide +kernel, by decide +kernel⟩
    have sm13 : Sz 2 (R2 (-1) 3) := ⟨by decide +kernel, by decide +kernel⟩
    have f1 := s_plus (n := 29) (by decide) G1_sz s13 (by decide)
    have f2 := s_law_plus (n := 29) (by decide) G1_sz s13 (by decide)
    rw [G1_fr, r13] at f1 f2
    have f3 := s_power (n := 29) (p := R2 (-1) 2) (c := 60) (by decide) sm12 (by decide) (by decide)
    have p60 : fr (R2 (-1) 2 ^ 60) = .tup [.int 1, .int 1152921504606846976] := by
      have e1 : (R2 (-1) 2 ^ 60).num = 1 := by decide +kernel
      have e2 : ((R2 (-1) 2 ^ 60).den : Int) = 1152921504606846976 := by decide +kernel
      unfold fr
      rw [e1, e2]
    rw [rm12, p60] at f3
    have f3 : callF T 29 ix_power [.d (.tup [.int (-1), .int 2]), .d (.int 60)] = ok (.d (.tup [.int 1, .int 1152921504606846976])) := f3
    have f4 : eqv (.tup [.int 1, .int 1152921504606846976]) (.tup [.int 1, .int 1152921504606846976]) = some true := by decide +kernel
    refine Wp.cons ?_
    simp only [f1, f2, f3, f4, eqv_fr, decide_true, q_nil, q_cons, q_set, q_par, q_par3, q_ifs, q_ret, q_ex, e_slot, e_non, e_bl, e_int, e_str, e_glob, e_fnv, e_tup, e_lst, e_bin, e_neg, e_not, e_cmp, e_chain, e_and, e_or, e_one, e_ifx, e_ix, e_cut, e_rev, e_call, e_bi, e_isi, a_nil, a_cons, o_no, o_ye, d_nil, d_cons, w_ov, ok_bnd, bnd_bnd, rd_d, ofO_some, asD_d, asI_int, asB_bl, op2_d, cmp2_d, ix2_d, biOf1, biOf2, v_add, v_sub, v_mul, v_fdiv, v_mod, v_pow, v_catT, v_catL, v_catS, c_eq, c_ne, c_lt, c_le, c_gt, c_ge, c_isn, c_notn, x_tup, x_lst, x_fz, b_lenT, b_lenL, b_lenF, b_abs, b_int, b_intB, b_max, b_min, b_tupT, b_tupL, b_lstT, b_lstL, b_all, b_any, b_repr, rev_lst, tyOk, eqv_int, abs_nat, at0, at1, GC.val, List.getElem?_cons_zero, List.getElem?_cons_succ, List.set_cons_zero, List.set_cons_succ, List.append_nil, List.nil_append, List.cons_append, List.map_nil, List.map_cons, Option.map_some, List.length_cons, List.length_nil, Bool.not_true, Bool.not_false, if_true, if_false, Bool.false_eq_true, items]
    refine Wp.ok ⟨_, rfl, Then.go ?_⟩
    have n1 := s_number (n := 29) (t := 10 ^ Int.toNat 39) (b := -(10 ^ Int.toNat 39)) (by decide) (by decide +kernel) (by decide +kernel) (by decide +kernel)
    have n1e : fr (Rat.divInt (10 ^ Int.toNat 39) (-(10 ^ Int.toNat 39))) = .tup [.int (-1), .int 1] := by
      have e1 : (Rat.divInt (10 ^ Int.toNat 39) (-(10 ^ Int.toNat 39))).num = -1 := by decide +kernel
      have e2 : ((Rat.divInt (10 ^ Int.toNat 39) (-(10 ^ Int.toNat 39))).den : Int) = 1 := by decide +kernel
      unfold fr
      rw [e1, e2]
    rw [n1e] at n1
    have n2 := s_number (n := 29) (t := -6) (b := 4) (by decide) (by decide) (by decide) (by decide)
    have n2e : fr (Rat.divInt (-6) 4) = .tup [.int (-3), .int 2] := by
      have e1 : (Rat.divInt (-6) 4).num = -3 := by decide +kernel
      have e2 : ((Rat.divInt (-6) 4).den : Int) = 2 := by decide +kernel
      unfold fr
      rw [e1, e2]
    rw [n2e] at n2
    have n3 := s_total (n := 29) (qs := []) (k := 2) (by decide) (fun q hq => by cases hq) (by decide) (by decide)
    have n3 : callF T 29 ix_total [.d (.tup [])] = ok (.d (.tup [.int 0, .int 1])) := n3
    have n4 := s_compared (n := 29) (by decide) sm12 sm13 (by decide)
    have n4e : ((if (R2 (-1) 2).num * (R2 (-1) 3).den > (R2 (-1) 3).num * (R2 (-1) 2).den then 1 else 0) - (if (R2 (-1) 2).num * (R2 (-1) 3).den < (R2 (-1) 3).num * (R2 (-1) 2).den then 1 else 0) : Int) = -1 := by decide +kernel
    rw [n4e, rm12, rm13] at n4
    refine Wp.cons ?_
    have l6 : (0 + 1 + 1 + (0 + 1 + 1 + 1 + 1) ≤ lim) = True := eq_true (by decide)
    simp only [w3, n1, n2, n3, n4, l6, q_nil, q_cons, q_set, q_par, q_par3, q_ifs, q_ret, q_ex, e_slot, e_non, e_bl, e_int, e_str, e_glob, e_fnv, e_tup, e_lst, e_bin, e_neg, e_not, e_cmp, e_chain, e_and, e_or, e_one, e_ifx, e_ix, e_cut, e_rev, e_call, e_bi, e_isi, a_nil, a_cons, o_no, o_ye, d_nil, d_cons, w_ov, ok_bnd, bnd_bnd, rd_d, ofO_some, asD_d, asI_int, asB_bl, op2_d, cmp2_d, ix2_d, biOf1, biOf2, v_add, v_sub, v_mul, v_fdiv, v_mod, v_pow, v_catT, v_catL, v_catS, c_eq, c_ne, c_lt, c_le, c_gt, c_ge, c_isn, c_notn, x_tup, x_lst, x_fz, b_lenT, b_lenL, b_lenF, b_abs, b_int, b_intB, b_max, b_min, b_tupT, b_tupL, b_lstT, b_lstL, b_all, b_any, b_repr, rev_lst, tyOk, eqv_int, abs_nat, at0, at1, GC.val, List.getElem?_cons_zero, List.getElem?_cons_succ, List.set_cons_zero, List.set_cons_succ, List.append_nil, List.nil_append, List.cons_append, List.map_nil, List.map_cons, Option.map_some, List.length_cons, List.length_nil, Bool.not_true, Bool.not_false, if_true, if_false, Bool.false_eq_true, items]
    refine Wp.ok ⟨_, rfl, Then.go ?_⟩
    have last : eqv (.lst [.bl true, .bl true, .tup [.int (-1), .int 1], .tup [.int (-3), .int 2], .tup [.int 0, .int 1], .int (-1)]) (.lst [.bl true, .bl true, .tup [.int (-1), .int 1], .tup [.int (-3), .int 2], .tup [.int 0, .int 1], .int (-1)]) = some true := by decide +kernel
    simp only [last, q_nil, q_cons, q_set, q_par, q_par3, q_ifs, q_ret, q_ex, e_slot, e_non, e_bl, e_int, e_str, e_glob, e_fnv, e_tup, e_lst, e_bin, e_neg, e_not, e_cmp, e_chain, e_and, e_or, e_one, e_ifx, e_ix, e_cut, e_rev, e_call, e_bi, e_isi, a_nil, a_cons, o_no, o_ye, d_nil, d_cons, w_ov, ok_bnd, bnd_bnd, rd_d, ofO_some, asD_d, asI_int, asB_bl, op2_d, cmp2_d, ix2_d, biOf1, biOf2, v_add, v_sub, v_mul, v_fdiv, v_mod, v_pow, v_catT, v_catL, v_catS, c_eq, c_ne, c_lt, c_le, c_gt, c_ge, c_isn, c_notn, x_tup, x_lst, x_fz, b_lenT, b_lenL, b_lenF, b_abs, b_int, b_intB, b_max, b_min, b_tupT, b_tupL, b_lstT, b_lstL, b_all, b_any, b_repr, rev_lst, tyOk, eqv_int, abs_nat, at0, at1, GC.val, List.getElem?_cons_zero, List.getElem?_cons_succ, List.set_cons_zero, List.set_cons_succ, List.append_nil, List.nil_append, List.cons_append, List.map_nil, List.map_cons, Option.map_some, List.length_cons, List.length_nil, Bool.not_true, Bool.not_false, if_true, if_false, Bool.false_eq_true, items]
    exact Wp.ok ⟨_, rfl, rfl, rfl⟩
  obtain ⟨v, s, e, rfl, rfl⟩ := key
  exact e
end K21
end -- K21g

theorem PySem.Challenge.cw_fairoffers_k21_whole_numbers_holds : PySem.Challenge.rw_fairoffers_k21_whole_numbers.Holds := by
  exact K21.holds_of K21.main
