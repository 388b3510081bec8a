import PyProof.Rows.All
import Wide.All
import OpenK.AllK
import Wide.FinOn
import HandS.ForMost
import HandS.ForExc
import PyProof.ReprRoads
import HandS.Text
import HandS.TupAny
import HandS.TupMul
import HandS.Wide
import HandS.More
import HandS.CallSlots
import HandS.IsInst
import KE.GoesMore
import HandS.Zip
import HandS.Style
import HandS.ExcField
import HandS.TryOnly
import HandS.List
import PyProof.CallFns
import HandS.Dict
import HandS.DictTup
import KE.KDictKeyed
import KE.KDictDisplayH
import HandS.Conv
import HandS.ListItems
import HandS.SortOrd
import KE.KSortTupAny
import HandS.TupSets
import HandS.ExcInit
import KE.KExcSuper
import KE.RegKSuper
import HandS.EndBits
import HandS.HeadHook1
import HandS.HeadHook2
import HandS.HeadHook3
import HandS.Codes
import PySem.Challenge.RW_everyfont_k72_grids_judged
set_option linter.all false
/-! A pure reading of the Python that the laws use: plain data trees, owned lists and dicts, one predicate transformer a construct. -/
namespace EV
open PySem L2

/-! ### data -/
inductive D where
  | non | bl (b : Bool) | int (i : Int) | str (x : Str)
  | tup (xs : List D) | lst (xs : List D) | tC (xs : List D)
  | dK (ks : List Key) (vs : List D) | dT (ks : List (List Key)) (vs : List D)
  | dC (ks : List Key) (vs : List D)
  | ins (c : Nat) (fs : List D)
  deriving Inhabited

mutual
def D.py : D → PyData
  | .non => .none
  | .bl b => .bool b
  | .int i => .int i
  | .str x => .str x
  | .tup xs => .tuple (D.pys xs)
  | .lst xs => .list (D.pys xs)
  | .tC xs => .tuple (D.pys xs)
  | .dK _ _ => .none
  | .dT _ _ => .none
  | .dC _ _ => .none
  | .ins _ _ => .none
def D.pys : List D → List PyData
  | [] => []
  | d :: ds => d.py :: D.pys ds
end
mutual
/-- no dict, no instance in it -/
def D.plain : D → Bool
  | .tup xs => D.plains xs
  | .lst xs => D.plains xs
  | .tC xs => D.plains xs
  | .dK _ _ => false
  | .dT _ _ => false
  | .dC _ _ => false
  | .ins _ _ => false
  | _ => true
def D.plains : List D → Bool
  | [] => true
  | d :: ds => d.plain && D.plains ds
end
/-- a tuple of the module is a tuple -/
def D.n : D → D
  | .tC xs => .tup xs
  | d => d
def D.okEq (d : D) : Prop := d.plain = true ∧ SeqAt.shaped d.py = true
def D.eqv (d e : D) : Bool := PyData.eqv d.py e.py

/-! ### owned objects, slots, values -/
inductive Ow where
  | lst (ds : List D) | dK (kvs : List (Key × D)) | dT (kvs : List (List Key × D))
def Ow.d : Ow → D
  | .lst ds => .lst ds
  | .dK kvs => .dK (kvs.map (·.1)) (kvs.map (·.2))
  | .dT kvs => .dT (kvs.map (·.1)) (kvs.map (·.2))
inductive SV where
  | val (d : D) | own (o : Ow) | par (k : Nat) (o : Ow)
inductive RV where
  | val (d : D) | own (o : Ow)
def RV.d : RV → D
  | .val d => d
  | .own o => o.d
abbrev Env := List (Option SV)
def get : Env → Nat → Option SV
  | [], _ => none
  | s :: _, 0 => s
  | _ :: r, i + 1 => get r i
def put : Env → Nat → Option SV → Env
  | [], _, _ => []
  | _ :: r, 0, v => v :: r
  | s :: r, i + 1, v => s :: put r i v
def SV.d : SV → D
  | .val d => d
  | .own o => o.d
  | .par _ o => o.d
/-- what is owned in a slot -/
def ow? : Option SV → Option Ow
  | some (.own o) => some o
  | some (.par _ o) => some o
  | _ => none
def setOw : Option SV → Ow → Option SV
  | some (.par k _), o => some (.par k o)
  | _, o => some (.own o)
def wipes (ρ : Env) : List Nat → Env
  | [] => ρ
  | v :: vs => put (wipes ρ vs) v none

abbrev RP := RV → Env → Prop
abbrev XP := Nat → List D → Env → Prop
def XF : XP := fun _ _ _ => False
/-- an operand: a slot that is read when the operation is done, or a value -/
inductive PV where
  | at (i : Nat) (d : D) | rv (r : RV)
def PV.d : PV → D
  | .at _ d => d
  | .rv r => r.d
def PV.still : PV → Env → Prop
  | .at i d, ρ => ∃ s, get ρ i = some s ∧ s.d = d
  | .rv _, _ => True
structure WE where
  v : Env → RP → XP → Prop
  t : Env → (Bool → Env → Prop) → XP → Prop
  vi : Option Nat := none
def ofV (v : Env → RP → XP → Prop) : WE := ⟨v, fun ρ P X => v ρ (fun r ρ' => ∃ c, r = .val (.bl c) ∧ P c ρ') X, none⟩
def peekV (i : Nat) (ρ : Env) (P : PV → Env → Prop) : Prop :=
  match get ρ i with
  | some (.val d) => P (.rv (.val d)) ρ
  | some (.own o) => P (.at i o.d) ρ
  | some (.par _ o) => P (.at i o.d) ρ
  | none => False
def peek (w : WE) (ρ : Env) (P : PV → Env → Prop) (X : XP) : Prop :=
  match w.vi with
  | some i => peekV i ρ P
  | none => w.v ρ (fun r ρ' => P (.rv r) ρ') X
def peeks : List WE → Env → (List PV → Env → Prop) → XP → Prop
  | [], ρ, P, _ => P [] ρ
  | w :: ws, ρ, P, X => peek w ρ (fun p ρ1 => peeks ws ρ1 (fun ps ρ2 => p.still ρ2 ∧ P (p :: ps) ρ2) X) X
/-- plain values, from the left (own things are frozen) -/
def vals : List WE → Env → (List D → Env → Prop) → XP → Prop
  | [], ρ, P, _ => P [] ρ
  | w :: ws, ρ, P, X => w.v ρ (fun r ρ1 => vals ws ρ1 (fun ds ρ2 => P (r.d :: ds) ρ2) X) X
/-- values, fresh ones kept as own -/
def rvals : List WE → Env → (List RV → Env → Prop) → XP → Prop
  | [], ρ, P, _ => P [] ρ
  | w :: ws, ρ, P, X => w.v ρ (fun r ρ1 => rvals ws ρ1 (fun rs ρ2 => P (r :: rs) ρ2) X) X

/-! ### operators -/
inductive BOp where | add | sub | mul | mod | fdiv | pow
inductive COp where | eq | ne | lt | le | gt | ge | isN | notN | in_ | notin
def lim : Nat := 16777216
def MulOk (i j : Int) : Prop := (i.natAbs < 2 ^ 64 ∨ j.natAbs < 2 ^ 64) ∨ i.natAbs.log2 + j.natAbs.log2 < 1000000
def catD (a b : D) (xs ys : List D) : D := if xs.isEmpty then b else if ys.isEmpty then a else .tup (xs ++ ys)
def binW (op : BOp) (a b : D) (P : RV → Prop) : Prop :=
  match op, a.n, b.n with
  | .add, .int i, .int j => P (.val (.int (i + j)))
  | .add, .str x, .str y => x.length + y.length ≤ lim ∧ P (.val (.str (x ++ y)))
  | .add, .tup xs, .tup ys => xs.length + ys.length ≤ lim ∧ P (.val (catD a b xs ys))
  | .add, .lst xs, .lst ys => xs.length + ys.length ≤ lim ∧ P (.own (.lst (xs ++ ys)))
  | .sub, .int i, .int j => P (.val (.int (i - j)))
  | .mul, .int i, .int j => MulOk i j ∧ P (.val (.int (i * j)))
  | .mul, .tup xs, .int j => (xs ≠ [] ∧ 2 ≤ j ∧ j ≤ 1000 ∧ xs.length ≤ 1000) ∧ P (.val (.tup (List.replicate j.toNat xs).flatten))
  | .mod, .int i, .int j => 0 < j ∧ P (.val (.int (i % j)))
  | .fdiv, .int i, .int j => (0 < j ∧ j.natAbs.log2 < 9000) ∧ P (.val (.int (i / j)))
  | .pow, .int i, .int j => (0 ≤ j ∧ j ≤ 1000000 ∧ i.natAbs < 2 ^ 64) ∧ P (.val (.int (i ^ j.toNat)))
  | _, _, _ => False
def eqW (d e : D) (P : Bool → Prop) : Prop :=
  match d, e with
  | .str x, .str y => P (decide (x = y))
  | .int i, .int j => P (decide (i = j))
  | .bl a, .bl b => P (decide (a = b))
  | d, e => d.okEq ∧ e.okEq ∧ P (D.eqv d e)
/-- keys -/
def D.key : D → Option Key
  | .int i => some (.inl i)
  | .str x => some (.inr x)
  | _ => none
def D.keys : List D → Option (List Key)
  | [] => some []
  | d :: ds => do let k ← d.key; let r ← D.keys ds; some (k :: r)
def D.tkey : D → Option (List Key)
  | .tup ds => D.keys ds
  | _ => none
/-- .. of a tuple of either make -/
def tkn (d : D) : Option (List Key) := d.n.tkey
def lookA {α : Type} [DecidableEq α] (k : α) : List α → List D → Option D
  | a :: ks, v :: vs => if a = k then some v else lookA k ks vs
  | _, _ => none
def flat1 : D → Bool
  | .non => true | .bl _ => true | .int _ => true | .str _ => true | _ => false
/-- == of flat things -/
def eqF : D → D → Bool
  | .non, .non => true
  | .bl a, .bl b => a == b
  | .bl a, .int b => (if a then 1 else 0) == b
  | .int a, .bl b => a == (if b then 1 else 0)
  | .int a, .int b => a == b
  | .str a, .str b => a == b
  | _, _ => false
/-- x in y -/
def inW (x y : D) (P : Bool → Prop) : Prop :=
  match y.n with
  | .str z => ∃ c : Nat, x = .str ⟨#[c]⟩ ∧ P (decide (c ∈ z.cps.toList))
  | .tup ds => flat1 x = true ∧ ds.all flat1 = true ∧ P (ds.any fun d => eqF d x)
  | .lst ds => flat1 x = true ∧ ds.all flat1 = true ∧ P (ds.any fun d => eqF d x)
  | .dK ks vs => ∃ k, x.key = some k ∧ P (lookA k ks vs).isSome
  | .dT ks vs => ∃ k, x.n.tkey = some k ∧ P (lookA k ks vs).isSome
  | _ => False
def isNonD : D → Bool
  | .non => true
  | _ => false
def cmpW (op : COp) (a b : D) (P : Bool → Prop) : Prop :=
  match op with
  | .eq => eqW a b P
  | .ne => eqW a b fun c => P (!c)
  | .lt => match a, b with | .int i, .int j => P (decide (i < j)) | _, _ => False
  | .le => match a, b with | .int i, .int j => P (decide (i ≤ j)) | _, _ => False
  | .gt => match a, b with | .int i, .int j => P (decide (j < i)) | _, _ => False
  | .ge => match a, b with | .int i, .int j => P (decide (j ≤ i)) | _, _ => False
  | .isN => isNonD b = true ∧ P (isNonD a)
  | .notN => isNonD b = true ∧ P (!isNonD a)
  | .in_ => inW a b P
  | .notin => inW a b fun c => P (!c)
/-- an index of any sign -/
def atD (xs : List D) (i : Int) : Option D := atI xs i
def idxW (a i : D) (P : RV → Prop) : Prop :=
  match a.n, i with
  | .tup xs, .int j => ∃ d, atD xs j = some d ∧ P (.val d)
  | .lst xs, .int j => ∃ d, atD xs j = some d ∧ P (.val d)
  | .dK ks vs, k => ∃ k' d, k.key = some k' ∧ lookA k' ks vs = some d ∧ P (.val d)
  | .dC ks vs, k => ∃ k' d, k.key = some k' ∧ lookA k' ks vs = some d ∧ P (.val d)
  | .dT ks vs, k => ∃ k' d, k.n.tkey = some k' ∧ lookA k' ks vs = some d ∧ P (.val d)
  | _, _ => False
/-- a slice -/
def cutD (xs : List D) (lo hi : Option Int) : List D := (xs.drop (HT.sIx xs.length 0 lo)).take (HT.sIx xs.length xs.length hi - HT.sIx xs.length 0 lo)
def cutR (a : D) (xs : List D) (lo hi : Option Int) : D := if HT.sIx xs.length 0 lo = 0 ∧ HT.sIx xs.length xs.length hi = xs.length then a else .tup (cutD xs lo hi)
def slcW (a : D) (lo hi : Option Int) (P : RV → Prop) : Prop :=
  match a.n with
  | .tup xs => P (.val (cutR a xs lo hi))
  | .lst xs => P (.own (.lst (cutD xs lo hi)))
  | _ => False
def optW : List WE → Env → (Option Int → Env → Prop) → XP → Prop
  | [], ρ, P, _ => P none ρ
  | [w], ρ, P, X => peek w ρ (fun p ρ' => ∃ i, p.d = .int i ∧ P (some i) ρ') X
  | _, _, _, _ => False

/-! ### built-ins, methods, what is walked -/
inductive Ty where | int | bool | str | tup | lst
inductive Blt where
  | len | isi (t : Ty) | toInt | toTup | toList | toDictK | toDictT | sortSet | sortKeys
  | sum | max1 | min2 | abs | all | any | repr | items | words | lrng1 | lrng2
inductive Mth where | items | split | get2
inductive IK where | seq | rng1 | rng2 | enm | zip
inductive Tg where | nm (i : Nat) | tu (is : List Nat)
def isTy : Ty → D → Bool
  | .int, .int _ => true | .int, .bl _ => true | .bool, .bl _ => true | .str, .str _ => true | .tup, .tup _ => true | .tup, .tC _ => true | .lst, .lst _ => true
  | _, _ => false
def intsD : List D → Option (List Int)
  | [] => some []
  | .int i :: ds => do let r ← intsD ds; some (i :: r)
  | _ => none
def boolsD : List D → Option (List Bool)
  | [] => some []
  | .bl i :: ds => do let r ← boolsD ds; some (i :: r)
  | _ => none
def pairsK : List D → Option (List (Key × D))
  | [] => some []
  | d :: ds => match d.n with
    | .tup [k, v] => match k.key, pairsK ds with
      | some k, some r => some ((k, v) :: r)
      | _, _ => none
    | _ => none
def pairsT : List D → Option (List (List Key × D))
  | [] => some []
  | d :: ds => match d.n with
    | .tup [k, v] => match k.tkey, pairsT ds with
      | some k, some r => some ((k, v) :: r)
      | _, _ => none
    | _ => none
def putA {κ α : Type} [DecidableEq κ] (kvs : List (κ × α)) (k : κ) (v : α) : List (κ × α) :=
  if kvs.any (fun p => decide (p.1 = k)) then kvs.map (fun p => if p.1 = k then (p.1, v) else p) else kvs ++ [(k, v)]
def mergeA {κ α : Type} [DecidableEq κ] (kvs more : List (κ × α)) : List (κ × α) := more.foldl (fun acc p => putA acc p.1 p.2) kvs
/-- the hash of a tuple of ints -/
def hashI (is : List Int) : Int := reduceHash (Builtin.Tuple.tupleHashOf (is.map hashInt))
def kD : Key → D
  | .inl i => .int i
  | .inr x => .str x
def tkD (k : List Key) : D := .tup (k.map kD)
/-- the order of names: texts ahead of intsD does not come up; texts by signs, intsD by value, then the rest -/
def kLt : Key → Key → Bool
  | .inl i, .inl j => decide (i < j)
  | .inr x, .inr y => decide (x.cps.toList < y.cps.toList)
  | .inl _, .inr _ => true
  | .inr _, .inl _ => false
def tkLt : List Key → List Key → Bool
  | [], _ :: _ => true
  | a :: r, b :: q => if a = b then tkLt r q else kLt a b
  | _, _ => false
/-- two keys that can be compared: at the first place where they part both are of one kind -/
def tkCan : List Key → List Key → Bool
  | a :: r, b :: q => if a = b then tkCan r q else (match a, b with | .inl _, .inl _ => true | .inr _, .inr _ => true | _, _ => false)
  | _, _ => true
def tkeys : List D → Option (List (List Key))
  | [] => some []
  | d :: ds => do let k ← d.tkey; let r ← tkeys ds; some (k :: r)
/-- ns is the ascending list of the unlike members of ks -/
def Asc (ks ns : List (List Key)) : Prop := ns.Pairwise (fun a b => tkLt a b = true) ∧ ∀ k, k ∈ ns ↔ k ∈ ks
def enumD (ds : List D) (i : Nat) : List D := match ds with
  | [] => []
  | d :: r => .tup [.int (i : Nat), d] :: enumD r (i + 1)
def zipD : List D → List D → List D
  | a :: x, b :: y => .tup [a, b] :: zipD x y
  | _, _ => []
def rngD (lo : Int) : Nat → List D
  | 0 => []
  | n + 1 => .int lo :: rngD (lo + 1) n
def big : Int := 2 ^ 62
def letters (x : Str) : List D := x.cps.toList.map fun c => .str ⟨#[c]⟩
def seqD : D → Option (List D)
  | .tup xs => some xs
  | .tC xs => some xs
  | .lst xs => some xs
  | .str x => some (letters x)
  | _ => none
def bltW (b : Blt) (as : List D) (P : RV → Prop) : Prop :=
  match b, as with
  | .len, [.tup xs] => P (.val (.int xs.length))
  | .len, [.tC xs] => P (.val (.int xs.length))
  | .len, [.lst xs] => P (.val (.int xs.length))
  | .len, [.str x] => x.length ≤ lim ∧ P (.val (.int x.length))
  | .isi t, [d] => (match d with | .dC _ _ => False | .ins _ _ => False | _ => True) ∧ P (.val (.bl (isTy t d)))
  | .toInt, [.int i] => P (.val (.int i))
  | .toInt, [.bl c] => P (.val (.int (if c then 1 else 0)))
  | .toTup, [.lst xs] => P (.val (.tup xs))
  | .toTup, [.tup xs] => P (.val (.tup xs))
  | .toTup, [.tC xs] => P (.val (.tC xs))
  | .toList, [.lst xs] => P (.own (.lst xs))
  | .toList, [.tup xs] => P (.own (.lst xs))
  | .toList, [.tC xs] => P (.own (.lst xs))
  | .sum, [.lst xs] => ∃ is, intsD xs = some is ∧ P (.val (.int is.sum))
  | .max1, [.lst xs] => ∃ is, intsD xs = some is ∧ is ≠ [] ∧ ∀ m, m ∈ is → (∀ k, k ∈ is → k ≤ m) → P (.val (.int m))
  | .min2, [.int i, .int j] => P (.val (.int (if j < i then j else i)))
  | .abs, [.int i] => P (.val (.int (if i < 0 then -i else i)))
  | .all, [.lst xs] => ∃ bs, boolsD xs = some bs ∧ P (.val (.bl (bs.all id)))
  | .any, [.lst xs] => ∃ bs, boolsD xs = some bs ∧ P (.val (.bl (bs.any id)))
  | .repr, [d] => (d.plain = true ∧ d.py.showable = true ∧ d.py.depth ≤ 60 ∧ d.py.shown.length ≤ lim) ∧ P (.val (.str d.py.shown))
  | .toDictK, [.lst xs] => ∃ kvs, pairsK xs = some kvs ∧ P (.own (.dK (mergeA [] kvs)))
  | .toDictT, [.lst xs] => ∃ kvs, pairsT xs = some kvs ∧ P (.own (.dT (mergeA [] kvs)))
  | .items, [.dK ks vs] => P (.own (.lst ((ks.zip vs).map fun p => .tup [kD p.1, p.2])))
  | .words, [.str x] => x.length + 2 ≤ lim ∧ P (.own (.lst ((Txt.words x).map .str)))
  | .sortKeys, [.dT ks vs] => ((∀ k, k ∈ ks → ∃ x r, k = Sum.inr x :: r) ∧ ∀ a, a ∈ ks → ∀ b, b ∈ ks → tkCan a b = true) ∧ ∀ ns : List (List Key), ns.Perm ks → ns.Pairwise (fun a b => tkLt b a = false) → P (.own (.lst (ns.map tkD)))
  | .sortSet, [.lst xs] => ∃ ks : List (List Key), xs.map tkn = ks.map some ∧ (∃ L : List (List Key), L.length ≤ 76 ∧ ∀ k, k ∈ ks → k ∈ L) ∧ ((∀ k, k ∈ ks → ∃ x r, k = Sum.inr x :: r) ∧ ∀ a, a ∈ ks → ∀ b, b ∈ ks → tkCan a b = true) ∧
      ∀ (ds : List D) (ns : List (List Key)), ds.map tkn = ns.map some → (∀ d, d ∈ ds → d ∈ xs) → ns.Nodup → (∀ k, k ∈ ns ↔ k ∈ ks) → ns.Pairwise (fun a b => tkLt b a = false) → P (.own (.lst ds))
  | .lrng1, [.int n] => (0 ≤ n ∧ n ≤ 16777216) ∧ P (.own (.lst (rngD 0 n.toNat)))
  | .lrng2, [.int m, .int n] => (0 ≤ m ∧ m ≤ 16777216 ∧ 0 ≤ n ∧ n ≤ 16777216) ∧ P (.own (.lst (rngD m (n - m).toNat)))
  | _, _ => False

/-! ### expressions -/
mutual
inductive E where
  | var (i : Nat)
  | fvar (i : Nat)
  | cst (d : D)
  | glb (g : Str)
  | tup (es : Es) | lst (es : Es)
  | dspK (ks : List Key) (vs : Es) | dspT (ks : List (List Key)) (vs : Es)
  | bin (op : BOp) (a b : E) | neg (a : E) | repL (a b : E)
  | cmp (op : COp) (a b : E)
  | chn (a : E) (op : COp) (b : E) (op' : COp) (c : E)
  | chn3 (a : E) (op : COp) (b : E) (op' : COp) (c : E) (op'' : COp) (d : E)
  | and_ (a b : E) | or_ (a b : E) | not_ (a : E)
  | ife (t a b : E)
  | idx (a i : E)
  | slc (a : E) (lo hi : Es)
  | cm1 (vs : List Nat) (tg : Tg) (ik : IK) (ia : Es) (cond : Es) (elt : E)
  | cm2 (vs vs1 : List Nat) (tg : Tg) (ik : IK) (ia : Es) (tg1 : Tg) (ik1 : IK) (ia1 : Es) (elt : E)
  | call (f : Nat) (as : Es) (io : List Bool)
  | blt (b : Blt) (as : Es)
  | mth (m : Mth) (a : E) (as : Es)
inductive Es where
  | nil | cons (e : E) (r : Es)
end

/-- what the defs promise: the def, its arguments, the wish for what comes back (the value, what the in-out arguments hold), for what is raised -/
abbrev SPX := Nat → List RV → (RV → List Ow → Prop) → (Nat → List D → Prop) → Prop

/-- arguments: values, or slots that are handed over -/
inductive AV where | v (d : D) | io (i : Nat)
def argsW : List WE → List Bool → Env → (List AV → Env → Prop) → XP → Prop
  | [], _, ρ, P, _ => P [] ρ
  | w :: ws, true :: io, ρ, P, X => match w.vi with
    | some i => ow? (get ρ i) ≠ none ∧ argsW ws io ρ (fun as ρ2 => P (.io i :: as) ρ2) X
    | none => False
  | w :: ws, io, ρ, P, X => w.v ρ (fun r ρ1 => argsW ws (io.drop 1) ρ1 (fun as ρ2 => P (.v r.d :: as) ρ2) X) X
def ios : List AV → List Nat
  | [] => []
  | .v _ :: r => ios r
  | .io i :: r => i :: ios r
def resolve (ρ : Env) : List AV → Option (List RV)
  | [] => some []
  | .v d :: r => do let x ← resolve ρ r; some (.val d :: x)
  | .io i :: r => do let o ← ow? (get ρ i); let x ← resolve ρ r; some (.own o :: x)
def setOuts (ρ : Env) : List Nat → List Ow → Env
  | i :: is, o :: os => setOuts (put ρ i (setOw (get ρ i) o)) is os
  | _, _ => ρ
/-- a source of items: they, that they still stand, that no slot is looked at -/
structure Src where
  items : List D
  still : Env → Prop
  fix : Bool
def PV.fx : PV → Bool
  | .at _ _ => false
  | .rv _ => true
def iterW (ik : IK) (ws : List WE) (ρ : Env) (P : Src → Env → Prop) (X : XP) : Prop :=
  peeks ws ρ (fun ps ρ' => match ik, ps with
    | .seq, [p] => ∃ ds, seqD p.d = some ds ∧ P ⟨ds, p.still, p.fx⟩ ρ'
    | .rng1, [p] => ∃ n, p.d = .int n ∧ -big ≤ n ∧ n < big ∧ P ⟨rngD 0 n.toNat, fun _ => True, true⟩ ρ'
    | .rng2, [p, q] => ∃ m n, p.d = .int m ∧ q.d = .int n ∧ -big ≤ m ∧ m < big ∧ -big ≤ n ∧ n < big ∧ P ⟨rngD m (n - m).toNat, fun _ => True, true⟩ ρ'
    | .enm, [p] => ∃ ds, (p.d = .lst ds ∨ p.d.n = .tup ds) ∧ P ⟨enumD ds 0, p.still, p.fx⟩ ρ'
    | .zip, [p, q] => ∃ ds es, ((p.d = .lst ds ∧ q.d = .lst es) ∨ (p.d.n = .tup ds ∧ q.d.n = .tup es)) ∧ P ⟨zipD ds es, fun ρ => p.still ρ ∧ q.still ρ, p.fx && q.fx⟩ ρ'
    | _, _ => False) X
def bindT : Tg → D → Env → Option Env
  | .nm i, d, ρ => some (put ρ i (some (.val d)))
  | .tu is, d, ρ => match d.n with
    | .tup ds => if is.length = ds.length then some ((is.zip ds).foldl (fun ρ p => put ρ p.1 (some (.val p.2))) ρ) else none
    | _ => none
def condW : List WE → Env → (Bool → Env → Prop) → Prop
  | [], ρ, P => P true ρ
  | [w], ρ, P => w.t ρ P XF
  | _, _, _ => False
def cm1W (vs : List Nat) (tg : Tg) (ik : IK) (ia cond : List WE) (elt : WE) (ρ : Env) (P : RP) (X : XP) : Prop :=
  iterW ik ia ρ (fun src ρ1 => ∃ I : Nat → List D → Env → Prop, I 0 [] (wipes ρ1 vs) ∧
    (∀ j acc ρ2, I j acc ρ2 → src.still ρ2) ∧
    (∀ j acc ρ2 d, I j acc ρ2 → src.items[j]? = some d → ∃ ρ3, bindT tg d ρ2 = some ρ3 ∧
      condW cond ρ3 fun b ρ4 => if b = true then elt.v ρ4 (fun r ρ5 => acc.length < lim ∧ I (j + 1) (acc ++ [r.d]) (wipes ρ5 vs)) XF else I (j + 1) acc (wipes ρ4 vs)) ∧
    (∀ acc ρ2, I src.items.length acc ρ2 → P (.own (.lst acc)) ρ2)) X
def cm2W (vs vs1 : List Nat) (tg : Tg) (ik : IK) (ia : List WE) (tg1 : Tg) (ik1 : IK) (ia1 : List WE) (elt : WE) (ρ : Env) (P : RP) (X : XP) : Prop :=
  iterW ik ia ρ (fun src ρ1 => ∃ I : Nat → List D → Env → Prop, I 0 [] (wipes ρ1 vs) ∧
    (∀ j acc ρ2, I j acc ρ2 → src.still ρ2) ∧
    (∀ j acc ρ2 d, I j acc ρ2 → src.items[j]? = some d → ∃ ρ3, bindT tg d ρ2 = some ρ3 ∧
      iterW ik1 ia1 ρ3 (fun src1 ρ4 => ∃ I1 : Nat → List D → Env → Prop, I1 0 acc (wipes ρ4 vs1) ∧
        (∀ k acc ρ5, I1 k acc ρ5 → src1.still ρ5) ∧
        (∀ k acc ρ5 d, I1 k acc ρ5 → src1.items[k]? = some d → ∃ ρ6, bindT tg1 d ρ5 = some ρ6 ∧
          elt.v ρ6 (fun r ρ7 => acc.length < lim ∧ I1 (k + 1) (acc ++ [r.d]) (wipes ρ7 vs1)) XF) ∧
        (∀ acc ρ5, I1 src1.items.length acc ρ5 → I (j + 1) acc (wipes ρ5 vs))) XF) ∧
    (∀ acc ρ2, I src.items.length acc ρ2 → P (.own (.lst acc)) ρ2)) X
def mthW (m : Mth) (a : D) (as : List D) (P : RV → Prop) : Prop := False
/-- a value that is taken out of a slot: what is owned is frozen -/
def varV (i : Nat) (ρ : Env) (P : RP) : Prop :=
  match get ρ i with
  | some (.val d) => P (.val d) ρ
  | some (.own o) => P (.val o.d) (put ρ i (some (.val o.d)))
  | _ => False
def pvD (ps : List PV) : List D := ps.map PV.d
section
variable (S : SPX) (G : Str → Option D)
mutual
def W : E → WE
  | .var i => { v := fun ρ P _ => varV i ρ P, t := fun ρ P _ => varV i ρ fun r ρ' => ∃ c, r = .val (.bl c) ∧ P c ρ', vi := some i }
  | .fvar i => ofV fun ρ P _ => varV i ρ P
  | .cst d => ofV fun ρ P _ => P (.val d) ρ
  | .glb g => ofV fun ρ P _ => ∃ d, G g = some d ∧ P (.val d) ρ
  | .tup es => ofV fun ρ P X => vals (Ws es) ρ (fun ds ρ' => ds.length ≤ lim ∧ P (.val (.tup ds)) ρ') X
  | .lst es => ofV fun ρ P X => vals (Ws es) ρ (fun ds ρ' => ds.length ≤ lim ∧ P (.own (.lst ds)) ρ') X
  | .dspK ks vs => ofV fun ρ P X => vals (Ws vs) ρ (fun ds ρ' => ds.length = ks.length ∧ ks.length ≤ 15 ∧ ks.Nodup ∧ P (.own (.dK (ks.zip ds))) ρ') X
  | .dspT ks vs => ofV fun ρ P X => vals (Ws vs) ρ (fun ds ρ' => ds.length = ks.length ∧ ks.length ≤ 15 ∧ ks.Nodup ∧ P (.own (.dT (ks.zip ds))) ρ') X
  | .bin op a b => let wa := W a; let wb := W b
    ofV fun ρ P X => peek wa ρ (fun p ρ1 => peek wb ρ1 (fun q ρ2 => p.still ρ2 ∧ binW op p.d q.d fun r => P r ρ2) X) X
  | .neg a => let wa := W a; ofV fun ρ P X => peek wa ρ (fun p ρ1 => ∃ i, p.d = .int i ∧ P (.val (.int (-i))) ρ1) X
  | .repL a b => let wa := W a; let wb := W b
    ofV fun ρ P X => wa.v ρ (fun r ρ1 => wb.v ρ1 (fun q ρ2 => ∃ xs j, r = .own (.lst xs) ∧ q = .val (.int j) ∧ 0 ≤ j ∧ j ≤ 1000 ∧ xs.length * j.toNat ≤ lim ∧
      P (.own (.lst (List.replicate j.toNat xs).flatten)) ρ2) X) X
  | .cmp op a b => let wa := W a; let wb := W b
    let c : Env → (Bool → Env → Prop) → XP → Prop := fun ρ P X => peek wa ρ (fun p ρ1 => peek wb ρ1 (fun q ρ2 => p.still ρ2 ∧ cmpW op p.d q.d fun c => P c ρ2) X) X
    { v := fun ρ P X => c ρ (fun b ρ' => P (.val (.bl b)) ρ') X, t := c }
  | .chn a op b op' c => let wa := W a; let wb := W b; let wc := W c
    let k : Env → (Bool → Env → Prop) → XP → Prop := fun ρ P X => wa.v ρ (fun p ρ1 => wb.v ρ1 (fun q ρ2 => cmpW op p.d q.d fun c =>
      if c = true then wc.v ρ2 (fun r ρ3 => cmpW op' q.d r.d fun c' => P c' ρ3) X else P false ρ2) X) X
    { v := fun ρ P X => k ρ (fun b ρ' => P (.val (.bl b)) ρ') X, t := k }
  | .chn3 a op b op' c op'' d => let wa := W a; let wb := W b; let wc := W c; let wd := W d
    let k : Env → (Bool → Env → Prop) → XP → Prop := fun ρ P X => wa.v ρ (fun p ρ1 => wb.v ρ1 (fun q ρ2 => cmpW op p.d q.d fun c =>
      if c = true then wc.v ρ2 (fun r ρ3 => cmpW op' q.d r.d fun c' =>
        if c' = true then wd.v ρ3 (fun u ρ4 => cmpW op'' r.d u.d fun c'' => P c'' ρ4) X else P false ρ3) X else P false ρ2) X) X
    { v := fun ρ P X => k ρ (fun b ρ' => P (.val (.bl b)) ρ') X, t := k }
  | .and_ a b => let wa := W a; let wb := W b
    { v := fun ρ P X => wa.v ρ (fun r ρ1 => ∃ c, r = .val (.bl c) ∧ if c = true then wb.v ρ1 P X else P (.val (.bl false)) ρ1) X
      t := fun ρ P X => wa.t ρ (fun c ρ1 => if c = true then wb.t ρ1 P X else P false ρ1) X }
  | .or_ a b => let wa := W a; let wb := W b
    { v := fun ρ P X => wa.v ρ (fun r ρ1 => ∃ c, r = .val (.bl c) ∧ if c = true then P (.val (.bl true)) ρ1 else wb.v ρ1 P X) X
      t := fun ρ P X => wa.t ρ (fun c ρ1 => if c = true then P true ρ1 else wb.t ρ1 P X) X }
  | .not_ a => let wa := W a
    { v := fun ρ P X => wa.v ρ (fun r ρ1 => ∃ c, r = .val (.bl c) ∧ P (.val (.bl (!c))) ρ1) X
      t := fun ρ P X => wa.t ρ (fun c ρ1 => P (!c) ρ1) X }
  | .ife t a b => let wt := W t; let wa := W a; let wb := W b
    { v := fun ρ P X => wt.t ρ (fun c ρ1 => if c = true then wa.v ρ1 P X else wb.v ρ1 P X) X
      t := fun ρ P X => wt.t ρ (fun c ρ1 => if c = true then wa.t ρ1 P X else wb.t ρ1 P X) X }
  | .idx a i => let wa := W a; let wi := W i
    ofV fun ρ P X => peek wa ρ (fun p ρ1 => peek wi ρ1 (fun q ρ2 => p.still ρ2 ∧ idxW p.d q.d fun r => P r ρ2) X) X
  | .slc a lo hi => let wa := W a; let wl := Ws lo; let wh := Ws hi
    ofV fun ρ P X => peek wa ρ (fun p ρ1 => optW wl ρ1 (fun l ρ2 => optW wh ρ2 (fun h ρ3 => p.still ρ3 ∧ slcW p.d l h fun r => P r ρ3) X) X) X
  | .cm1 vs tg ik ia cond elt => let w1 := Ws ia; let w2 := Ws cond; let w3 := W elt
    ofV (cm1W vs tg ik w1 w2 w3)
  | .cm2 vs vs1 tg ik ia tg1 ik1 ia1 elt => let w1 := Ws ia; let w2 := Ws ia1; let w3 := W elt
    ofV (cm2W vs vs1 tg ik w1 tg1 ik1 w2 w3)
  | .call f as io => let ws := Ws as
    ofV fun ρ P X => argsW ws io ρ (fun as ρ' => (ios as).Nodup ∧ ∃ rs, resolve ρ' as = some rs ∧
      S f rs (fun r outs => outs.length = (ios as).length → P r (setOuts ρ' (ios as) outs)) (fun c p => X c p (wipes ρ' (ios as)))) X
  | .blt b as => let ws := Ws as
    ofV fun ρ P X => peeks ws ρ (fun ps ρ' => bltW b (pvD ps) fun r => P r ρ') X
  | .mth m a as => let wa := W a; let ws := Ws as
    ofV fun ρ P X => peek wa ρ (fun p ρ1 => peeks ws ρ1 (fun ps ρ' => p.still ρ' ∧ mthW m p.d (pvD ps) fun r => P r ρ') X) X
def Ws : Es → List WE
  | .nil => []
  | .cons e r => W e :: Ws r
end
end
end EV
set_option linter.all false
set_option maxRecDepth 20000
/-! How plain data stand in the heap of the hand layer, and what stays. -/
set_option autoImplicit false
namespace EV
open PySem PySem.Spec L2

/-- the written part, the world -/
structure Fk where
  K : PySem.W.Frag
  w : World
/-- .. and a frame's own: where its in-out parameters stand, the heap at its entry -/
structure Fm extends Fk where
  PA : Nat → Addr
  H0 : Hp

abbrev AP1 := Addr → Prop
/-- a list that will not change any more -/
def LstAt (H : Hp) (O : AP1) (a : Addr) (vs : List V) : Prop := Rd H a (.lst vs) ∧ ¬ O a
def CTup (K : PySem.W.Frag) (a : Addr) (vs : List V) : Prop := ∃ (o : Obj) (its : Array Value) (n : Nat), K.lookup a = some o ∧ o.cls = .type "tuple" ∧ o.data = .seq its n ∧ its.size ≤ sizeLine ∧ Vals vs its.toList
def TupAt (K : PySem.W.Frag) (H : Hp) (O : AP1) (a : Addr) (vs : List V) : Prop :=
  (Rd H a (.tup vs) ∧ ¬ O a) ∨ ∃ (o : Obj) (its : Array Value) (n : Nat), K.lookup a = some o ∧ o.cls = .type "tuple" ∧ o.data = .seq its n ∧ its.size ≤ sizeLine ∧ Vals vs its.toList
def DKAt (F : Fk) (H : Hp) (O : AP1) (a : Addr) (kvs : List (Key × V)) : Prop :=
  H a = some (.dK kvs) ∧ ¬ O a
def DCAt (F : Fk) (a : Addr) (kvs : List (Key × V)) : Prop := ∀ k v, (k, v) ∈ kvs → ∃ x, k = .inr x ∧ KDct F.K F.w a x v
def DTAt (H : Hp) (O : AP1) (a : Addr) (kvs : List (List Key × V)) : Prop := H a = some (.dT kvs) ∧ ¬ O a

mutual
def Rep (F : Fk) (H : Hp) (O : AP1) : D → V → Prop
  | .non, v => v = .non
  | .bl b, v => v = .bl b
  | .int i, v => v = .int i
  | .str x, v => v = .str x
  | .tup ds, v => ∃ a vs, v = .ref a ∧ (H a = some (.tup vs) ∧ ¬ O a) ∧ RepL F H O ds vs
  | .tC ds, v => ∃ a vs, v = .ref a ∧ CTup F.K a vs ∧ RepL F H O ds vs
  | .lst ds, v => ∃ a vs, v = .ref a ∧ LstAt H O a vs ∧ RepL F H O ds vs
  | .dK ks ds, v => ∃ a vs, v = .ref a ∧ DKAt F H O a (ks.zip vs) ∧ ks.length = vs.length ∧ RepL F H O ds vs
  | .dT ks ds, v => ∃ a vs, v = .ref a ∧ DTAt H O a (ks.zip vs) ∧ ks.length = vs.length ∧ RepL F H O ds vs
  | .dC ks ds, v => ∃ a vs, v = .ref a ∧ DCAt F a (ks.zip vs) ∧ ks.length = vs.length ∧ RepL F H O ds vs
  | .ins _ _, _ => False
def RepL (F : Fk) (H : Hp) (O : AP1) : List D → List V → Prop
  | [], vs => vs = []
  | d :: ds, vs => ∃ v r, vs = v :: r ∧ Rep F H O d v ∧ RepL F H O ds r
end

/-- from H, O to H', O': what is not owned stands -/
structure Stay (H : Hp) (O : AP1) (H' : Hp) (O' : AP1) : Prop where
  keep : ∀ a u, H a = some u → ¬ O a → H' a = some u
  low : ∀ a, H a ≠ none → ¬ O a → ¬ O' a

theorem Rd.stay {H H' : Hp} {O O' : AP1} {a : Addr} {u : HO} (s : Stay H O H' O') (h : Rd H a u) (n : ¬ O a) : Rd H' a u ∧ ¬ O' a := by
  rcases h with h | ⟨o, h⟩
  · exact ⟨.inl (s.keep _ _ h n), s.low _ (by rw [h]; simp) n⟩
  · exact ⟨.inr ⟨o, s.keep _ _ h n⟩, s.low _ (by rw [h]; simp) n⟩
theorem LstAt.stay {H H' : Hp} {O O' : AP1} {a : Addr} {vs : List V} (s : Stay H O H' O') (h : LstAt H O a vs) : LstAt H' O' a vs := Rd.stay s h.1 h.2
theorem TupAt.stay {K : PySem.W.Frag} {H H' : Hp} {O O' : AP1} {a : Addr} {vs : List V} (s : Stay H O H' O') (h : TupAt K H O a vs) : TupAt K H' O' a vs := by
  rcases h with ⟨h, n⟩ | h
  · exact .inl (Rd.stay s h n)
  · exact .inr h
mutual
theorem Rep.stay {F : Fk} {H H' : Hp} {O O' : AP1} (s : Stay H O H' O') : ∀ (d : D) (v : V), Rep F H O d v → Rep F H' O' d v
  | .non, v, h => by unfold Rep at h ⊢; exact h
  | .bl b, v, h => by unfold Rep at h ⊢; exact h
  | .int i, v, h => by unfold Rep at h ⊢; exact h
  | .str x, v, h => by unfold Rep at h ⊢; exact h
  | .tup ds, v, h => by
    unfold Rep at h ⊢
    obtain ⟨a, vs, e, h1, h2⟩ := h
    exact ⟨a, vs, e, ⟨s.keep _ _ h1.1 h1.2, s.low _ (by rw [h1.1]; simp) h1.2⟩, RepL.stay s ds vs h2⟩
  | .tC ds, v, h => by
    unfold Rep at h ⊢
    obtain ⟨a, vs, e, h1, h2⟩ := h
    exact ⟨a, vs, e, h1, RepL.stay s ds vs h2⟩
  | .lst ds, v, h => by
    unfold Rep at h ⊢
    obtain ⟨a, vs, e, h1, h2⟩ := h
    exact ⟨a, vs, e, h1.stay s, RepL.stay s ds vs h2⟩
  | .dK ks ds, v, h => by
    unfold Rep at h ⊢
    obtain ⟨a, vs, e, ⟨h1, n⟩, h3, h2⟩ := h
    exact ⟨a, vs, e, ⟨s.keep _ _ h1 n, s.low _ (by rw [h1]; simp) n⟩, h3, RepL.stay s ds vs h2⟩
  | .dT ks ds, v, h => by
    unfold Rep at h ⊢
    obtain ⟨a, vs, e, ⟨h1, n⟩, h3, h2⟩ := h
    exact ⟨a, vs, e, ⟨s.keep _ _ h1 n, s.low _ (by rw [h1]; simp) n⟩, h3, RepL.stay s ds vs h2⟩
  | .dC ks ds, v, h => by
    unfold Rep at h ⊢
    obtain ⟨a, vs, e, h1, h3, h2⟩ := h
    exact ⟨a, vs, e, h1, h3, RepL.stay s ds vs h2⟩
  | .ins _ _, v, h => by unfold Rep at h; exact h.elim
theorem RepL.stay {F : Fk} {H H' : Hp} {O O' : AP1} (s : Stay H O H' O') : ∀ (ds : List D) (vs : List V), RepL F H O ds vs → RepL F H' O' ds vs
  | [], vs, h => by unfold RepL at h ⊢; exact h
  | d :: ds, vs, h => by
    unfold RepL at h ⊢
    obtain ⟨v, r, e, h1, h2⟩ := h
    exact ⟨v, r, e, Rep.stay s d v h1, RepL.stay s ds r h2⟩
end

section
variable {F : Fk} {H : Hp} {O : AP1}
theorem RepL.nil : RepL F H O [] [] := by unfold RepL; rfl
theorem RepL.cons {d : D} {v : V} {ds : List D} {vs : List V} (h1 : Rep F H O d v) (h2 : RepL F H O ds vs) : RepL F H O (d :: ds) (v :: vs) := by unfold RepL; exact ⟨v, vs, rfl, h1, h2⟩
theorem RepL.len : ∀ {ds : List D} {vs : List V}, RepL F H O ds vs → ds.length = vs.length
  | [], _, h => by unfold RepL at h; subst h; rfl
  | d :: ds, _, h => by
    unfold RepL at h
    obtain ⟨v, r, rfl, _, h2⟩ := h
    simp [RepL.len h2]
theorem RepL.append : ∀ {ds es : List D} {vs ws : List V}, RepL F H O ds vs → RepL F H O es ws → RepL F H O (ds ++ es) (vs ++ ws)
  | [], _, _, _, h, k => by unfold RepL at h; rw [h]; exact k
  | d :: ds, _, _, _, h, k => by
    unfold RepL at h
    obtain ⟨v, r, rfl, h1, h2⟩ := h
    exact .cons h1 (RepL.append h2 k)
theorem RepL.get : ∀ {ds : List D} {vs : List V} {i : Nat} {d : D}, RepL F H O ds vs → ds[i]? = some d → ∃ v, vs[i]? = some v ∧ Rep F H O d v
  | [], _, _, _, h, e => by simp at e
  | d :: ds, _, 0, _, h, e => by
    unfold RepL at h
    obtain ⟨v, r, rfl, h1, h2⟩ := h
    simp at e; subst e
    exact ⟨v, by simp, h1⟩
  | d :: ds, _, i + 1, _, h, e => by
    unfold RepL at h
    obtain ⟨v, r, rfl, h1, h2⟩ := h
    obtain ⟨v', e', q⟩ := RepL.get (i := i) h2 (by simpa using e)
    exact ⟨v', by simpa using e', q⟩
theorem RepL.drop : ∀ {ds : List D} {vs : List V} (n : Nat), RepL F H O ds vs → RepL F H O (ds.drop n) (vs.drop n)
  | _, _, 0, h => h
  | [], _, n + 1, h => by unfold RepL at h; subst h; simpa using RepL.nil
  | d :: ds, _, n + 1, h => by
    unfold RepL at h
    obtain ⟨v, r, rfl, h1, h2⟩ := h
    simpa using RepL.drop n h2
theorem RepL.take : ∀ {ds : List D} {vs : List V} (n : Nat), RepL F H O ds vs → RepL F H O (ds.take n) (vs.take n)
  | _, _, 0, h => by simpa using RepL.nil
  | [], _, n + 1, h => by unfold RepL at h; subst h; simpa using RepL.nil
  | d :: ds, _, n + 1, h => by
    unfold RepL at h
    obtain ⟨v, r, rfl, h1, h2⟩ := h
    simpa using RepL.cons h1 (RepL.take n h2)
theorem RepL.cut {ds : List D} {vs : List V} (h : RepL F H O ds vs) (lo hi : Option Int) : RepL F H O (cutD ds lo hi) (cutV vs lo hi) := by
  unfold cutD cutV
  rw [h.len]
  exact (h.drop _).take _
theorem RepL.rep {ds : List D} {vs : List V} (h : RepL F H O ds vs) : ∀ n : Nat, RepL F H O (List.replicate n ds).flatten (List.replicate n vs).flatten
  | 0 => by simpa using RepL.nil
  | n + 1 => by
    rw [List.replicate_succ, List.replicate_succ, List.flatten_cons, List.flatten_cons]
    exact h.append (RepL.rep h n)
end

def isTupO : HO → Bool
  | .tup _ => true
  | _ => false
/-- something stands there, no tuple -/
def OAt (H : Hp) (a : Addr) : Prop := ∃ u, H a = some u ∧ isTupO u = false
theorem OAt.ne {H : Hp} {a : Addr} (h : OAt H a) : H a ≠ none := by
  obtain ⟨u, e, _⟩ := h
  rw [e]; simp
/-- an owned object -/
def OwAt (F : Fk) (H : Hp) (O : AP1) (a : Addr) : Ow → Prop
  | .lst ds => ∃ vs, H a = some (.lst vs) ∧ RepL F H O ds vs
  | .dK kvs => ∃ vs, H a = some (.dK ((kvs.map (·.1)).zip vs)) ∧ RepL F H O (kvs.map (·.2)) vs
  | .dT kvs => ∃ vs, H a = some (.dT ((kvs.map (·.1)).zip vs)) ∧ RepL F H O (kvs.map (·.2)) vs
theorem OwAt.oat {F : Fk} {H : Hp} {O : AP1} {a : Addr} {o : Ow} (h : OwAt F H O a o) : OAt H a := by
  cases o with
  | lst ds => obtain ⟨vs, e, _⟩ := h; exact ⟨_, e, rfl⟩
  | dK ds => obtain ⟨vs, e, _⟩ := h; exact ⟨_, e, rfl⟩
  | dT ds => obtain ⟨vs, e, _⟩ := h; exact ⟨_, e, rfl⟩
theorem OwAt.tr {F : Fk} {H : Hp} {O : AP1} {a : Addr} {o : Ow} (h : OwAt F H O a o) : H a ≠ none := h.oat.ne
theorem OwAt.stay {F : Fk} {H H' : Hp} {O O' : AP1} {a : Addr} {o : Ow} (s : Stay H O H' O') (k : ∀ u, H a = some u → H' a = some u) (h : OwAt F H O a o) : OwAt F H' O' a o := by
  cases o with
  | lst ds => obtain ⟨vs, e, r⟩ := h; exact ⟨vs, k _ e, r.stay s⟩
  | dK ds => obtain ⟨vs, e, r⟩ := h; exact ⟨vs, k _ e, r.stay s⟩
  | dT ds => obtain ⟨vs, e, r⟩ := h; exact ⟨vs, k _ e, r.stay s⟩

def isOw : SV → Prop
  | .val _ => False
  | _ => True
def SlotAt (F : Fm) (H : Hp) (O : AP1) : SV → V → Prop
  | .val d, v => Rep F.toFk H O d v
  | .own o, v => ∃ a, v = .ref a ∧ O a ∧ F.H0 a = none ∧ OwAt F.toFk H O a o
  | .par k o, v => v = .ref (F.PA k) ∧ O (F.PA k) ∧ OwAt F.toFk H O (F.PA k) o
/-- the addresses that the slots own -/
def Mo (ρ : Env) (σ : St) : AP1 := fun a => ∃ i s, get ρ i = some s ∧ isOw s ∧ σ[i]? = some (some (.ref a))
structure Rel (F : Fm) (ρ : Env) (σ : St) (H : Hp) (O : AP1) : Prop where
  sl : ∀ i s, get ρ i = some s → ∃ v, σ[i]? = some (some v) ∧ SlotAt F H O s v
  ap : ∀ i j s t a, get ρ i = some s → get ρ j = some t → isOw s → isOw t → σ[i]? = some (some (.ref a)) → σ[j]? = some (some (.ref a)) → i = j
  tr : ∀ a, O a → OAt H a
  ln : ρ.length = σ.length
  h0 : ∀ a, F.H0 a ≠ none → H a ≠ none
/-- what an evaluation leaves: the slots' own things (M) may have changed, no other -/
structure Stp (M : AP1) (H : Hp) (O : AP1) (H' : Hp) (O' : AP1) : Prop where
  keep : ∀ a u, H a = some u → ¬ M a → H' a = some u
  low : ∀ a, H a ≠ none → ¬ O a → ¬ O' a
  up : ∀ a, O a → ¬ M a → O' a
  al : ∀ a, H a ≠ none → H' a ≠ none

theorem Rel.mo {F : Fm} {ρ : Env} {σ : St} {H : Hp} {O : AP1} (R : Rel F ρ σ H O) {a : Addr} (m : Mo ρ σ a) : O a := by
  obtain ⟨i, s, h1, h2, h3⟩ := m
  obtain ⟨v, e, q⟩ := R.sl i s h1
  rw [h3] at e; cases e
  cases s with
  | val d => exact h2.elim
  | own o => obtain ⟨b, eb, ob, _⟩ := q; cases eb; exact ob
  | par k o => obtain ⟨eb, ob, _⟩ := q; cases eb; exact ob
theorem Stp.stay {H H' : Hp} {O O' : AP1} {M : AP1} (R : ∀ a, M a → O a) (s : Stp M H O H' O') : Stay H O H' O' :=
  ⟨fun a u h n => s.keep a u h fun m => n (R a m), s.low⟩
theorem Stp.refl {M : AP1} {H : Hp} {O : AP1} : Stp M H O H O := ⟨fun _ _ h _ => h, fun _ _ n => n, fun _ h _ => h, fun _ h => h⟩
theorem Stp.trans {M M' : AP1} {H H1 H2 : Hp} {O O1 O2 : AP1} (a : Stp M H O H1 O1) (b : Stp M' H1 O1 H2 O2) (hs : ∀ x, M' x → H x ≠ none → M x) (hO : ∀ x, O x → OAt H x) : Stp M H O H2 O2 where
  keep := fun x u h n => b.keep x u (a.keep x u h n) fun m => n (hs x m (by rw [h]; simp))
  low := fun x h n => b.low x (a.al x h) (a.low x h n)
  up := fun x h n => b.up x (a.up x h n) fun m => n (hs x m (hO x h).ne)
  al := fun x h => b.al x (a.al x h)
/-- only new objects -/
structure Grow (H : Hp) (O : AP1) (H' : Hp) (O' : AP1) : Prop where
  keep : ∀ a u, H a = some u → H' a = some u
  low : ∀ a, H a ≠ none → ¬ O a → ¬ O' a
  up : ∀ a, O a → O' a
  tr : ∀ a, O' a → OAt H' a
theorem Grow.al {H H' : Hp} {O O' : AP1} (g : Grow H O H' O') : ∀ a, H a ≠ none → H' a ≠ none := fun a h => by
  cases e : H a with
  | none => exact absurd e h
  | some u => rw [g.keep a u e]; simp
theorem Grow.stp {H H' : Hp} {O O' M : AP1} (g : Grow H O H' O') : Stp M H O H' O' := ⟨fun a u h _ => g.keep a u h, g.low, fun a h _ => g.up a h, g.al⟩
theorem Grow.stay {H H' : Hp} {O O' : AP1} (g : Grow H O H' O') : Stay H O H' O' := ⟨fun a u h _ => g.keep a u h, g.low⟩
theorem Grow.refl {H : Hp} {O : AP1} (h : ∀ a, O a → OAt H a) : Grow H O H O := ⟨fun _ _ h => h, fun _ _ n => n, fun _ h => h, h⟩
/-- a new object that is not owned -/
theorem Grow.new {H : Hp} {O : AP1} {p : Addr} {o : HO} (hp : H p = none) (h : ∀ a, O a → OAt H a) : Grow H O (upd H p o) O :=
  ⟨fun a u e => by rw [upd_ne (ne_of_none e hp)]; exact e, fun _ _ n => n, fun _ h => h, fun a ha => by
    have e : a ≠ p := fun e => by subst e; exact (h a ha).ne hp
    unfold OAt
    rw [upd_ne e]; exact h a ha⟩
/-- a new object that is owned -/
theorem Grow.own {H : Hp} {O : AP1} {p : Addr} {o : HO} (hp : H p = none) (h : ∀ a, O a → OAt H a) (ht : isTupO o = false := by rfl) : Grow H O (upd H p o) (fun a => O a ∨ a = p) :=
  ⟨fun a u e => by rw [upd_ne (ne_of_none e hp)]; exact e, fun a ha n q => by
    rcases q with q | q
    · exact n q
    · subst q; exact ha hp, fun _ h => .inl h, fun a ha => by
    by_cases e : a = p
    · subst e; exact ⟨_, upd_same, ht⟩
    · unfold OAt
      rw [upd_ne e]
      rcases ha with q | q
      · exact h a q
      · exact absurd q e⟩
theorem Grow.trans {H H1 H2 : Hp} {O O1 O2 : AP1} (a : Grow H O H1 O1) (b : Grow H1 O1 H2 O2) : Grow H O H2 O2 :=
  ⟨fun x u h => b.keep x u (a.keep x u h), fun x h n => b.low x (a.al x h) (a.low x h n), fun x h => b.up x (a.up x h), b.tr⟩
theorem Rel.grow {F : Fm} {ρ : Env} {σ : St} {H H' : Hp} {O O' : AP1} (R : Rel F ρ σ H O) (g : Grow H O H' O') : Rel F ρ σ H' O' where
  sl := fun i s h => by
    obtain ⟨v, e, q⟩ := R.sl i s h
    refine ⟨v, e, ?_⟩
    cases s with
    | val d => exact Rep.stay g.stay d v q
    | own o => obtain ⟨a, ea, oa, h0, q⟩ := q; exact ⟨a, ea, g.up a oa, h0, q.stay g.stay fun u h => g.keep a u h⟩
    | par k o => obtain ⟨ea, oa, q⟩ := q; exact ⟨ea, g.up _ oa, q.stay g.stay fun u h => g.keep _ u h⟩
  ap := R.ap
  tr := g.tr
  ln := R.ln
  h0 := fun a h => g.al a (R.h0 a h)

/-- a value as data: frozen, or an owned thing as it stands -/
def RD (F : Fk) (H : Hp) (O : AP1) (d : D) (v : V) : Prop := Rep F H O d v ∨ ∃ a o, v = .ref a ∧ d = o.d ∧ OwAt F H O a o
/-- a result -/
def RR (F : Fm) (Hs : Hp) (r : RV) (v : V) (H' : Hp) (O' : AP1) : Prop := match r with
  | .val d => Rep F.toFk H' O' d v
  | .own o => ∃ a, v = .ref a ∧ O' a ∧ Hs a = none ∧ F.H0 a = none ∧ OwAt F.toFk H' O' a o
theorem RR.rd {F : Fm} {Hs H : Hp} {O : AP1} {r : RV} {v : V} (h : RR F Hs r v H O) : RD F.toFk H O r.d v := by
  cases r with
  | val d => exact .inl h
  | own o => obtain ⟨a, e, _, _, _, q⟩ := h; exact .inr ⟨a, o, e, rfl, q⟩
theorem RD.int {F : Fk} {H : Hp} {O : AP1} {i : Int} {v : V} (h : RD F H O (.int i) v) : v = .int i := by
  rcases h with h | ⟨a, o, _, e, _⟩
  · unfold Rep at h; exact h
  · cases o <;> simp [Ow.d] at e
theorem RD.bl {F : Fk} {H : Hp} {O : AP1} {i : Bool} {v : V} (h : RD F H O (.bl i) v) : v = .bl i := by
  rcases h with h | ⟨a, o, _, e, _⟩
  · unfold Rep at h; exact h
  · cases o <;> simp [Ow.d] at e
theorem RD.str {F : Fk} {H : Hp} {O : AP1} {i : Str} {v : V} (h : RD F H O (.str i) v) : v = .str i := by
  rcases h with h | ⟨a, o, _, e, _⟩
  · unfold Rep at h; exact h
  · cases o <;> simp [Ow.d] at e
theorem RD.non {F : Fk} {H : Hp} {O : AP1} {v : V} (h : RD F H O .non v) : v = .non := by
  rcases h with h | ⟨a, o, _, e, _⟩
  · unfold Rep at h; exact h
  · cases o <;> simp [Ow.d] at e
theorem TupAt.sq {K : PySem.W.Frag} {H : Hp} {O : AP1} {a : Addr} {vs : List V} (h : TupAt K H O a vs) : SqT K H a vs := by
  rcases h with ⟨h, _⟩ | h
  · exact .inl h
  · exact .inr h
theorem RD.tupT {F : Fk} {H : Hp} {O : AP1} {ds : List D} {v : V} (h : RD F H O (.tup ds) v) : ∃ a vs, v = .ref a ∧ (H a = some (.tup vs) ∧ ¬ O a) ∧ RepL F H O ds vs := by
  rcases h with h | ⟨a, o, _, e, _⟩
  · unfold Rep at h; exact h
  · cases o <;> simp [Ow.d] at e
theorem RD.tupC {F : Fk} {H : Hp} {O : AP1} {ds : List D} {v : V} (h : RD F H O (.tC ds) v) : ∃ a vs, v = .ref a ∧ CTup F.K a vs ∧ RepL F H O ds vs := by
  rcases h with h | ⟨a, o, _, e, _⟩
  · unfold Rep at h; exact h
  · cases o <;> simp [Ow.d] at e
theorem n_tup {d : D} {ds : List D} (h : d.n = .tup ds) : d = .tup ds ∨ d = .tC ds := by
  cases d with
  | tup xs => cases h; exact .inl rfl
  | tC xs => cases h; exact .inr rfl
  | _ => cases h
theorem n_ne {d e : D} (h : d.n = e) (t : ∀ ds, e ≠ .tup ds) : d = e := by
  cases d with
  | tC ds => exact absurd h.symm (t ds)
  | _ => exact h
theorem RD.tup {F : Fk} {H : Hp} {O : AP1} {d : D} {ds : List D} {v : V} (e : d.n = .tup ds) (h : RD F H O d v) : ∃ a vs, v = .ref a ∧ TupAt F.K H O a vs ∧ RepL F H O ds vs := by
  rcases n_tup e with rfl | rfl
  · obtain ⟨a, vs, e, h1, h2⟩ := h.tupT
    exact ⟨a, vs, e, .inl ⟨.inl h1.1, h1.2⟩, h2⟩
  · obtain ⟨a, vs, e, h1, h2⟩ := h.tupC
    exact ⟨a, vs, e, .inr h1, h2⟩
theorem RD.raw {F : Fk} {H : Hp} {O : AP1} {d : D} {ds : List D} {v : V} (e : d.n = .tup ds) (h : RD F H O d v) : Rep F H O d v := by
  rcases h with h | ⟨a, o, _, eo, _⟩
  · exact h
  · subst eo; cases o <;> simp [Ow.d, D.n] at e
theorem RD.lst {F : Fk} {H : Hp} {O : AP1} {ds : List D} {v : V} (h : RD F H O (.lst ds) v) : ∃ a vs, v = .ref a ∧ Rd H a (.lst vs) ∧ RepL F H O ds vs := by
  rcases h with h | ⟨a, o, ea, e, q⟩
  · unfold Rep at h
    obtain ⟨a, vs, e, h1, h2⟩ := h
    exact ⟨a, vs, e, h1.1, h2⟩
  · cases o with
    | lst es =>
      simp [Ow.d] at e
      subst e
      obtain ⟨vs, h1, h2⟩ := q
      exact ⟨a, vs, ea, .inl h1, h2⟩
    | dK _ => simp [Ow.d] at e
    | dT _ => simp [Ow.d] at e
theorem RD.stp {F : Fk} {H H' : Hp} {O O' M : AP1} {d : D} {v : V} (hM : ∀ a, M a → O a) (s : Stp M H O H' O') (h : RD F H O d v) (n : ∀ a, v = .ref a → ¬ M a) : RD F H' O' d v := by
  rcases h with h | ⟨a, o, ea, e, q⟩
  · exact .inl (Rep.stay (s.stay hM) d v h)
  · exact .inr ⟨a, o, ea, e, q.stay (s.stay hM) fun u hu => s.keep a u hu (n a ea)⟩
end EV
set_option linter.all false
set_option maxRecDepth 20000
set_option autoImplicit false
/-! Moves of the state, readings of values, operands, tests; each construct's rule. -/
namespace EV
open PySem PySem.Spec L2

theorem get_put_self : ∀ {ρ : Env} {i : Nat} {s : Option SV}, i < ρ.length → get (put ρ i s) i = s
  | [], _, _, h => absurd h (Nat.not_lt_zero _)
  | _ :: _, 0, _, _ => rfl
  | _ :: r, i + 1, s, h => get_put_self (ρ := r) (i := i) (Nat.lt_of_succ_lt_succ h)
theorem get_put_ne : ∀ {ρ : Env} {i j : Nat} {s : Option SV}, i ≠ j → get (put ρ i s) j = get ρ j
  | [], _, _, _, _ => rfl
  | _ :: _, 0, 0, _, h => absurd rfl h
  | _ :: _, 0, _ + 1, _, _ => rfl
  | _ :: _, _ + 1, 0, _, _ => rfl
  | _ :: r, i + 1, j + 1, s, h => get_put_ne (ρ := r) (i := i) (j := j) fun e => h (by rw [e])
theorem put_length : ∀ {ρ : Env} {i : Nat} {s : Option SV}, (put ρ i s).length = ρ.length
  | [], _, _ => rfl
  | _ :: _, 0, _ => rfl
  | _ :: r, i + 1, s => by show (put r i s).length + 1 = r.length + 1; rw [put_length]
theorem get_lt : ∀ {ρ : Env} {i : Nat} {s : SV}, get ρ i = some s → i < ρ.length
  | [], _, _, h => by cases h
  | _ :: _, 0, _, _ => Nat.zero_lt_succ _
  | _ :: r, i + 1, s, h => Nat.succ_lt_succ (get_lt (ρ := r) h)
theorem wipes_length : ∀ {vs : List Nat} {ρ : Env}, (wipes ρ vs).length = ρ.length
  | [], _ => rfl
  | v :: vs, ρ => by show (put (wipes ρ vs) v none).length = _; rw [put_length, wipes_length]
theorem get_wipes : ∀ {vs : List Nat} {ρ : Env} {i : Nat} {s : SV}, get (wipes ρ vs) i = some s → get ρ i = some s ∧ i ∉ vs
  | [], _, _, _, h => ⟨h, by simp⟩
  | v :: vs, ρ, i, s, h => by
    have h' : get (put (wipes ρ vs) v none) i = some s := h
    by_cases e : v = i
    · subst e
      by_cases hl : v < (wipes ρ vs).length
      · rw [get_put_self hl] at h'; cases h'
      · have := get_lt h'
        rw [put_length] at this
        exact absurd this hl
    · rw [get_put_ne e] at h'
      obtain ⟨h1, h2⟩ := get_wipes h'
      exact ⟨h1, by simp only [List.mem_cons, not_or]; exact ⟨fun q => e q.symm, h2⟩⟩

/-- from ρ, H, O to ρ', H', O' -/
structure Mv (F : Fm) (ρ : Env) (σ : L2.St) (H : Hp) (O : AP1) (ρ' : Env) (H' : Hp) (O' : AP1) : Prop where
  rel : Rel F ρ' σ H' O'
  stp : Stp (Mo ρ σ) H O H' O'
  sub : ∀ a, Mo ρ' σ a → Mo ρ σ a
section
variable {F : Fm} {ρ ρ1 ρ2 : Env} {σ : L2.St} {H H1 H2 : Hp} {O O1 O2 : AP1}
theorem Mv.refl (R : Rel F ρ σ H O) : Mv F ρ σ H O ρ H O := ⟨R, .refl, fun _ h => h⟩
theorem Mv.trans (R : Rel F ρ σ H O) (a : Mv F ρ σ H O ρ1 H1 O1) (b : Mv F ρ1 σ H1 O1 ρ2 H2 O2) : Mv F ρ σ H O ρ2 H2 O2 :=
  ⟨b.rel, a.stp.trans b.stp (fun x m _ => a.sub x m) R.tr, fun x m => a.sub x (b.sub x m)⟩
theorem Mv.grow (R : Rel F ρ σ H O) (g : Grow H O H1 O1) : Mv F ρ σ H O ρ H1 O1 := ⟨R.grow g, g.stp, fun _ h => h⟩
theorem Mv.stay (R : Rel F ρ σ H O) (a : Mv F ρ σ H O ρ1 H1 O1) : Stay H O H1 O1 := a.stp.stay fun _ m => R.mo m
theorem Mv.old (R : Rel F ρ σ H O) (a : Mv F ρ σ H O ρ1 H1 O1) : ∀ x, Mo ρ1 σ x → H x ≠ none := fun x m => (R.tr x (R.mo (a.sub x m))).ne
theorem RR.back {Hs H' : Hp} {r : RV} {v : V} {O' : AP1} (h : RR F H r v H' O') (al : ∀ a, Hs a ≠ none → H a ≠ none) : RR F Hs r v H' O' := by
  cases r with
  | val d => exact h
  | own o =>
    obtain ⟨a, e, oa, n, n0, q⟩ := h
    refine ⟨a, e, oa, ?_, n0, q⟩
    cases z : Hs a with
    | none => rfl
    | some u => exact absurd n (al a (by rw [z]; simp))
end

/-- the tables: the defs' promises and names, the module's constants, its exceptions -/
structure Tb where
  S : SPX
  G : Str → Option D
  CA : Nat → Addr × List Str
  nC : Nat
def ExRep (T : Tb) (F : Fk) (c : Nat) (ps : List D) (cls : Value) (d : Option Addr) (H : Hp) (O : AP1) : Prop :=
  c < T.nC ∧ cls = .ref (T.CA c).1 ∧ ps.length = (T.CA c).2.length ∧ (ps = [] ∨ ∃ dd vs, d = some dd ∧ H dd = some (.xd ((T.CA c).2.zip vs)) ∧ RepL F H O ps vs)
def XOk (T : Tb) (F : Fm) (Wx : WX) (ρ : Env) (σ : L2.St) (H : Hp) (O : AP1) (Xp : XP) : Prop :=
  ∀ c ps ρ' cls d H' O', Xp c ps ρ' → Rel F ρ' σ H' O' → Stp (Mo ρ σ) H O H' O' → ExRep T F.toFk c ps cls d H' O' → Wx cls d σ H'
theorem XOk.mv {T : Tb} {F : Fm} {Wx : WX} {ρ ρ1 : Env} {σ : L2.St} {H H1 : Hp} {O O1 : AP1} {Xp : XP} (h : XOk T F Wx ρ σ H O Xp) (R : Rel F ρ σ H O) (m : Mv F ρ σ H O ρ1 H1 O1) : XOk T F Wx ρ1 σ H1 O1 Xp :=
  fun c ps ρ' cls d H' O' hx r s e => h c ps ρ' cls d H' O' hx r (m.stp.trans s (fun x q _ => m.sub x q) R.tr) e

section
variable (T : Tb) (F : Fm) (Wx : WX)
def tE (w : Env → RP → XP → Prop) : TE := fun σ H Q => ∃ ρ O P Xp, Rel F ρ σ H O ∧ w ρ P Xp ∧
  (∀ r ρ' v H' O', P r ρ' → Mv F ρ σ H O ρ' H' O' → RR F H r v H' O' → Q v H') ∧ XOk T F Wx ρ σ H O Xp
def tT (w : Env → (Bool → Env → Prop) → XP → Prop) : TT := fun σ H Q => ∃ ρ O P Xp, Rel F ρ σ H O ∧ w ρ P Xp ∧
  (∀ c ρ' H' O', P c ρ' → Mv F ρ σ H O ρ' H' O' → Q c H') ∧ XOk T F Wx ρ σ H O Xp
def PvAt (Hs : Hp) (σ : L2.St) (p : PV) (v : V) (H : Hp) (O : AP1) : Prop := match p with
  | .at i _ => σ[i]? = some (some v)
  | .rv r => RR F Hs r v H O
def tP (w : WE) : TE := fun σ H Q => ∃ ρ O P Xp, Rel F ρ σ H O ∧ peek w ρ P Xp ∧
  (∀ p ρ' v H' O', P p ρ' → p.still ρ' → Mv F ρ σ H O ρ' H' O' → PvAt F H σ p v H' O' → Q v H') ∧ XOk T F Wx ρ σ H O Xp
end

theorem PE.imp {X : Cx} {e : Expr} {t t' : TE} (h : PE X e t) (i : ∀ σ H Q, t' σ H Q → t σ H Q) : PE X e t' := ⟨fun pins s σ H Q I q => h.run pins s σ H Q I (i σ H Q q)⟩
theorem PT.imp {X : Cx} {e : Expr} {t t' : TT} (h : PT X e t) (i : ∀ σ H Q, t' σ H Q → t σ H Q) : PT X e t' := ⟨fun pins s σ H Q I q => h.run pins s σ H Q I (i σ H Q q)⟩
theorem PW.imp {X : Cx} {e : Expr} {t t' : TT} (h : PW X e t) (i : ∀ σ H Q, t' σ H Q → t σ H Q) : PW X e t' := ⟨fun wh pins s σ H Q I q => h.run wh pins s σ H Q I (i σ H Q q)⟩
theorem PA.imp {X : Cx} {e : List Expr} {t t' : TA} (h : PA X e t) (i : ∀ σ H Q, t' σ H Q → t σ H Q) : PA X e t' := ⟨fun pos pins s σ H Q I q => h.run pos pins s σ H Q I (i σ H Q q)⟩
theorem PS.imp {X : Cx} {e : Stmt} {t t' : TS} (h : PS X e t) (i : ∀ D σ H, t' D σ H → t D σ H) : PS X e t' := ⟨fun pins s σ H D I q => h.run pins s σ H D I (i D σ H q)⟩
theorem PSs.imp {X : Cx} {e : List Stmt} {t t' : TS} (h : PSs X e t) (i : ∀ D σ H, t' D σ H → t D σ H) : PSs X e t' := ⟨fun pins s σ H D I q => h.run pins s σ H D I (i D σ H q)⟩
theorem PI.imp {X : Cx} {tg e : Expr} {t t' : TI} (h : PI X tg e t) (i : ∀ σ H R, t' σ H R → t σ H R) : PI X tg e t' := ⟨fun pins s σ H R I q => h.run pins s σ H R I (i σ H R q)⟩

section
variable {F : Fm} {ρ : Env} {σ : L2.St} {H : Hp} {O : AP1}
theorem Stay.less (a : Addr) : Stay H O H (fun x => O x ∧ x ≠ a) := ⟨fun _ _ h _ => h, fun _ _ n q => n q.1⟩
/-- an owned thing is given up: it is data from now on -/
theorem OwAt.frozen {F : Fk} {a : Addr} {o : Ow} (h : OwAt F H O a o) : Rep F H (fun x => O x ∧ x ≠ a) o.d (.ref a) := by
  cases o with
  | lst ds =>
    obtain ⟨vs, e, r⟩ := h
    show Rep F H _ (.lst ds) _
    unfold Rep
    exact ⟨a, vs, rfl, ⟨.inl e, fun q => q.2 rfl⟩, RepL.stay (Stay.less a) _ _ r⟩
  | dK kvs =>
    obtain ⟨vs, e, r⟩ := h
    show Rep F H _ (.dK _ _) _
    unfold Rep
    exact ⟨a, vs, rfl, ⟨e, fun q => q.2 rfl⟩, by have := r.len; simpa using this, RepL.stay (Stay.less a) _ _ r⟩
  | dT kvs =>
    obtain ⟨vs, e, r⟩ := h
    show Rep F H _ (.dT _ _) _
    unfold Rep
    exact ⟨a, vs, rfl, ⟨e, fun q => q.2 rfl⟩, by have := r.len; simpa using this, RepL.stay (Stay.less a) _ _ r⟩
theorem OwAt.less {F : Fk} {a b : Addr} {o : Ow} (h : OwAt F H O b o) : OwAt F H (fun x => O x ∧ x ≠ a) b o := h.stay (Stay.less a) fun _ q => q
theorem Mo.put {i : Nat} {d : D} {a : Addr} (m : Mo (put ρ i (some (.val d))) σ a) : Mo ρ σ a := by
  obtain ⟨j, s, h1, h2, h3⟩ := m
  by_cases e : i = j
  · subst e
    have hl := get_lt h1
    rw [put_length] at hl
    rw [get_put_self hl] at h1
    cases h1
    exact h2.elim
  · rw [get_put_ne e] at h1
    exact ⟨j, s, h1, h2, h3⟩
theorem Rel.freeze (R : Rel F ρ σ H O) {i : Nat} {o : Ow} (h : get ρ i = some (.own o)) :
    ∃ a, σ[i]? = some (some (.ref a)) ∧ Mv F ρ σ H O (put ρ i (some (.val o.d))) H (fun x => O x ∧ x ≠ a) ∧ Rep F.toFk H (fun x => O x ∧ x ≠ a) o.d (.ref a) := by
  obtain ⟨v, ev, a, ea, oa, n0, q⟩ := R.sl i _ h
  subst ea
  refine ⟨a, ev, ⟨⟨fun j s hj => ?_, fun j k s t b hj hk ms mt ej ek => ?_, fun b hb => R.tr b hb.1, by rw [put_length]; exact R.ln, R.h0⟩, ⟨fun _ _ e _ => e, fun b _ n z => n z.1, fun b hb hm => ⟨hb, fun z => ?_⟩, fun _ z => z⟩, fun b m => m.put⟩, q.frozen⟩
  · by_cases e : i = j
    · subst e
      rw [get_put_self (get_lt h)] at hj
      cases hj
      exact ⟨_, ev, q.frozen⟩
    · rw [get_put_ne e] at hj
      obtain ⟨w, ew, qw⟩ := R.sl j s hj
      refine ⟨w, ew, ?_⟩
      have ne : isOw s → ∀ b, w = .ref b → b ≠ a := fun ho b eb z => by
        subst z; subst eb
        exact e (R.ap i j _ s b h hj trivial ho ev ew)
      cases s with
      | val d => exact Rep.stay (Stay.less a) d w qw
      | own o2 => obtain ⟨b, eb, ob, z0, z⟩ := qw; exact ⟨b, eb, ⟨ob, ne trivial b eb⟩, z0, z.less⟩
      | par k o2 => obtain ⟨eb, ob, z⟩ := qw; exact ⟨eb, ⟨ob, ne trivial _ eb⟩, z.less⟩
  · by_cases e : i = j
    · subst e
      rw [get_put_self (get_lt h)] at hj
      cases hj; exact ms.elim
    · by_cases e' : i = k
      · subst e'
        rw [get_put_self (get_lt h)] at hk
        cases hk; exact mt.elim
      · rw [get_put_ne e] at hj
        rw [get_put_ne e'] at hk
        exact R.ap j k s t b hj hk ms mt ej ek
  · subst z
    exact hm ⟨i, _, h, trivial, ev⟩
/-- a fresh own result is given up -/
theorem RR.frozen {Hs : Hp} {r : RV} {v : V} (R : Rel F ρ σ H O) (old : ∀ x, Mo ρ σ x → Hs x ≠ none) (h : RR F Hs r v H O) :
    ∃ O', Mv F ρ σ H O ρ H O' ∧ Rep F.toFk H O' r.d v ∨ (∃ a, Hs a = none ∧ O' = (fun x => O x ∧ x ≠ a) ∧ Rel F ρ σ H O' ∧ Rep F.toFk H O' r.d v) := by
  cases r with
  | val d => exact ⟨O, .inl ⟨.refl R, h⟩⟩
  | own o =>
    obtain ⟨a, ea, oa, n, n0, q⟩ := h
    subst ea
    refine ⟨fun x => O x ∧ x ≠ a, .inr ⟨a, n, rfl, ⟨fun j s hj => ?_, R.ap, fun b hb => R.tr b hb.1, R.ln, R.h0⟩, q.frozen⟩⟩
    obtain ⟨w, ew, qw⟩ := R.sl j s hj
    refine ⟨w, ew, ?_⟩
    have ne : isOw s → ∀ b, w = .ref b → b ≠ a := fun ho b eb z => by
      subst z; subst eb
      exact old b ⟨j, s, hj, ho, ew⟩ n
    cases s with
    | val d => exact Rep.stay (Stay.less a) d w qw
    | own o2 => obtain ⟨b, eb, ob, z0, z⟩ := qw; exact ⟨b, eb, ⟨ob, ne trivial b eb⟩, z0, z.less⟩
    | par k o2 => obtain ⟨eb, ob, z⟩ := qw; exact ⟨eb, ⟨ob, ne trivial _ eb⟩, z.less⟩
end
/-- .. seen from where the evaluation began -/
theorem Mv.frozen {F : Fm} {ρ ρ1 : Env} {σ : L2.St} {H H1 : Hp} {O O1 : AP1} {r : RV} {v : V} (R : Rel F ρ σ H O) (m : Mv F ρ σ H O ρ1 H1 O1) (h : RR F H r v H1 O1) :
    ∃ O', Mv F ρ σ H O ρ1 H1 O' ∧ Rep F.toFk H1 O' r.d v := by
  obtain ⟨O', h⟩ := RR.frozen m.rel (m.old R) h
  rcases h with ⟨m', h⟩ | ⟨a, n, e, r', h⟩
  · exact ⟨O', Mv.trans R m m', h⟩
  · subst e
    refine ⟨_, ⟨r', ⟨m.stp.keep, fun x hx hn z => m.stp.low x hx hn z.1, fun x hx hn => ⟨m.stp.up x hx hn, fun z => ?_⟩, m.stp.al⟩, m.sub⟩, h⟩
    subst z
    exact (R.tr x hx).ne n
/-- an operand, when the operation is done -/
theorem PvAt.rd {F : Fm} {ρ1 ρ2 : Env} {σ : L2.St} {Hs H1 H2 : Hp} {O1 O2 : AP1} {p : PV} {v : V} (h : PvAt F Hs σ p v H1 O1) (R1 : Rel F ρ1 σ H1 O1) (old : ∀ x, Mo ρ1 σ x → Hs x ≠ none) (m : Mv F ρ1 σ H1 O1 ρ2 H2 O2) (st : p.still ρ2) : RD F.toFk H2 O2 p.d v := by
  cases p with
  | «at» i d =>
    obtain ⟨s, hs, ed⟩ := st
    obtain ⟨w, ew, q⟩ := m.rel.sl i s hs
    have e : σ[i]? = some (some v) := h
    rw [e] at ew; cases ew
    show RD F.toFk H2 O2 d v
    subst ed
    cases s with
    | val d' => exact .inl q
    | own o => obtain ⟨a, ea, _, _, z⟩ := q; exact .inr ⟨a, o, ea, rfl, z⟩
    | par k o => obtain ⟨ea, _, z⟩ := q; exact .inr ⟨_, o, ea, rfl, z⟩
  | rv r =>
    cases r with
    | val d => exact .inl (Rep.stay (m.stay R1) d v h)
    | own o =>
      obtain ⟨a, ea, oa, n, n0, q⟩ := h
      exact .inr ⟨a, o, ea, rfl, q.stay (m.stay R1) fun u hu => m.stp.keep a u hu fun mm => old a mm n⟩
end EV
set_option linter.all false
set_option maxRecDepth 20000
set_option autoImplicit false
/-! Operators, by data. -/
namespace EV
open PySem PySem.Spec L2

structure Hk (F : Fm) (H : Hp) (O : AP1) : Prop where
  tr : ∀ a, O a → OAt H a
  h0 : ∀ a, F.H0 a ≠ none → H a ≠ none
theorem Rel.hk {F : Fm} {ρ : Env} {σ : L2.St} {H : Hp} {O : AP1} (R : Rel F ρ σ H O) : Hk F H O := ⟨R.tr, R.h0⟩
theorem Hk.grow {F : Fm} {H H' : Hp} {O O' : AP1} (h : Hk F H O) (g : Grow H O H' O') : Hk F H' O' := ⟨g.tr, fun a z => g.al a (h.h0 a z)⟩
theorem Hk.n0 {F : Fm} {H : Hp} {O : AP1} (h : Hk F H O) {p : Addr} (hp : H p = none) : F.H0 p = none := by
  cases e : F.H0 p with
  | none => rfl
  | some u => exact absurd hp (h.h0 p (by rw [e]; simp))
theorem Hk.nO {F : Fm} {H : Hp} {O : AP1} (h : Hk F H O) {p : Addr} (hp : H p = none) : ¬ O p := fun o => (h.tr p o).ne hp
/-- what an operation's end wishes -/
def OpQ (F : Fm) (H : Hp) (O : AP1) (P : RV → Prop) (Q : VK) : Prop := ∀ r v H' O', P r → Grow H O H' O' → RR F H r v H' O' → Q v H'
section
variable {F : Fm} {H : Hp} {O : AP1} {P : RV → Prop} {Q : VK}
theorem OpQ.same (k : Hk F H O) (h : OpQ F H O P Q) {d : D} {v : V} (p : P (.val d)) (r : Rep F.toFk H O d v) : Q v H := h _ v H O p (.refl k.tr) r
theorem OpQ.int (k : Hk F H O) (h : OpQ F H O P Q) {i : Int} (p : P (.val (.int i))) : Q (.int i) H := h.same k p (by unfold Rep; rfl)
theorem OpQ.bl (k : Hk F H O) (h : OpQ F H O P Q) {i : Bool} (p : P (.val (.bl i))) : Q (.bl i) H := h.same k p (by unfold Rep; rfl)
theorem OpQ.str (k : Hk F H O) (h : OpQ F H O P Q) {i : Str} (p : P (.val (.str i))) : Q (.str i) H := h.same k p (by unfold Rep; rfl)
theorem OpQ.tup (k : Hk F H O) (h : OpQ F H O P Q) {ds : List D} {vs : List V} {p : Addr} (hp : H p = none) (q : P (.val (.tup ds))) (r : RepL F.toFk H O ds vs) : Q (.ref p) (upd H p (.tup vs)) := by
  refine h _ _ _ O q (.new hp k.tr) ?_
  show Rep F.toFk _ _ _ _
  unfold Rep
  exact ⟨p, vs, rfl, ⟨upd_same, k.nO hp⟩, RepL.stay (Grow.new hp k.tr).stay _ _ r⟩
theorem OpQ.lst (k : Hk F H O) (h : OpQ F H O P Q) {ds : List D} {vs : List V} {p : Addr} (hp : H p = none) (q : P (.own (.lst ds))) (r : RepL F.toFk H O ds vs) : Q (.ref p) (upd H p (.lst vs)) :=
  h _ _ _ _ q (.own hp k.tr) ⟨p, rfl, .inr rfl, hp, k.n0 hp, vs, upd_same, RepL.stay (Grow.own hp k.tr).stay _ _ r⟩
end
theorem lim_eq : lim = sizeLine := by rw [sizeLine_eq]; rfl
section
variable {X : Cx}
theorem rd_isl {pins : List (Addr × Obj)} {s : Shared} {σ : L2.St} {H : Hp} {a : Addr} {vs : List V} (I : Inv X pins σ H s) (h : Rd H a (.lst vs)) :
    ∃ (its : List Value) (n : Nat), Vals vs its ∧ s.heap.get? a = some { cls := .type "list", data := .seq its.toArray n } := by
  obtain ⟨_, its, n, r, e⟩ := h.ok I.hok
  exact ⟨its, n, r, e⟩
/-- list + list, whatever holds them -/
def rCatS : R2 := fun x y H Q => ∃ l b xs zs, x = .ref l ∧ y = .ref b ∧ Rd H l (.lst xs) ∧ Rd H b (.lst zs) ∧ xs.length + zs.length ≤ sizeLine ∧ ∀ p, H p = none → Q (.ref p) (upd H p (.lst (xs ++ zs)))
theorem op_catS : OpR X (binaryOp .Add) rCatS := by
  intro pins s σ H x y v u Q I rx ry h
  obtain ⟨l, b, xs, zs, ex, ey, hH, hB, hz, q⟩ := h
  subst ex; subst ey
  obtain rfl : v = Value.ref l := rx
  obtain rfl : u = Value.ref b := ry
  obtain ⟨its, n, r, e⟩ := rd_isl I hH
  obtain ⟨its2, n', r2, e'⟩ := rd_isl I hB
  have hsz : its.toArray.size + its2.toArray.size ≤ sizeLine := by rw [List.size_toArray, List.size_toArray, ← r.length, ← r2.length]; exact hz
  have ea : its.toArray ++ its2.toArray = (its ++ its2).toArray := by simp
  refine PySem.P.add_list (hsz := hsz) e e' ?_
  rw [ea]
  exact ⟨.ref _, _, I.lnew (t' := s.toks) (r.append r2) (by rw [List.length_append]; exact hz), rfl, q _ I.fresh⟩
end
section
variable {X : Cx} {F : Fm}
def opB : BOp → Operator
  | .add => .Add | .sub => .Sub | .mul => .Mult | .mod => .Mod | .fdiv => .FloorDiv | .pow => .Pow
theorem flat_ne {α : Type} {xs : List α} (h : xs ≠ []) {n : Nat} (hn : 0 < n) : (List.replicate n xs).flatten ≠ [] := by
  cases n with
  | zero => omega
  | succ m =>
    rw [List.replicate_succ, List.flatten_cons]
    cases xs with
    | nil => exact absurd rfl h
    | cons a b => simp
theorem bin_ok (hF : F.K = X.K) (op : BOp) : ∃ r : R2, OpR X (binaryOp (opB op)) r ∧ ∀ (H : Hp) (O : AP1) (d e : D) (x y : V) (P : RV → Prop) (Q : VK),
    Hk F H O → RD F.toFk H O d x → RD F.toFk H O e y → binW op d e P → OpQ F H O P Q → r x y H Q := by
  cases op with
  | add =>
    refine ⟨_, ((op_add (X := X)).or (op_add_str (X := X))).or ((op_catA (X := X)).or (op_catS (X := X))), ?_⟩
    intro H O d e x y P Q k rx ry h q
    rw [← hF]
    unfold binW at h
    cases hd : d.n with
    | int i =>
      cases he : e.n with
      | int j =>
        rw [hd, he] at h
        rw [n_ne hd (fun _ z => nomatch z)] at rx
        rw [n_ne he (fun _ z => nomatch z)] at ry
        have e1 := rx.int; subst e1
        have e2 := ry.int; subst e2
        exact .inl (.inl ⟨i, j, rfl, rfl, q.int k h⟩)
      | _ => rw [hd, he] at h; exact h.elim
    | str i =>
      cases he : e.n with
      | str j =>
        rw [hd, he] at h
        rw [n_ne hd (fun _ z => nomatch z)] at rx
        rw [n_ne he (fun _ z => nomatch z)] at ry
        have e1 := rx.str; subst e1
        have e2 := ry.str; subst e2
        exact .inl (.inr ⟨i, j, rfl, rfl, by rw [← lim_eq]; exact h.1, q.str k h.2⟩)
      | _ => rw [hd, he] at h; exact h.elim
    | tup ds =>
      cases he : e.n with
      | tup es =>
        rw [hd, he] at h
        have rx1 := rx.raw hd
        have ry1 := ry.raw he
        obtain ⟨a, vs, rfl, ha, hv⟩ := rx.tup hd
        obtain ⟨b, ws, rfl, hb, hw⟩ := ry.tup he
        have h2 : P (.val (catD d e ds es)) := h.2
        refine .inr (.inl ⟨a, b, vs, ws, rfl, rfl, ha.sq, hb.sq, by rw [← hv.len, ← hw.len, ← lim_eq]; exact h.1, fun ez => ?_, fun ne ez => ?_, fun ne1 ne2 p hp => ?_⟩)
        · have : ds = [] := by have := hv.len; rw [ez] at this; exact List.eq_nil_of_length_eq_zero this
          subst this
          exact q.same k h2 ry1
        · have : es = [] := by have := hw.len; rw [ez] at this; exact List.eq_nil_of_length_eq_zero this
          subst this
          cases ds with
          | nil => unfold RepL at hv; exact absurd hv ne
          | cons d0 ds => exact q.same k h2 rx1
        · cases ds with
          | nil => unfold RepL at hv; exact absurd hv ne1
          | cons d0 ds =>
            cases es with
            | nil => unfold RepL at hw; exact absurd hw ne2
            | cons e0 es => exact q.tup k hp h2 (hv.append hw)
      | _ => rw [hd, he] at h; exact h.elim
    | lst ds =>
      cases he : e.n with
      | lst es =>
        rw [hd, he] at h
        rw [n_ne hd (fun _ z => nomatch z)] at rx
        rw [n_ne he (fun _ z => nomatch z)] at ry
        obtain ⟨a, vs, rfl, ha, hv⟩ := rx.lst
        obtain ⟨b, ws, rfl, hb, hw⟩ := ry.lst
        exact .inr (.inr ⟨a, b, vs, ws, rfl, rfl, ha, hb, by rw [← hv.len, ← hw.len, ← lim_eq]; exact h.1, fun p hp => q.lst k hp h.2 (hv.append hw)⟩)
      | _ => rw [hd, he] at h; exact h.elim
    | _ => rw [hd] at h; exact h.elim
  | sub =>
    refine ⟨_, op_sub (X := X), ?_⟩
    intro H O d e x y P Q k rx ry h q
    unfold binW at h
    cases hd : d.n with
    | int i =>
      cases he : e.n with
      | int j =>
        rw [hd, he] at h
        rw [n_ne hd (fun _ z => nomatch z)] at rx
        rw [n_ne he (fun _ z => nomatch z)] at ry
        have e1 := rx.int; subst e1
        have e2 := ry.int; subst e2
        exact ⟨i, j, rfl, rfl, q.int k h⟩
      | _ => rw [hd, he] at h; exact h.elim
    | _ => rw [hd] at h; exact h.elim
  | mul =>
    refine ⟨_, ((op_mul (X := X)).or (op_mulW (X := X))).or (op_repT (X := X)), ?_⟩
    intro H O d e x y P Q k rx ry h q
    rw [← hF]
    unfold binW at h
    cases hd : d.n with
    | int i =>
      cases he : e.n with
      | int j =>
        rw [hd, he] at h
        rw [n_ne hd (fun _ z => nomatch z)] at rx
        rw [n_ne he (fun _ z => nomatch z)] at ry
        have e1 := rx.int; subst e1
        have e2 := ry.int; subst e2
        rcases h.1 with (h1 | h1) | h1
        · exact .inl (.inl ⟨i, j, rfl, rfl, .inl (by constructor <;> omega), q.int k h.2⟩)
        · exact .inl (.inl ⟨i, j, rfl, rfl, .inr (by constructor <;> omega), q.int k h.2⟩)
        · exact .inl (.inr ⟨i, j, rfl, rfl, h1, q.int k h.2⟩)
      | _ => rw [hd, he] at h; exact h.elim
    | tup ds =>
      cases he : e.n with
      | int j =>
        rw [hd, he] at h
        rw [n_ne he (fun _ z => nomatch z)] at ry
        have e2 := ry.int; subst e2
        obtain ⟨a, vs, rfl, ha, hv⟩ := rx.tup hd
        obtain ⟨⟨h1, h2, h3, h4⟩, h5⟩ := h
        refine .inr ⟨a, j, vs, rfl, rfl, ha.sq, fun ez => ?_, h2, h3, by rw [← hv.len]; exact h4, fun p hp => q.tup k hp h5 (hv.rep _)⟩
        have := hv.len
        rw [ez] at this
        exact h1 (List.eq_nil_of_length_eq_zero this)
      | _ => rw [hd, he] at h; exact h.elim
    | _ => rw [hd] at h; exact h.elim
  | mod =>
    refine ⟨_, op_mod (X := X), ?_⟩
    intro H O d e x y P Q k rx ry h q
    unfold binW at h
    cases hd : d.n with
    | int i =>
      cases he : e.n with
      | int j =>
        rw [hd, he] at h
        rw [n_ne hd (fun _ z => nomatch z)] at rx
        rw [n_ne he (fun _ z => nomatch z)] at ry
        have e1 := rx.int; subst e1
        have e2 := ry.int; subst e2
        exact ⟨i, j, rfl, rfl, h.1, q.int k h.2⟩
      | _ => rw [hd, he] at h; exact h.elim
    | _ => rw [hd] at h; exact h.elim
  | fdiv =>
    refine ⟨_, op_fdivW (X := X), ?_⟩
    intro H O d e x y P Q k rx ry h q
    unfold binW at h
    cases hd : d.n with
    | int i =>
      cases he : e.n with
      | int j =>
        rw [hd, he] at h
        rw [n_ne hd (fun _ z => nomatch z)] at rx
        rw [n_ne he (fun _ z => nomatch z)] at ry
        have e1 := rx.int; subst e1
        have e2 := ry.int; subst e2
        exact ⟨i, j, rfl, rfl, h.1, q.int k h.2⟩
      | _ => rw [hd, he] at h; exact h.elim
    | _ => rw [hd] at h; exact h.elim
  | pow =>
    refine ⟨_, op_pow (X := X), ?_⟩
    intro H O d e x y P Q k rx ry h q
    unfold binW at h
    cases hd : d.n with
    | int i =>
      cases he : e.n with
      | int j =>
        rw [hd, he] at h
        rw [n_ne hd (fun _ z => nomatch z)] at rx
        rw [n_ne he (fun _ z => nomatch z)] at ry
        have e1 := rx.int; subst e1
        have e2 := ry.int; subst e2
        exact ⟨i, j, rfl, rfl, h.1, q.int k h.2⟩
      | _ => rw [hd, he] at h; exact h.elim
    | _ => rw [hd] at h; exact h.elim
end

/-! ### data as the layer's own data -/
mutual
theorem rep_dp {F : Fk} {H : Hp} {O : AP1} : ∀ (d : D) (v : V), d.plain = true → Rep F H O d v → Dp F.K H v d.py
  | .non, v, _, h => by unfold Rep at h; subst h; exact .non
  | .bl b, v, _, h => by unfold Rep at h; subst h; exact .bl b
  | .int i, v, _, h => by unfold Rep at h; subst h; exact .int i
  | .str x, v, _, h => by unfold Rep at h; subst h; exact .str x
  | .tup ds, v, p, h => by
    unfold Rep at h
    obtain ⟨a, vs, rfl, h1, h2⟩ := h
    exact .tup (.inl (.inl h1.1)) (repL_dp ds vs p h2)
  | .tC ds, v, p, h => by
    unfold Rep at h
    obtain ⟨a, vs, rfl, h1, h2⟩ := h
    exact .tup (.inr h1) (repL_dp ds vs p h2)
  | .lst ds, v, p, h => by
    unfold Rep at h
    obtain ⟨a, vs, rfl, h1, h2⟩ := h
    exact .lst (.inl h1.1) (repL_dp ds vs p h2)
  | .dK _ _, _, p, _ => nomatch p
  | .dT _ _, _, p, _ => nomatch p
  | .dC _ _, _, p, _ => nomatch p
  | .ins _ _, _, p, _ => nomatch p
theorem repL_dp {F : Fk} {H : Hp} {O : AP1} : ∀ (ds : List D) (vs : List V), D.plains ds = true → RepL F H O ds vs → DpAll F.K H vs (D.pys ds)
  | [], vs, _, h => by unfold RepL at h; subst h; exact .nil
  | d :: ds, vs, p, h => by
    unfold RepL at h
    obtain ⟨v, r, rfl, h1, h2⟩ := h
    have p' : d.plain = true ∧ D.plains ds = true := by
      have : (d.plain && D.plains ds) = true := p
      simpa using this
    exact .cons (rep_dp d v p'.1 h1) (repL_dp ds r p'.2 h2)
end
theorem rd_dp {F : Fk} {H : Hp} {O : AP1} {d : D} {v : V} (p : d.plain = true) (h : RD F H O d v) : Dp F.K H v d.py := by
  rcases h with h | ⟨a, o, rfl, e, q⟩
  · exact rep_dp d v p h
  · subst e
    cases o with
    | lst ds =>
      obtain ⟨vs, h1, h2⟩ := q
      exact .lst (SqL.of h1) (repL_dp ds vs p h2)
    | dK _ => exact nomatch p
    | dT _ => exact nomatch p
/-! ### dicts -/
theorem lookV {F : Fk} {H : Hp} {O : AP1} {α : Type} [DecidableEq α] (k : α) : ∀ {ks : List α} {ds : List D} {vs : List V}, RepL F H O ds vs → ks.length = vs.length →
    (∀ d, lookA k ks ds = some d → ∃ v, valV (ks.zip vs) k = some v ∧ Rep F H O d v) ∧ (lookA k ks ds).isSome = (valV (ks.zip vs) k).isSome
  | [], ds, vs, h, l => by
    have : vs = [] := List.eq_nil_of_length_eq_zero l.symm
    subst this
    refine ⟨fun d e => ?_, ?_⟩
    · cases ds <;> cases e
    · cases ds <;> rfl
  | a :: ks, [], vs, h, l => by unfold RepL at h; subst h; cases l
  | a :: ks, d :: ds, vs, h, l => by
    unfold RepL at h
    obtain ⟨v, r, rfl, h1, h2⟩ := h
    have ih := lookV k h2 (show ks.length = r.length from by simpa using l)
    by_cases e : a = k
    · have e1 : lookA k (a :: ks) (d :: ds) = some d := by unfold lookA; rw [if_pos e]
      have e2 : valV ((a :: ks).zip (v :: r)) k = some v := valV_pos (p := (a, v)) e
      rw [e1, e2]
      exact ⟨fun d' e' => ⟨v, rfl, by cases e'; exact h1⟩, rfl⟩
    · have e1 : lookA k (a :: ks) (d :: ds) = lookA k ks ds := by
        show (if a = k then some d else lookA k ks ds) = _
        rw [if_neg e]
      have e2 : valV ((a :: ks).zip (v :: r)) k = valV (ks.zip r) k := valV_neg (p := (a, v)) e
      rw [e1, e2]
      exact ih
theorem key_kV {d : D} {k : Key} (h : d.key = some k) : d = kD k := by
  cases d with
  | int i => cases h; rfl
  | str i => cases h; rfl
  | _ => cases h
theorem rd_key {F : Fk} {H : Hp} {O : AP1} {d : D} {k : Key} {v : V} (h : d.key = some k) (r : RD F H O d v) : v = kV k := by
  have e := key_kV h
  subst e
  cases k with
  | inl i => exact r.int
  | inr i => exact r.str
theorem keys_kD : ∀ {ds : List D} {ks : List Key}, D.keys ds = some ks → ds = ks.map kD
  | [], ks, h => by cases h; rfl
  | d :: ds, ks, h => by
    unfold D.keys at h
    cases e1 : d.key with
    | none => rw [e1] at h; cases h
    | some k =>
      cases e2 : D.keys ds with
      | none => rw [e1, e2] at h; cases h
      | some r =>
        rw [e1, e2] at h
        cases h
        rw [key_kV e1, keys_kD e2]
        rfl
theorem repL_kV {F : Fk} {H : Hp} {O : AP1} : ∀ {ks : List Key} {vs : List V}, RepL F H O (ks.map kD) vs → vs = ks.map kV
  | [], vs, h => by unfold List.map RepL at h; exact h
  | k :: ks, vs, h => by
    rw [List.map_cons] at h
    unfold RepL at h
    obtain ⟨v, r, rfl, h1, h2⟩ := h
    rw [List.map_cons, repL_kV h2]
    congr 1
    cases k with
    | inl i => exact (show RD F H O (.int i) v from .inl h1).int
    | inr i => exact (show RD F H O (.str i) v from .inl h1).str
theorem rd_tkey {F : Fk} {H : Hp} {O : AP1} {d : D} {k : List Key} {v : V} (h : d.n.tkey = some k) (r : RD F H O d v) : ∃ b, v = .ref b ∧ TupAt F.K H O b (k.map kV) := by
  cases hd : d.n with
  | tup ds =>
    rw [hd] at h
    have h' : D.keys ds = some k := h
    obtain ⟨b, vs, e, h1, h2⟩ := r.tup hd
    rw [keys_kD h'] at h2
    rw [repL_kV h2] at h1
    exact ⟨b, e, h1⟩
  | _ => rw [hd] at h; cases h
theorem RD.dK {F : Fk} {H : Hp} {O : AP1} {ks : List Key} {ds : List D} {v : V} (h : RD F H O (.dK ks ds) v) : ∃ a vs, v = .ref a ∧ H a = some (.dK (ks.zip vs)) ∧ ks.length = vs.length ∧ RepL F H O ds vs := by
  rcases h with h | ⟨a, o, ea, e, q⟩
  · unfold Rep at h
    obtain ⟨a, vs, e, h1, h2, h3⟩ := h
    exact ⟨a, vs, e, h1.1, h2, h3⟩
  · cases o with
    | dK kvs =>
      simp only [Ow.d, D.dK.injEq] at e
      obtain ⟨e1, e2⟩ := e
      subst e1; subst e2
      obtain ⟨vs, h1, h2⟩ := q
      exact ⟨a, vs, ea, h1, by have := h2.len; simpa using this, h2⟩
    | lst _ => simp [Ow.d] at e
    | dT _ => simp [Ow.d] at e
theorem RD.dT {F : Fk} {H : Hp} {O : AP1} {ks : List (List Key)} {ds : List D} {v : V} (h : RD F H O (.dT ks ds) v) : ∃ a vs, v = .ref a ∧ H a = some (.dT (ks.zip vs)) ∧ ks.length = vs.length ∧ RepL F H O ds vs := by
  rcases h with h | ⟨a, o, ea, e, q⟩
  · unfold Rep at h
    obtain ⟨a, vs, e, h1, h2, h3⟩ := h
    exact ⟨a, vs, e, h1.1, h2, h3⟩
  · cases o with
    | dT kvs =>
      simp only [Ow.d, D.dT.injEq] at e
      obtain ⟨e1, e2⟩ := e
      subst e1; subst e2
      obtain ⟨vs, h1, h2⟩ := q
      exact ⟨a, vs, ea, h1, by have := h2.len; simpa using this, h2⟩
    | lst _ => simp [Ow.d] at e
    | dK _ => simp [Ow.d] at e
section
variable {X : Cx} {pins : List (Addr × Obj)} {σ : L2.St} {H : Hp} {s : Shared} {a b : Addr} {u : Value} {k : List Key} {kvs : List (List Key × V)} {A : Around} {E : Value → Shared → Prop}
theorem key_at (I : Inv X pins σ H s) (h : SqT X.K H b (k.map kV)) : (tupleKind (mixKind X.prog X.w)).is s.heap k b := by
  obtain ⟨its, r, ⟨o, e, c, n, d⟩, _⟩ := I.tuple h
  exact ⟨o, its.toArray, n, e, c, d, by simpa using items_are r⟩
/-- what the dict at a holds at y: keys may be any tuples that are read -/
def DGt (K : PySem.W.Frag) (H : Hp) (a : Addr) (y : V) (r : Option V) : Prop :=
  (∃ kvs k, H a = some (.dK kvs) ∧ y = kV k ∧ r = valV kvs k) ∨ ∃ kvs k b, H a = some (.dT kvs) ∧ y = .ref b ∧ SqT K H b (k.map kV) ∧ r = valV kvs k
theorem g_type {y : V} {o : Option V} (I : Inv X pins σ H s) (g : DGt X.K H a y o) : s.TypeIs (.ref a) "dict" := by
  rcases g with ⟨kvs, k, e, _, _⟩ | ⟨kvs, k, b, e, _, _, _⟩
  · obtain ⟨_, _, vs, _, dd⟩ := dk_of I.hok e
    exact dd.typeIs
  · obtain ⟨_, _, xs, _, dd⟩ := dt_of I.hok e
    exact dd.typeIs
theorem g_get {y v : V} {Q : Value → Shared → Prop} (hu : A.units + 1 < cLine) (I : Inv X pins σ H s) (g : DGt X.K H a y (some v)) (ry : RelV y u) (h : ∀ w' s', Inv X pins σ H s' → RelV v w' → Q w' s') :
    wpAny (model X.prog X.w) A (getItem (.ref a) u) Q E s := by
  rcases g with ⟨kvs, k, e, ey, l⟩ | ⟨kvs, k, b, e, ey, eb, l⟩
  · exact d_getItem hu I (.inl ⟨kvs, k, .inl e, ey, l⟩) ry h
  · subst ey
    obtain rfl : u = Value.ref b := ry
    obtain ⟨_, _, xs, rel, dd⟩ := dt_of I.hok e
    obtain ⟨w', hw, rw'⟩ := RelO.some_of (v := v) (o := (atKey xs k).map (·.2)) (by rw [l]; exact rel.val k)
    obtain ⟨p, hp, hp2⟩ := Option.map_eq_some_iff.mp hw
    refine wpAny_getItem_heap (tupleKind_room_in1 hu) (key_at I eb) dd hp ?_
    rw [hp2]
    exact h w' _ (I.tok _) rw'
theorem op_inG (hu : X.A.units + 1 < cLine) : OpR X (compareOp .In) (fun y x H Q => ∃ a o, x = .ref a ∧ DGt X.K H a y o ∧ Q (.bl o.isSome) H) := by
  intro pins s σ H y x u v Q I ry rx h
  obtain ⟨a, o, ex, g, q⟩ := h
  subst ex
  obtain rfl : v = Value.ref a := rx
  rcases g with ⟨kvs, k, e, ey, l⟩ | ⟨kvs, k, b, e, ey, eb, l⟩
  · exact d_in hu I (.inl ⟨kvs, k, .inl e, ey, l⟩) ry fun s3 I3 => ⟨.bl o.isSome, H, I3, rfl, q⟩
  · subst ey
    obtain rfl : u = Value.ref b := ry
    obtain ⟨_, hd, xs, rel, dd⟩ := dt_of I.hok e
    refine wpAny_in_heap (tupleKind_room_in1 hu) (key_at I eb) hd dd ?_
    have q2 := (rel.val k).isSome_eq
    rw [Option.isSome_map] at q2
    rw [← q2, ← l]
    exact ⟨.bl o.isSome, H, I.tok _, rfl, q⟩
theorem op_notInG (hu : X.A.units + 1 < cLine) : OpR X (compareOp .NotIn) (fun y x H Q => ∃ a o, x = .ref a ∧ DGt X.K H a y o ∧ Q (.bl (!o.isSome)) H) := by
  intro pins s σ H y x u v Q I ry rx h
  obtain ⟨a, o, ex, g, q⟩ := h
  subst ex
  obtain rfl : v = Value.ref a := rx
  rcases g with ⟨kvs, k, e, ey, l⟩ | ⟨kvs, k, b, e, ey, eb, l⟩
  · exact d_notIn hu I (.inl ⟨kvs, k, .inl e, ey, l⟩) ry fun s3 I3 => ⟨.bl (!o.isSome), H, I3, rfl, q⟩
  · subst ey
    obtain rfl : u = Value.ref b := ry
    obtain ⟨_, hd, xs, rel, dd⟩ := dt_of I.hok e
    refine PyProof.Rows.wpAny_notIn_heap (tupleKind_room_in1 hu) (key_at I eb) hd dd ?_
    have q2 := (rel.val k).isSome_eq
    rw [Option.isSome_map] at q2
    rw [← q2, ← l]
    exact ⟨.bl (!o.isSome), H, I.tok _, rfl, q⟩
end
section
variable {X : Cx} {F : Fk}
def opC : COp → CmpOp
  | .eq => .Eq | .ne => .NotEq | .lt => .Lt | .le => .LtE | .gt => .Gt | .ge => .GtE | .isN => .Is | .notN => .IsNot | .in_ => .In | .notin => .NotIn
theorem eq_ok (hF : F.K = X.K) (H : Hp) (O : AP1) (d e : D) (x y : V) (P : Bool → Prop) (Q : VK) (hq : ∀ c, P c → Q (.bl c) H)
    (rx : RD F H O d x) (ry : RD F H O e y) (h : eqW d e P) : (rEq x y H Q ∨ rEqD X.K x y H Q) := by
  have gen : (d.okEq ∧ e.okEq ∧ P (D.eqv d e)) → (rEq x y H Q ∨ rEqD X.K x y H Q) := fun ⟨h1, h2, h3⟩ =>
    .inr ⟨d.py, e.py, by rw [← hF]; exact rd_dp h1.1 rx, by rw [← hF]; exact rd_dp h2.1 ry, h1.2, h2.2, hq _ h3⟩
  unfold eqW at h
  split at h
  · have e1 := rx.str; subst e1
    have e2 := ry.str; subst e2
    refine .inl ⟨rfl, hq _ ?_⟩
    rename_i a b
    have : decide (V.str a = V.str b) = decide (a = b) := by by_cases z : a = b <;> simp [z]
    rw [this]; exact h
  · have e1 := rx.int; subst e1
    have e2 := ry.int; subst e2
    refine .inl ⟨rfl, hq _ ?_⟩
    rename_i a b
    have : decide (V.int a = V.int b) = decide (a = b) := by by_cases z : a = b <;> simp [z]
    rw [this]; exact h
  · have e1 := rx.bl; subst e1
    have e2 := ry.bl; subst e2
    refine .inl ⟨rfl, hq _ ?_⟩
    rename_i a b
    have : decide (V.bl a = V.bl b) = decide (a = b) := by by_cases z : a = b <;> simp [z]
    rw [this]; exact h
  · exact gen h
theorem ne_ok (hF : F.K = X.K) (H : Hp) (O : AP1) (d e : D) (x y : V) (P : Bool → Prop) (Q : VK) (hq : ∀ c, P c → Q (.bl c) H)
    (rx : RD F H O d x) (ry : RD F H O e y) (h : eqW d e fun c => P (!c)) : (rNe x y H Q ∨ rNeD X.K x y H Q) := by
  have gen : (d.okEq ∧ e.okEq ∧ P (!D.eqv d e)) → (rNe x y H Q ∨ rNeD X.K x y H Q) := fun ⟨h1, h2, h3⟩ =>
    .inr ⟨d.py, e.py, by rw [← hF]; exact rd_dp h1.1 rx, by rw [← hF]; exact rd_dp h2.1 ry, h1.2, h2.2, hq _ h3⟩
  unfold eqW at h
  split at h
  · have e1 := rx.str; subst e1
    have e2 := ry.str; subst e2
    refine .inl ⟨rfl, hq _ ?_⟩
    rename_i a b
    have : decide (V.str a = V.str b) = decide (a = b) := by by_cases z : a = b <;> simp [z]
    rw [this]; exact h
  · have e1 := rx.int; subst e1
    have e2 := ry.int; subst e2
    refine .inl ⟨rfl, hq _ ?_⟩
    rename_i a b
    have : decide (V.int a = V.int b) = decide (a = b) := by by_cases z : a = b <;> simp [z]
    rw [this]; exact h
  · have e1 := rx.bl; subst e1
    have e2 := ry.bl; subst e2
    refine .inl ⟨rfl, hq _ ?_⟩
    rename_i a b
    have : decide (V.bl a = V.bl b) = decide (a = b) := by by_cases z : a = b <;> simp [z]
    rw [this]; exact h
  · exact gen h
theorem rd_isN {H : Hp} {O : AP1} {d : D} {x : V} (r : RD F H O d x) : decide (x = .non) = isNonD d := by
  cases d with
  | non => have := r.non; subst this; rfl
  | bl b => have := r.bl; subst this; rfl
  | int b => have := r.int; subst this; rfl
  | str b => have := r.str; subst this; rfl
  | tup ds => obtain ⟨a, vs, rfl, _⟩ := r.tupT; rfl
  | tC ds => obtain ⟨a, vs, rfl, _⟩ := r.tupC; rfl
  | lst ds => obtain ⟨a, vs, rfl, _⟩ := r.lst; rfl
  | dK ks ds => obtain ⟨a, vs, rfl, _⟩ := r.dK; rfl
  | dT ks ds => obtain ⟨a, vs, rfl, _⟩ := r.dT; rfl
  | dC ks ds =>
    rcases r with r | ⟨_, o, _, eo, _⟩
    · unfold Rep at r
      obtain ⟨a, vs, rfl, _⟩ := r; rfl
    · cases o <;> simp [Ow.d] at eo
  | ins c fs =>
    rcases r with r | ⟨_, o, _, eo, _⟩
    · unfold Rep at r
      exact r.elim
    · cases o <;> simp [Ow.d] at eo
def fV : D → V
  | .bl b => .bl b | .int i => .int i | .str x => .str x | _ => .non
theorem rd_flat {H : Hp} {O : AP1} {d : D} {x : V} (f : flat1 d = true) (r : RD F H O d x) : x = fV d := by
  cases d with
  | non => exact r.non
  | bl b => exact r.bl
  | int b => exact r.int
  | str b => exact r.str
  | _ => exact nomatch f
theorem flat_V {d : D} (f : flat1 d = true) : flatV (fV d) = true := by
  cases d <;> first | rfl | exact nomatch f
theorem eq_V {d e : D} (f : flat1 d = true) (g : flat1 e = true) : eqV (fV d) (fV e) = eqF d e := by
  cases d <;> cases e <;> first | rfl | (simp [flat1] at f; done) | (simp [flat1] at g; done) | simp [eqV, eqF, fV]
theorem repL_flat {H : Hp} {O : AP1} : ∀ {ds : List D} {vs : List V}, ds.all flat1 = true → RepL F H O ds vs → vs = ds.map fV
  | [], vs, _, h => by unfold RepL at h; exact h
  | d :: ds, vs, f, h => by
    unfold RepL at h
    obtain ⟨v, r, rfl, h1, h2⟩ := h
    rw [List.all_cons, Bool.and_eq_true] at f
    rw [List.map_cons, repL_flat f.2 h2, rd_flat f.1 (.inl h1)]
theorem any_V {ds : List D} {x : D} (f : ds.all flat1 = true) (g : flat1 x = true) : inV (fV x) (ds.map fV) = ds.any fun d => eqF d x := by
  unfold inV
  rw [List.any_map]
  induction ds with
  | nil => rfl
  | cons d ds ih =>
    rw [List.all_cons, Bool.and_eq_true] at f
    rw [List.any_cons, List.any_cons, ih f.2]
    congr 1
    exact eq_V f.1 g
theorem all_V {ds : List D} (f : ds.all flat1 = true) : (ds.map fV).all flatV = true := by
  induction ds with
  | nil => rfl
  | cons d ds ih =>
    rw [List.all_cons, Bool.and_eq_true] at f
    rw [List.map_cons, List.all_cons, flat_V f.1, ih f.2]
    rfl
theorem in_ok (hF : F.K = X.K) (H : Hp) (O : AP1) (d e : D) (x y : V) (P : Bool → Prop)
    (rx : RD F H O d x) (ry : RD F H O e y) (h : inW d e P) :
    (∃ (c : Nat) (z : Str), x = .str ⟨#[c]⟩ ∧ y = .str z ∧ P (decide (c ∈ z.cps.toList))) ∨
    (∃ p xs, y = .ref p ∧ (SqL X.K H p xs ∨ SqT X.K H p xs) ∧ flatV x = true ∧ xs.all flatV = true ∧ P (inV x xs)) ∨
    (∃ a o, y = .ref a ∧ DGt X.K H a x o ∧ P o.isSome) := by
  unfold inW at h
  cases he : e.n with
  | str z =>
    rw [he] at h
    rw [n_ne he (fun _ z => nomatch z)] at ry
    obtain ⟨c, rfl, p⟩ := h
    exact .inl ⟨c, z, rx.str, ry.str, p⟩
  | tup ds =>
    rw [he] at h
    obtain ⟨f1, f2, p⟩ := h
    obtain ⟨a, vs, rfl, ha, hv⟩ := ry.tup he
    have e1 := rd_flat f1 rx
    have e2 := repL_flat f2 hv
    subst e1; subst e2
    exact .inr (.inl ⟨a, _, rfl, .inr (by rw [← hF]; exact ha.sq), flat_V f1, all_V f2, by rw [any_V f2 f1]; exact p⟩)
  | lst ds =>
    rw [he] at h
    rw [n_ne he (fun _ z => nomatch z)] at ry
    obtain ⟨f1, f2, p⟩ := h
    obtain ⟨a, vs, rfl, ha, hv⟩ := ry.lst
    have e1 := rd_flat f1 rx
    have e2 := repL_flat f2 hv
    subst e1; subst e2
    exact .inr (.inl ⟨a, _, rfl, .inl (.inl ha), flat_V f1, all_V f2, by rw [any_V f2 f1]; exact p⟩)
  | dK ks ds =>
    rw [he] at h
    rw [n_ne he (fun _ z => nomatch z)] at ry
    obtain ⟨k, e1, p⟩ := h
    obtain ⟨a, vs, rfl, ha, hl, hv⟩ := ry.dK
    exact .inr (.inr ⟨a, _, rfl, .inl ⟨_, k, ha, rd_key e1 rx, rfl⟩, by rw [← (lookV k hv hl).2]; exact p⟩)
  | dT ks ds =>
    rw [he] at h
    rw [n_ne he (fun _ z => nomatch z)] at ry
    obtain ⟨k, e1, p⟩ := h
    obtain ⟨a, vs, rfl, ha, hl, hv⟩ := ry.dT
    obtain ⟨b, rfl, hb⟩ := rd_tkey e1 rx
    exact .inr (.inr ⟨a, _, rfl, .inr ⟨_, k, b, ha, rfl, by rw [← hF]; exact hb.sq, rfl⟩, by rw [← (lookV k hv hl).2]; exact p⟩)
  | _ => rw [he] at h; exact h.elim
theorem cmp_ok (hF : F.K = X.K) (hu : X.A.units + 64 < cLine) (op : COp) : ∃ r : R2, OpR X (compareOp (opC op)) r ∧ ∀ (H : Hp) (O : AP1) (d e : D) (x y : V) (P : Bool → Prop) (Q : VK),
    (∀ c, P c → Q (.bl c) H) → RD F H O d x → RD F H O e y → cmpW op d e P → r x y H Q := by
  have cI : ∀ {g : Int → Int → Bool} (H : Hp) (O : AP1) (d e : D) (x y : V) (P : Bool → Prop) (Q : VK), (∀ c, P c → Q (.bl c) H) → RD F H O d x → RD F H O e y →
      (match d, e with | .int i, .int j => P (g i j) | _, _ => False) → rI0 (fun i j => .bl (g i j)) x y H Q := by
    intro g H O d e x y P Q hq rx ry h
    split at h
    · have e1 := rx.int; subst e1
      have e2 := ry.int; subst e2
      exact ⟨_, _, rfl, rfl, hq _ h⟩
    · exact h.elim
  cases op with
  | eq => exact ⟨_, (op_eq (X := X)).or (op_eqD hu), fun H O d e x y P Q hq rx ry h => eq_ok hF H O d e x y P Q hq rx ry h⟩
  | ne => exact ⟨_, (op_ne (X := X)).or (op_neD hu), fun H O d e x y P Q hq rx ry h => ne_ok hF H O d e x y P Q hq rx ry h⟩
  | lt => exact ⟨_, op_lt (X := X), fun H O d e x y P Q hq rx ry h => cI H O d e x y P Q hq rx ry h⟩
  | le => exact ⟨_, op_le (X := X), fun H O d e x y P Q hq rx ry h => cI H O d e x y P Q hq rx ry h⟩
  | gt => exact ⟨_, op_gt (X := X), fun H O d e x y P Q hq rx ry h => cI H O d e x y P Q hq rx ry h⟩
  | ge => exact ⟨_, op_ge (X := X), fun H O d e x y P Q hq rx ry h => cI H O d e x y P Q hq rx ry h⟩
  | isN =>
    refine ⟨_, op_isN (X := X), fun H O d e x y P Q hq rx ry h => ?_⟩
    have h' : isNonD e = true ∧ P (isNonD d) := h
    cases e with
    | non => exact ⟨ry.non, hq _ (by rw [rd_isN rx]; exact h'.2)⟩
    | _ => exact nomatch h'.1
  | notN =>
    refine ⟨_, op_notN (X := X), fun H O d e x y P Q hq rx ry h => ?_⟩
    have h' : isNonD e = true ∧ P (!isNonD d) := h
    cases e with
    | non => exact ⟨ry.non, hq _ (by rw [rd_isN rx]; exact h'.2)⟩
    | _ => exact nomatch h'.1
  | in_ =>
    refine ⟨_, ((op_in_sign (X := X)).or (op_in_seq (X := X))).or (op_inG (X := X) (by omega)), fun H O d e x y P Q hq rx ry h => ?_⟩
    rcases in_ok hF H O d e x y P rx ry h with ⟨c, z, e1, e2, p⟩ | ⟨q, xs, e1, e2, e3, e4, p⟩ | ⟨a, o, e1, e2, p⟩
    · exact .inl (.inl ⟨c, z, e1, e2, hq _ p⟩)
    · exact .inl (.inr ⟨q, xs, e1, e2, e3, e4, hq _ p⟩)
    · exact .inr ⟨a, o, e1, e2, hq _ p⟩
  | notin =>
    refine ⟨_, ((op_notIn_sign (X := X)).or (op_notIn_seq (X := X))).or (op_notInG (X := X) (by omega)), fun H O d e x y P Q hq rx ry h => ?_⟩
    rcases in_ok hF H O d e x y (fun c => P (!c)) rx ry h with ⟨c, z, e1, e2, p⟩ | ⟨q, xs, e1, e2, e3, e4, p⟩ | ⟨a, o, e1, e2, p⟩
    · exact .inl (.inl ⟨c, z, e1, e2, hq _ p⟩)
    · exact .inl (.inr ⟨q, xs, e1, e2, e3, e4, hq _ p⟩)
    · exact .inr ⟨a, o, e1, e2, hq _ p⟩
/-! ### subscripts -/
theorem ix_dG (hu : X.A.units + 1 < cLine) : IxR X (fun x y H Q => ∃ a v, x = .ref a ∧ DGt X.K H a y (some v) ∧ Q v H) := by
  intro value slice pins s σ H x y v u Q I rx ry h hs
  obtain ⟨a, z, ex, g, q⟩ := h
  subst ex
  obtain rfl : v = Value.ref a := rx
  exact PyProof.Rows.tail_any (g_type I g) PySem.F.slot_dict_getitem.lookup (g_get hu I g ry fun w' s' I' rw' => ⟨z, H, I', rw', q⟩) hs
theorem atI_rep {F : Fk} {H : Hp} {O : AP1} {ds : List D} {vs : List V} {i : Int} {d : D} (h : RepL F H O ds vs) (e : atD ds i = some d) : ∃ v, atI vs i = some v ∧ Rep F H O d v := by
  have e' : atI ds i = some d := e
  unfold atI at e' ⊢
  rw [← h.len]
  cases q : ixN ds.length i with
  | none => rw [q] at e'; cases e'
  | some j =>
    rw [q] at e'
    exact h.get e'
theorem idx_ok {F : Fm} (hF : F.K = X.K) (hw : F.w = X.w) (hu : X.A.units + 64 < cLine) : ∃ r : R2, IxR X r ∧ ∀ (H : Hp) (O : AP1) (d e : D) (x y : V) (P : RV → Prop) (Q : VK),
    Hk F H O → RD F.toFk H O d x → RD F.toFk H O e y → idxW d e P → OpQ F H O P Q → r x y H Q := by
  refine ⟨_, ((ix_list (X := X)).or (ix_tup (X := X))).or ((ix_dG (X := X) (by omega)).or (ix_kdict (X := X))), ?_⟩
  intro H O d e x y P Q k rx ry h q
  unfold idxW at h
  cases hd : d.n with
  | tup ds =>
    rw [hd] at h
    cases e with
    | int j =>
      have e2 := ry.int; subst e2
      obtain ⟨a, vs, rfl, ha, hv⟩ := rx.tup hd
      obtain ⟨d, e1, p⟩ := h
      obtain ⟨v, e2, r⟩ := atI_rep hv e1
      exact .inl (.inr ⟨a, vs, j, v, rfl, rfl, by rw [← hF]; exact ha.sq, e2, q.same k p r⟩)
    | _ => exact h.elim
  | lst ds =>
    rw [hd] at h
    rw [n_ne hd (fun _ z => nomatch z)] at rx
    cases e with
    | int j =>
      have e2 := ry.int; subst e2
      obtain ⟨a, vs, rfl, ha, hv⟩ := rx.lst
      obtain ⟨d, e1, p⟩ := h
      obtain ⟨v, e2, r⟩ := atI_rep hv e1
      exact .inl (.inl ⟨a, vs, j, v, rfl, rfl, .inl ha, e2, q.same k p r⟩)
    | _ => exact h.elim
  | dK ks ds =>
    rw [hd] at h
    rw [n_ne hd (fun _ z => nomatch z)] at rx
    have h' : ∃ k' d, e.key = some k' ∧ lookA k' ks ds = some d ∧ P (.val d) := h
    obtain ⟨k', d, e1, e2, p⟩ := h'
    obtain ⟨a, vs, rfl, ha, hl, hv⟩ := rx.dK
    obtain ⟨v, e3, r⟩ := (lookV k' hv hl).1 d e2
    exact .inr (.inl ⟨a, v, rfl, .inl ⟨_, k', ha, rd_key e1 ry, e3.symm⟩, q.same k p r⟩)
  | dT ks ds =>
    rw [hd] at h
    rw [n_ne hd (fun _ z => nomatch z)] at rx
    have h' : ∃ k' d, e.n.tkey = some k' ∧ lookA k' ks ds = some d ∧ P (.val d) := h
    obtain ⟨k', d, e1, e2, p⟩ := h'
    obtain ⟨a, vs, rfl, ha, hl, hv⟩ := rx.dT
    obtain ⟨v, e3, r⟩ := (lookV k' hv hl).1 d e2
    obtain ⟨b, rfl, hb⟩ := rd_tkey e1 ry
    exact .inr (.inl ⟨a, v, rfl, .inr ⟨_, k', b, ha, rfl, by rw [← hF]; exact hb.sq, e3.symm⟩, q.same k p r⟩)
  | dC ks ds =>
    rw [hd] at h
    rw [n_ne hd (fun _ z => nomatch z)] at rx
    have h' : ∃ k' d, e.key = some k' ∧ lookA k' ks ds = some d ∧ P (.val d) := h
    obtain ⟨k', d, e1, e2, p⟩ := h'
    rcases rx with rx | ⟨_, o, _, eo, _⟩
    · unfold Rep at rx
      obtain ⟨a, vs, rfl, ha, hl, hv⟩ := rx
      obtain ⟨v, e3, r⟩ := (lookV k' hv hl).1 d e2
      have hm : (k', v) ∈ ks.zip vs := by
        unfold valV at e3
        obtain ⟨p, h1, h2⟩ := Option.map_eq_some_iff.mp e3
        have h3 := List.mem_of_find?_eq_some h1
        have h4 := List.find?_some h1
        have : p = (k', v) := by cases p; simp at h4 h2; simp [h4, h2]
        rw [← this]; exact h3
      obtain ⟨z, ez, hz⟩ := ha _ _ hm
      have ey := rd_key e1 ry
      subst ez
      exact .inr (.inr ⟨a, z, v, rfl, ey, by rw [← hF, ← hw]; exact hz, q.same k p r⟩)
    · cases o <;> simp [Ow.d] at eo
  | _ => rw [hd] at h; exact h.elim
theorem slc_ok {F : Fm} (hF : F.K = X.K) : ∃ r : V → Option Int → Option Int → Hp → VK → Prop, SlR X r ∧ ∀ (H : Hp) (O : AP1) (d : D) (x : V) (lo hi : Option Int) (P : RV → Prop) (Q : VK),
    Hk F H O → RD F.toFk H O d x → slcW d lo hi P → OpQ F H O P Q → r x lo hi H Q := by
  refine ⟨_, (sl_list (X := X)).or (sl_tupA (X := X)), ?_⟩
  intro H O d x lo hi P Q k rx h q
  unfold slcW at h
  cases hd : d.n with
  | tup ds =>
    rw [hd] at h
    have rx1 := rx.raw hd
    obtain ⟨a, vs, rfl, ha, hv⟩ := rx.tup hd
    have h : P (.val (cutR d ds lo hi)) := h
    unfold cutR at h
    rw [hv.len] at h
    refine .inr ⟨a, vs, rfl, by rw [← hF]; exact ha.sq, fun e => ?_, fun e p hp => ?_⟩
    · rw [if_pos e] at h
      exact q.same k h rx1
    · rw [if_neg e] at h
      exact q.tup k hp h (hv.cut lo hi)
  | lst ds =>
    rw [hd] at h
    rw [n_ne hd (fun _ z => nomatch z)] at rx
    obtain ⟨a, vs, rfl, ha, hv⟩ := rx.lst
    exact .inl ⟨a, vs, rfl, .inl ha, fun p hp => q.lst k hp h (hv.cut lo hi)⟩
  | _ => rw [hd] at h; exact h.elim
end
end EV
set_option linter.all false
set_option maxRecDepth 20000
set_option autoImplicit false
/-! Promises of defs (with the guards of the stack told), calls, the context. -/
namespace EV
open PySem PySem.Spec L2

/-- what a def promises, called where no repr is under way -/
structure FnG (P : Program) (w : World) (K : PySem.W.Frag) (mg : Str → Option Value) (base : Heap) (k : Nat) (f : Addr) (fd : FuncData) (ps : List Str) (sp : Sp) : Prop where
  len : ∀ vs H Q E, sp vs H Q E → vs.length = ps.length
  run : ∀ (A : Around) (outer : List PySem.Env) (s : Shared) (H : Hp) (args : Args) (us : List Value) (vs : List V) (Q : VK) (E : XK), Room k A → A.guards = some [] → Env0 P w K mg base A outer s H → BindsTo s fd args (ps.zip us) → Vals vs us → sp vs H Q E →
    codeAny (model P w) A (.call (.ref f) args) (CR (L2.CX P w) outer P w H s Q E) s
theorem FnG.imp {P : Program} {w : World} {K : PySem.W.Frag} {mg : Str → Option Value} {base : Heap} {k : Nat} {f : Addr} {fd : FuncData} {ps : List Str} {sp sp' : Sp} (F : FnG P w K mg base k f fd ps sp)
    (h : ∀ vs H Q E, sp' vs H Q E → sp vs H Q E) : FnG P w K mg base k f fd ps sp' := ⟨fun vs H Q E z => F.len _ _ _ _ (h _ _ _ _ z), fun A outer s H args us vs Q E hr hg he hb hv hs => F.run A outer s H args us vs Q E hr hg he hb hv (h _ _ _ _ hs)⟩
theorem FnG.mono {P : Program} {w : World} {K : PySem.W.Frag} {mg : Str → Option Value} {base : Heap} {j k : Nat} {f : Addr} {fd : FuncData} {ps : List Str} {sp : Sp} (F : FnG P w K mg base j f fd ps sp) (h : j ≤ k) : FnG P w K mg base k f fd ps sp :=
  ⟨F.len, fun A outer s H args us vs Q E hr => F.run A outer s H args us vs Q E (hr.mono h)⟩
theorem fnG_of {P : Program} {w : World} {K : PySem.W.Frag} {mg : Str → Option Value} {base : Heap} {k : Nat} {x qual : Str} {st : Stmt} {f : Addr} {fd : FuncData} {N ps : List Str} {sp : Sp} (F : Fun K x qual st f fd) (S : FnScope N ps (defScope st)) (len : ∀ vs H Q E, sp vs H Q E → vs.length = ps.length)
    (hbody : ∀ (cdv : Value) (A : Around) (outer : List PySem.Env) (s : Shared) (H : Hp) (vs : List V) (Q : VK) (E : XK), Room k (A.deeper (PyProof.Rows.envOfC qual (defScope st) s.heap.objs.size f cdv)) → A.guards = some [] → H s.heap.objs.size = none → vs.length = ps.length → sp vs H Q E →
      ∃ t, PSs (cxOf (L2.CX P w) P w K mg base N qual (defScope st) f cdv A outer s H E) (defBody st) t ∧ t { nx := fun _ H' => Q .non H', rt := Q } (start N vs) H) :
    FnG P w K mg base (k + 1) f fd ps sp := by
  obtain ⟨oc, od, kV, doc, pm, an, cdv, ct, osl, rfl, lk, hcd⟩ := F.ex
  refine ⟨len, fun A outer s H args us vs Q E hr hg e0 hb r hsp => ?_⟩
  have hl := len _ _ _ _ hsp
  have KX : K.In s.heap := e0.mod.kin.keeps fun b o e => (e0.bs b o e).1
  have hkind : ∀ y ∈ ps.zip us, (defScope st).names.lookup y.1 = some .local ∨ ((defScope st).names.lookup y.1 = some .cell ∧ ((cellsFrom (s.heap.objs.size + 1) (defScope st).names []).lookup y.1).isSome = true) := by
    intro y hy
    obtain ⟨n, v⟩ := y
    have hn := (List.of_mem_zip hy).1
    rcases S.par n hn with q | q
    · exact Or.inl q
    · exact Or.inr ⟨q, PySem.W.cellsFrom_some _ _ _ (Or.inl q)⟩
  refine codeAny_call_function (s := s) hr.depth (KX _ _ lk) rfl S.co S.gen rfl
    (PySem.W.codeRec_of KX hcd) (hb _ _ _ _ ?_)
  refine wpAny_newFunctionEnv_cells S.kind hkind fun env he s1 x => ?_
  subst he
  refine ⟨(e0.mod.nolimit.keeps fun b o e => (e0.bs b o e).1).keeps x.toInCall.keep, codeAny_func ?_⟩
  obtain ⟨t, ht, hq⟩ := hbody cdv A outer s H vs Q E (hr.deeper _) hg (e0.hok.fresh (Nat.le_refl _)) hl hsp
  have I : Inv (cxOf (L2.CX P w) P w K mg base N qual (defScope st) f cdv A outer s H E) [] (start N vs) H s1 := inv_start S hr.hd e0 hl r x
  have fin : ∀ {σ' : L2.St} {H' : Hp} {v : V} {u : Value} {s' : Shared}, Inv (cxOf (L2.CX P w) P w K mg base N qual (defScope st) f cdv A outer s H E) [] σ' H' s' → RelV v u → Q v H' → CE outer P w H s Q u s' :=
    fun {σ' H' v u s'} J rv q => ⟨v, H', J.os, J.bare, J.base, J.hok, rv, q⟩
  refine wpAny_mono (ht.run [] s1 (start N vs) H _ I hq) (fun fl s' hs => ?_) fun e s' hs => hs
  match fl, hs with
  | .ret u, ⟨v, σ', H', J, rv, q⟩ => exact fin J rv q
  | .next, ⟨σ', H', J, q⟩ => exact fin (v := V.non) (u := Value.none) J rfl q
  | .brk, ⟨_, _, _, q⟩ => exact False.elim q
  | .cont, ⟨_, _, _, q⟩ => exact False.elim q

/-! ### calls -/
/-- how the arguments come to the parameters: from the left, or the only one by its name -/
def BindOk (fd : FuncData) (ps : List Str) : Prop := (∀ (s : Shared) (us : List Value), us.length = ps.length → BindsTo s fd ⟨us, []⟩ (ps.zip us)) ∧ ∀ (n : Str), ps = [n] → ∀ (s : Shared) (u : Value), BindsTo s fd ⟨[], [(n, u)]⟩ [(n, u)]
def tCallG (sp : Sp) (W : WX) (t : TA) : TE := fun σ H Q => t σ H fun vs H1 => sp vs H1 Q fun cls d H' => W cls d σ H'
section
variable {X : Cx} {k : Nat} {f : Addr} {fd : FuncData} {ps : List Str} {sp : Sp} {W : WX} {x : Str} {p pos : Pos} {e : Expr} {es : List Expr} {t : TA}
theorem run_fnG {args : Args} {pins : List (Addr × Obj)} {σ : L2.St} {H : Hp} {s : Shared} {Q : VK} {us : List Value} {vs : List V} (F : FnG X.prog X.w X.K X.mg X.base k f fd ps sp) (hr : Room k X.A) (hg : X.A.guards = some []) (hb : BindsTo s fd args (ps.zip us)) (tk : Takes X W)
    (I : Inv X pins σ H s) (r : Vals vs us) (h : sp vs H Q fun cls d H' => W cls d σ H') : codeAny (model X.prog X.w) X.A (.call (.ref f) args) (fun r s' => match r with | .ok (.ret u) => EP X pins σ Q u s' | .ok _ => False | .error e => X.xe e s') s := by
  refine codeAny_mono (F.run X.A X.stack s H args us vs Q _ hr hg I.env0 hb r h) fun r s' hq => ?_
  match r, hq with
  | .error e, hq => exact passAt tk σ pins H s e s' I hq
  | .ok (.ret u), hq => exact I.after hq
  | .ok .next, hq => exact False.elim hq
  | .ok .brk, hq => exact False.elim hq
  | .ok .cont, hq => exact False.elim hq
theorem pe_callG (F : FnG X.prog X.w X.K X.mg X.base k f fd ps sp) (hr : Room k X.A) (hgd : X.A.guards = some []) (hg : Gl X x) (hm : X.mg x = some (.ref f)) (hk : PySem.W.keepIn X.K (.ref f) = true)
    (hb : ∀ (s : Shared) (us : List Value), us.length = ps.length → BindsTo s fd ⟨us, []⟩ (ps.zip us)) (tk : Takes X W)
    (ha : PA X (e :: es) t) (hdb : (x == ("__debug__" : Str)) = false) (he : starEach (e :: es) X.env = (false, eval e X.env) :: starEach es X.env) (hpl : (backTo pos (starEach es X.env)).any (·.1) = false) :
    PE X (.Call (.Name x p) (e :: es) [] pos) (tCallG sp W t) := by
  refine ⟨fun pins s σ H Q I h => ?_⟩
  refine wpAny_Call_Name_kw (ld_glob I hg hm ?_ hdb)
  refine PySem.W.callWith_K (h₀ := X.base) I.ok.mod.kin hk (thn (ha.run pos pins s σ H _ I h) fun us s1 ⟨vs, H1, I1, r, q⟩ => ⟨I1.kIn, ?_⟩) he hpl
  have hl2 : vs.length = ps.length := F.len _ _ _ _ q
  refine wpAny_call (codeAny_mono (run_fnG F hr hgd (hb s1 us (by rw [← r.length]; exact hl2)) tk I1 r q) fun r s' hq => ?_)
  match r, hq with
  | .error e, hq => exact hq
  | .ok (.ret u), hq => exact hq
  | .ok .next, hq => exact False.elim hq
  | .ok .brk, hq => exact False.elim hq
  | .ok .cont, hq => exact False.elim hq
/-- f(n = e) -/
theorem pe_callK {n : Str} {kp : Pos} {e1 : Expr} {t1 : TA} (F : FnG X.prog X.w X.K X.mg X.base k f fd [n] sp) (hr : Room k X.A) (hgd : X.A.guards = some []) (hg : Gl X x) (hm : X.mg x = some (.ref f)) (hk : PySem.W.keepIn X.K (.ref f) = true)
    (hb : ∀ (s : Shared) (u : Value), BindsTo s fd ⟨[], [(n, u)]⟩ [(n, u)]) (tk : Takes X W) (ha : PK X [⟨some n, e1, kp⟩] t1) (hdb : (x == ("__debug__" : Str)) = false)
    (hall : (backToKw pos (keywordEach [⟨some n, e1, kp⟩] X.env)).all (·.1.isSome) = true) (hks : (backToKw pos (keywordEach [⟨some n, e1, kp⟩] X.env)).filterMap (·.1) = [n])
    (hpl : ((backTo pos (starEach [] X.env)).any (·.1) || (backToKw pos (keywordEach [⟨some n, e1, kp⟩] X.env)).any (·.1.isNone)) = false) :
    PE X (.Call (.Name x p) [] [⟨some n, e1, kp⟩] pos) (tCallG sp W t1) := by
  refine ⟨fun pins s σ H Q I h => ?_⟩
  refine wpAny_Call_Name_kw (ld_glob I hg hm ?_ hdb)
  refine PySem.W.callWith_KW0 (h₀ := X.base) I.ok.mod.kin hk hall (thn (ha.run pos pins s σ H _ I h) fun us s1 ⟨vs, H1, I1, r, q⟩ => ⟨I1.kIn, ?_⟩) hpl
  rw [hks]
  have hl2 : vs.length = 1 := F.len _ _ _ _ q
  match us, (show us.length = 1 by rw [← r.length]; exact hl2) with
  | [u], _ =>
    refine wpAny_call (codeAny_mono (run_fnG (us := [u]) F hr hgd (hb s1 u) tk I1 r q) fun r s' hq => ?_)
    match r, hq with
    | .error e, hq => exact hq
    | .ok (.ret u), hq => exact hq
    | .ok .next, hq => exact False.elim hq
    | .ok .brk, hq => exact False.elim hq
    | .ok .cont, hq => exact False.elim hq
end
end EV
set_option linter.all false
set_option maxRecDepth 20000
set_option autoImplicit false
/-! One rule a construct. -/
namespace EV
open PySem PySem.Spec L2

def bltN : List Str := ["len", "isinstance", "int", "tuple", "list", "dict", "sorted", "set", "sum", "max", "min", "abs", "all", "any", "repr", "range", "enumerate", "zip", "str", "bool"]

/-! ### a def's promise -/
def ArgsAt (F : Fk) (H : Hp) (O : AP1) : List RV → List V → Prop
  | [], vs => vs = []
  | .val d :: rs, vs => ∃ v r, vs = v :: r ∧ Rep F H O d v ∧ ArgsAt F H O rs r
  | .own o :: rs, vs => ∃ a r, vs = .ref a :: r ∧ O a ∧ OwAt F H O a o ∧ ArgsAt F H O rs r
def ownA : List RV → List V → List Addr
  | .own _ :: rs, .ref a :: vs => a :: ownA rs vs
  | _ :: rs, _ :: vs => ownA rs vs
  | _, _ => []
def OutsAt (F : Fk) (H : Hp) (O : AP1) : List Addr → List Ow → Prop
  | [], os => os = []
  | a :: as, os => ∃ o r, os = o :: r ∧ O a ∧ OwAt F H O a o ∧ OutsAt F H O as r
def ResAt (F : Fk) (Hs : Hp) (r : RV) (v : V) (H' : Hp) (O' : AP1) : Prop := match r with
  | .val d => Rep F H' O' d v
  | .own o => ∃ a, v = .ref a ∧ O' a ∧ Hs a = none ∧ OwAt F H' O' a o
def spF (T : Tb) (F : Fk) (i : Nat) : Sp := fun vs H Q E => ∃ (rs : List RV) (O : AP1) (R : RV → List Ow → Prop) (Xc : Nat → List D → Prop),
  ArgsAt F H O rs vs ∧ (ownA rs vs).Nodup ∧ (∀ a, O a → OAt H a) ∧ T.S i rs R Xc ∧
  (∀ r outs v H' O', R r outs → Stp (· ∈ ownA rs vs) H O H' O' → (∀ a, O' a → OAt H' a) → ResAt F H r v H' O' → OutsAt F H' O' (ownA rs vs) outs → Q v H') ∧
  (∀ c ps cls d H' O', Xc c ps → Stp (· ∈ ownA rs vs) H O H' O' → (∀ a, O' a → OAt H' a) → ExRep T F c ps cls d H' O' → E cls d H')

/-- what holds of the module, for calls at a level -/
structure Glo (T : Tb) (F : Fk) (FN : List (Str × List Str)) (P : Program) (w : World) (K : PySem.W.Frag) (mg : Str → Option Value) (base : Heap) (k : Nat) : Prop where
  eK : F.K = K
  ew : F.w = w
  glob : ∀ g d, T.G g = some d → ∃ u v, mg g = some u ∧ RelV v u ∧ ∀ H O, Rep F H O d v
  nob : ∀ x ∈ bltN, mg x = none
  call : ∀ i nm ps, FN[i]? = some (nm, ps) → ∃ f fd, mg nm = some (.ref f) ∧ PySem.W.keepIn K (.ref f) = true ∧ BindOk fd ps ∧ FnG P w K mg base k f fd ps (spF T F i)
/-- a body, or a comprehension's block -/
structure Cxt (T : Tb) (F : Fm) (FN : List (Str × List Str)) (N : List Str) (sc : Scope) (X : Cx) (Wx : WX) : Prop where
  eN : X.N = N
  nd : N.Nodup
  es : X.env.scope = sc
  glo : ∃ k, Room k X.A ∧ Glo T F.toFk FN X.prog X.w X.K X.mg X.base k
  calm : X.calm = true
  gd : X.A.guards = some []
  tk : Takes X Wx
  po : PassesOwn (model X.prog X.w) X.A X.env X.xe
section
variable {T : Tb} {F : Fm} {FN : List (Str × List Str)} {N : List Str} {sc : Scope} {X : Cx} {Wx : WX}
theorem Cxt.K (C : Cxt T F FN N sc X Wx) : F.K = X.K := let ⟨_, _, g⟩ := C.glo; g.eK
theorem Cxt.w (C : Cxt T F FN N sc X Wx) : F.w = X.w := let ⟨_, _, g⟩ := C.glo; g.ew
theorem Cxt.u (C : Cxt T F FN N sc X Wx) : X.A.units + 64 < cLine := let ⟨_, r, _⟩ := C.glo; r.units
theorem Cxt.nob (C : Cxt T F FN N sc X Wx) {x : Str} (h : x ∈ bltN) : X.mg x = none := let ⟨_, _, g⟩ := C.glo; g.nob x h

/-! names, constants -/
theorem e_var {i : Nat} {x : Str} {pos : Pos} (h : PE X (.Name x pos) (tVar i)) :
    PE X (.Name x pos) (tE T F Wx fun ρ P _ => varV i ρ P) := by
  refine PE.imp h fun σ H Q ⟨ρ, O, P, Xp, R, w, q, hX⟩ => ?_
  have w : varV i ρ P := w
  unfold varV at w
  cases e : get ρ i with
  | none => rw [e] at w; exact w.elim
  | some s =>
    rw [e] at w
    cases s with
    | val d =>
      obtain ⟨v, ev, r⟩ := R.sl i _ e
      exact ⟨v, ev, q _ ρ v H O w (.refl R) r⟩
    | own o =>
      obtain ⟨a, ev, m, r⟩ := R.freeze e
      exact ⟨_, ev, q _ _ _ H _ w m r⟩
    | par k o => exact w.elim
theorem p_var {i : Nat} {x : Str} {pos : Pos} {w : WE} (hv : w.vi = some i) (h : PE X (.Name x pos) (tVar i)) : PE X (.Name x pos) (tP T F Wx w) := by
  refine PE.imp h fun σ H Q ⟨ρ, O, P, Xp, R, w', q, hX⟩ => ?_
  unfold peek at w'
  rw [hv] at w'
  have w2 : peekV i ρ P := w'
  unfold peekV at w2
  cases e : get ρ i with
  | none => rw [e] at w2; exact w2.elim
  | some s =>
    rw [e] at w2
    obtain ⟨v, ev, r⟩ := R.sl i _ e
    cases s with
    | val d => exact ⟨v, ev, q _ ρ v H O w2 trivial (.refl R) r⟩
    | own o => exact ⟨v, ev, q _ ρ v H O w2 ⟨_, e, rfl⟩ (.refl R) ev⟩
    | par k o => exact ⟨v, ev, q _ ρ v H O w2 ⟨_, e, rfl⟩ (.refl R) ev⟩
theorem p_of {e : Expr} {w : WE} (hv : w.vi = none) (h : PE X e (tE T F Wx w.v)) : PE X e (tP T F Wx w) := by
  refine PE.imp h fun σ H Q ⟨ρ, O, P, Xp, R, w', q, hX⟩ => ?_
  unfold peek at w'
  rw [hv] at w'
  exact ⟨ρ, O, _, Xp, R, w', fun r ρ' v H' O' p m rr => q _ ρ' v H' O' p trivial m rr, hX⟩
theorem e_const {e : Expr} {d : D} {v : V} (h : PE X e (tC v)) (r : ∀ H O, Rep F.toFk H O d v) : PE X e (tE T F Wx fun ρ P _ => P (.val d) ρ) :=
  PE.imp h fun σ H Q ⟨ρ, O, P, Xp, R, w, q, hX⟩ => q _ ρ v H O w (.refl R) (r H O)

/-! operands -/
/-- two operands, then an operation by values -/
theorem bin_tops {wa wb : WE} {op : D → D → (RV → Prop) → Prop} {r : R2}
    (hr : ∀ (H : Hp) (O : AP1) (d e : D) (x y : V) (P : RV → Prop) (Q : VK), Hk F H O → RD F.toFk H O d x → RD F.toFk H O e y → op d e P → OpQ F H O P Q → r x y H Q)
    (σ : L2.St) (H : Hp) (Q : VK) (h : tE T F Wx (fun ρ P X => peek wa ρ (fun p ρ1 => peek wb ρ1 (fun q ρ2 => p.still ρ2 ∧ op p.d q.d fun r => P r ρ2) X) X) σ H Q) :
    tOp r (tP T F Wx wa) (tP T F Wx wb) σ H Q := by
  obtain ⟨ρ, O, P, Xp, R, w, q, hX⟩ := h
  refine ⟨ρ, O, _, Xp, R, w, fun p ρ1 x H1 O1 hp sp m1 a1 => ?_, hX⟩
  refine ⟨ρ1, O1, _, Xp, m1.rel, hp, fun p2 ρ2 y H2 O2 hp2 sp2 m2 a2 => ?_, hX.mv R m1⟩
  obtain ⟨st, ho⟩ := hp2
  have m := Mv.trans R m1 m2
  have d1 : RD F.toFk H2 O2 p.d x := a1.rd m1.rel (m1.old R) m2 st
  have d2 : RD F.toFk H2 O2 p2.d y := a2.rd m2.rel (m2.old m1.rel) (.refl m2.rel) sp2
  refine hr H2 O2 _ _ x y _ Q m2.rel.hk d1 d2 ho fun r v H3 O3 hq g rr => ?_
  refine q r ρ2 v H3 O3 hq (Mv.trans R m (Mv.grow m2.rel g)) (rr.back fun a ha => ?_)
  exact m.stp.al a ha
theorem e_bin {pa pb : Expr} {pos : Pos} {wa wb : WE} {op : BOp} (C : Cxt T F FN N sc X Wx) (ha : PE X pa (tP T F Wx wa)) (hb : PE X pb (tP T F Wx wb)) :
    PE X (.BinOp pa (opB op) pb pos) (tE T F Wx fun ρ P X => peek wa ρ (fun p ρ1 => peek wb ρ1 (fun q ρ2 => p.still ρ2 ∧ binW op p.d q.d fun r => P r ρ2) X) X) := by
  obtain ⟨r, hr, hs⟩ := bin_ok (X := X) (F := F) C.K op
  exact PE.imp (pe_op hr ha hb) (bin_tops hs)
theorem cmp_tops {wa wb : WE} {op : COp} {r : R2}
    (hr : ∀ (H : Hp) (O : AP1) (d e : D) (x y : V) (P : Bool → Prop) (Q : VK), (∀ c, P c → Q (.bl c) H) → RD F.toFk H O d x → RD F.toFk H O e y → cmpW op d e P → r x y H Q)
    {σ : L2.St} {H : Hp} {O : AP1} {ρ : Env} {Q : VK} {P : Bool → Env → Prop} {Xp : XP} (R : Rel F ρ σ H O)
    (w : peek wa ρ (fun p ρ1 => peek wb ρ1 (fun q ρ2 => p.still ρ2 ∧ cmpW op p.d q.d fun c => P c ρ2) Xp) Xp)
    (q : ∀ c ρ' H' O', P c ρ' → Mv F ρ σ H O ρ' H' O' → Q (.bl c) H') (hX : XOk T F Wx ρ σ H O Xp) :
    tOp r (tP T F Wx wa) (tP T F Wx wb) σ H Q := by
  refine ⟨ρ, O, _, Xp, R, w, fun p ρ1 x H1 O1 hp sp m1 a1 => ?_, hX⟩
  refine ⟨ρ1, O1, _, Xp, m1.rel, hp, fun p2 ρ2 y H2 O2 hp2 sp2 m2 a2 => ?_, hX.mv R m1⟩
  obtain ⟨st, ho⟩ := hp2
  have d1 : RD F.toFk H2 O2 p.d x := a1.rd m1.rel (m1.old R) m2 st
  have d2 : RD F.toFk H2 O2 p2.d y := a2.rd m2.rel (m2.old m1.rel) (.refl m2.rel) sp2
  exact hr H2 O2 _ _ x y _ _ (fun c hc => q c ρ2 H2 O2 hc (Mv.trans R m1 m2)) d1 d2 ho
theorem rr_bl {Hs H : Hp} {O : AP1} {c : Bool} : RR F Hs (.val (.bl c)) (.bl c) H O := by unfold RR Rep; rfl
def cmpT (op : COp) (wa wb : WE) : Env → (Bool → Env → Prop) → XP → Prop := fun ρ P X => peek wa ρ (fun p ρ1 => peek wb ρ1 (fun q ρ2 => p.still ρ2 ∧ cmpW op p.d q.d fun c => P c ρ2) X) X
theorem e_cmp {pa pb : Expr} {pos : Pos} {wa wb : WE} {op : COp} (C : Cxt T F FN N sc X Wx) (ha : PE X pa (tP T F Wx wa)) (hb : PE X pb (tP T F Wx wb)) (hm : behindInMarks (opC op) pb = false) :
    PE X (.Compare pa [opC op] [pb] pos) (tE T F Wx fun ρ P X => cmpT op wa wb ρ (fun b ρ' => P (.val (.bl b)) ρ') X) ∧ PT X (.Compare pa [opC op] [pb] pos) (tT T F Wx (cmpT op wa wb)) := by
  obtain ⟨r, hr, hs⟩ := cmp_ok (X := X) (F := F.toFk) C.K C.u op
  refine ⟨PE.imp (pe_cmpR hr ha hb hm) fun σ H Q ⟨ρ, O, P, Xp, R, w, q, hX⟩ => ?_, PT.imp (pt_cmpR hr ha hb hm) fun σ H Q ⟨ρ, O, P, Xp, R, w, q, hX⟩ => ?_⟩
  · exact cmp_tops hs R w (fun c ρ' H' O' hp m => q _ ρ' _ H' O' hp m rr_bl) hX
  · exact cmp_tops hs R w (fun c ρ' H' O' hp m => ⟨c, rfl, q c ρ' H' O' hp m⟩) hX
/-! chains -/
def chnT (op op' : COp) (wa wb wc : WE) : Env → (Bool → Env → Prop) → XP → Prop := fun ρ P X => wa.v ρ (fun p ρ1 => wb.v ρ1 (fun q ρ2 => cmpW op p.d q.d fun c =>
      if c = true then wc.v ρ2 (fun r ρ3 => cmpW op' q.d r.d fun c' => P c' ρ3) X else P false ρ2) X) X
/-- a value, later -/
theorem RR.later {ρ1 ρ2 : Env} {σ : L2.St} {Hs H1 H2 : Hp} {O1 O2 : AP1} {r : RV} {v : V} (h : RR F Hs r v H1 O1) (R1 : Rel F ρ1 σ H1 O1) (old : ∀ x, Mo ρ1 σ x → Hs x ≠ none) (m : Mv F ρ1 σ H1 O1 ρ2 H2 O2) : RD F.toFk H2 O2 r.d v :=
  PvAt.rd (p := .rv r) h R1 old m trivial
theorem chn_tops {wa wb wc : WE} {op op' : COp} {r r' : R2}
    (hr : ∀ (H : Hp) (O : AP1) (d e : D) (x y : V) (P : Bool → Prop) (Q : VK), (∀ c, P c → Q (.bl c) H) → RD F.toFk H O d x → RD F.toFk H O e y → cmpW op d e P → r x y H Q)
    (hr' : ∀ (H : Hp) (O : AP1) (d e : D) (x y : V) (P : Bool → Prop) (Q : VK), (∀ c, P c → Q (.bl c) H) → RD F.toFk H O d x → RD F.toFk H O e y → cmpW op' d e P → r' x y H Q)
    {σ : L2.St} {H : Hp} {O : AP1} {ρ : Env} {Q : VK} {P : Bool → Env → Prop} {Xp : XP} (R : Rel F ρ σ H O)
    (w : chnT op op' wa wb wc ρ P Xp)
    (q : ∀ c ρ' H' O', P c ρ' → Mv F ρ σ H O ρ' H' O' → Q (.bl c) H') (hX : XOk T F Wx ρ σ H O Xp) :
    tChain r r' (tE T F Wx wa.v) (tE T F Wx wb.v) (tE T F Wx wc.v) σ H Q := by
  refine ⟨ρ, O, _, Xp, R, w, fun p ρ1 x H1 O1 hp m1 a1 => ?_, hX⟩
  refine ⟨ρ1, O1, _, Xp, m1.rel, hp, fun p2 ρ2 y H2 O2 hp2 m2 a2 => ?_, hX.mv R m1⟩
  have m := Mv.trans R m1 m2
  have d1 : RD F.toFk H2 O2 p.d x := a1.later m1.rel (m1.old R) m2
  have d2 : RD F.toFk H2 O2 p2.d y := a2.later m2.rel (m2.old m1.rel) (.refl m2.rel)
  refine hr H2 O2 _ _ x y _ _ (fun c hc => ⟨c, rfl, ?_⟩) d1 d2 hp2
  cases c with
  | false => exact q false ρ2 H2 O2 hc m
  | true =>
    refine ⟨ρ2, O2, _, Xp, m2.rel, hc, fun p3 ρ3 z H3 O3 hp3 m3 a3 => ?_, hX.mv R m⟩
    have d2' : RD F.toFk H3 O3 p2.d y := a2.later m2.rel (m2.old m1.rel) m3
    have d3 : RD F.toFk H3 O3 p3.d z := a3.later m3.rel (m3.old m2.rel) (.refl m3.rel)
    exact hr' H3 O3 _ _ y z _ _ (fun c' hc' => q c' ρ3 H3 O3 hc' (Mv.trans R m m3)) d2' d3 hp3
theorem e_chn {pa pb pc : Expr} {pos : Pos} {wa wb wc : WE} {op op' : COp} (C : Cxt T F FN N sc X Wx) (ha : PE X pa (tE T F Wx wa.v)) (hb : PE X pb (tE T F Wx wb.v)) (hc : PE X pc (tE T F Wx wc.v)) (hm : behindInMarks (opC op') pc = false) :
    PE X (.Compare pa [opC op, opC op'] [pb, pc] pos) (tE T F Wx fun ρ P X => chnT op op' wa wb wc ρ (fun b ρ' => P (.val (.bl b)) ρ') X) ∧ PT X (.Compare pa [opC op, opC op'] [pb, pc] pos) (tT T F Wx (chnT op op' wa wb wc)) := by
  obtain ⟨r, hr, hs⟩ := cmp_ok (X := X) (F := F.toFk) C.K C.u op
  obtain ⟨r', hr', hs'⟩ := cmp_ok (X := X) (F := F.toFk) C.K C.u op'
  refine ⟨PE.imp (pe_chain hr hr' ha hb hc hm) fun σ H Q ⟨ρ, O, P, Xp, R, w, q, hX⟩ => ?_, PT.imp (pt_chain hr hr' ha hb hc hm) fun σ H Q ⟨ρ, O, P, Xp, R, w, q, hX⟩ => ?_⟩
  · exact chn_tops hs hs' R w (fun c ρ' H' O' hp m => q _ ρ' _ H' O' hp m rr_bl) hX
  · exact chn_tops hs hs' R w (fun c ρ' H' O' hp m => ⟨c, rfl, q c ρ' H' O' hp m⟩) hX
end
end EV
set_option linter.all false
set_option maxRecDepth 20000
set_option autoImplicit false
/-! More rules: chains of three, and, or, not, subscripts, displays, built-ins. -/
namespace EV
open PySem PySem.Spec L2
section
variable {X : Cx} {a b c d : Expr} {ta tb tc td : TE} {pos : Pos}
def tChain3 (r r' r'' : R2) (ta tb tc td : TE) : TE := fun σ H Q => ta σ H fun x H1 => tb σ H1 fun y H2 => r x y H2 fun z H3 => ∃ k, z = .bl k ∧
  (if k = true then tc σ H3 fun w' H4 => r' y w' H4 (fun z' H5 => ∃ k', z' = .bl k' ∧ if k' = true then td σ H5 fun w2 H6 => r'' w' w2 H6 Q else Q (.bl false) H5) else Q (.bl false) H3)
theorem pe_chain3 {op op' op'' : CmpOp} {r r' r'' : R2} (ho : OpR X (compareOp op) r) (ho' : OpR X (compareOp op') r') (ho'' : OpR X (compareOp op'') r'') (ha : PE X a ta) (hb : PE X b tb) (hc : PE X c tc) (hd : PE X d td)
    (hm : lastMarks [op, op', op''] [b, c, d] = false) : PE X (.Compare a [op, op', op''] [b, c, d] pos) (tChain3 r r' r'' ta tb tc td) := by
  refine ⟨fun pins s σ H Q I h => ?_⟩
  refine PyProof.Rows.Compare_chain (thn (ha.run pins s σ H _ I h) fun v s1 ⟨x, H1, I1, r1, q1⟩ => PyProof.Rows.chain_link (thn (hb.run pins s1 σ H1 _ I1 q1) fun u s2 ⟨y, H2, I2, r2, q2⟩ =>
    thn (ho pins s2 σ H2 x y v u _ I2 r1 r2 q2) fun d s3 ⟨z, H3, I3, r3, k, e, q3⟩ => ?_)) hm
  subst e
  cases r3
  refine wpAny_truthy_bool ?_
  cases k with
  | false => exact PyProof.Rows.ite_ff ⟨.bl false, H3, I3, rfl, q3⟩
  | true =>
    refine PyProof.Rows.ite_tt (PyProof.Rows.chain_link (thn (hc.run pins s3 σ H3 _ I3 q3) fun u4 s4 ⟨y4, H4, I4, r4, q4⟩ =>
      thn (ho' pins s4 σ H4 y y4 u u4 _ I4 r2 r4 q4) fun d s5 ⟨z, H5, I5, r5, k, e, q5⟩ => ?_))
    subst e
    cases r5
    refine wpAny_truthy_bool ?_
    cases k with
    | false => exact PyProof.Rows.ite_ff ⟨.bl false, H5, I5, rfl, q5⟩
    | true => exact PyProof.Rows.ite_tt (PyProof.Rows.chain_last (thn (hd.run pins s5 σ H5 _ I5 q5) fun w' s6 ⟨z', H6, I6, r6, q6⟩ => ho'' pins s6 σ H6 y4 z' u4 w' Q I6 r4 r6 q6))
theorem pt_chain3 {op op' op'' : CmpOp} {r r' r'' : R2} (ho : OpR X (compareOp op) r) (ho' : OpR X (compareOp op') r') (ho'' : OpR X (compareOp op'') r'') (ha : PE X a ta) (hb : PE X b tb) (hc : PE X c tc) (hd : PE X d td)
    (hm : lastMarks [op, op', op''] [b, c, d] = false) : PT X (.Compare a [op, op', op''] [b, c, d] pos) (tTest (tChain3 r r' r'' ta tb tc td)) := by
  refine ⟨fun pins s σ H Q I h => ?_⟩
  refine PyProof.Rows.isTrue_chain (thn (ha.run pins s σ H _ I h) fun v s1 ⟨x, H1, I1, r1, q1⟩ => PyProof.Rows.test_link (thn (hb.run pins s1 σ H1 _ I1 q1) fun u s2 ⟨y, H2, I2, r2, q2⟩ =>
    thn (ho pins s2 σ H2 x y v u _ I2 r1 r2 q2) fun d s3 ⟨z, H3, I3, r3, k, e, q3⟩ => ?_)) hm
  subst e
  cases r3
  refine wpAny_truthy_bool ?_
  cases k with
  | false =>
    obtain ⟨k', e', q'⟩ := q3
    cases e'
    exact PyProof.Rows.ite_ff ⟨H3, I3, q'⟩
  | true =>
    refine PyProof.Rows.ite_tt (PyProof.Rows.test_link (thn (hc.run pins s3 σ H3 _ I3 q3) fun u4 s4 ⟨y4, H4, I4, r4, q4⟩ =>
      thn (ho' pins s4 σ H4 y y4 u u4 _ I4 r2 r4 q4) fun d s5 ⟨z, H5, I5, r5, k, e, q5⟩ => ?_))
    subst e
    cases r5
    refine wpAny_truthy_bool ?_
    cases k with
    | false =>
      obtain ⟨k', e', q'⟩ := q5
      cases e'
      exact PyProof.Rows.ite_ff ⟨H5, I5, q'⟩
    | true =>
      refine PyProof.Rows.ite_tt (PyProof.Rows.test_last (thn (hd.run pins s5 σ H5 _ I5 q5) fun w' s6 ⟨z', H6, I6, r6, q6⟩ => thn (ho'' pins s6 σ H6 y4 z' u4 w' _ I6 r4 r6 q6) fun d' s7 ⟨z2, H7, I7, r7, k2, e2, q7⟩ => ?_))
      subst e2
      cases r7
      exact wpAny_truthy_bool ⟨H7, I7, q7⟩
end
section
variable {T : Tb} {F : Fm} {FN : List (Str × List Str)} {N : List Str} {sc : Scope} {X : Cx} {Wx : WX}
def chn3T (op op' op'' : COp) (wa wb wc wd : WE) : Env → (Bool → Env → Prop) → XP → Prop := fun ρ P X => wa.v ρ (fun p ρ1 => wb.v ρ1 (fun q ρ2 => cmpW op p.d q.d fun c =>
      if c = true then wc.v ρ2 (fun r ρ3 => cmpW op' q.d r.d fun c' =>
        if c' = true then wd.v ρ3 (fun u ρ4 => cmpW op'' r.d u.d fun c'' => P c'' ρ4) X else P false ρ3) X else P false ρ2) X) X
theorem chn3_tops {wa wb wc wd : WE} {op op' op'' : COp} {r r' r'' : R2}
    (hr : ∀ (H : Hp) (O : AP1) (d e : D) (x y : V) (P : Bool → Prop) (Q : VK), (∀ c, P c → Q (.bl c) H) → RD F.toFk H O d x → RD F.toFk H O e y → cmpW op d e P → r x y H Q)
    (hr' : ∀ (H : Hp) (O : AP1) (d e : D) (x y : V) (P : Bool → Prop) (Q : VK), (∀ c, P c → Q (.bl c) H) → RD F.toFk H O d x → RD F.toFk H O e y → cmpW op' d e P → r' x y H Q)
    (hr'' : ∀ (H : Hp) (O : AP1) (d e : D) (x y : V) (P : Bool → Prop) (Q : VK), (∀ c, P c → Q (.bl c) H) → RD F.toFk H O d x → RD F.toFk H O e y → cmpW op'' d e P → r'' x y H Q)
    {σ : L2.St} {H : Hp} {O : AP1} {ρ : Env} {Q : VK} {P : Bool → Env → Prop} {Xp : XP} (R : Rel F ρ σ H O)
    (w : chn3T op op' op'' wa wb wc wd ρ P Xp)
    (q : ∀ c ρ' H' O', P c ρ' → Mv F ρ σ H O ρ' H' O' → Q (.bl c) H') (hX : XOk T F Wx ρ σ H O Xp) :
    tChain3 r r' r'' (tE T F Wx wa.v) (tE T F Wx wb.v) (tE T F Wx wc.v) (tE T F Wx wd.v) σ H Q := by
  refine ⟨ρ, O, _, Xp, R, w, fun p ρ1 x H1 O1 hp m1 a1 => ?_, hX⟩
  refine ⟨ρ1, O1, _, Xp, m1.rel, hp, fun p2 ρ2 y H2 O2 hp2 m2 a2 => ?_, hX.mv R m1⟩
  have m := Mv.trans R m1 m2
  have d1 : RD F.toFk H2 O2 p.d x := a1.later m1.rel (m1.old R) m2
  have d2 : RD F.toFk H2 O2 p2.d y := a2.later m2.rel (m2.old m1.rel) (.refl m2.rel)
  refine hr H2 O2 _ _ x y _ _ (fun c hc => ⟨c, rfl, ?_⟩) d1 d2 hp2
  cases c with
  | false => exact q false ρ2 H2 O2 hc m
  | true =>
    refine ⟨ρ2, O2, _, Xp, m2.rel, hc, fun p3 ρ3 z H3 O3 hp3 m3 a3 => ?_, hX.mv R m⟩
    have mm := Mv.trans R m m3
    have d2' : RD F.toFk H3 O3 p2.d y := a2.later m2.rel (m2.old m1.rel) m3
    have d3 : RD F.toFk H3 O3 p3.d z := a3.later m3.rel (m3.old m2.rel) (.refl m3.rel)
    refine hr' H3 O3 _ _ y z _ _ (fun c' hc' => ⟨c', rfl, ?_⟩) d2' d3 hp3
    cases c' with
    | false => exact q false ρ3 H3 O3 hc' mm
    | true =>
      refine ⟨ρ3, O3, _, Xp, m3.rel, hc', fun p4 ρ4 z4 H4 O4 hp4 m4 a4 => ?_, hX.mv R mm⟩
      have d3' : RD F.toFk H4 O4 p3.d z := a3.later m3.rel (m3.old m2.rel) m4
      have d4 : RD F.toFk H4 O4 p4.d z4 := a4.later m4.rel (m4.old m3.rel) (.refl m4.rel)
      exact hr'' H4 O4 _ _ z z4 _ _ (fun c' hc' => q c' ρ4 H4 O4 hc' (Mv.trans R mm m4)) d3' d4 hp4
theorem e_chn3 {pa pb pc pd : Expr} {pos : Pos} {wa wb wc wd : WE} {op op' op'' : COp} (C : Cxt T F FN N sc X Wx) (ha : PE X pa (tE T F Wx wa.v)) (hb : PE X pb (tE T F Wx wb.v)) (hc : PE X pc (tE T F Wx wc.v)) (hd : PE X pd (tE T F Wx wd.v)) (hm : behindInMarks (opC op'') pd = false) :
    PE X (.Compare pa [opC op, opC op', opC op''] [pb, pc, pd] pos) (tE T F Wx fun ρ P X => chn3T op op' op'' wa wb wc wd ρ (fun b ρ' => P (.val (.bl b)) ρ') X) ∧ PT X (.Compare pa [opC op, opC op', opC op''] [pb, pc, pd] pos) (tT T F Wx (chn3T op op' op'' wa wb wc wd)) := by
  obtain ⟨r, hr, hs⟩ := cmp_ok (X := X) (F := F.toFk) C.K C.u op
  obtain ⟨r', hr', hs'⟩ := cmp_ok (X := X) (F := F.toFk) C.K C.u op'
  obtain ⟨r'', hr'', hs''⟩ := cmp_ok (X := X) (F := F.toFk) C.K C.u op''
  refine ⟨PE.imp (pe_chain3 hr hr' hr'' ha hb hc hd hm) fun σ H Q ⟨ρ, O, P, Xp, R, w, q, hX⟩ => ?_, PT.imp (pt_chain3 hr hr' hr'' ha hb hc hd hm) fun σ H Q ⟨ρ, O, P, Xp, R, w, q, hX⟩ => ?_⟩
  · exact chn3_tops hs hs' hs'' R w (fun c ρ' H' O' hp m => q _ ρ' _ H' O' hp m rr_bl) hX
  · exact chn3_tops hs hs' hs'' R w (fun c ρ' H' O' hp m => ⟨c, rfl, q c ρ' H' O' hp m⟩) hX

/-! and, or, not -/
theorem rr_is_bl {Hs H : Hp} {O : AP1} {c : Bool} {v : V} (h : RR F Hs (.val (.bl c)) v H O) : v = .bl c := by unfold RR Rep at h; exact h
theorem e_and {pa pb : Expr} {rest : List Expr} {pos : Pos} {wa wb : WE} (ha : PE X pa (tE T F Wx wa.v)) (hb : PE X (.BoolOp .And (pb :: rest) pos) (tE T F Wx wb.v)) :
    PE X (.BoolOp .And (pa :: pb :: rest) pos) (tE T F Wx fun ρ P X => wa.v ρ (fun r ρ1 => ∃ c, r = .val (.bl c) ∧ if c = true then wb.v ρ1 P X else P (.val (.bl false)) ρ1) X) := by
  refine PE.imp (pe_and ha hb) fun σ H Q ⟨ρ, O, P, Xp, R, w, q, hX⟩ => ?_
  refine ⟨ρ, O, _, Xp, R, w, fun r ρ1 v H1 O1 hp m1 a1 => ?_, hX⟩
  obtain ⟨c, e, hp⟩ := hp
  subst e
  refine ⟨c, rr_is_bl a1, ?_⟩
  cases c with
  | false => exact q _ ρ1 _ H1 O1 hp m1 rr_bl
  | true => exact ⟨ρ1, O1, _, Xp, m1.rel, hp, fun r ρ2 v H2 O2 h2 m2 a2 => q r ρ2 v H2 O2 h2 (Mv.trans R m1 m2) (a2.back m1.stp.al), hX.mv R m1⟩
theorem e_or {pa pb : Expr} {rest : List Expr} {pos : Pos} {wa wb : WE} (ha : PE X pa (tE T F Wx wa.v)) (hb : PE X (.BoolOp .Or (pb :: rest) pos) (tE T F Wx wb.v)) :
    PE X (.BoolOp .Or (pa :: pb :: rest) pos) (tE T F Wx fun ρ P X => wa.v ρ (fun r ρ1 => ∃ c, r = .val (.bl c) ∧ if c = true then P (.val (.bl true)) ρ1 else wb.v ρ1 P X) X) := by
  refine PE.imp (pe_or ha hb) fun σ H Q ⟨ρ, O, P, Xp, R, w, q, hX⟩ => ?_
  refine ⟨ρ, O, _, Xp, R, w, fun r ρ1 v H1 O1 hp m1 a1 => ?_, hX⟩
  obtain ⟨c, e, hp⟩ := hp
  subst e
  refine ⟨c, rr_is_bl a1, ?_⟩
  cases c with
  | true => exact q _ ρ1 _ H1 O1 hp m1 rr_bl
  | false => exact ⟨ρ1, O1, _, Xp, m1.rel, hp, fun r ρ2 v H2 O2 h2 m2 a2 => q r ρ2 v H2 O2 h2 (Mv.trans R m1 m2) (a2.back m1.stp.al), hX.mv R m1⟩
theorem e_not {pa : Expr} {pos : Pos} {wa : WE} (ha : PE X pa (tE T F Wx wa.v)) :
    PE X (.UnaryOp .Not pa pos) (tE T F Wx fun ρ P X => wa.v ρ (fun r ρ1 => ∃ c, r = .val (.bl c) ∧ P (.val (.bl (!c))) ρ1) X) := by
  refine PE.imp (pe_not ha) fun σ H Q ⟨ρ, O, P, Xp, R, w, q, hX⟩ => ?_
  refine ⟨ρ, O, _, Xp, R, w, fun r ρ1 v H1 O1 hp m1 a1 => ?_, hX⟩
  obtain ⟨c, e, hp⟩ := hp
  subst e
  exact ⟨c, rr_is_bl a1, q _ ρ1 _ H1 O1 hp m1 rr_bl⟩
theorem t_and {pa pb : Expr} {rest : List Expr} {pos : Pos} {wa wb : WE} (ha : PT X pa (tT T F Wx wa.t)) (hb : PW X (.BoolOp .And (pb :: rest) pos) (tT T F Wx wb.t)) :
    PW X (.BoolOp .And (pa :: pb :: rest) pos) (tT T F Wx fun ρ P X => wa.t ρ (fun c ρ1 => if c = true then wb.t ρ1 P X else P false ρ1) X) := by
  refine PW.imp (pw_and ha hb) fun σ H Q ⟨ρ, O, P, Xp, R, w, q, hX⟩ => ?_
  refine ⟨ρ, O, _, Xp, R, w, fun c ρ1 H1 O1 hp m1 => ?_, hX⟩
  cases c with
  | false => exact q _ ρ1 H1 O1 hp m1
  | true => exact ⟨ρ1, O1, _, Xp, m1.rel, hp, fun r ρ2 H2 O2 h2 m2 => q r ρ2 H2 O2 h2 (Mv.trans R m1 m2), hX.mv R m1⟩
theorem t_or {pa pb : Expr} {rest : List Expr} {pos : Pos} {wa wb : WE} (ha : PT X pa (tT T F Wx wa.t)) (hb : PW X (.BoolOp .Or (pb :: rest) pos) (tT T F Wx wb.t)) :
    PW X (.BoolOp .Or (pa :: pb :: rest) pos) (tT T F Wx fun ρ P X => wa.t ρ (fun c ρ1 => if c = true then P true ρ1 else wb.t ρ1 P X) X) := by
  refine PW.imp (pw_or ha hb) fun σ H Q ⟨ρ, O, P, Xp, R, w, q, hX⟩ => ?_
  refine ⟨ρ, O, _, Xp, R, w, fun c ρ1 H1 O1 hp m1 => ?_, hX⟩
  cases c with
  | true => exact q _ ρ1 H1 O1 hp m1
  | false => exact ⟨ρ1, O1, _, Xp, m1.rel, hp, fun r ρ2 H2 O2 h2 m2 => q r ρ2 H2 O2 h2 (Mv.trans R m1 m2), hX.mv R m1⟩
theorem t_not {pa : Expr} {pos : Pos} {wa : WE} (ha : PT X pa (tT T F Wx wa.t)) :
    PT X (.UnaryOp .Not pa pos) (tT T F Wx fun ρ P X => wa.t ρ (fun c ρ1 => P (!c) ρ1) X) := by
  refine PT.imp (pt_not ha) fun σ H Q ⟨ρ, O, P, Xp, R, w, q, hX⟩ => ?_
  exact ⟨ρ, O, _, Xp, R, w, fun c ρ1 H1 O1 hp m1 => q _ ρ1 H1 O1 hp m1, hX⟩
theorem e_ife {pt pa pb : Expr} {pos : Pos} {wt wa wb : WE} (ht : PT X pt (tT T F Wx wt.t)) (ha : PE X pa (tE T F Wx wa.v)) (hb : PE X pb (tE T F Wx wb.v)) :
    PE X (.IfExp pt pa pb pos) (tE T F Wx fun ρ P X => wt.t ρ (fun c ρ1 => if c = true then wa.v ρ1 P X else wb.v ρ1 P X) X) := by
  refine PE.imp (pe_ifExp ht ha hb) fun σ H Q ⟨ρ, O, P, Xp, R, w, q, hX⟩ => ?_
  refine ⟨ρ, O, _, Xp, R, w, fun c ρ1 H1 O1 hp m1 => ?_, hX⟩
  cases c with
  | true => exact ⟨ρ1, O1, _, Xp, m1.rel, hp, fun r ρ2 v H2 O2 h2 m2 a2 => q r ρ2 v H2 O2 h2 (Mv.trans R m1 m2) (a2.back m1.stp.al), hX.mv R m1⟩
  | false => exact ⟨ρ1, O1, _, Xp, m1.rel, hp, fun r ρ2 v H2 O2 h2 m2 a2 => q r ρ2 v H2 O2 h2 (Mv.trans R m1 m2) (a2.back m1.stp.al), hX.mv R m1⟩
/-- the test of a value -/
theorem t_val {e : Expr} {v : Env → RP → XP → Prop} (h : PE X e (tE T F Wx v)) (he : ∀ whole, isTrue e X.env whole = (do let v ← whole; standAt e.pos; holding [v] (truthy v))) :
    PT X e (tT T F Wx fun ρ P X => v ρ (fun r ρ' => ∃ c, r = .val (.bl c) ∧ P c ρ') X) := by
  refine PT.imp (pt_val h he) fun σ H Q ⟨ρ, O, P, Xp, R, w, q, hX⟩ => ?_
  refine ⟨ρ, O, _, Xp, R, w, fun r ρ1 v H1 O1 hp m1 a1 => ?_, hX⟩
  obtain ⟨c, e, hp⟩ := hp
  subst e
  exact ⟨c, rr_is_bl a1, q c ρ1 H1 O1 hp m1⟩

/-! subscripts -/
theorem e_idx {pa pb : Expr} {pos : Pos} {wa wb : WE} (C : Cxt T F FN N sc X Wx) (ha : PE X pa (tP T F Wx wa)) (hb : PE X pb (tP T F Wx wb)) (hs : PlainIx pb) :
    PE X (.Subscript pa pb pos) (tE T F Wx fun ρ P X => peek wa ρ (fun p ρ1 => peek wb ρ1 (fun q ρ2 => p.still ρ2 ∧ idxW p.d q.d fun r => P r ρ2) X) X) := by
  obtain ⟨r, hr, hs'⟩ := idx_ok (X := X) (F := F) C.K C.w C.u
  exact PE.imp (pe_ix hr ha hb hs) (bin_tops hs')
def tO (T : Tb) (F : Fm) (Wx : WX) (ws : List WE) : TO := fun σ H Q => ∃ ρ O P Xp, Rel F ρ σ H O ∧ optW ws ρ P Xp ∧
  (∀ o ρ' H' O', P o ρ' → Mv F ρ σ H O ρ' H' O' → Q o H') ∧ XOk T F Wx ρ σ H O Xp
theorem PO.imp {e : Option Expr} {t t' : TO} (h : PO X e t) (i : ∀ σ H Q, t' σ H Q → t σ H Q) : PO X e t' := ⟨fun pins s σ H Q I q => h.run pins s σ H Q I (i σ H Q q)⟩
theorem o_none : PO X none (tO T F Wx []) := PO.imp po_none fun σ H Q ⟨ρ, O, P, Xp, R, w, q, hX⟩ => q none ρ H O w (.refl R)
theorem o_some {e : Expr} {w : WE} (h : PE X e (tP T F Wx w)) : PO X (some e) (tO T F Wx [w]) := by
  refine PO.imp (po_some h) fun σ H Q ⟨ρ, O, P, Xp, R, w', q, hX⟩ => ?_
  refine ⟨ρ, O, _, Xp, R, w', fun p ρ1 v H1 O1 hp sp m1 a1 => ?_, hX⟩
  obtain ⟨i, ei, hp⟩ := hp
  have d1 : RD F.toFk H1 O1 p.d v := a1.rd m1.rel (m1.old R) (.refl m1.rel) sp
  rw [ei] at d1
  exact ⟨i, d1.int, q (some i) ρ1 H1 O1 hp m1⟩
theorem e_slc {pa : Expr} {lo hi : Option Expr} {pos p2 : Pos} {wa : WE} {wl wh : List WE} (C : Cxt T F FN N sc X Wx) (ha : PE X pa (tP T F Wx wa)) (hl : PO X lo (tO T F Wx wl)) (hh : PO X hi (tO T F Wx wh)) :
    PE X (.Subscript pa (.Slice lo hi none p2) pos) (tE T F Wx fun ρ P X => peek wa ρ (fun p ρ1 => optW wl ρ1 (fun l ρ2 => optW wh ρ2 (fun h ρ3 => p.still ρ3 ∧ slcW p.d l h fun r => P r ρ3) X) X) X) := by
  obtain ⟨r, hr, hs⟩ := slc_ok (X := X) (F := F) C.K
  refine PE.imp (pe_slice hr ha hl hh) fun σ H Q ⟨ρ, O, P, Xp, R, w, q, hX⟩ => ?_
  refine ⟨ρ, O, _, Xp, R, w, fun p ρ1 x H1 O1 hp sp m1 a1 => ?_, hX⟩
  refine ⟨ρ1, O1, _, Xp, m1.rel, hp, fun l ρ2 H2 O2 hp2 m2 => ?_, hX.mv R m1⟩
  have m12 := Mv.trans R m1 m2
  refine ⟨ρ2, O2, _, Xp, m2.rel, hp2, fun h ρ3 H3 O3 hp3 m3 => ?_, hX.mv R m12⟩
  obtain ⟨st, ho⟩ := hp3
  have m := Mv.trans R m12 m3
  have d1 : RD F.toFk H3 O3 p.d x := a1.rd m1.rel (m1.old R) (Mv.trans m1.rel m2 m3) st
  exact hs H3 O3 _ x l h _ Q m3.rel.hk d1 ho fun r v H4 O4 hq g rr => q r ρ3 v H4 O4 hq (Mv.trans R m (Mv.grow m3.rel g)) (rr.back m.stp.al)
theorem e_neg {pa : Expr} {pos : Pos} {wa : WE} (ha : PE X pa (tP T F Wx wa)) :
    PE X (.UnaryOp .USub pa pos) (tE T F Wx fun ρ P X => peek wa ρ (fun p ρ1 => ∃ i, p.d = .int i ∧ P (.val (.int (-i))) ρ1) X) := by
  refine PE.imp (pe_un un_neg ha) fun σ H Q ⟨ρ, O, P, Xp, R, w, q, hX⟩ => ?_
  refine ⟨ρ, O, _, Xp, R, w, fun p ρ1 v H1 O1 hp sp m1 a1 => ?_, hX⟩
  obtain ⟨i, ei, hp⟩ := hp
  have d1 : RD F.toFk H1 O1 p.d v := a1.rd m1.rel (m1.old R) (.refl m1.rel) sp
  rw [ei] at d1
  exact ⟨i, d1.int, q _ ρ1 _ H1 O1 hp m1 (by unfold RR Rep; rfl)⟩
theorem e_repL {pa pb : Expr} {pos : Pos} {wa wb : WE} (ha : PE X pa (tE T F Wx wa.v)) (hb : PE X pb (tE T F Wx wb.v)) :
    PE X (.BinOp pa .Mult pb pos) (tE T F Wx fun ρ P X => wa.v ρ (fun r ρ1 => wb.v ρ1 (fun q ρ2 => ∃ xs j, r = .own (.lst xs) ∧ q = .val (.int j) ∧ 0 ≤ j ∧ j ≤ 1000 ∧ xs.length * j.toNat ≤ lim ∧
      P (.own (.lst (List.replicate j.toNat xs).flatten)) ρ2) X) X) := by
  refine PE.imp (pe_op op_rep ha hb) fun σ H Q ⟨ρ, O, P, Xp, R, w, q, hX⟩ => ?_
  refine ⟨ρ, O, _, Xp, R, w, fun r ρ1 x H1 O1 hp m1 a1 => ?_, hX⟩
  refine ⟨ρ1, O1, _, Xp, m1.rel, hp, fun r2 ρ2 y H2 O2 hp2 m2 a2 => ?_, hX.mv R m1⟩
  have m := Mv.trans R m1 m2
  obtain ⟨xs, j, er, eq, h1, h2, h3, hp2⟩ := hp2
  subst er; subst eq
  obtain ⟨a, ea, oa, na, n0, vs, hv, hr⟩ := a1
  have ey : y = .int j := by unfold RR Rep at a2; exact a2
  have hv2 : H2 a = some (.lst vs) := m2.stp.keep a _ hv fun mm => m1.old R a mm na
  have hr2 := RepL.stay (m2.stay m1.rel) _ _ hr
  refine ⟨a, j, vs, ea, ey, hv2, by omega, by omega, by rw [← hr.len, ← lim_eq]; exact h3, fun p hp => ?_⟩
  refine OpQ.lst (F := F) (P := fun r => P r ρ2) m2.rel.hk (fun r v H3 O3 hq g rr => q r ρ2 v H3 O3 hq (Mv.trans R m (Mv.grow m2.rel g)) (rr.back m.stp.al)) hp hp2 (hr2.rep _)

/-! argument lists -/
def tVs (T : Tb) (F : Fm) (Wx : WX) (ws : List WE) : TA := fun σ H Q => ∃ ρ O P Xp, Rel F ρ σ H O ∧ vals ws ρ P Xp ∧
  (∀ ds ρ' vs H' O', ds.length = ws.length → P ds ρ' → Mv F ρ σ H O ρ' H' O' → RepL F.toFk H' O' ds vs → Q vs H') ∧ XOk T F Wx ρ σ H O Xp
theorem vs_nil : PA X [] (tVs T F Wx []) := PA.imp pa_nil fun σ H Q ⟨ρ, O, P, Xp, R, w, q, hX⟩ => q [] ρ [] H O rfl w (.refl R) .nil
theorem vs_cons {e : Expr} {es : List Expr} {w : WE} {ws : List WE} (h : PE X e (tE T F Wx w.v)) (hr : PA X es (tVs T F Wx ws)) (hs : starEach (e :: es) X.env = (false, eval e X.env) :: starEach es X.env) : PA X (e :: es) (tVs T F Wx (w :: ws)) := by
  refine PA.imp (pa_cons h hr hs) fun σ H Q ⟨ρ, O, P, Xp, R, w', q, hX⟩ => ?_
  refine ⟨ρ, O, _, Xp, R, w', fun r ρ1 v H1 O1 hp m1 a1 => ?_, hX⟩
  obtain ⟨O1', m1', r1⟩ := m1.frozen R a1
  exact ⟨ρ1, O1', _, Xp, m1'.rel, hp, fun ds ρ2 vs H2 O2 el hp2 m2 a2 => q _ ρ2 _ H2 O2 (by simp [el]) hp2 (Mv.trans R m1' m2) (.cons (Rep.stay (m2.stay m1'.rel) _ _ r1) a2), hX.mv R m1'⟩
/-- operands, as they stand at the end -/
def PvsAt (F : Fk) (H : Hp) (O : AP1) : List D → List V → Prop
  | [], vs => vs = []
  | d :: ds, vs => ∃ v r, vs = v :: r ∧ RD F H O d v ∧ PvsAt F H O ds r
def tPs (T : Tb) (F : Fm) (Wx : WX) (ws : List WE) : TA := fun σ H Q => ∃ ρ O P Xp, Rel F ρ σ H O ∧ peeks ws ρ P Xp ∧
  (∀ ps ρ' vs H' O', P ps ρ' → Mv F ρ σ H O ρ' H' O' → PvsAt F.toFk H' O' (pvD ps) vs → Q vs H') ∧ XOk T F Wx ρ σ H O Xp
theorem ps_nil : PA X [] (tPs T F Wx []) := PA.imp pa_nil fun σ H Q ⟨ρ, O, P, Xp, R, w, q, hX⟩ => q [] ρ [] H O w (.refl R) rfl
theorem ps_cons' {e : Expr} {es : List Expr} {w : WE} {ws : List WE} (h : PE X e (tP T F Wx w)) (hr : PA X es (tPs T F Wx ws)) (hs : starEach (e :: es) X.env = (false, eval e X.env) :: starEach es X.env) : PA X (e :: es) (tPs T F Wx (w :: ws)) := by
  refine PA.imp (pa_cons h hr hs) fun σ H Q ⟨ρ, O, P, Xp, R, w', q, hX⟩ => ?_
  refine ⟨ρ, O, _, Xp, R, w', fun p ρ1 v H1 O1 hp sp m1 a1 => ?_, hX⟩
  refine ⟨ρ1, O1, _, Xp, m1.rel, hp, fun ps ρ2 vs H2 O2 hp2 m2 a2 => ?_, hX.mv R m1⟩
  obtain ⟨st, hp2⟩ := hp2
  exact q _ ρ2 _ H2 O2 hp2 (Mv.trans R m1 m2) ⟨v, vs, rfl, a1.rd m1.rel (m1.old R) m2 st, a2⟩
theorem e_tup {es : List Expr} {x1 : Nat} {pos : Pos} {ws : List WE} (h : PA X es (tVs T F Wx ws)) :
    PE X (.Tuple es x1 pos) (tE T F Wx fun ρ P X => vals ws ρ (fun ds ρ' => ds.length ≤ lim ∧ P (.val (.tup ds)) ρ') X) := by
  refine PE.imp (pe_tup h) fun σ H Q ⟨ρ, O, P, Xp, R, w, q, hX⟩ => ?_
  refine ⟨ρ, O, _, Xp, R, w, fun ds ρ1 vs H1 O1 _ hp m1 a1 => ⟨by rw [← a1.len, ← lim_eq]; exact hp.1, fun p hn => ?_⟩, hX⟩
  exact OpQ.tup (F := F) (P := fun r => P r ρ1) m1.rel.hk (fun r v H3 O3 hq g rr => q r ρ1 v H3 O3 hq (Mv.trans R m1 (Mv.grow m1.rel g)) (rr.back m1.stp.al)) hn hp.2 a1
theorem e_lst {es : List Expr} {pos : Pos} {ws : List WE} (h : PA X es (tVs T F Wx ws)) :
    PE X (.List es pos) (tE T F Wx fun ρ P X => vals ws ρ (fun ds ρ' => ds.length ≤ lim ∧ P (.own (.lst ds)) ρ') X) := by
  refine PE.imp (pe_lst h) fun σ H Q ⟨ρ, O, P, Xp, R, w, q, hX⟩ => ?_
  refine ⟨ρ, O, _, Xp, R, w, fun ds ρ1 vs H1 O1 _ hp m1 a1 => ⟨by rw [← a1.len, ← lim_eq]; exact hp.1, fun p hn => ?_⟩, hX⟩
  exact OpQ.lst (F := F) (P := fun r => P r ρ1) m1.rel.hk (fun r v H3 O3 hq g rr => q r ρ1 v H3 O3 hq (Mv.trans R m1 (Mv.grow m1.rel g)) (rr.back m1.stp.al)) hn hp.2 a1
end
end EV
set_option linter.all false
set_option maxRecDepth 20000
set_option autoImplicit false
/-! Built-ins, by data. -/
namespace EV
open PySem PySem.Spec L2

def notStar : Expr → Bool
  | .Starred _ _ => false
  | _ => true
theorem star_cons {e : Expr} {es : List Expr} {env : PySem.Env} (h : notStar e = true) : starEach (e :: es) env = (false, eval e env) :: starEach es env := by
  cases e <;> first | rfl | (simp [notStar] at h)
theorem star_any {env : PySem.Env} {pos : Pos} : ∀ {es : List Expr}, es.all notStar = true → (backTo pos (starEach es env)).any (·.1) = false
  | [], _ => rfl
  | e :: es, h => by
    rw [List.all_cons, Bool.and_eq_true] at h
    rw [star_cons h.1]
    have := star_any (env := env) (pos := pos) h.2
    show ((false, _) :: backTo pos (starEach es env)).any (·.1) = false
    rw [List.any_cons, this]
    rfl
section
variable {X : Cx} {c a b : Expr} {tc ta tb : TT} {pos : Pos}
theorem pt_ife (hc : PT X c tc) (ha : PT X a ta) (hb : PT X b tb) : PT X (.IfExp c a b pos) (fun σ H Q => tc σ H fun k H1 => if k = true then ta σ H1 Q else tb σ H1 Q) := by
  refine ⟨fun pins s σ H Q I h => ?_⟩
  show wpAny _ _ (do if ← isTrue c X.env (eval c X.env) then isTrue a X.env (eval a X.env) else isTrue b X.env (eval b X.env)) _ _ s
  refine wpAny_bind (thn (hc.run pins s σ H _ I h) fun k s1 ⟨H1, I1, q1⟩ => ?_)
  cases k with
  | true => exact ha.run pins s1 σ H1 Q I1 q1
  | false => exact hb.run pins s1 σ H1 Q I1 q1
end
section
variable {T : Tb} {F : Fm} {FN : List (Str × List Str)} {N : List Str} {sc : Scope} {X : Cx} {Wx : WX}
theorem t_ife {pt pa pb : Expr} {pos : Pos} {wt wa wb : WE} (ht : PT X pt (tT T F Wx wt.t)) (ha : PT X pa (tT T F Wx wa.t)) (hb : PT X pb (tT T F Wx wb.t)) :
    PT X (.IfExp pt pa pb pos) (tT T F Wx fun ρ P X => wt.t ρ (fun c ρ1 => if c = true then wa.t ρ1 P X else wb.t ρ1 P X) X) := by
  refine PT.imp (pt_ife ht ha hb) fun σ H Q ⟨ρ, O, P, Xp, R, w, q, hX⟩ => ?_
  refine ⟨ρ, O, _, Xp, R, w, fun c ρ1 H1 O1 hp m1 => ?_, hX⟩
  cases c with
  | true => exact ⟨ρ1, O1, _, Xp, m1.rel, hp, fun r ρ2 H2 O2 h2 m2 => q r ρ2 H2 O2 h2 (Mv.trans R m1 m2), hX.mv R m1⟩
  | false => exact ⟨ρ1, O1, _, Xp, m1.rel, hp, fun r ρ2 H2 O2 h2 m2 => q r ρ2 H2 O2 h2 (Mv.trans R m1 m2), hX.mv R m1⟩
/-- what a built-in gives, by data -/
def BltOk (F : Fm) (b : Blt) (r : List V → Hp → VK → Prop) : Prop := ∀ (H : Hp) (O : AP1) (ds : List D) (vs : List V) (P : RV → Prop) (Q : VK), Hk F H O → PvsAt F.toFk H O ds vs → bltW b ds P → OpQ F H O P Q → r vs H Q
def bltE (b : Blt) (ws : List WE) : Env → RP → XP → Prop := fun ρ P X => peeks ws ρ (fun ps ρ' => bltW b (pvD ps) fun r => P r ρ') X
theorem blt_tcb {b : Blt} {ws : List WE} {r : List V → Hp → VK → Prop} (h : BltOk F b r) (σ : L2.St) (H : Hp) (Q : VK) (hq : tE T F Wx (bltE b ws) σ H Q) : tCB r (tPs T F Wx ws) σ H Q := by
  obtain ⟨ρ, O, P, Xp, R, w, q, hX⟩ := hq
  exact ⟨ρ, O, _, Xp, R, w, fun ps ρ1 vs H1 O1 hp m1 a1 => h H1 O1 _ vs _ Q m1.rel.hk a1 hp fun r v H2 O2 hr g rr => q r ρ1 v H2 O2 hr (Mv.trans R m1 (Mv.grow m1.rel g)) (rr.back m1.stp.al), hX⟩
theorem b_fn {x : Str} {id : String} {p pos : Pos} {e : Expr} {es : List Expr} {b : Blt} {ws : List WE} {r : List V → Hp → VK → Prop} (h : BltOk F b r) (hc : CallR X (.builtin id) r) (hg : Gl X x) (hm : X.mg x = none) (hv : bootBuiltins x = some (.builtin id)) (ha : PA X (e :: es) (tPs T F Wx ws))
    (hn : x ≠ "__name__") (hd : (x == ("__debug__" : Str)) = false) (hs : (e :: es).all notStar = true) : PE X (.Call (.Name x p) (e :: es) [] pos) (tE T F Wx (bltE b ws)) := by
  rw [List.all_cons, Bool.and_eq_true] at hs
  exact PE.imp (pe_callB hc hg hm hv ha hn hd (star_cons hs.1) (star_any hs.2)) (blt_tcb h)
theorem b_ty {x : Str} {id : String} {p pos : Pos} {e : Expr} {es : List Expr} {b : Blt} {ws : List WE} {r : List V → Hp → VK → Prop} (h : BltOk F b r) (hc : CallR X (.type id) r) (hg : Gl X x) (hm : X.mg x = none) (hv : bootBuiltins x = some (.type id)) (ha : PA X (e :: es) (tPs T F Wx ws))
    (hn : x ≠ "__name__") (hd : (x == ("__debug__" : Str)) = false) (hs : (e :: es).all notStar = true) : PE X (.Call (.Name x p) (e :: es) [] pos) (tE T F Wx (bltE b ws)) := by
  rw [List.all_cons, Bool.and_eq_true] at hs
  exact PE.imp (pe_callTy hc hg hm hv ha hn hd (star_cons hs.1) (star_any hs.2)) (blt_tcb h)
theorem pvs1 {F : Fk} {H : Hp} {O : AP1} {d : D} {vs : List V} (h : PvsAt F H O [d] vs) : ∃ v, vs = [v] ∧ RD F H O d v := by
  obtain ⟨v, r, e, h1, h2⟩ := h
  have : r = [] := h2
  subst this
  exact ⟨v, e, h1⟩
theorem pvs2 {F : Fk} {H : Hp} {O : AP1} {d e : D} {vs : List V} (h : PvsAt F H O [d, e] vs) : ∃ v w, vs = [v, w] ∧ RD F H O d v ∧ RD F H O e w := by
  obtain ⟨v, r, ev, h1, h2⟩ := h
  obtain ⟨w, er, h3⟩ := pvs1 h2
  subst er
  exact ⟨v, w, ev, h1, h3⟩
/-- a built-in's meaning at one argument, at two -/
theorem ok1 {b : Blt} {r : List V → Hp → VK → Prop} (h : ∀ (H : Hp) (O : AP1) (d : D) (v : V) (P : RV → Prop) (Q : VK), Hk F H O → RD F.toFk H O d v → bltW b [d] P → OpQ F H O P Q → r [v] H Q)
    (n : ∀ ds P, bltW b ds P → ds.length = 1) : BltOk F b r := by
  intro H O ds vs P Q k a w q
  have := n ds P w
  match ds, this with
  | [d], _ =>
    obtain ⟨v, e, h1⟩ := pvs1 a
    subst e
    exact h H O d v P Q k h1 w q
theorem ok2 {b : Blt} {r : List V → Hp → VK → Prop} (h : ∀ (H : Hp) (O : AP1) (d e : D) (v w : V) (P : RV → Prop) (Q : VK), Hk F H O → RD F.toFk H O d v → RD F.toFk H O e w → bltW b [d, e] P → OpQ F H O P Q → r [v, w] H Q)
    (n : ∀ ds P, bltW b ds P → ds.length = 2) : BltOk F b r := by
  intro H O ds vs P Q k a w q
  have := n ds P w
  match ds, this with
  | [d, e], _ =>
    obtain ⟨v, u, ev, h1, h2⟩ := pvs2 a
    subst ev
    exact h H O d e v u P Q k h1 h2 w q
theorem repL_ints {F : Fk} {H : Hp} {O : AP1} : ∀ {ds : List D} {vs : List V} {is : List Int}, intsD ds = some is → RepL F H O ds vs → vs = is.map V.int
  | [], vs, is, e, h => by unfold RepL at h; cases e; exact h
  | d :: ds, vs, is, e, h => by
    unfold RepL at h
    obtain ⟨v, r, rfl, h1, h2⟩ := h
    cases d with
    | int i =>
      unfold intsD at e
      cases q : intsD ds with
      | none => rw [q] at e; cases e
      | some rs =>
        rw [q] at e
        cases e
        rw [repL_ints q h2]
        have := (show RD F H O (.int i) v from .inl h1).int
        subst this
        rfl
    | _ => cases e
theorem repL_bools {F : Fk} {H : Hp} {O : AP1} : ∀ {ds : List D} {vs : List V} {is : List Bool}, boolsD ds = some is → RepL F H O ds vs → vs = is.map V.bl
  | [], vs, is, e, h => by unfold RepL at h; cases e; exact h
  | d :: ds, vs, is, e, h => by
    unfold RepL at h
    obtain ⟨v, r, rfl, h1, h2⟩ := h
    cases d with
    | bl i =>
      unfold boolsD at e
      cases q : boolsD ds with
      | none => rw [q] at e; cases e
      | some rs =>
        rw [q] at e
        cases e
        rw [repL_bools q h2]
        have := (show RD F H O (.bl i) v from .inl h1).bl
        subst this
        rfl
    | _ => cases e
theorem ok_len (hF : F.K = X.K) : BltOk F .len (fun xs H Q => ∃ x n, xs = [x] ∧ LenV X.K x H n ∧ Q (.int n) H) := by
  refine ok1 (fun H O d v P Q k a w q => ?_) (fun ds P w => ?_)
  rotate_left
  · match ds, w with
    | [_], _ => rfl
    | [], w => unfold bltW at w; simp at w
    | _ :: _ :: _, w => unfold bltW at w; simp at w
  · cases d with
    | tup ds =>
      obtain ⟨p, vs, rfl, h1, h2⟩ := a.tup rfl
      exact ⟨_, vs.length, rfl, .inr ⟨vs, by rw [← hF]; exact h1.sq, rfl⟩, q.int k (by rw [← h2.len]; exact w)⟩
    | tC ds =>
      obtain ⟨p, vs, rfl, h1, h2⟩ := a.tup rfl
      exact ⟨_, vs.length, rfl, .inr ⟨vs, by rw [← hF]; exact h1.sq, rfl⟩, q.int k (by rw [← h2.len]; exact w)⟩
    | lst ds =>
      obtain ⟨p, vs, rfl, h1, h2⟩ := a.lst
      exact ⟨_, vs.length, rfl, .inl ⟨vs, .inl h1, rfl⟩, q.int k (by rw [← h2.len]; exact w)⟩
    | str x =>
      have := a.str; subst this
      exact ⟨_, x.length, rfl, ⟨by rw [← lim_eq]; exact w.1, rfl⟩, q.int k w.2⟩
    | _ => exact w.elim
theorem ok_int : BltOk F .toInt (fun xs H Q => (∃ i, xs = [.int i] ∧ Q (.int i) H) ∨ ∃ k, xs = [.bl k] ∧ Q (.int (if k then 1 else 0)) H) := by
  refine ok1 (fun H O d v P Q k a w q => ?_) (fun ds P w => ?_)
  rotate_left
  · match ds, w with
    | [_], _ => rfl
    | [], w => unfold bltW at w; simp at w
    | _ :: _ :: _, w => unfold bltW at w; simp at w
  · cases d with
    | int i => have := a.int; subst this; exact .inl ⟨i, rfl, q.int k w⟩
    | bl i => have := a.bl; subst this; exact .inr ⟨i, rfl, q.int k w⟩
    | _ => exact w.elim
theorem ok_toTup (hF : F.K = X.K) : BltOk F .toTup (fun xs H Q => ∃ p ys, xs = [.ref p] ∧ ((SqL X.K H p ys ∧ ∀ l, H l = none → Q (.ref l) (upd H l (.tup ys))) ∨ (SqT X.K H p ys ∧ Q (.ref p) H))) := by
  refine ok1 (fun H O d v P Q k a w q => ?_) (fun ds P w => ?_)
  rotate_left
  · match ds, w with
    | [_], _ => rfl
    | [], w => unfold bltW at w; simp at w
    | _ :: _ :: _, w => unfold bltW at w; simp at w
  · cases d with
    | tup ds =>
      have a1 := a.raw rfl
      obtain ⟨p, vs, rfl, h1, h2⟩ := a.tup rfl
      exact ⟨p, vs, rfl, .inr ⟨by rw [← hF]; exact h1.sq, q.same k w a1⟩⟩
    | tC ds =>
      have a1 := a.raw rfl
      obtain ⟨p, vs, rfl, h1, h2⟩ := a.tup rfl
      exact ⟨p, vs, rfl, .inr ⟨by rw [← hF]; exact h1.sq, q.same k w a1⟩⟩
    | lst ds =>
      obtain ⟨p, vs, rfl, h1, h2⟩ := a.lst
      exact ⟨p, vs, rfl, .inl ⟨.inl h1, fun l hl => q.tup k hl w h2⟩⟩
    | _ => exact w.elim
theorem ok_toList (hF : F.K = X.K) : BltOk F .toList (fun xs H Q => ∃ p ys, xs = [.ref p] ∧ (SqL X.K H p ys ∨ SqT X.K H p ys) ∧ ∀ l, H l = none → Q (.ref l) (upd H l (.lst ys))) := by
  refine ok1 (fun H O d v P Q k a w q => ?_) (fun ds P w => ?_)
  rotate_left
  · match ds, w with
    | [_], _ => rfl
    | [], w => unfold bltW at w; simp at w
    | _ :: _ :: _, w => unfold bltW at w; simp at w
  · cases d with
    | tup ds =>
      obtain ⟨p, vs, rfl, h1, h2⟩ := a.tup rfl
      exact ⟨p, vs, rfl, .inr (by rw [← hF]; exact h1.sq), fun l hl => q.lst k hl w h2⟩
    | tC ds =>
      obtain ⟨p, vs, rfl, h1, h2⟩ := a.tup rfl
      exact ⟨p, vs, rfl, .inr (by rw [← hF]; exact h1.sq), fun l hl => q.lst k hl w h2⟩
    | lst ds =>
      obtain ⟨p, vs, rfl, h1, h2⟩ := a.lst
      exact ⟨p, vs, rfl, .inl (.inl h1), fun l hl => q.lst k hl w h2⟩
    | _ => exact w.elim
theorem ok_sum : BltOk F .sum (rSum X.K) := by
  refine ok1 (fun H O d v P Q k a w q => ?_) (fun ds P w => ?_)
  rotate_left
  · match ds, w with
    | [_], _ => rfl
    | [], w => unfold bltW at w; simp at w
    | _ :: _ :: _, w => unfold bltW at w; simp at w
  · cases d with
    | lst ds =>
      obtain ⟨p, vs, rfl, h1, h2⟩ := a.lst
      obtain ⟨is, e, w⟩ := w
      have := repL_ints e h2; subst this
      exact ⟨p, is, rfl, .inl h1, q.int k w⟩
    | _ => exact w.elim
theorem ok_max : BltOk F .max1 (rMax X.K) := by
  refine ok1 (fun H O d v P Q k a w q => ?_) (fun ds P w => ?_)
  rotate_left
  · match ds, w with
    | [_], _ => rfl
    | [], w => unfold bltW at w; simp at w
    | _ :: _ :: _, w => unfold bltW at w; simp at w
  · cases d with
    | lst ds =>
      obtain ⟨p, vs, rfl, h1, h2⟩ := a.lst
      obtain ⟨is, e, ne, w⟩ := w
      have := repL_ints e h2; subst this
      refine ⟨p, is, rfl, .inl h1, List.length_pos_iff.mpr ne, fun m hm hl => q.int k (w m hm hl)⟩
    | _ => exact w.elim
theorem ok_abs : BltOk F .abs (fun xs H Q => ∃ i, xs = [.int i] ∧ Q (.int (if i < 0 then -i else i)) H) := by
  refine ok1 (fun H O d v P Q k a w q => ?_) (fun ds P w => ?_)
  rotate_left
  · match ds, w with
    | [_], _ => rfl
    | [], w => unfold bltW at w; simp at w
    | _ :: _ :: _, w => unfold bltW at w; simp at w
  · cases d with
    | int i => have := a.int; subst this; exact ⟨i, rfl, q.int k w⟩
    | _ => exact w.elim
theorem ok_all : BltOk F .all (rAll X.K) := by
  refine ok1 (fun H O d v P Q k a w q => ?_) (fun ds P w => ?_)
  rotate_left
  · match ds, w with
    | [_], _ => rfl
    | [], w => unfold bltW at w; simp at w
    | _ :: _ :: _, w => unfold bltW at w; simp at w
  · cases d with
    | lst ds =>
      obtain ⟨p, vs, rfl, h1, h2⟩ := a.lst
      obtain ⟨is, e, w⟩ := w
      have := repL_bools e h2; subst this
      exact ⟨p, is, rfl, .inl h1, q.bl k w⟩
    | _ => exact w.elim
theorem ok_any : BltOk F .any (rAny X.K) := by
  refine ok1 (fun H O d v P Q k a w q => ?_) (fun ds P w => ?_)
  rotate_left
  · match ds, w with
    | [_], _ => rfl
    | [], w => unfold bltW at w; simp at w
    | _ :: _ :: _, w => unfold bltW at w; simp at w
  · cases d with
    | lst ds =>
      obtain ⟨p, vs, rfl, h1, h2⟩ := a.lst
      obtain ⟨is, e, w⟩ := w
      have := repL_bools e h2; subst this
      exact ⟨p, is, rfl, .inl h1, q.bl k w⟩
    | _ => exact w.elim
theorem ok_min2 : BltOk F .min2 (fun xs H Q => ∃ i j, xs = [.int i, .int j] ∧ Q (.int (if j < i then j else i)) H) := by
  refine ok2 (fun H O d e v u P Q k a b w q => ?_) (fun ds P w => ?_)
  rotate_left
  · match ds, w with
    | [_, _], _ => rfl
    | [], w => unfold bltW at w; simp at w
    | [_], w => unfold bltW at w; simp at w
    | _ :: _ :: _ :: _, w => unfold bltW at w; simp at w
  · cases d with
    | int i =>
      cases e with
      | int j =>
        have := a.int; subst this
        have := b.int; subst this
        exact ⟨i, j, rfl, q.int k w⟩
      | _ => exact w.elim
    | _ => exact w.elim
/-! isinstance -/
def tyN : Ty → String
  | .int => "int" | .bool => "bool" | .str => "str" | .tup => "tuple" | .lst => "list"
def dTy : D → Option String
  | .non => some "NoneType" | .bl _ => some "bool" | .int _ => some "int" | .str _ => some "str" | .tup _ => some "tuple" | .tC _ => some "tuple" | .lst _ => some "list"
  | .dK _ _ => some "dict" | .dT _ _ => some "dict" | _ => none
theorem rd_ty (hF : F.K = X.K) {H : Hp} {O : AP1} {d : D} {v : V} {n : String} (h : dTy d = some n) (a : RD F.toFk H O d v) : TyX X.K H v (.type n) := by
  cases d with
  | non => cases h; have := a.non; subst this; exact .base .non
  | bl b => cases h; have := a.bl; subst this; exact .base (.bl b)
  | int b => cases h; have := a.int; subst this; exact .base (.int b)
  | str b => cases h; have := a.str; subst this; exact .base (.str b)
  | tup ds =>
    cases h
    obtain ⟨p, vs, rfl, h1, h2⟩ := a.tupT
    exact .base (.tup h1.1)
  | tC ds =>
    cases h
    obtain ⟨p, vs, rfl, ⟨o, its, n, h1, h2, _⟩, _⟩ := a.tupC
    exact .kTuple (by rw [← hF]; exact h1) h2
  | lst ds =>
    cases h
    obtain ⟨p, vs, rfl, h1, h2⟩ := a.lst
    rcases h1 with h1 | ⟨o, h1⟩
    · exact .base (.lst h1)
    · exact .base (.frz h1)
  | dK ks ds =>
    cases h
    obtain ⟨p, vs, rfl, h1, h2⟩ := a.dK
    exact .base (.dK h1)
  | dT ks ds =>
    cases h
    obtain ⟨p, vs, rfl, h1, h2⟩ := a.dT
    exact .base (.dT h1)
  | _ => cases h
theorem kit_NoneType : ∀ t : Ty, kitB "NoneType" (tyN t) = some false := by
  intro t
  cases t <;> decide +kernel
theorem kit_bool : ∀ t : Ty, kitB "bool" (tyN t) = some (match t with | .int => true | .bool => true | _ => false) := by
  intro t
  cases t <;> decide +kernel
theorem kit_int : ∀ t : Ty, kitB "int" (tyN t) = some (match t with | .int => true | _ => false) := by
  intro t
  cases t <;> decide +kernel
theorem kit_str : ∀ t : Ty, kitB "str" (tyN t) = some (match t with | .str => true | _ => false) := by
  intro t
  cases t <;> decide +kernel
theorem kit_tuple : ∀ t : Ty, kitB "tuple" (tyN t) = some (match t with | .tup => true | _ => false) := by
  intro t
  cases t <;> decide +kernel
theorem kit_list : ∀ t : Ty, kitB "list" (tyN t) = some (match t with | .lst => true | _ => false) := by
  intro t
  cases t <;> decide +kernel
theorem kit_dict : ∀ t : Ty, kitB "dict" (tyN t) = some false := by
  intro t
  cases t <;> decide +kernel
theorem kit_d {d : D} {n : String} (h : dTy d = some n) (t : Ty) : kitB n (tyN t) = some (isTy t d) := by
  cases d <;> simp only [dTy, Option.some.injEq, reduceCtorEq] at h <;> subst h <;> first
    | (rw [kit_NoneType t]; cases t <;> rfl) | (rw [kit_bool t]; cases t <;> rfl) | (rw [kit_int t]; cases t <;> rfl) | (rw [kit_str t]; cases t <;> rfl)
    | (rw [kit_tuple t]; cases t <;> rfl) | (rw [kit_list t]; cases t <;> rfl) | (rw [kit_dict t]; cases t <;> rfl)
theorem b_isi {a : Expr} {wa : WE} {p p2 pos : Pos} {t : Ty} (C : Cxt T F FN N sc X Wx) (ha : PE X a (tP T F Wx wa)) (hg : Gl X "isinstance") (hgt : Gl X (Str.ofString (tyN t))) (hs : notStar a = true) :
    PE X (.Call (.Name "isinstance" p) [a, .Name (Str.ofString (tyN t)) p2] [] pos) (tE T F Wx (bltE (.isi t) [wa])) := by
  have hm : X.mg "isinstance" = none := C.nob (by decide +kernel)
  have hmt : X.mg (Str.ofString (tyN t)) = none := C.nob (by cases t <;> decide +kernel)
  have hv : bootBuiltins (Str.ofString (tyN t)) = some (.type (tyN t)) := by cases t <;> decide +kernel
  have ht : PE X (.Name (Str.ofString (tyN t)) p2) (tC (.ty (tyN t))) := pe_bltn hgt hmt hv rfl (by cases t <;> decide +kernel) (by cases t <;> decide +kernel)
  have h2 : PA X [.Name (Str.ofString (tyN t)) p2] (tCons (tC (.ty (tyN t))) tNil) := pa_cons ht pa_nil
  have h1 : PA X [a, .Name (Str.ofString (tyN t)) p2] (tCons (tP T F Wx wa) (tCons (tC (.ty (tyN t))) tNil)) := pa_cons ha h2 (star_cons hs)
  refine PE.imp (pe_callB call_isi hg hm (by decide +kernel) h1 (by decide +kernel) (by decide +kernel) (star_cons hs) rfl) fun σ H Q ⟨ρ, O, P, Xp, R, w, q, hX⟩ => ?_
  refine ⟨ρ, O, _, Xp, R, w, fun pv ρ1 v H1 O1 hp sp m1 a1 => ?_, hX⟩
  have d1 : RD F.toFk H1 O1 pv.d v := a1.rd m1.rel (m1.old R) (.refl m1.rel) sp
  have hp' : (match pv.d with | .dC _ _ => False | .ins _ _ => False | _ => True) ∧ P (.val (.bl (isTy t pv.d))) ρ1 := hp.2
  obtain ⟨n, hn⟩ : ∃ n, dTy pv.d = some n := by
    revert hp'
    cases pv.d <;> intro hp' <;> first | exact ⟨_, rfl⟩ | exact hp'.1.elim
  exact ⟨v, .ty (tyN t), .type n, .type (tyN t), isTy t pv.d, rfl, .ty _, rd_ty C.K hn d1, kit_ty (kit_d hn t), q _ ρ1 _ H1 O1 hp'.2 m1 rr_bl⟩
end
end EV
set_option linter.all false
set_option maxRecDepth 20000
set_option autoImplicit false
/-! Calls of defs: values, and slots that are handed over. -/
namespace EV
open PySem PySem.Spec L2
section
variable {T : Tb} {F : Fm} {FN : List (Str × List Str)} {N : List Str} {sc : Scope} {X : Cx} {Wx : WX}
def AVAt (F : Fk) (σ : L2.St) (H : Hp) (O : AP1) : List AV → List V → Prop
  | [], vs => vs = []
  | .v d :: r, vs => ∃ v w, vs = v :: w ∧ Rep F H O d v ∧ AVAt F σ H O r w
  | .io i :: r, vs => ∃ v w, vs = v :: w ∧ σ[i]? = some (some v) ∧ AVAt F σ H O r w
def tAs (T : Tb) (F : Fm) (Wx : WX) (ws : List WE) (io : List Bool) : TA := fun σ H Q => ∃ ρ O P Xp, Rel F ρ σ H O ∧ argsW ws io ρ P Xp ∧
  (∀ as ρ' vs H' O', P as ρ' → Mv F ρ σ H O ρ' H' O' → AVAt F.toFk σ H' O' as vs → Q vs H') ∧ XOk T F Wx ρ σ H O Xp
theorem as_nil {io : List Bool} : PA X [] (tAs T F Wx [] io) := PA.imp pa_nil fun σ H Q ⟨ρ, O, P, Xp, R, w, q, hX⟩ => q [] ρ [] H O (by cases io <;> exact w) (.refl R) rfl
theorem ow_slot {ρ : Env} {i : Nat} (h : ow? (get ρ i) ≠ none) : ∃ s o, get ρ i = some s ∧ isOw s ∧ ow? (get ρ i) = some o ∧ (s = .own o ∨ ∃ k, s = .par k o) := by
  cases e : get ρ i with
  | none => rw [e] at h; exact absurd rfl h
  | some s =>
    cases s with
    | val d => rw [e] at h; exact absurd rfl h
    | own o => exact ⟨_, o, rfl, trivial, rfl, .inl rfl⟩
    | par k o => exact ⟨_, o, rfl, trivial, rfl, .inr ⟨k, rfl⟩⟩
theorem as_io {e : Expr} {es : List Expr} {w : WE} {ws : List WE} {io : List Bool} {i : Nat} (hv : w.vi = some i) (h : PE X e (tVar i)) (hr : PA X es (tAs T F Wx ws io)) (hs : starEach (e :: es) X.env = (false, eval e X.env) :: starEach es X.env) :
    PA X (e :: es) (tAs T F Wx (w :: ws) (true :: io)) := by
  refine PA.imp (pa_cons h hr hs) fun σ H Q ⟨ρ, O, P, Xp, R, w', q, hX⟩ => ?_
  have w2 : ow? (get ρ i) ≠ none ∧ argsW ws io ρ (fun as ρ2 => P (.io i :: as) ρ2) Xp := by
    have z : (match w.vi with | some i => ow? (get ρ i) ≠ none ∧ argsW ws io ρ (fun as ρ2 => P (.io i :: as) ρ2) Xp | none => False) := w'
    rw [hv] at z
    exact z
  obtain ⟨s, o, hs1, _, _⟩ := ow_slot w2.1
  obtain ⟨v, ev, _⟩ := R.sl i s hs1
  exact ⟨v, ev, ρ, O, _, Xp, R, w2.2, fun as ρ2 vs H2 O2 hp2 m2 a2 => q _ ρ2 _ H2 O2 hp2 m2 ⟨v, vs, rfl, ev, a2⟩, hX⟩
theorem as_v {e : Expr} {es : List Expr} {w : WE} {ws : List WE} {io : List Bool} (h0 : io.head? ≠ some true) (h : PE X e (tE T F Wx w.v)) (hr : PA X es (tAs T F Wx ws (io.drop 1))) (hs : starEach (e :: es) X.env = (false, eval e X.env) :: starEach es X.env) :
    PA X (e :: es) (tAs T F Wx (w :: ws) io) := by
  refine PA.imp (pa_cons h hr hs) fun σ H Q ⟨ρ, O, P, Xp, R, w', q, hX⟩ => ?_
  have w2 : w.v ρ (fun r ρ1 => argsW ws (io.drop 1) ρ1 (fun as ρ2 => P (.v r.d :: as) ρ2) Xp) Xp := by
    cases io with
    | nil => exact w'
    | cons b io =>
      cases b with
      | true => exact absurd rfl h0
      | false => exact w'
  refine ⟨ρ, O, _, Xp, R, w2, fun r ρ1 v H1 O1 hp m1 a1 => ?_, hX⟩
  obtain ⟨O1', m1', r1⟩ := m1.frozen R a1
  exact ⟨ρ1, O1', _, Xp, m1'.rel, hp, fun ds ρ2 vs H2 O2 hp2 m2 a2 => q _ ρ2 _ H2 O2 hp2 (Mv.trans R m1' m2) ⟨v, vs, rfl, Rep.stay (m2.stay m1'.rel) _ _ r1, a2⟩, hX.mv R m1'⟩

/-! the call -/
theorem resolve_args {ρ : Env} {σ : L2.St} {H : Hp} {O : AP1} (R : Rel F ρ σ H O) : ∀ {as : List AV} {vs : List V} {rs : List RV}, AVAt F.toFk σ H O as vs → resolve ρ as = some rs → ArgsAt F.toFk H O rs vs
  | [], vs, rs, h, e => by cases e; exact h
  | .v d :: as, vs, rs, h, e => by
    obtain ⟨v, w, rfl, h1, h2⟩ := h
    unfold resolve at e
    cases q : resolve ρ as with
    | none => rw [q] at e; cases e
    | some r =>
      rw [q] at e; cases e
      exact ⟨v, w, rfl, h1, resolve_args R h2 q⟩
  | .io i :: as, vs, rs, h, e => by
    obtain ⟨v, w, rfl, h1, h2⟩ := h
    unfold resolve at e
    cases q0 : ow? (get ρ i) with
    | none => rw [q0] at e; cases e
    | some o =>
      cases q : resolve ρ as with
      | none => rw [q0, q] at e; cases e
      | some r =>
        rw [q0, q] at e; cases e
        obtain ⟨s, o', hs, _, e2, hso⟩ := ow_slot (ρ := ρ) (i := i) (by rw [q0]; simp)
        rw [q0] at e2; cases e2
        obtain ⟨v', ev, sa⟩ := R.sl i s hs
        rw [h1] at ev; cases ev
        rcases hso with rfl | ⟨k, rfl⟩
        · obtain ⟨a, rfl, oa, _, z⟩ := sa
          exact ⟨a, w, rfl, oa, z, resolve_args R h2 q⟩
        · obtain ⟨rfl, oa, z⟩ := sa
          exact ⟨_, w, rfl, oa, z, resolve_args R h2 q⟩
/-- the owned addresses among the arguments are those of the slots handed over -/
theorem own_ios {ρ : Env} {σ : L2.St} {H : Hp} {O : AP1} (R : Rel F ρ σ H O) : ∀ {as : List AV} {vs : List V} {rs : List RV}, AVAt F.toFk σ H O as vs → resolve ρ as = some rs →
    (ownA rs vs).map (fun a => some (some (V.ref a))) = (ios as).map (fun i => σ[i]?) ∧ ∀ i ∈ ios as, ow? (get ρ i) ≠ none
  | [], vs, rs, h, e => by cases e; cases h; exact ⟨rfl, fun _ z => nomatch z⟩
  | .v d :: as, vs, rs, h, e => by
    obtain ⟨v, w, rfl, h1, h2⟩ := h
    unfold resolve at e
    cases q : resolve ρ as with
    | none => rw [q] at e; cases e
    | some r =>
      rw [q] at e; cases e
      have ih := own_ios R h2 q
      have e1 : ownA (RV.val d :: r) (v :: w) = ownA r w := by cases v <;> rfl
      rw [e1]
      exact ih
  | .io i :: as, vs, rs, h, e => by
    obtain ⟨v, w, rfl, h1, h2⟩ := h
    unfold resolve at e
    cases q0 : ow? (get ρ i) with
    | none => rw [q0] at e; cases e
    | some o =>
      cases q : resolve ρ as with
      | none => rw [q0, q] at e; cases e
      | some r =>
        rw [q0, q] at e; cases e
        have ih := own_ios R h2 q
        obtain ⟨s, o', hs, _, e2, hso⟩ := ow_slot (ρ := ρ) (i := i) (by rw [q0]; simp)
        obtain ⟨v', ev, sa⟩ := R.sl i s hs
        rw [h1] at ev; cases ev
        have : ∃ a, v = .ref a := by
          rcases hso with rfl | ⟨k, rfl⟩
          · obtain ⟨a, e, _⟩ := sa; exact ⟨a, e⟩
          · exact ⟨_, sa.1⟩
        obtain ⟨a, rfl⟩ := this
        refine ⟨?_, ?_⟩
        · show some (some (V.ref a)) :: (ownA r w).map _ = σ[i]? :: (ios as).map _
          rw [h1, ih.1]
        · intro j hj
          rcases List.mem_cons.mp hj with rfl | hj
          · rw [q0]; simp
          · exact ih.2 j hj
theorem nodup_own {l : List Addr} {is : List Nat} {σ : L2.St} (e : l.map (fun a => some (some (V.ref a))) = is.map (fun i => σ[i]?)) (ap : ∀ i j a, i ∈ is → j ∈ is → σ[i]? = some (some (.ref a)) → σ[j]? = some (some (.ref a)) → i = j) (nd : is.Nodup) : l.Nodup := by
  induction l generalizing is with
  | nil => exact .nil
  | cons a l ih =>
    cases is with
    | nil => cases e
    | cons i is =>
      rw [List.map_cons, List.map_cons] at e
      injection e with e1 e2
      have nd' := List.nodup_cons.mp nd
      refine List.nodup_cons.mpr ⟨fun hm => ?_, ih e2 (fun i j a hi hj => ap i j a (List.mem_cons_of_mem _ hi) (List.mem_cons_of_mem _ hj)) nd'.2⟩
      have : some (some (V.ref a)) ∈ is.map (fun i => σ[i]?) := by rw [← e2]; exact List.mem_map.mpr ⟨a, hm, rfl⟩
      obtain ⟨j, hj, ej⟩ := List.mem_map.mp this
      have := ap i j a List.mem_cons_self (List.mem_cons_of_mem _ hj) e1.symm ej
      subst this
      exact nd'.1 hj
theorem setOuts_len : ∀ {is : List Nat} {os : List Ow} {ρ : Env}, (setOuts ρ is os).length = ρ.length
  | [], os, ρ => by cases os <;> rfl
  | i :: is, [], ρ => rfl
  | i :: is, o :: os, ρ => by
    show (setOuts (put ρ i _) is os).length = _
    rw [setOuts_len, put_length]
theorem get_outs_ne : ∀ {is : List Nat} {os : List Ow} {ρ : Env} {j : Nat}, j ∉ is → get (setOuts ρ is os) j = get ρ j
  | [], os, ρ, j, _ => by cases os <;> rfl
  | i :: is, [], ρ, j, _ => rfl
  | i :: is, o :: os, ρ, j, h => by
    show get (setOuts (put ρ i _) is os) j = _
    rw [get_outs_ne (fun z => h (List.mem_cons_of_mem _ z)), get_put_ne (fun z => h (by rw [z]; exact List.mem_cons_self))]
theorem get_outs_mem : ∀ {is : List Nat} {os : List Ow} {ρ : Env} {n i : Nat} {o : Ow}, is.Nodup → is[n]? = some i → os[n]? = some o → i < ρ.length → get (setOuts ρ is os) i = setOw (get ρ i) o
  | [], _, _, _, _, _, _, h, _, _ => by simp at h
  | _ :: _, [], _, _, _, _, _, _, h, _ => by simp at h
  | j :: is, p :: os, ρ, 0, i, o, nd, h1, h2, hl => by
    simp at h1 h2
    subst h1; subst h2
    show get (setOuts (put ρ j _) is os) j = _
    rw [get_outs_ne (List.nodup_cons.mp nd).1, get_put_self hl]
  | j :: is, p :: os, ρ, n + 1, i, o, nd, h1, h2, hl => by
    have h1' : is[n]? = some i := by simpa using h1
    have h2' : os[n]? = some o := by simpa using h2
    show get (setOuts (put ρ j _) is os) i = _
    rw [get_outs_mem (List.nodup_cons.mp nd).2 h1' h2' (by rw [put_length]; exact hl)]
    congr 1
    refine get_put_ne fun z => ?_
    subst z
    exact (List.nodup_cons.mp nd).1 (List.mem_of_getElem? h1')
theorem outs_get {F : Fk} {H : Hp} {O : AP1} : ∀ {l : List Addr} {os : List Ow} {n : Nat} {a : Addr}, OutsAt F H O l os → l[n]? = some a → ∃ o, os[n]? = some o ∧ O a ∧ OwAt F H O a o
  | [], _, _, _, _, h => by simp at h
  | b :: l, _, 0, a, h, e => by
    obtain ⟨o, r, rfl, h1, h2, _⟩ := h
    simp at e; subst e
    exact ⟨o, by simp, h1, h2⟩
  | b :: l, _, n + 1, a, h, e => by
    obtain ⟨o, r, rfl, _, _, h3⟩ := h
    obtain ⟨o', e', q⟩ := outs_get h3 (by simpa using e)
    exact ⟨o', by simpa using e', q⟩
theorem outs_len {F : Fk} {H : Hp} {O : AP1} : ∀ {l : List Addr} {os : List Ow}, OutsAt F H O l os → os.length = l.length
  | [], _, h => by cases h; rfl
  | b :: l, _, h => by
    obtain ⟨o, r, rfl, _, _, h3⟩ := h
    simp [outs_len h3]
section
variable {ρ : Env} {σ : L2.St} {H H' : Hp} {O O' : AP1} {is : List Nat} {l : List Addr} {os : List Ow}
theorem ios_mo (R : Rel F ρ σ H O) (e : l.map (fun a => some (some (V.ref a))) = is.map (fun i => σ[i]?)) (ow : ∀ i ∈ is, ow? (get ρ i) ≠ none) : ∀ a, a ∈ l → Mo ρ σ a := by
  intro a ha
  have : some (some (V.ref a)) ∈ is.map (fun i => σ[i]?) := by rw [← e]; exact List.mem_map.mpr ⟨a, ha, rfl⟩
  obtain ⟨i, hi, ei⟩ := List.mem_map.mp this
  obtain ⟨s, o, h1, h2, _⟩ := ow_slot (ow i hi)
  exact ⟨i, s, h1, h2, ei⟩
/-- a slot that is not handed over stands -/
theorem slot_other (R : Rel F ρ σ H O) (e : l.map (fun a => some (some (V.ref a))) = is.map (fun i => σ[i]?)) (ow : ∀ i ∈ is, ow? (get ρ i) ≠ none) (st : Stp (· ∈ l) H O H' O') {i : Nat} {s : SV} (hi : i ∉ is) (h : get ρ i = some s) :
    ∃ v, σ[i]? = some (some v) ∧ SlotAt F H' O' s v := by
  obtain ⟨v, ev, q⟩ := R.sl i s h
  have mo := ios_mo R e ow
  have sy : Stay H O H' O' := st.stay fun a m => R.mo (mo a m)
  have no : isOw s → ∀ a, v = .ref a → a ∉ l := fun hs a ea ha => by
    subst ea
    have : some (some (V.ref a)) ∈ is.map (fun i => σ[i]?) := by rw [← e]; exact List.mem_map.mpr ⟨a, ha, rfl⟩
    obtain ⟨j, hj, ej⟩ := List.mem_map.mp this
    obtain ⟨t, o, h1, h2, _⟩ := ow_slot (ow j hj)
    have := R.ap i j s t a h h1 hs h2 ev ej
    subst this
    exact hi hj
  refine ⟨v, ev, ?_⟩
  cases s with
  | val d => exact Rep.stay sy d v q
  | own o =>
    obtain ⟨a, ea, oa, n0, z⟩ := q
    have na := no trivial a ea
    exact ⟨a, ea, st.up a oa na, n0, z.stay sy fun u hu => st.keep a u hu na⟩
  | par k o =>
    obtain ⟨ea, oa, z⟩ := q
    have na := no trivial _ ea
    exact ⟨ea, st.up _ oa na, z.stay sy fun u hu => st.keep _ u hu na⟩
theorem stp_mo (R : Rel F ρ σ H O) (mo : ∀ a, a ∈ l → Mo ρ σ a) (st : Stp (· ∈ l) H O H' O') : Stp (Mo ρ σ) H O H' O' :=
  ⟨fun a u h n => st.keep a u h fun z => n (mo a z), st.low, fun a h n => st.up a h fun z => n (mo a z), st.al⟩
theorem mem_ix {α : Type} {l : List α} {x : α} (h : x ∈ l) : ∃ n : Nat, l[n]? = some x := List.getElem?_of_mem h
theorem Mv.outs (R : Rel F ρ σ H O) (e : l.map (fun a => some (some (V.ref a))) = is.map (fun i => σ[i]?)) (ow : ∀ i ∈ is, ow? (get ρ i) ≠ none) (nd : is.Nodup) (st : Stp (· ∈ l) H O H' O') (tr : ∀ a, O' a → OAt H' a) (oa : OutsAt F.toFk H' O' l os) :
    Mv F ρ σ H O (setOuts ρ is os) H' O' := by
  have mo := ios_mo R e ow
  -- a slot behind the call: as it was, or handed over
  have slots : ∀ i s, get (setOuts ρ is os) i = some s → (i ∉ is ∧ get ρ i = some s) ∨ (i ∈ is ∧ isOw s ∧ ∃ s0 a, get ρ i = some s0 ∧ isOw s0 ∧ σ[i]? = some (some (.ref a)) ∧ a ∈ l ∧ SlotAt F H' O' s (.ref a)) := by
    intro i s h
    by_cases hi : i ∈ is
    · refine .inr ⟨hi, ?_⟩
      obtain ⟨n, hn⟩ := mem_ix hi
      obtain ⟨s0, o0, h0, h1, h2, h3⟩ := ow_slot (ow i hi)
      obtain ⟨v, ev, q⟩ := R.sl i s0 h0
      have hl : (l.map (fun a => some (some (V.ref a))))[n]? = some (σ[i]?) := by rw [e, List.getElem?_map, hn]; rfl
      rw [List.getElem?_map] at hl
      obtain ⟨a, ha, ea⟩ := Option.map_eq_some_iff.mp hl
      obtain ⟨o, ho, oo, oz⟩ := outs_get oa ha
      rw [get_outs_mem nd hn ho (get_lt h0), h0] at h
      rw [← ea] at ev
      have ev' : v = .ref a := by cases ev; rfl
      subst ev'
      rcases h3 with rfl | ⟨k, rfl⟩
      · cases h
        obtain ⟨b, eb, _, n0, _⟩ := q
        cases eb
        exact ⟨trivial, _, a, h0, h1, ea.symm, List.mem_of_getElem? ha, a, rfl, oo, n0, oz⟩
      · cases h
        obtain ⟨eb, _, _⟩ := q
        have eb' : a = F.PA k := by injection eb
        refine ⟨trivial, _, a, h0, h1, ea.symm, List.mem_of_getElem? ha, ?_⟩
        subst eb'
        exact ⟨rfl, oo, oz⟩
    · rw [get_outs_ne hi] at h
      exact .inl ⟨hi, h⟩
  have old : ∀ i s, get (setOuts ρ is os) i = some s → isOw s → ∃ s0, get ρ i = some s0 ∧ isOw s0 := by
    intro i s h ho
    rcases slots i s h with ⟨_, h1⟩ | ⟨_, _, s0, _, h1, h2, _⟩
    · exact ⟨s, h1, ho⟩
    · exact ⟨s0, h1, h2⟩
  refine ⟨⟨fun i s h => ?_, fun i j s t a hi hj hs ht ei ej => ?_, tr, by rw [setOuts_len]; exact R.ln, fun a z => st.al a (R.h0 a z)⟩, stp_mo R mo st, fun a m => ?_⟩
  · rcases slots i s h with ⟨hi, h1⟩ | ⟨hi, _, s0, a, h1, h2, ea, ha, q⟩
    · exact slot_other R e ow st hi h1
    · exact ⟨_, ea, q⟩
  · obtain ⟨s0, h1, h2⟩ := old i s hi hs
    obtain ⟨t0, h3, h4⟩ := old j t hj ht
    exact R.ap i j s0 t0 a h1 h3 h2 h4 ei ej
  · obtain ⟨i, s, h1, h2, h3⟩ := m
    obtain ⟨s0, h4, h5⟩ := old i s h1 h2
    exact ⟨i, s0, h4, h5, h3⟩
theorem Rel.wiped (R : Rel F ρ σ H O) (e : l.map (fun a => some (some (V.ref a))) = is.map (fun i => σ[i]?)) (ow : ∀ i ∈ is, ow? (get ρ i) ≠ none) (st : Stp (· ∈ l) H O H' O') (tr : ∀ a, O' a → OAt H' a) : Rel F (wipes ρ is) σ H' O' where
  sl := fun i s h => slot_other R e ow st (get_wipes h).2 (get_wipes h).1
  ap := fun i j s t a hi hj hs ht ei ej => R.ap i j s t a (get_wipes hi).1 (get_wipes hj).1 hs ht ei ej
  tr := tr
  ln := by rw [wipes_length]; exact R.ln
  h0 := fun a z => st.al a (R.h0 a z)
end
theorem resAt_rr {Hs H' : Hp} {O O' : AP1} {r : RV} {v : V} (k : Hk F Hs O) (h : ResAt F.toFk Hs r v H' O') : RR F Hs r v H' O' := by
  cases r with
  | val d => exact h
  | own o => obtain ⟨a, e, oa, n, q⟩ := h; exact ⟨a, e, oa, n, k.n0 n, q⟩
def callE (S : SPX) (f : Nat) (ws : List WE) (io : List Bool) : Env → RP → XP → Prop := fun ρ P X => argsW ws io ρ (fun as ρ' => (ios as).Nodup ∧ ∃ rs, resolve ρ' as = some rs ∧
      S f rs (fun r outs => outs.length = (ios as).length → P r (setOuts ρ' (ios as) outs)) (fun c p => X c p (wipes ρ' (ios as)))) X
theorem e_call {f : Nat} {nm : Str} {pn : List Str} {p pos : Pos} {e : Expr} {es : List Expr} {ws : List WE} {io : List Bool} (C : Cxt T F FN N sc X Wx) (hf : FN[f]? = some (nm, pn)) (hg : Gl X nm) (ha : PA X (e :: es) (tAs T F Wx ws io))
    (hd : (nm == ("__debug__" : Str)) = false) (hs : (e :: es).all notStar = true) : PE X (.Call (.Name nm p) (e :: es) [] pos) (tE T F Wx (callE T.S f ws io)) := by
  obtain ⟨k, hr, g⟩ := C.glo
  obtain ⟨fa, fd, hm, hk, hb, fg⟩ := g.call f nm pn hf
  rw [List.all_cons, Bool.and_eq_true] at hs
  refine PE.imp (pe_callG fg hr C.gd hg hm hk hb.1 C.tk ha hd (star_cons hs.1) (star_any hs.2)) fun σ H Q ⟨ρ, O, P, Xp, R, w, q, hX⟩ => ?_
  refine ⟨ρ, O, _, Xp, R, w, fun as ρ1 vs H1 O1 hp m1 a1 => ?_, hX⟩
  obtain ⟨nd, rs, er, hS⟩ := hp
  have R1 := m1.rel
  have aa := resolve_args R1 a1 er
  obtain ⟨eo, ow⟩ := own_ios R1 a1 er
  have ndo : (ownA rs vs).Nodup := nodup_own eo (fun i j a hi hj ei ej => by
    obtain ⟨s, _, h1, h2, _⟩ := ow_slot (ow i hi)
    obtain ⟨t, _, h3, h4, _⟩ := ow_slot (ow j hj)
    exact R1.ap i j s t a h1 h3 h2 h4 ei ej) nd
  refine ⟨rs, O1, _, _, aa, ndo, R1.tr, hS, fun r outs v H2 O2 hr2 st tr ra oa => ?_, fun c ps cls d H2 O2 hx st tr er2 => ?_⟩
  · have hl : outs.length = (ios as).length := by
      rw [outs_len oa]
      have := congrArg List.length eo
      simpa using this
    exact q r _ v H2 O2 (hr2 hl) (Mv.trans R m1 (Mv.outs R1 eo ow nd st tr oa)) ((resAt_rr R1.hk ra).back m1.stp.al)
  · have mo := ios_mo R1 eo ow
    exact (hX.mv R m1) c ps _ cls d H2 O2 hx (Rel.wiped R1 eo ow st tr) (stp_mo R1 mo st) er2
theorem as_k {n : Str} {kp : Pos} {e : Expr} {w : WE} (h : PE X e (tE T F Wx w.v)) : PK X [⟨some n, e, kp⟩] (tAs T F Wx [w] [false]) := by
  refine ⟨fun pos pins s σ H Q I ⟨ρ, O, P, Xp, R, w', q, hX⟩ => ?_⟩
  have w2 : w.v ρ (fun r ρ1 => P [.v r.d] ρ1) Xp := w'
  refine (pk_cons h pk_nil).run pos pins s σ H Q I ⟨ρ, O, _, Xp, R, w2, fun r ρ1 v H1 O1 hp m1 a1 => ?_, hX⟩
  obtain ⟨O1', m1', r1⟩ := m1.frozen R a1
  exact q _ ρ1 _ H1 O1' hp m1' ⟨v, [], rfl, r1, rfl⟩
theorem e_callK {f : Nat} {nm n : Str} {p pos kp : Pos} {e : Expr} {w : WE} (C : Cxt T F FN N sc X Wx) (hf : FN[f]? = some (nm, [n])) (hg : Gl X nm) (he : PE X e (tE T F Wx w.v))
    (hd : (nm == ("__debug__" : Str)) = false) : PE X (.Call (.Name nm p) [] [⟨some n, e, kp⟩] pos) (tE T F Wx (callE T.S f [w] [false])) := by
  obtain ⟨k, hr, g⟩ := C.glo
  obtain ⟨fa, fd, hm, hk, hb, fg⟩ := g.call f nm [n] hf
  refine PE.imp (pe_callK fg hr C.gd hg hm hk (hb.2 n rfl) C.tk (as_k he) hd rfl rfl rfl) fun σ H Q ⟨ρ, O, P, Xp, R, w, q, hX⟩ => ?_
  refine ⟨ρ, O, _, Xp, R, w, fun as ρ1 vs H1 O1 hp m1 a1 => ?_, hX⟩
  obtain ⟨nd, rs, er, hS⟩ := hp
  have R1 := m1.rel
  have aa := resolve_args R1 a1 er
  obtain ⟨eo, ow⟩ := own_ios R1 a1 er
  have ndo : (ownA rs vs).Nodup := nodup_own eo (fun i j a hi hj ei ej => by
    obtain ⟨s, _, h1, h2, _⟩ := ow_slot (ow i hi)
    obtain ⟨t, _, h3, h4, _⟩ := ow_slot (ow j hj)
    exact R1.ap i j s t a h1 h3 h2 h4 ei ej) nd
  refine ⟨rs, O1, _, _, aa, ndo, R1.tr, hS, fun r outs v H2 O2 hr2 st tr ra oa => ?_, fun c ps cls d H2 O2 hx st tr er2 => ?_⟩
  · have hl : outs.length = (ios as).length := by
      rw [outs_len oa]
      have := congrArg List.length eo
      simpa using this
    exact q r _ v H2 O2 (hr2 hl) (Mv.trans R m1 (Mv.outs R1 eo ow nd st tr oa)) ((resAt_rr R1.hk ra).back m1.stp.al)
  · have mo := ios_mo R1 eo ow
    exact (hX.mv R m1) c ps _ cls d H2 O2 hx (Rel.wiped R1 eo ow st tr) (stp_mo R1 mo st) er2
end
end EV
set_option linter.all false
set_option maxRecDepth 100000
set_option autoImplicit false
/-! What is walked: enumerate of a tuple; one rule for lists, tuples, texts; sources by data. -/
namespace EV
open PySem PySem.Spec L2

section
set_option maxHeartbeats 1000000 in
theorem en1_meets {u : Value} {ob : Obj} {Pd : Heap → Prop} (Bg : Begins u ob Pd) :
    Meets (Builtin.«enumerate.__new__» ⟨[.type "enumerate", u], []⟩) (fun _ R s => Pd s.heap ∧
      R (.ok (.ret (.ref (s.heap.push ob).objs.size)))
        { s with heap := (s.heap.push ob).push { cls := .type "enumerate", data := .fields #[.none, .bool false, .ref s.heap.objs.size, rawInt 0, .none, .none] } }) :=
  .of_wp fun prog w A R s hh => by
    obtain ⟨hp0, g0, d0, tk0, os0⟩ := s; obtain ⟨hb0, hh⟩ := hh
    have hsub := sub_enumerate
    have q9 : ∀ {A1 : Around} {E1 : Value → Shared → Prop} {Q1 : Value → Shared → Prop}, Q1 (.ref hp0.objs.size) ⟨hp0.push ob, g0, d0, tk0, os0⟩ → wpAny (model prog w) A1 (pyIter u) Q1 E1 ⟨hp0, g0, d0, tk0, os0⟩ :=
      fun q => Bg.iter prog w _ _ ⟨hp0, g0, d0, tk0, os0⟩ _ hb0 q
    wp_walk using q9
    refine wpAny_stack_any fun stk => wpAny_pure ?_
    split
    · rename_i c _ _ _ _ _
      cases (c == Value.type "enumerate")
      · wp_walk using q9
        exact ⟨_, rfl, hh⟩
      · wp_walk using q9
        exact ⟨_, rfl, hh⟩
    · wp_walk using q9
      exact ⟨_, rfl, hh⟩
variable {prog : Program} {w : World} {A : Around} {E : Value → Shared → Prop} {s : Shared}
theorem en1_call {u : Value} {ob : Obj} {Pd : Heap → Prop} {Q : Value → Shared → Prop} (Bg : Begins u ob Pd) (h1 : Pd s.heap)
    (hq : ∀ h1, IsEnum h1 (s.heap.objs.size + 1) s.heap.objs.size 0 .none → h1.get? s.heap.objs.size = some ob →
      (∀ b o, s.heap.get? b = some o → h1.get? b = some o) → Q (.ref (s.heap.objs.size + 1)) { s with heap := h1 }) :
    wpAny (model prog w) A (call (.type "enumerate") [u]) Q E s := by
  refine callType_new F.called_enumerate (by decide) (F.typeCall_enumerate_1 u) (F.newCall_enumerate_1 u)
    (fun z => F.args_object_init_2 z u) F.entry_enumerate_new (en1_meets Bg) ⟨h1, ?_⟩
  have hz : (s.heap.push ob).objs.size = s.heap.objs.size + 1 := Heap.size_push ..
  show _ ∧ _
  rw [hz]
  have g2 := Heap.get?_push_size (s.heap.push ob) (o := { cls := .type "enumerate", data := .fields #[.none, .bool false, .ref s.heap.objs.size, rawInt 0, .none, .none] }) rfl
  rw [hz] at g2
  have he : IsEnum ((s.heap.push ob).push { cls := .type "enumerate", data := .fields #[.none, .bool false, .ref s.heap.objs.size, rawInt 0, .none, .none] }) (s.heap.objs.size + 1) s.heap.objs.size 0 .none := g2
  exact ⟨⟨_, he, rfl⟩, hq _ he (Heap.get?_push_of_some _ (Heap.get?_push_size _ Bg.free)) fun b o x => Heap.get?_push_of_some _ (Heap.get?_push_of_some _ x)⟩
end

/-- the tuple at a, in new pairs -/
def ItT (K : PySem.W.Frag) (a : Addr) : It where
  go := fun i H => ∃ (xs : List V) (x : V), SqT K H a xs ∧ xs[i]? = some x
  yld := fun i H v H2 => ∃ p x, v = .ref p ∧ H p = none ∧ H2 = upd H p (.tup [.int (i : Nat), x]) ∧ ∀ xs, SqT K H a xs → xs[i]? = some x
  stop := fun i H => ∃ xs : List V, SqT K H a xs ∧ xs.length ≤ i
theorem turn_enT {P : Program} {w : World} {K : PySem.W.Frag} {els : List Expr} {k1 : Nat} {tp : Pos} (a e it : Addr) :
    Turn P w K (.Tuple els k1 tp) (ItT K a) [e, it] e (fun i h => (∃ old, IsEnum h e it ((i : Nat) : Int) old) ∧ h.IsTupleIter it a i ∧ e ≠ it) where
  mem := List.mem_cons_self
  obj := fun i h st b hb => by
    obtain ⟨⟨old, he⟩, ⟨o, ho, hc, hd⟩, _⟩ := st
    have hb : b = e ∨ b = it := by simpa using hb
    rcases hb with rfl | rfl
    · exact ⟨_, he, fun v q => nomatch q⟩
    · exact ⟨o, ho, fun v q => by rw [hd] at q; cases q⟩
  keep := fun i h h1 st k => ⟨st.1.imp fun old he => k e (by simp) _ he, st.2.1.at fun o q => k it (by simp) o q, st.2.2⟩
  item := by
    intro X hP hw hK hc i pins s σ H E I hf st hg
    subst hP hw hK
    obtain ⟨⟨old, he⟩, hit, hne⟩ := st
    obtain ⟨xs, x, hq, hx⟩ := hg
    obtain ⟨its, rv, p, hz⟩ := I.tuple hq
    have p2 : s.heap.IsTuple a its.toArray := p
    obtain ⟨u, hu, ru⟩ := rv.get hx
    have hel : e < s.heap.objs.size := Heap.lt_size he
    have hil : it < s.heap.objs.size := by obtain ⟨_, q, _⟩ := hit; exact Heap.lt_size q
    have nai : a ≠ it := fun z => by
      obtain ⟨o1, e1, c1, _⟩ := hit
      obtain ⟨o2, e2, c2, _⟩ := p2
      rw [z, e1] at e2; cases e2
      rw [c1] at c2; simp at c2
    have nae : e ≠ a := fun z => by
      obtain ⟨o2, e2, c2, _⟩ := p2
      rw [← z] at e2
      have he2 : s.heap.get? e = some _ := he
      rw [he2] at e2; cases e2; simp at c2
    have hid : X.A.in1.handled = none := I.ok.hd hc
    have hlt : i < its.toArray.size := by
      rcases Nat.lt_or_ge i its.toArray.size with h | h
      · exact h
      · rw [List.getElem?_eq_none (by simpa using h)] at hu; cases hu
    refine wpAny_pyNext_enum_itemD (Draws.tuple hid it a nai its.toArray) he ⟨hit, p2⟩ hlt hne (by simp [hne, nae]) fun x' h1 tk hx' ho st1 hT hsz hk => ?_
    have ex : x' = u := by
      have : its.toArray[i]? = some u := by simpa using hu
      rw [this] at hx'; cases hx'; rfl
    subst ex
    refine ⟨_, rfl, wpAny_letOwnedTupleGo_enum (s := { s with heap := h1, toks := tk + 1 }) ho fun h2 he2 sb => ?_⟩
    have hT2 : h2.get? s.heap.objs.size = some { cls := .type "tuple", data := .seq #[.int i tk, x'] } := (sb.2 _ (Nat.ne_of_gt hel)).trans hT
    have ok2 : ObjOk X.prog X.w (upd H s.heap.objs.size (.tup [.int (i : Nat), x])) h2 s.heap.objs.size (.tup [.int (i : Nat), x]) :=
      ⟨(by decide : 2 ≤ sizeLine), [.int i tk, x'], .cons ⟨_, rfl⟩ (.cons ru .nil), ⟨_, hT2, rfl, _, rfl⟩⟩
    have I1 : Inv X pins σ (upd H s.heap.objs.size (.tup [.int (i : Nat), x])) { s with heap := h2, toks := tk + 1 } :=
      I.turnedNew (ch := [e, it]) (fun b ob hb q => by
        have hb : b ≠ e ∧ b ≠ it := by simpa using hb
        exact (sb.2 b hb.1).trans (hk b ob hb.1 hb.2 q)) hf (Nat.le_refl _) ok2
    refine ⟨.ref s.heap.objs.size, _, I1, rfl, ⟨_, x, rfl, I.hok.fresh (Nat.le_refl _), rfl, fun ys hy => by rw [I.tuple_inj hy hq]; exact hx⟩, ⟨⟨x', ?_⟩, st1.1.at fun o q => (sb.2 it (Ne.symm hne)).trans q, hne⟩, fun b hb => ?_⟩
    · have e1 : ((i + 1 : Nat) : Int) = (i : Int) + 1 := by omega
      rw [e1]; exact he2
    · have hb2 : b = e ∨ b = it := by simpa using hb
      have hlt2 : b < s.heap.objs.size := by
        rcases hb2 with rfl | rfl
        · exact hel
        · exact hil
      rw [upd_ne (Nat.ne_of_lt hlt2)]
      exact (hf b hb).1
  done := by
    intro X hP hw hK hc i pins s σ H E I hf st hg
    subst hP hw hK
    obtain ⟨⟨old, he⟩, hit, hne⟩ := st
    obtain ⟨xs, hq, hx⟩ := hg
    obtain ⟨its, rv, p, hz⟩ := I.tuple hq
    have p2 : s.heap.IsTuple a its.toArray := p
    obtain ⟨f0, f1, f2, f3, f4, f5⟩ := hf it (by simp)
    have hl := rv.length
    have nai : a ≠ it := fun z => by
      obtain ⟨o1, e1, c1, _⟩ := hit
      obtain ⟨o2, e2, c2, _⟩ := p2
      rw [z, e1] at e2; cases e2
      rw [c1] at c2; simp at c2
    -- a drawer whose end is here
    have Dr : Draws X.prog X.w X.A.in1 it [it, a] i (fun _ _ => False) (fun j h => j = i ∧ h.IsTupleIter it a i ∧ h.IsTuple a its.toArray) :=
      { live := fun _ _ st => let ⟨o, ho, _⟩ := st.2.1; ⟨o, ho⟩
        frame := fun _ _ _ st hk => ⟨st.1, st.2.1.at fun o e => hk it (by simp) o e, st.2.2.at fun o e => hk a (by simp) o e⟩
        item := fun j s Q E hj st _ => absurd st.1 (Nat.ne_of_lt hj)
        done := fun s Q E st hE => wpAny_nextOf_tuple_end (I.ok.hd hc) st.2.1 st.2.2 (by simp; omega) hE }
    exact wpAny_pyNext_enum_endD Dr he ⟨rfl, hit, p2⟩ fun h1 eb => ⟨rfl, I.turned (t' := s.toks) (fun b o hb q => eb b o hb q) f0 f1 f3 f4 f5⟩
  self := fun A i s Q E st h => let ⟨⟨_, he⟩, _⟩ := st; wpAny_pyIter_enum he h
def iEn (K : PySem.W.Frag) (ta : TA) : TI := fun σ H R => ta σ H fun vs H1 => ∃ a xs, vs = [.ref a] ∧ ((SqL K H1 a xs ∧ R (Ite K a) H1) ∨ (SqT K H1 a xs ∧ R (ItT K a) H1))
theorem pi_en {X : Cx} {e : Expr} {ta : TA} {p pos tp : Pos} {els : List Expr} {k1 : Nat} (hg : Gl X "enumerate") (hm : X.mg "enumerate" = none) (ha : PA X [e] ta) (hs : starEach [e] X.env = [(false, eval e X.env)]) :
    PI X (.Tuple els k1 tp) (.Call (.Name "enumerate" p) [e] [] pos) (iEn X.K ta) := by
  refine ⟨fun pins s σ H R I hw => ?_⟩
  refine PyProof.Rows.Call_ (ld_blt I hg hm PyProof.Rows.boot_enumerate (PyProof.Rows.callWith_type1 (thn (ha.run pos pins s σ H _ I hw) fun us s1 ⟨vs, H1, I1, r1, q1⟩ => ?_) hs rfl))
  obtain ⟨a, xs, ex, q1⟩ := q1
  subst ex
  cases r1 with
  | cons r rr =>
    cases rr
    cases r
    have fr : ∀ b ∈ [s1.heap.objs.size + 1, s1.heap.objs.size], FpOk X pins H1 b := fun b hb => by
      have hb : b = s1.heap.objs.size + 1 ∨ b = s1.heap.objs.size := by simpa using hb
      have hle : s1.heap.objs.size ≤ b := by omega
      exact I1.fpOk hle (I1.hok.fresh hle)
    rcases q1 with ⟨hq, q⟩ | ⟨hq, q⟩
    · obtain ⟨its, rv, p', hz⟩ := I1.list hq
      refine en1_call (begins_list a its.toArray) p'.isList fun h1 he hit hk => wpAny_pyIter_enum he ?_
      exact ⟨s1.heap.objs.size + 1, [s1.heap.objs.size + 1, s1.heap.objs.size], _, _, H1, rfl, I1.kept (t' := s1.toks) hk, turn_enum a (s1.heap.objs.size + 1) s1.heap.objs.size, ⟨⟨.none, he⟩, ⟨_, hit, rfl, rfl⟩, Nat.succ_ne_self _⟩, fr, q⟩
    · obtain ⟨its, rv, p', hz⟩ := I1.tuple hq
      refine en1_call (begins_tuple a its.toArray) p' fun h1 he hit hk => wpAny_pyIter_enum he ?_
      exact ⟨s1.heap.objs.size + 1, [s1.heap.objs.size + 1, s1.heap.objs.size], _, _, H1, rfl, I1.kept (t' := s1.toks) hk, turn_enT a (s1.heap.objs.size + 1) s1.heap.objs.size, ⟨⟨.none, he⟩, ⟨_, hit, rfl, rfl⟩, Nat.succ_ne_self _⟩, fr, q⟩

/-- a list, a tuple, a text -/
def iSeq (K : PySem.W.Frag) (te : TE) : TI := fun σ H R => te σ H fun v H1 => (∃ a xs, v = .ref a ∧ SqL K H1 a xs ∧ R (Itl K a) H1) ∨ (∃ a xs, v = .ref a ∧ SqT K H1 a xs ∧ R (Itt K a) H1) ∨ ∃ x, v = .str x ∧ R (Its x) H1
theorem pi_seq {X : Cx} {tg e : Expr} {te : TE} (he : PE X e te) : PI X tg e (iSeq X.K te) := by
  refine ⟨fun pins s σ H R I hw => ?_⟩
  refine thn (he.run pins s σ H _ I hw) fun v s1 ⟨y, H1, I1, r1, q1⟩ => ?_
  rcases q1 with ⟨a, xs, ey, hq, q⟩ | ⟨a, xs, ey, hq, q⟩ | ⟨x, ey, q⟩
  · subst ey
    cases r1
    obtain ⟨its, rv, p, hz⟩ := I1.list hq
    exact wpAny_pyIter_list p.isList (pi_one (tk := s1.toks) I1 _ (turn_list a _) ⟨_, Heap.get?_push_size _ rfl, rfl, rfl⟩ q)
  · subst ey
    cases r1
    obtain ⟨its, rv, p, hz⟩ := I1.tuple hq
    have p2 : s1.heap.IsTuple a its.toArray := p
    exact wpAny_pyIter_tuple p2 (pi_one (tk := s1.toks) I1 _ (turn_tuple a _) ⟨_, Heap.get?_push_size _ rfl, rfl, rfl⟩ q)
  · subst ey
    obtain ⟨t, rfl⟩ := r1
    cases hb : x.cps.all (· < 128)
    · exact wpAny_pyIter_wide hb (pi_one (tk := s1.toks) I1 _ (turn_str _ x t "str_iterator" (Or.inr rfl)) ⟨_, Heap.get?_push_size _ rfl, rfl, rfl⟩ q)
    · exact wpAny_pyIter_ascii hb (pi_one (tk := s1.toks) I1 _ (turn_str _ x t "str_ascii_iterator" (Or.inl rfl)) ⟨_, Heap.get?_push_size _ rfl, rfl, rfl⟩ q)
end EV
set_option linter.all false
set_option maxRecDepth 20000
set_option autoImplicit false
/-! Sources: what stands of them at a later turn. -/
namespace EV
open PySem PySem.Spec L2

section
variable {T : Tb} {F : Fm} {FN : List (Str × List Str)} {N : List Str} {sc : Scope} {X : Cx} {Wx : WX}
/-- an operand that is kept: a slot, or data -/
def PqOne (F : Fk) (σ : L2.St) (H : Hp) (O : AP1) (p : PV) (v : V) : Prop := match p with
  | .at i _ => σ[i]? = some (some v)
  | .rv r => Rep F H O r.d v
def PqAt (F : Fk) (σ : L2.St) (H : Hp) (O : AP1) : List PV → List V → Prop
  | [], vs => vs = []
  | p :: ps, vs => ∃ v r, vs = v :: r ∧ PqOne F σ H O p v ∧ PqAt F σ H O ps r
def tQ (T : Tb) (F : Fm) (Wx : WX) (w : WE) : TE := fun σ H Q => ∃ ρ O P Xp, Rel F ρ σ H O ∧ peek w ρ P Xp ∧
  (∀ p ρ' v H' O', P p ρ' → p.still ρ' → Mv F ρ σ H O ρ' H' O' → PqOne F.toFk σ H' O' p v → Q v H') ∧ XOk T F Wx ρ σ H O Xp
def tQs (T : Tb) (F : Fm) (Wx : WX) (ws : List WE) : TA := fun σ H Q => ∃ ρ O P Xp, Rel F ρ σ H O ∧ peeks ws ρ P Xp ∧
  (∀ ps ρ' vs H' O', P ps ρ' → (∀ p ∈ ps, p.still ρ') → Mv F ρ σ H O ρ' H' O' → PqAt F.toFk σ H' O' ps vs → Q vs H') ∧ XOk T F Wx ρ σ H O Xp
theorem q_of {e : Expr} {w : WE} (h : PE X e (tP T F Wx w)) : PE X e (tQ T F Wx w) := by
  refine PE.imp h fun σ H Q ⟨ρ, O, P, Xp, R, w', q, hX⟩ => ⟨ρ, O, P, Xp, R, w', fun p ρ' v H' O' hp sp m a => ?_, hX⟩
  cases p with
  | «at» i d => exact q _ ρ' v H' O' hp sp m a
  | rv r =>
    obtain ⟨O1, m1, r1⟩ := m.frozen R a
    exact q _ ρ' v H' O1 hp sp m1 r1
theorem PqOne.later {ρ1 ρ2 : Env} {σ : L2.St} {H1 H2 : Hp} {O1 O2 : AP1} {p : PV} {v : V} (h : PqOne F.toFk σ H1 O1 p v) (s : Stay H1 O1 H2 O2) : PqOne F.toFk σ H2 O2 p v := by
  cases p with
  | «at» i d => exact h
  | rv r => exact Rep.stay s _ _ h
theorem qs_nil : PA X [] (tQs T F Wx []) := PA.imp pa_nil fun σ H Q ⟨ρ, O, P, Xp, R, w, q, hX⟩ => q [] ρ [] H O w (by simp) (.refl R) rfl
theorem qs_cons {e : Expr} {es : List Expr} {w : WE} {ws : List WE} (h : PE X e (tP T F Wx w)) (hr : PA X es (tQs T F Wx ws)) (hs : starEach (e :: es) X.env = (false, eval e X.env) :: starEach es X.env) : PA X (e :: es) (tQs T F Wx (w :: ws)) := by
  refine PA.imp (pa_cons (q_of h) hr hs) fun σ H Q ⟨ρ, O, P, Xp, R, w', q, hX⟩ => ?_
  refine ⟨ρ, O, _, Xp, R, w', fun p ρ1 v H1 O1 hp sp m1 a1 => ?_, hX⟩
  refine ⟨ρ1, O1, _, Xp, m1.rel, hp, fun ps ρ2 vs H2 O2 hp2 sp2 m2 a2 => ?_, hX.mv R m1⟩
  obtain ⟨st, hp2⟩ := hp2
  refine q _ ρ2 _ H2 O2 hp2 (fun p' h' => ?_) (Mv.trans R m1 m2) ⟨v, vs, rfl, a1.later (ρ1 := ρ1) (ρ2 := ρ2) (m2.stay m1.rel), a2⟩
  rcases List.mem_cons.mp h' with rfl | h'
  · exact st
  · exact sp2 p' h'
/-- an operand, later: by a slot that has not changed -/
theorem PqOne.rd {ρ2 : Env} {σ σ2 : L2.St} {H1 H2 : Hp} {O1 O2 : AP1} {p : PV} {v : V} (h : PqOne F.toFk σ H1 O1 p v) (R2 : Rel F ρ2 σ2 H2 O2) (s : Stay H1 O1 H2 O2) (hs : p.fx = false → ∀ (i : Nat) (v : V), σ2[i]? = some (some v) → σ[i]? = some (some v)) (st : p.still ρ2) : RD F.toFk H2 O2 p.d v := by
  cases p with
  | «at» i d =>
    obtain ⟨u, hu, ed⟩ := st
    obtain ⟨w, ew, q⟩ := R2.sl i u hu
    have e : σ[i]? = some (some v) := h
    have e2 := hs rfl i w ew
    rw [e] at e2; cases e2
    show RD F.toFk H2 O2 d v
    subst ed
    cases u with
    | val d' => exact .inl q
    | own o => obtain ⟨a, ea, _, _, z⟩ := q; exact .inr ⟨a, o, ea, rfl, z⟩
    | par k o => obtain ⟨ea, _, z⟩ := q; exact .inr ⟨_, o, ea, rfl, z⟩
  | rv r => exact .inl (Rep.stay s _ _ h)
/-- the source stands at later states -/
def SrcOk (F : Fm) (src : Src) (J : It) (σ : L2.St) (H : Hp) (O : AP1) : Prop :=
  ∀ ρ2 σ2 H2 O2, Rel F ρ2 σ2 H2 O2 → Stay H O H2 O2 → (src.fix = false → ∀ (i : Nat) (v : V), σ2[i]? = some (some v) → σ[i]? = some (some v)) → src.still ρ2 →
    (∀ i, src.items.length ≤ i → J.stop i H2) ∧
    ∀ i d, src.items[i]? = some d → J.go i H2 ∧ ∀ x H3, J.yld i H2 x H3 → ∃ O3, Grow H2 O2 H3 O3 ∧ Rep F.toFk H3 O3 d x
def tI (T : Tb) (F : Fm) (Wx : WX) (ik : IK) (ws : List WE) : TI := fun σ H R => ∃ ρ O P Xp, Rel F ρ σ H O ∧ iterW ik ws ρ P Xp ∧
  (∀ src ρ' J H' O', P src ρ' → Mv F ρ σ H O ρ' H' O' → SrcOk F src J σ H' O' → src.still ρ' → R J H') ∧ XOk T F Wx ρ σ H O Xp
theorem rd_lst {H : Hp} {O : AP1} {ds : List D} {v : V} (hF : F.K = X.K) (h : RD F.toFk H O (.lst ds) v) : ∃ a vs, v = .ref a ∧ SqL X.K H a vs ∧ RepL F.toFk H O ds vs := by
  obtain ⟨a, vs, e, h1, h2⟩ := h.lst
  exact ⟨a, vs, e, .inl h1, h2⟩
theorem rd_tup {H : Hp} {O : AP1} {ds : List D} {v : V} (hF : F.K = X.K) {d : D} (ed : d.n = .tup ds) (h : RD F.toFk H O d v) : ∃ a vs, v = .ref a ∧ SqT X.K H a vs ∧ RepL F.toFk H O ds vs := by
  obtain ⟨a, vs, e, h1, h2⟩ := h.tup ed
  exact ⟨a, vs, e, hF ▸ h1.sq, h2⟩
theorem RepL.at {H : Hp} {O : AP1} {ds : List D} {vs : List V} {i : Nat} {d : D} (h : RepL F.toFk H O ds vs) (e : ds[i]? = some d) {x : V} (hx : vs[i]? = some x) : Rep F.toFk H O d x := by
  obtain ⟨v, ev, r⟩ := h.get e
  rw [hx] at ev; cases ev; exact r
theorem src_lst {p : PV} {ds : List D} {a : Addr} {σ : L2.St} {H : Hp} {O : AP1} (hF : F.K = X.K) (h : PqOne F.toFk σ H O p (.ref a)) (e : p.d = .lst ds) : SrcOk F ⟨ds, p.still, p.fx⟩ (Itl X.K a) σ H O := by
  intro ρ2 σ2 H2 O2 R2 s hs st
  have rd := h.rd R2 s hs st
  rw [e] at rd
  obtain ⟨a', vs, ea, hq, hr⟩ := rd_lst hF rd
  cases ea
  refine ⟨fun i hi => ⟨vs, hq, by rw [← hr.len]; exact hi⟩, fun i d hd => ?_⟩
  obtain ⟨x, hx, rx⟩ := hr.get hd
  refine ⟨⟨vs, x, hq, hx⟩, fun y H3 hy => ?_⟩
  obtain ⟨rfl, hy⟩ := hy
  exact ⟨O2, .refl R2.tr, hr.at hd (hy vs hq)⟩
theorem src_tup {p : PV} {ds : List D} {a : Addr} {σ : L2.St} {H : Hp} {O : AP1} (hF : F.K = X.K) (h : PqOne F.toFk σ H O p (.ref a)) (e : p.d.n = .tup ds) : SrcOk F ⟨ds, p.still, p.fx⟩ (Itt X.K a) σ H O := by
  intro ρ2 σ2 H2 O2 R2 s hs st
  have rd := h.rd R2 s hs st
  obtain ⟨a', vs, ea, hq, hr⟩ := rd_tup hF e rd
  cases ea
  refine ⟨fun i hi => ⟨vs, hq, by rw [← hr.len]; exact hi⟩, fun i d hd => ?_⟩
  obtain ⟨x, hx, rx⟩ := hr.get hd
  refine ⟨⟨vs, x, hq, hx⟩, fun y H3 hy => ?_⟩
  obtain ⟨rfl, hy⟩ := hy
  exact ⟨O2, .refl R2.tr, hr.at hd (hy vs hq)⟩
theorem letters_len {x : Str} : (letters x).length = x.cps.size := by unfold letters; simp
theorem src_str {p : PV} {x : Str} {σ : L2.St} {H : Hp} {O : AP1} : SrcOk F ⟨letters x, p.still, p.fx⟩ (Its x) σ H O := by
  intro ρ2 σ2 H2 O2 R2 s hs st
  refine ⟨fun i hi => by rw [letters_len] at hi; exact hi, fun i d hd => ?_⟩
  have hl : i < x.cps.size := by
    rcases Nat.lt_or_ge i x.cps.size with q | q
    · exact q
    · rw [List.getElem?_eq_none (by rw [letters_len]; exact q)] at hd; cases hd
  refine ⟨hl, fun y H3 hy => ?_⟩
  obtain ⟨rfl, c, hc, ey⟩ := hy
  refine ⟨O2, .refl R2.tr, ?_⟩
  unfold letters at hd
  rw [List.getElem?_map] at hd
  have : x.cps.toList[i]? = some c := by simpa using hc
  rw [this] at hd
  simp at hd
  subst hd
  unfold Rep
  exact ey
theorem rngD_len : ∀ {n : Nat} {lo : Int}, (rngD lo n).length = n
  | 0, _ => rfl
  | n + 1, lo => by show (rngD (lo + 1) n).length + 1 = n + 1; rw [rngD_len]
theorem rngD_get : ∀ {n i : Nat} {lo : Int} {d : D}, (rngD lo n)[i]? = some d → i < n ∧ d = .int (lo + i)
  | 0, _, _, _, h => by simp [rngD] at h
  | n + 1, 0, lo, d, h => by
    have e : some (D.int lo) = some d := h
    cases e
    exact ⟨Nat.succ_pos _, by simp⟩
  | n + 1, i + 1, lo, d, h => by
    have h' : (rngD (lo + 1) n)[i]? = some d := h
    obtain ⟨h1, h2⟩ := rngD_get h'
    refine ⟨Nat.succ_lt_succ h1, ?_⟩
    rw [h2]
    congr 1
    omega
theorem src_rng {lo : Int} {n : Nat} {σ : L2.St} {H : Hp} {O : AP1} : SrcOk F ⟨rngD lo n, fun _ => True, true⟩ (Itr lo n) σ H O := by
  intro ρ2 σ2 H2 O2 R2 s hs st
  refine ⟨fun i hi => by rw [rngD_len] at hi; exact hi, fun i d hd => ?_⟩
  obtain ⟨h1, h2⟩ := rngD_get hd
  subst h2
  refine ⟨h1, fun y H3 hy => ?_⟩
  obtain ⟨rfl, ey⟩ := hy
  exact ⟨O2, .refl R2.tr, by unfold Rep; exact ey⟩
theorem enumD_len : ∀ {ds : List D} {k : Nat}, (enumD ds k).length = ds.length
  | [], _ => rfl
  | d :: r, k => by show (enumD r (k + 1)).length + 1 = r.length + 1; rw [enumD_len]
theorem enumD_get : ∀ {ds : List D} {k i : Nat} {d : D}, (enumD ds k)[i]? = some d → ∃ e, ds[i]? = some e ∧ d = .tup [.int ((k + i : Nat) : Int), e]
  | [], _, _, _, h => by simp [enumD] at h
  | e :: r, k, 0, d, h => by
    have h' : some (D.tup [.int (k : Nat), e]) = some d := h
    cases h'
    exact ⟨e, rfl, rfl⟩
  | e :: r, k, i + 1, d, h => by
    have h' : (enumD r (k + 1))[i]? = some d := h
    obtain ⟨e', h1, h2⟩ := enumD_get h'
    refine ⟨e', h1, ?_⟩
    rw [h2]
    have : k + 1 + i = k + (i + 1) := by omega
    rw [this]
/-- a new pair -/
theorem rep_pair {ρ2 : Env} {σ2 : L2.St} {H2 : Hp} {O2 : AP1} {p : Addr} {d e : D} {x y : V} (R2 : Rel F ρ2 σ2 H2 O2) (hp : H2 p = none) (r1 : Rep F.toFk H2 O2 d x) (r2 : Rep F.toFk H2 O2 e y) :
    ∃ O3, Grow H2 O2 (upd H2 p (.tup [x, y])) O3 ∧ Rep F.toFk (upd H2 p (.tup [x, y])) O3 (.tup [d, e]) (.ref p) := by
  have g : Grow H2 O2 (upd H2 p (.tup [x, y])) O2 := Grow.new hp R2.tr
  refine ⟨O2, g, ?_⟩
  unfold Rep
  exact ⟨p, [x, y], rfl, ⟨upd_same, fun z => (R2.tr p z).ne hp⟩, .cons (Rep.stay g.stay _ _ r1) (.cons (Rep.stay g.stay _ _ r2) .nil)⟩
theorem src_enL {p : PV} {ds : List D} {a : Addr} {σ : L2.St} {H : Hp} {O : AP1} (hF : F.K = X.K) (h : PqOne F.toFk σ H O p (.ref a)) (e : p.d = .lst ds) : SrcOk F ⟨enumD ds 0, p.still, p.fx⟩ (Ite X.K a) σ H O := by
  intro ρ2 σ2 H2 O2 R2 s hs st
  have rd := h.rd R2 s hs st
  rw [e] at rd
  obtain ⟨a', vs, ea, hq, hr⟩ := rd_lst hF rd
  cases ea
  refine ⟨fun i hi => ⟨vs, hq, by rw [← hr.len, ← enumD_len (k := 0)]; exact hi⟩, fun i d hd => ?_⟩
  obtain ⟨e', hd', rfl⟩ := enumD_get hd
  obtain ⟨x, hx, rx⟩ := hr.get hd'
  refine ⟨⟨vs, x, hq, hx⟩, fun y H3 hy => ?_⟩
  obtain ⟨p', x', rfl, hp', rfl, hy⟩ := hy
  rw [show 0 + i = i from Nat.zero_add i]
  exact rep_pair R2 hp' (by unfold Rep; rfl) (hr.at hd' (hy vs hq))
theorem src_enT {p : PV} {ds : List D} {a : Addr} {σ : L2.St} {H : Hp} {O : AP1} (hF : F.K = X.K) (h : PqOne F.toFk σ H O p (.ref a)) (e : p.d.n = .tup ds) : SrcOk F ⟨enumD ds 0, p.still, p.fx⟩ (ItT X.K a) σ H O := by
  intro ρ2 σ2 H2 O2 R2 s hs st
  have rd := h.rd R2 s hs st
  obtain ⟨a', vs, ea, hq, hr⟩ := rd_tup hF e rd
  cases ea
  refine ⟨fun i hi => ⟨vs, hq, by rw [← hr.len, ← enumD_len (k := 0)]; exact hi⟩, fun i d hd => ?_⟩
  obtain ⟨e', hd', rfl⟩ := enumD_get hd
  obtain ⟨x, hx, rx⟩ := hr.get hd'
  refine ⟨⟨vs, x, hq, hx⟩, fun y H3 hy => ?_⟩
  obtain ⟨p', x', rfl, hp', rfl, hy⟩ := hy
  rw [show 0 + i = i from Nat.zero_add i]
  exact rep_pair R2 hp' (by unfold Rep; rfl) (hr.at hd' (hy vs hq))
theorem zipD_get : ∀ {ds es : List D} {i : Nat} {d : D}, (zipD ds es)[i]? = some d → ∃ a b, ds[i]? = some a ∧ es[i]? = some b ∧ d = .tup [a, b]
  | [], _, _, _, h => by simp [zipD] at h
  | _ :: _, [], _, _, h => by simp [zipD] at h
  | a :: r, b :: q, 0, d, h => by
    have h' : some (D.tup [a, b]) = some d := h
    cases h'
    exact ⟨a, b, rfl, rfl, rfl⟩
  | a :: r, b :: q, i + 1, d, h => by
    have h' : (zipD r q)[i]? = some d := h
    obtain ⟨a', b', h1, h2, h3⟩ := zipD_get h'
    exact ⟨a', b', h1, h2, h3⟩
theorem zipD_len : ∀ {ds es : List D} {i : Nat}, (zipD ds es).length ≤ i → ds.length ≤ i ∨ es.length ≤ i
  | [], _, _, h => .inl (Nat.zero_le _)
  | _ :: _, [], _, h => .inr (Nat.zero_le _)
  | a :: r, b :: q, 0, h => by simp [zipD] at h
  | a :: r, b :: q, i + 1, h => by
    have h' : (zipD r q).length + 1 ≤ i + 1 := h
    rcases zipD_len (Nat.le_of_succ_le_succ h') with z | z
    · exact .inl (Nat.succ_le_succ z)
    · exact .inr (Nat.succ_le_succ z)
theorem src_zpL {p q : PV} {ds es : List D} {a b : Addr} {σ : L2.St} {H : Hp} {O : AP1} (hF : F.K = X.K) (h : PqOne F.toFk σ H O p (.ref a)) (h' : PqOne F.toFk σ H O q (.ref b)) (e : p.d = .lst ds) (e' : q.d = .lst es) :
    SrcOk F ⟨zipD ds es, fun ρ => p.still ρ ∧ q.still ρ, p.fx && q.fx⟩ (Itz X.K a b) σ H O := by
  intro ρ2 σ2 H2 O2 R2 s hs st
  have hs1 : p.fx = false → ∀ (i : Nat) (v : V), σ2[i]? = some (some v) → σ[i]? = some (some v) := fun z => hs (by simp [z])
  have hs2 : q.fx = false → ∀ (i : Nat) (v : V), σ2[i]? = some (some v) → σ[i]? = some (some v) := fun z => hs (by simp [z])
  have rd := h.rd R2 s hs1 st.1
  have rd' := h'.rd R2 s hs2 st.2
  rw [e] at rd
  rw [e'] at rd'
  obtain ⟨_, vs, ea, hq, hr⟩ := rd_lst hF rd
  cases ea
  obtain ⟨_, us, eb, hq', hr'⟩ := rd_lst hF rd'
  cases eb
  refine ⟨fun i hi => ⟨vs, us, hq, hq', ?_⟩, fun i d hd => ?_⟩
  · rw [← hr.len, ← hr'.len]; exact zipD_len hi
  · obtain ⟨d1, d2, h1, h2, rfl⟩ := zipD_get hd
    obtain ⟨x, hx, rx⟩ := hr.get h1
    obtain ⟨y, hy, ry⟩ := hr'.get h2
    refine ⟨⟨vs, us, x, y, hq, hq', hx, hy⟩, fun z H3 hz => ?_⟩
    obtain ⟨p', x', y', rfl, hp', rfl, f1, f2⟩ := hz
    exact rep_pair R2 hp' (hr.at h1 (f1 vs hq)) (hr'.at h2 (f2 us hq'))
theorem src_zpT {p q : PV} {ds es : List D} {a b : Addr} {σ : L2.St} {H : Hp} {O : AP1} (hF : F.K = X.K) (h : PqOne F.toFk σ H O p (.ref a)) (h' : PqOne F.toFk σ H O q (.ref b)) (e : p.d.n = .tup ds) (e' : q.d.n = .tup es) :
    SrcOk F ⟨zipD ds es, fun ρ => p.still ρ ∧ q.still ρ, p.fx && q.fx⟩ (RZ.ItzT X.K a b) σ H O := by
  intro ρ2 σ2 H2 O2 R2 s hs st
  have hs1 : p.fx = false → ∀ (i : Nat) (v : V), σ2[i]? = some (some v) → σ[i]? = some (some v) := fun z => hs (by simp [z])
  have hs2 : q.fx = false → ∀ (i : Nat) (v : V), σ2[i]? = some (some v) → σ[i]? = some (some v) := fun z => hs (by simp [z])
  have rd := h.rd R2 s hs1 st.1
  have rd' := h'.rd R2 s hs2 st.2
  obtain ⟨_, vs, ea, hq, hr⟩ := rd_tup hF e rd
  cases ea
  obtain ⟨_, us, eb, hq', hr'⟩ := rd_tup hF e' rd'
  cases eb
  refine ⟨fun i hi => ⟨vs, us, hq, hq', ?_⟩, fun i d hd => ?_⟩
  · rw [← hr.len, ← hr'.len]; exact zipD_len hi
  · obtain ⟨d1, d2, h1, h2, rfl⟩ := zipD_get hd
    obtain ⟨x, hx, rx⟩ := hr.get h1
    obtain ⟨y, hy, ry⟩ := hr'.get h2
    refine ⟨⟨vs, us, x, y, hq, hq', hx, hy⟩, fun z H3 hz => ?_⟩
    obtain ⟨p', x', y', rfl, hp', rfl, f1, f2⟩ := hz
    exact rep_pair R2 hp' (hr.at h1 (f1 vs hq)) (hr'.at h2 (f2 us hq'))
theorem Stay.refl {H : Hp} {O : AP1} : Stay H O H O := ⟨fun _ _ h _ => h, fun _ _ n => n⟩
theorem i_seq {tg e : Expr} {w : WE} (C : Cxt T F FN N sc X Wx) (h : PE X e (tP T F Wx w)) : PI X tg e (tI T F Wx .seq [w]) := by
  refine PI.imp (pi_seq (q_of h)) fun σ H R ⟨ρ, O, P, Xp, Rl, w', q, hX⟩ => ?_
  refine ⟨ρ, O, _, Xp, Rl, w', fun p ρ' v H' O' hp sp m a => ?_, hX⟩
  obtain ⟨st, ds, hd, hp⟩ := hp
  have rd := PqOne.rd a m.rel .refl (fun _ _ _ z => z) st
  cases e : p.d with
  | lst xs =>
    rw [e] at rd hd
    cases hd
    obtain ⟨b, vs, rfl, hq, _⟩ := rd_lst C.K rd
    exact .inl ⟨b, vs, rfl, hq, q _ ρ' _ H' O' hp m (src_lst C.K a e) st⟩
  | tup xs =>
    rw [e] at rd hd
    cases hd
    obtain ⟨b, vs, rfl, hq, _⟩ := rd_tup C.K rfl rd
    exact .inr (.inl ⟨b, vs, rfl, hq, q _ ρ' _ H' O' hp m (src_tup C.K a (by rw [e]; rfl)) st⟩)
  | tC xs =>
    rw [e] at rd hd
    cases hd
    obtain ⟨b, vs, rfl, hq, _⟩ := rd_tup C.K rfl rd
    exact .inr (.inl ⟨b, vs, rfl, hq, q _ ρ' _ H' O' hp m (src_tup C.K a (by rw [e]; rfl)) st⟩)
  | str x =>
    rw [e] at rd hd
    cases hd
    exact .inr (.inr ⟨x, rd.str, q _ ρ' _ H' O' hp m src_str st⟩)
  | _ => rw [e] at hd; cases hd
theorem pq1 {σ : L2.St} {H : Hp} {O : AP1} {p : PV} {vs : List V} (h : PqAt F.toFk σ H O [p] vs) : ∃ v, vs = [v] ∧ PqOne F.toFk σ H O p v := by
  obtain ⟨v, r, e, h1, h2⟩ := h
  have h2 : r = [] := h2
  subst h2
  exact ⟨v, e, h1⟩
theorem pq2 {σ : L2.St} {H : Hp} {O : AP1} {p q : PV} {vs : List V} (h : PqAt F.toFk σ H O [p, q] vs) : ∃ v w, vs = [v, w] ∧ PqOne F.toFk σ H O p v ∧ PqOne F.toFk σ H O q w := by
  obtain ⟨v, r, e, h1, h2⟩ := h
  obtain ⟨w, e2, h3⟩ := pq1 h2
  subst e2
  exact ⟨v, w, e, h1, h3⟩
theorem peeks_len {w : WE} {ws : List WE} : True := trivial
theorem i_en {e : Expr} {w : WE} {p pos tp : Pos} {els : List Expr} {k1 : Nat} (C : Cxt T F FN N sc X Wx) (hg : Gl X "enumerate") (h : PE X e (tP T F Wx w)) (hs : notStar e = true) :
    PI X (.Tuple els k1 tp) (.Call (.Name "enumerate" p) [e] [] pos) (tI T F Wx .enm [w]) := by
  have s1 := star_cons (es := []) (env := X.env) hs
  refine PI.imp (pi_en hg (C.nob (by decide)) (qs_cons h qs_nil s1) s1) fun σ H R ⟨ρ, O, P, Xp, Rl, w', q, hX⟩ => ?_
  refine ⟨ρ, O, _, Xp, Rl, w', fun ps ρ' vs H' O' hp sp m a => ?_, hX⟩
  match ps, hp with
  | [p], hp =>
    obtain ⟨ds, hd, hp⟩ := hp
    obtain ⟨v, rfl, aa⟩ := pq1 a
    have st := sp p (by simp)
    have rd := PqOne.rd aa m.rel .refl (fun _ _ _ z => z) st
    rcases hd with e | e
    · rw [e] at rd
      obtain ⟨b, vs, rfl, hq, _⟩ := rd_lst C.K rd
      exact ⟨b, vs, rfl, .inl ⟨hq, q _ ρ' _ H' O' hp m (src_enL C.K aa e) st⟩⟩
    · obtain ⟨b, vs, rfl, hq, _⟩ := rd_tup C.K e rd
      exact ⟨b, vs, rfl, .inr ⟨hq, q _ ρ' _ H' O' hp m (src_enT C.K aa e) st⟩⟩
theorem i_rng1 {tg e : Expr} {w : WE} {p pos : Pos} (C : Cxt T F FN N sc X Wx) (hg : Gl X "range") (h : PE X e (tP T F Wx w)) (hs : notStar e = true) :
    PI X tg (.Call (.Name "range" p) [e] [] pos) (tI T F Wx .rng1 [w]) := by
  have s1 := star_cons (es := []) (env := X.env) hs
  refine PI.imp (pi_range1 hg (C.nob (by decide)) (qs_cons h qs_nil s1) s1) fun σ H R ⟨ρ, O, P, Xp, Rl, w', q, hX⟩ => ?_
  refine ⟨ρ, O, _, Xp, Rl, w', fun ps ρ' vs H' O' hp sp m a => ?_, hX⟩
  match ps, hp with
  | [p], hp =>
    obtain ⟨n, e, h1, h2, hp⟩ := hp
    obtain ⟨v, rfl, aa⟩ := pq1 a
    have rd := PqOne.rd aa m.rel .refl (fun _ _ _ z => z) (sp p (by simp))
    rw [e] at rd
    rw [rd.int]
    exact ⟨n, rfl, h1, h2, q _ ρ' _ H' O' hp m src_rng trivial⟩
theorem i_rng2 {tg e e2 : Expr} {w w2 : WE} {p pos : Pos} (C : Cxt T F FN N sc X Wx) (hg : Gl X "range") (h : PE X e (tP T F Wx w)) (h2 : PE X e2 (tP T F Wx w2)) (hs : notStar e = true) (hs2 : notStar e2 = true) :
    PI X tg (.Call (.Name "range" p) [e, e2] [] pos) (tI T F Wx .rng2 [w, w2]) := by
  have s2 := star_cons (es := []) (env := X.env) hs2
  have s1 := star_cons (es := [e2]) (env := X.env) hs
  refine PI.imp (pi_range2 hg (C.nob (by decide)) (qs_cons h (qs_cons h2 qs_nil s2) s1) (by rw [s1, s2]; rfl) s2) fun σ H R ⟨ρ, O, P, Xp, Rl, w', q, hX⟩ => ?_
  refine ⟨ρ, O, _, Xp, Rl, w', fun ps ρ' vs H' O' hp sp m a => ?_, hX⟩
  match ps, hp with
  | [p, p2], hp =>
    obtain ⟨i, j, e, e', h1, h2, h3, h4, hp⟩ := hp
    obtain ⟨v, u, rfl, aa, b⟩ := pq2 a
    have rd := PqOne.rd aa m.rel .refl (fun _ _ _ z => z) (sp p (by simp))
    have rd2 := PqOne.rd b m.rel .refl (fun _ _ _ z => z) (sp p2 (by simp))
    rw [e] at rd
    rw [e'] at rd2
    rw [rd.int, rd2.int]
    exact ⟨i, j, rfl, ⟨h1, h2, h3, h4⟩, q _ ρ' _ H' O' hp m src_rng trivial⟩
theorem i_zip {e e2 : Expr} {w w2 : WE} {p pos tp : Pos} {els : List Expr} {k1 : Nat} (C : Cxt T F FN N sc X Wx) (hg : Gl X "zip") (h : PE X e (tP T F Wx w)) (h2 : PE X e2 (tP T F Wx w2)) (hs : notStar e = true) (hs2 : notStar e2 = true) :
    PI X (.Tuple els k1 tp) (.Call (.Name "zip" p) [e, e2] [] pos) (tI T F Wx .zip [w, w2]) := by
  have s2 := star_cons (es := []) (env := X.env) hs2
  have s1 := star_cons (es := [e2]) (env := X.env) hs
  have sa := star_any (env := X.env) (pos := pos) (es := [e2]) (by simp [hs2])
  refine PI.imp (RZ.pi_zipA hg (C.nob (by decide)) (qs_cons h (qs_cons h2 qs_nil s2) s1) s1 sa) fun σ H R ⟨ρ, O, P, Xp, Rl, w', q, hX⟩ => ?_
  refine ⟨ρ, O, _, Xp, Rl, w', fun ps ρ' vs H' O' hp sp m a => ?_, hX⟩
  match ps, hp with
  | [p, p2], hp =>
    obtain ⟨ds, es, hd, hp⟩ := hp
    obtain ⟨v, u, rfl, aa, b⟩ := pq2 a
    have st := sp p (by simp)
    have st2 := sp p2 (by simp)
    have rd := PqOne.rd aa m.rel .refl (fun _ _ _ z => z) st
    have rd2 := PqOne.rd b m.rel .refl (fun _ _ _ z => z) st2
    rcases hd with ⟨e, e'⟩ | ⟨e, e'⟩
    · rw [e] at rd
      rw [e'] at rd2
      obtain ⟨c, vs, rfl, hq, _⟩ := rd_lst C.K rd
      obtain ⟨c2, us, rfl, hq2, _⟩ := rd_lst C.K rd2
      exact ⟨c, c2, vs, us, rfl, .inl ⟨hq, hq2, q _ ρ' _ H' O' hp m (src_zpL C.K aa b e e') ⟨st, st2⟩⟩⟩
    · obtain ⟨c, vs, rfl, hq, _⟩ := rd_tup C.K e rd
      obtain ⟨c2, us, rfl, hq2, _⟩ := rd_tup C.K e' rd2
      exact ⟨c, c2, vs, us, rfl, .inr ⟨hq, hq2, q _ ρ' _ H' O' hp m (src_zpT C.K aa b e e') ⟨st, st2⟩⟩⟩
end
end EV
set_option linter.all false
set_option maxRecDepth 20000
set_option autoImplicit false
/-! Targets; list comprehensions. -/
namespace EV
open PySem PySem.Spec L2

section
variable {T : Tb} {F : Fm} {FN : List (Str × List Str)} {N : List Str} {sc : Scope} {X : Cx} {Wx : WX}
def W0 : WX := fun _ _ _ _ => False
theorem get_put_cases {ρ : Env} {i j : Nat} {u : Option SV} {s : SV} (h : get (put ρ i u) j = some s) : (i = j ∧ u = some s) ∨ (i ≠ j ∧ get ρ j = some s) := by
  by_cases e : i = j
  · subst e
    have hl := get_lt h
    rw [put_length] at hl
    rw [get_put_self hl] at h
    exact .inl ⟨rfl, h⟩
  · rw [get_put_ne e] at h
    exact .inr ⟨e, h⟩
/-- a slot gets a value -/
theorem Rel.put {ρ : Env} {σ : L2.St} {H : Hp} {O : AP1} (R : Rel F ρ σ H O) {i : Nat} {s : SV} {v : V} (h : SlotAt F H O s v) (ne : isOw s → ∀ a, v = .ref a → ¬ Mo ρ σ a) : Rel F (EV.put ρ i (some s)) (σ.set i (some v)) H O where
  sl := fun j t hj => by
    have hl := get_lt hj
    rw [put_length, R.ln] at hl
    rcases get_put_cases hj with ⟨rfl, e⟩ | ⟨e, hj⟩
    · cases e
      exact ⟨v, by rw [List.getElem?_set_self hl], h⟩
    · rw [List.getElem?_set_ne e]
      exact R.sl j t hj
  ap := fun j k t u a hj hk ot ou ej ek => by
    have hlj := get_lt hj
    have hlk := get_lt hk
    rw [put_length, R.ln] at hlj hlk
    rcases get_put_cases hj with ⟨rfl, e⟩ | ⟨e, hj⟩
    · rcases get_put_cases hk with ⟨rfl, e'⟩ | ⟨e', hk⟩
      · rfl
      · cases e
        rw [List.getElem?_set_self hlj] at ej
        rw [List.getElem?_set_ne e'] at ek
        have ev : v = .ref a := by simpa using ej
        exact absurd ⟨k, u, hk, ou, ek⟩ (ne ot a ev)
    · rcases get_put_cases hk with ⟨rfl, e'⟩ | ⟨e', hk⟩
      · cases e'
        rw [List.getElem?_set_self hlk] at ek
        rw [List.getElem?_set_ne e] at ej
        have ev : v = .ref a := by simpa using ek
        exact absurd ⟨j, t, hj, ot, ej⟩ (ne ou a ev)
      · rw [List.getElem?_set_ne e] at ej
        rw [List.getElem?_set_ne e'] at ek
        exact R.ap j k t u a hj hk ot ou ej ek
  tr := R.tr
  ln := by rw [put_length, List.length_set]; exact R.ln
  h0 := R.h0
theorem Mo.put_val {ρ : Env} {σ : L2.St} {i : Nat} {d : D} {v : V} {a : Addr} (m : Mo (EV.put ρ i (some (.val d))) (σ.set i (some v)) a) : Mo ρ σ a := by
  obtain ⟨j, s, h1, h2, h3⟩ := m
  rcases get_put_cases h1 with ⟨rfl, e⟩ | ⟨e, h1⟩
  · cases e; exact h2.elim
  · rw [List.getElem?_set_ne e] at h3
    exact ⟨j, s, h1, h2, h3⟩
/-- an owned thing that no slot holds is written -/
theorem Rel.write {ρ : Env} {σ : L2.St} {H : Hp} {O : AP1} (R : Rel F ρ σ H O) {a : Addr} {u : HO} (oa : O a) (na : ¬ Mo ρ σ a) (hu : isTupO u = false := by rfl) : Rel F ρ σ (upd H a u) O := by
  have sy : Stay H O (upd H a u) O := ⟨fun b o e n => by rw [upd_ne (fun z : b = a => n (by rw [z]; exact oa))]; exact e, fun _ _ n => n⟩
  have al : ∀ b, H b ≠ none → upd H a u b ≠ none := fun b hb => by
    by_cases z : b = a
    · subst z; rw [upd_same]; simp
    · rw [upd_ne z]; exact hb
  refine ⟨fun i s hi => ?_, R.ap, fun b ob => by
    by_cases z : b = a
    · subst z; exact ⟨_, upd_same, hu⟩
    · unfold OAt
      rw [upd_ne z]; exact R.tr b ob, R.ln, fun b hb => al b (R.h0 b hb)⟩
  obtain ⟨v, ev, q⟩ := R.sl i s hi
  refine ⟨v, ev, ?_⟩
  cases s with
  | val d => exact Rep.stay sy d v q
  | own o =>
    obtain ⟨b, eb, ob, n0, q⟩ := q
    subst eb
    have nb : b ≠ a := fun z => na (z ▸ ⟨i, _, hi, trivial, ev⟩)
    exact ⟨b, rfl, ob, n0, q.stay sy fun o e => by rw [upd_ne nb]; exact e⟩
  | par k o =>
    obtain ⟨eb, ob, q⟩ := q
    subst eb
    have nb : F.PA k ≠ a := fun z => na (z ▸ ⟨i, _, hi, trivial, ev⟩)
    exact ⟨rfl, ob, q.stay sy fun o e => by rw [upd_ne nb]; exact e⟩

/-! ### slots forgotten -/
theorem wipe_get {σ : L2.St} {i : Nat} : ∀ {vs : List Nat}, i ∉ vs → (wipe σ vs)[i]? = σ[i]?
  | [], _ => rfl
  | v :: vs, h => by
    simp only [List.mem_cons, not_or] at h
    show ((wipe σ vs).set v none)[i]? = _
    rw [List.getElem?_set_ne (fun z => h.1 z.symm)]
    exact wipe_get h.2
theorem Rel.wipe {ρ : Env} {σ : L2.St} {H : Hp} {O : AP1} (R : Rel F ρ σ H O) (vs : List Nat) : Rel F (wipes ρ vs) (L2.wipe σ vs) H O where
  sl := fun i s h => by
    obtain ⟨h1, h2⟩ := get_wipes h
    obtain ⟨v, ev, q⟩ := R.sl i s h1
    exact ⟨v, by rw [wipe_get h2]; exact ev, q⟩
  ap := fun i j s t a hi hj os ot ei ej => by
    obtain ⟨hi, ni⟩ := get_wipes hi
    obtain ⟨hj, nj⟩ := get_wipes hj
    rw [wipe_get ni] at ei
    rw [wipe_get nj] at ej
    exact R.ap i j s t a hi hj os ot ei ej
  tr := R.tr
  ln := by rw [wipes_length, wipe_length]; exact R.ln
  h0 := R.h0
theorem Mo.wipe {ρ : Env} {σ : L2.St} {vs : List Nat} {a : Addr} (m : Mo (wipes ρ vs) (L2.wipe σ vs) a) : Mo ρ σ a := by
  obtain ⟨i, s, h1, h2, h3⟩ := m
  obtain ⟨h1, n⟩ := get_wipes h1
  rw [wipe_get n] at h3
  exact ⟨i, s, h1, h2, h3⟩
theorem Rel.unwipe {ρ : Env} {σ : L2.St} {vs : List Nat} {H : Hp} {O : AP1} (R : Rel F ρ (L2.wipe σ vs) H O) : Rel F ρ σ H O where
  sl := fun i s h => by
    obtain ⟨v, ev, q⟩ := R.sl i s h
    exact ⟨v, (wipe_some ev).1, q⟩
  ap := fun i j s t a hi hj os ot ei ej => by
    obtain ⟨v, ev, _⟩ := R.sl i s hi
    obtain ⟨w, ew, _⟩ := R.sl j t hj
    have e1 := (wipe_some ev).1
    have e2 := (wipe_some ew).1
    rw [e1] at ei
    rw [e2] at ej
    cases ei; cases ej
    exact R.ap i j s t a hi hj os ot ev ew
  tr := R.tr
  ln := by rw [R.ln, wipe_length]
  h0 := R.h0
theorem Mo.unwipe {ρ : Env} {σ : L2.St} {vs : List Nat} {H : Hp} {O : AP1} (R : Rel F ρ (L2.wipe σ vs) H O) {a : Addr} (m : Mo ρ σ a) : Mo ρ (L2.wipe σ vs) a := by
  obtain ⟨i, s, h1, h2, h3⟩ := m
  obtain ⟨v, ev, _⟩ := R.sl i s h1
  have e1 := (wipe_some ev).1
  rw [e1] at h3
  cases h3
  exact ⟨i, s, h1, h2, ev⟩
theorem wipe_set {σ : L2.St} {i : Nat} {o : Option V} : ∀ {vs : List Nat}, i ∈ vs → L2.wipe (σ.set i o) vs = L2.wipe σ vs
  | [], h => by cases h
  | v :: vs, h => by
    show (L2.wipe (σ.set i o) vs).set v none = (L2.wipe σ vs).set v none
    by_cases e : i ∈ vs
    · rw [wipe_set e]
    · rcases List.mem_cons.mp h with rfl | h
      · refine List.ext_getElem? fun j => ?_
        by_cases z : i = j
        · subst z
          by_cases hl : i < σ.length
          · rw [List.getElem?_set_self (by rw [wipe_length, List.length_set]; exact hl), List.getElem?_set_self (by rw [wipe_length]; exact hl)]
          · rw [List.getElem?_eq_none (by rw [List.length_set, wipe_length, List.length_set]; omega), List.getElem?_eq_none (by rw [List.length_set, wipe_length]; omega)]
        · rw [List.getElem?_set_ne z, List.getElem?_set_ne z]
          by_cases zj : j ∈ vs
          · have key : ∀ (τ : L2.St), j ∈ vs → (L2.wipe τ vs)[j]? = if j < τ.length then some none else none := fun τ hj => by
              clear h e
              revert hj
              induction vs with
              | nil => intro hj; cases hj
              | cons w ws ih =>
                intro hj
                show ((L2.wipe τ ws).set w none)[j]? = _
                by_cases q : w = j
                · subst q
                  by_cases hl : w < τ.length
                  · rw [List.getElem?_set_self (by rw [wipe_length]; exact hl), if_pos hl]
                  · rw [List.getElem?_eq_none (by rw [List.length_set, wipe_length]; omega), if_neg hl]
                · rw [List.getElem?_set_ne q]
                  by_cases qq : j ∈ ws
                  · exact ih qq qq
                  · rcases List.mem_cons.mp hj with r | r
                    · exact absurd r.symm q
                    · exact absurd r qq
            rw [key _ zj, key _ zj, List.length_set]
          · rw [wipe_get zj, wipe_get zj, List.getElem?_set_ne z]
      · exact absurd h e
theorem wipe_wipe {σ : L2.St} : ∀ {vs us : List Nat}, (∀ i ∈ vs, i ∈ us) → L2.wipe (L2.wipe σ vs) us = L2.wipe σ us
  | [], us, h => rfl
  | v :: vs, us, h => by
    show L2.wipe ((L2.wipe σ vs).set v none) us = _
    rw [wipe_set (h v List.mem_cons_self)]
    exact wipe_wipe fun i hi => h i (List.mem_cons_of_mem _ hi)

/-! ### targets -/
def gNs : List Nat → TGs
  | [] => gNil
  | i :: is => gCons (gName i) (gNs is)
def gT (K : PySem.W.Frag) : Tg → TG
  | .nm i => gName i
  | .tu is => gTup K is.length (gNs is)
def Tg.ix : Tg → List Nat
  | .nm i => [i]
  | .tu is => is
theorem ns_tops {k : L2.St → Hp → Prop} {H : Hp} {O : AP1} {vs : List Nat} : ∀ {is : List Nat} {ds : List D} {xs : List V} {ρ : Env} {σ : L2.St}, is.length = ds.length → RepL F.toFk H O ds xs → Rel F ρ σ H O → (∀ i ∈ is, i ∈ vs) →
    (∀ σ', Rel F ((is.zip ds).foldl (fun ρ p => EV.put ρ p.1 (some (.val p.2))) ρ) σ' H O → L2.wipe σ' vs = L2.wipe σ vs → (∀ a, Mo ((is.zip ds).foldl (fun ρ p => EV.put ρ p.1 (some (.val p.2))) ρ) σ' a → Mo ρ σ a) → k σ' H) → gNs is xs σ H k
  | [], [], xs, ρ, σ, _, r, R, _, h => by
    unfold RepL at r
    exact ⟨r, h σ R rfl fun _ m => m⟩
  | i :: is, d :: ds, xs, ρ, σ, e, r, R, hi, h => by
    unfold RepL at r
    obtain ⟨v, q, rfl, r1, r2⟩ := r
    refine ⟨v, q, rfl, ?_⟩
    have R1 : Rel F (EV.put ρ i (some (.val d))) (σ.set i (some v)) H O := R.put r1 fun z => z.elim
    refine ns_tops (vs := vs) (Nat.succ.inj e) r2 R1 (fun j hj => hi j (List.mem_cons_of_mem _ hj)) fun σ' R' w m => h σ' R' (by rw [w, wipe_set (hi i List.mem_cons_self)]) fun a ma => Mo.put_val (m a ma)
  | [], _ :: _, _, _, _, e, _, _, _, _ => by cases e
  | _ :: _, [], _, _, _, e, _, _, _, _ => by cases e
theorem g_tops {K : PySem.W.Frag} {k : L2.St → Hp → Prop} {H : Hp} {O : AP1} {vs : List Nat} {tg : Tg} {d : D} {x : V} {ρ ρ3 : Env} {σ : L2.St} (hF : F.K = K) (hb : bindT tg d ρ = some ρ3) (r : Rep F.toFk H O d x) (R : Rel F ρ σ H O) (hi : ∀ i ∈ tg.ix, i ∈ vs)
    (h : ∀ σ', Rel F ρ3 σ' H O → L2.wipe σ' vs = L2.wipe σ vs → (∀ a, Mo ρ3 σ' a → Mo ρ σ a) → k σ' H) : gT K tg x σ H k := by
  cases tg with
  | nm i =>
    have e : some (EV.put ρ i (some (.val d))) = some ρ3 := hb
    cases e
    exact h _ (R.put r fun z => z.elim) (wipe_set (hi i (by simp [Tg.ix]))) fun a m => Mo.put_val m
  | tu is =>
    have hb : (match d.n with | .tup ds => if is.length = ds.length then some ((is.zip ds).foldl (fun ρ p => EV.put ρ p.1 (some (.val p.2))) ρ) else none | _ => none) = some ρ3 := hb
    cases hd : d.n with
    | tup ds =>
      rw [hd] at hb
      have e : (if is.length = ds.length then some ((is.zip ds).foldl (fun ρ p => EV.put ρ p.1 (some (.val p.2))) ρ) else none) = some ρ3 := hb
      by_cases hl : is.length = ds.length
      · rw [if_pos hl] at e
        cases e
        obtain ⟨a, xs, rfl, ht, hr⟩ := RD.tup hd (.inl r)
        exact ⟨a, xs, rfl, hF ▸ ht.sq, by rw [← hr.len, hl], ns_tops hl hr R hi h⟩
      · rw [if_neg hl] at e; cases e
    | _ => rw [hd] at hb; exact nomatch hb
/-- the names of a target: their places, that they are stored -/
def stOk (scope : Scope) (x : Str) : Bool := (match scope.names.lookup x with | some .local => true | some .cell => true | _ => false)
def nmOk (N : List Str) (scope : Scope) (i : Nat) : Expr → Bool
  | .Name x _ => decide (N[i]? = some x) && stOk scope x
  | _ => false
def nmsOk (N : List Str) (scope : Scope) : List Nat → List Expr → Bool
  | [], [] => true
  | i :: is, e :: es => nmOk N scope i e && nmsOk N scope is es
  | _, _ => false
def tgOk (N : List Str) (scope : Scope) (vs : List Nat) : Tg → Expr → Bool
  | .nm i, e => decide (i ∈ vs) && nmOk N scope i e
  | .tu is, .Tuple es _ _ => is.all (fun i => decide (i ∈ vs)) && nmsOk N scope is es
  | _, _ => false
theorem tgOk_ix {N : List Str} {scope : Scope} {vs : List Nat} {tg : Tg} {e : Expr} (h : tgOk N scope vs tg e = true) : ∀ i ∈ tg.ix, i ∈ vs := by
  cases tg with
  | nm i =>
    have h : (decide (i ∈ vs) && nmOk N scope i e) = true := by cases e <;> exact h
    simp only [Bool.and_eq_true, decide_eq_true_eq] at h
    intro j hj
    simp only [Tg.ix, List.mem_cons, List.not_mem_nil, or_false] at hj
    subst hj; exact h.1
  | tu is =>
    cases e with
    | Tuple es k p =>
      have h : (is.all (fun i => decide (i ∈ vs)) && nmsOk N scope is es) = true := h
      simp only [Bool.and_eq_true, List.all_eq_true, decide_eq_true_eq] at h
      exact h.1
    | _ => exact absurd h (by simp [tgOk])
/-- what a target asks of the context -/
structure StC (N : List Str) (scope : Scope) (X : Cx) : Prop where
  eN : X.N = N
  nd : N.Nodup
  calm : X.calm = true
  loc : ∀ x, scope.names.lookup x = some .local → X.env.scope.names.lookup x = some .local
  cel : ∀ x, scope.names.lookup x = some .cell → X.env.scope.names.lookup x = some .cell ∧ X.fn x = true
theorem pg_nm {scope : Scope} {i : Nat} {e : Expr} (S : StC N scope X) (h : nmOk N scope i e = true) : PG X e (gName i) := by
  cases e with
  | Name x p =>
    have h : (decide (N[i]? = some x) && stOk scope x) = true := h
    simp only [Bool.and_eq_true, decide_eq_true_eq] at h
    obtain ⟨h1, h2⟩ := h
    have hN : X.N.Nodup := by rw [S.eN]; exact S.nd
    have hi : X.N[i]? = some x := by rw [S.eN]; exact h1
    unfold stOk at h2
    cases q : scope.names.lookup x with
    | none => rw [q] at h2; cases h2
    | some k =>
      rw [q] at h2
      cases k with
      | «local» => exact pg_name hN hi (.inl (S.loc x q)) (.inr (S.loc x q))
      | cell => exact pg_name hN hi (.inr (S.cel x q).1) (.inl (S.cel x q).2)
      | _ => cases h2
  | _ => exact absurd h (by simp [nmOk])
theorem name_of {scope : Scope} {i : Nat} {e : Expr} (h : nmOk N scope i e = true) : ∃ x p, e = .Name x p := by
  cases e with
  | Name x p => exact ⟨x, p, rfl⟩
  | _ => exact absurd h (by simp [nmOk])
theorem pgs_nms {scope : Scope} (S : StC N scope X) : ∀ {is : List Nat} {es : List Expr}, nmsOk N scope is es = true → PGs X es (gNs is) ∧ (assignEach es X.env).length = is.length ∧ (assignEach es X.env).findIdx? (·.1) = none
  | [], [], _ => ⟨pgs_nil, rfl, rfl⟩
  | i :: is, e :: es, h => by
    have h : (nmOk N scope i e && nmsOk N scope is es) = true := h
    simp only [Bool.and_eq_true] at h
    obtain ⟨x, p, rfl⟩ := name_of h.1
    obtain ⟨h1, h2, h3⟩ := pgs_nms S h.2
    refine ⟨pgs_cons (pg_nm S h.1) h1 rfl, ?_, ?_⟩
    · show (assignEach es X.env).length + 1 = is.length + 1
      rw [h2]
    · show List.findIdx? (·.1) ((false, assign (.Name x p) X.env) :: assignEach es X.env) = none
      rw [List.findIdx?_cons, h3]
      rfl
  | [], _ :: _, h => by cases h
  | _ :: _, [], h => by cases h
theorem pg_tg {scope : Scope} {vs : List Nat} {tg : Tg} {e : Expr} (S : StC N scope X) (h : tgOk N scope vs tg e = true) : PG X e (gT X.K tg) := by
  cases tg with
  | nm i =>
    have h : (decide (i ∈ vs) && nmOk N scope i e) = true := by cases e <;> exact h
    simp only [Bool.and_eq_true] at h
    exact pg_nm S h.2
  | tu is =>
    cases e with
    | Tuple es k p =>
      have h : (is.all (fun i => decide (i ∈ vs)) && nmsOk N scope is es) = true := h
      simp only [Bool.and_eq_true] at h
      obtain ⟨h1, h2, h3⟩ := pgs_nms S h.2
      exact pg_tup S.calm h1 h2 h3
    | _ => exact absurd h (by simp [tgOk])

/-! ### a list comprehension -/
def condT (ws : List WE) : Env → (Bool → Env → Prop) → XP → Prop := fun ρ P X => match ws with
  | [] => P true ρ
  | [w] => w.t ρ P X
  | _ => False
theorem condW_T {ws : List WE} {ρ : Env} {P : Bool → Env → Prop} (h : condW ws ρ P) : condT ws ρ P XF := by
  match ws, h with
  | [], h => exact h
  | [w], h => exact h
theorem xf_ok {ρ : Env} {σ : L2.St} {H : Hp} {O : AP1} {W : WX} : XOk T F W ρ σ H O XF := fun _ _ _ _ _ _ _ h => h.elim
/-- the block's state at a turn: D the new list -/
structure CmS (F : Fm) (ρ1 : Env) (σ1 : L2.St) (H1 : Hp) (O1 : AP1) (D1 : Addr) (acc : List D) (ρ : Env) (σ : L2.St) (H : Hp) (O : AP1) : Prop where
  rel : Rel F ρ σ H O
  oD : O D1
  «at» : OwAt F.toFk H O D1 (.lst acc)
  stp : Stp (Mo ρ1 σ1) H1 O1 H O
  sub : ∀ a, Mo ρ σ a → Mo ρ1 σ1 a
section
variable {ρ1 ρ ρ' : Env} {σ1 σ σ' : L2.St} {H1 H H' : Hp} {O1 O O' : AP1} {D1 : Addr} {acc : List D}
theorem CmS.nD (c : CmS F ρ1 σ1 H1 O1 D1 acc ρ σ H O) (R1 : Rel F ρ1 σ1 H1 O1) (hD : H1 D1 = none) : ¬ Mo ρ σ D1 := fun m => (R1.tr D1 (R1.mo (c.sub D1 m))).ne hD
theorem CmS.start (R1 : Rel F ρ1 σ1 H1 O1) (hD : H1 D1 = none) : CmS F ρ1 σ1 H1 O1 D1 [] ρ1 σ1 (upd H1 D1 (.lst [])) (fun a => O1 a ∨ a = D1) := by
  have g : Grow H1 O1 (upd H1 D1 (.lst [])) (fun a => O1 a ∨ a = D1) := Grow.own hD R1.tr
  exact ⟨R1.grow g, .inr rfl, ⟨[], upd_same, .nil⟩, g.stp, fun _ m => m⟩
theorem CmS.grow (c : CmS F ρ1 σ1 H1 O1 D1 acc ρ σ H O) (R1 : Rel F ρ1 σ1 H1 O1) (g : Grow H O H' O') : CmS F ρ1 σ1 H1 O1 D1 acc ρ σ H' O' :=
  ⟨c.rel.grow g, g.up _ c.oD, c.at.stay g.stay fun u h => g.keep _ u h, c.stp.trans (g.stp (M := fun _ => False)) (fun _ m _ => m.elim) R1.tr, c.sub⟩
theorem CmS.bind (c : CmS F ρ1 σ1 H1 O1 D1 acc ρ σ H O) (R : Rel F ρ' σ' H O) (m : ∀ a, Mo ρ' σ' a → Mo ρ σ a) : CmS F ρ1 σ1 H1 O1 D1 acc ρ' σ' H O :=
  ⟨R, c.oD, c.at, c.stp, fun a h => c.sub a (m a h)⟩
theorem CmS.mv (c : CmS F ρ1 σ1 H1 O1 D1 acc ρ σ H O) (R1 : Rel F ρ1 σ1 H1 O1) (hD : H1 D1 = none) (m : Mv F ρ σ H O ρ' H' O') : CmS F ρ1 σ1 H1 O1 D1 acc ρ' σ H' O' :=
  ⟨m.rel, m.stp.up _ c.oD (c.nD R1 hD), c.at.stay (m.stay c.rel) fun u h => m.stp.keep _ u h (c.nD R1 hD), c.stp.trans m.stp (fun x h _ => c.sub x h) R1.tr, fun a h => c.sub a (m.sub a h)⟩
theorem CmS.app (c : CmS F ρ1 σ1 H1 O1 D1 acc ρ σ H O) (R1 : Rel F ρ1 σ1 H1 O1) (hD : H1 D1 = none) {d : D} {y : V} (r : Rep F.toFk H O d y) :
    ∃ vs, H D1 = some (.lst vs) ∧ vs.length = acc.length ∧ CmS F ρ1 σ1 H1 O1 D1 (acc ++ [d]) ρ σ (upd H D1 (.lst (vs ++ [y]))) O := by
  obtain ⟨vs, e, rr⟩ := c.at
  have sy : Stay H O (upd H D1 (.lst (vs ++ [y]))) O := ⟨fun b o e n => by rw [upd_ne (fun z : b = D1 => n (by rw [z]; exact c.oD))]; exact e, fun _ _ n => n⟩
  refine ⟨vs, e, rr.len.symm, c.rel.write c.oD (c.nD R1 hD), c.oD, ⟨vs ++ [y], upd_same, RepL.stay sy _ _ (rr.append (.cons r .nil))⟩, ⟨fun a u h n => ?_, c.stp.low, c.stp.up, fun a h => ?_⟩, c.sub⟩
  · rw [upd_ne (fun z => by rw [z, hD] at h; cases h)]
    exact c.stp.keep a u h n
  · by_cases z : a = D1
    · subst z; rw [upd_same]; simp
    · rw [upd_ne z]; exact c.stp.al a h
theorem CmS.wipe (c : CmS F ρ1 σ1 H1 O1 D1 acc ρ σ H O) {vs : List Nat} (e : L2.wipe σ vs = σ1) : CmS F ρ1 σ1 H1 O1 D1 acc (wipes ρ vs) σ1 H O := by
  have R := c.rel.wipe vs
  rw [e] at R
  refine ⟨R, c.oD, c.at, c.stp, fun a m => c.sub a ?_⟩
  rw [← e] at m
  exact m.wipe
end
theorem lc_tops {K : PySem.W.Frag} {vs : List Nat} {tg : Tg} {ik : IK} {ia cond : List WE} {elt : WE} (hF : F.K = K) (htg : ∀ i ∈ tg.ix, i ∈ vs) {σ : L2.St} {H : Hp} {Q : VK} (h : tE T F Wx (cm1W vs tg ik ia cond elt) σ H Q) :
    tLc (tI T F Wx ik ia) (gT K tg) (tT T F W0 (condT cond)) (tE T F W0 elt.v) vs σ H Q := by
  obtain ⟨ρ, O, P, Xp, R, w, q, hX⟩ := h
  refine ⟨ρ, O, _, Xp, R, w, fun src ρ1 J H1 O1 hp m1 so st1 D1 hD => ?_, hX⟩
  obtain ⟨I, hI0, hst, hstep, hend⟩ := hp
  have Rw : Rel F (wipes ρ1 vs) (L2.wipe σ vs) H1 O1 := m1.rel.wipe vs
  refine ⟨fun i m H2 => m = src.items.length - i ∧ i ≤ src.items.length ∧ ∃ acc ρ2 O2, I i acc ρ2 ∧ CmS F (wipes ρ1 vs) (L2.wipe σ vs) H1 O1 D1 acc ρ2 (L2.wipe σ vs) H2 O2, ⟨_, rfl, Nat.zero_le _, [], _, _, hI0, .start Rw hD⟩, ?_⟩
  rintro i m H2 ⟨rfl, hi, acc, ρ2, O2, hI, c⟩
  have sok := so ρ2 (L2.wipe σ vs) H2 O2 c.rel (c.stp.stay fun a m => Rw.mo m) (fun _ i v e => (wipe_some e).1) (hst _ _ _ hI)
  by_cases hlt : i < src.items.length
  · obtain ⟨go, hy⟩ := sok.2 i _ (List.getElem?_eq_getElem hlt)
    refine .inr ⟨go, fun H' => ∃ acc ρ2 O2, I (i + 1) acc ρ2 ∧ CmS F (wipes ρ1 vs) (L2.wipe σ vs) H1 O1 D1 acc ρ2 (L2.wipe σ vs) H' O2, fun H' hn => ⟨src.items.length - (i + 1), by omega, rfl, hlt, hn⟩, fun x H3 y => ?_⟩
    obtain ⟨O3, g, rx⟩ := hy x H3 y
    obtain ⟨ρ3, hb, hcond⟩ := hstep i acc ρ2 _ hI (List.getElem?_eq_getElem hlt)
    have c3 := c.grow Rw g
    refine g_tops hF hb rx c3.rel htg fun σ2 R2 w2 mo2 => ?_
    rw [wipe_wipe fun i h => h] at w2
    refine ⟨by rw [w2] <;> exact (wipe_wipe fun i h => h).symm, ?_⟩
    have c4 := c3.bind R2 mo2
    refine ⟨ρ3, O3, _, XF, R2, condW_T hcond, fun b ρ4 H4 O4 hb m4 => ?_, xf_ok⟩
    have c5 := c4.mv Rw hD m4
    cases b with
    | false =>
      simp only [Bool.false_eq_true, if_false] at hb ⊢
      exact ⟨acc, wipes ρ4 vs, O4, hb, c5.wipe w2⟩
    | true =>
      simp only [if_true] at hb ⊢
      refine ⟨ρ4, O4, _, XF, m4.rel, hb, fun r ρ5 v H5 O5 hq m5 rr => ?_, xf_ok⟩
      obtain ⟨hl, hI5⟩ := hq
      obtain ⟨O6, m6, rep⟩ := m5.frozen m4.rel rr
      obtain ⟨ws, e, el, c6⟩ := (c5.mv Rw hD m6).app Rw hD rep
      exact ⟨ws, e, by rw [el, ← lim_eq]; exact hl, acc ++ [r.d], wipes ρ5 vs, O6, hI5, c6.wipe w2⟩
  · have e : i = src.items.length := by omega
    subst e
    refine .inl ⟨sok.1 _ (Nat.le_refl _), ?_⟩
    have pn := hend acc ρ2 hI
    have nD : H D1 = none := by
      cases z : H D1 with
      | none => rfl
      | some u => exact absurd hD (m1.stp.al D1 (by rw [z]; simp))
    have n0 : F.H0 D1 = none := by
      cases z : F.H0 D1 with
      | none => rfl
      | some u => exact absurd nD (R.h0 D1 (by rw [z]; simp))
    have R2 : Rel F ρ2 σ H2 O2 := c.rel.unwipe
    refine q _ ρ2 _ H2 O2 pn ⟨R2, m1.stp.trans c.stp (fun x h _ => m1.sub x h.wipe) R.tr, fun a h => m1.sub a (c.sub a (Mo.unwipe c.rel h)).wipe⟩ ⟨D1, rfl, c.oD, nD, n0, c.at⟩
theorem Cxt.blk (C : Cxt T F FN N sc X Wx) (s : Shared) (H : Hp) (scope : Scope) (C0 : Addr) (cl : List (Str × Addr)) (fp : List Addr) : Cxt T F FN N (relS scope sc) (X.blk s H scope (compEnvC scope cl C0 X.env) fp) W0 where
  eN := C.eN
  nd := C.nd
  es := by show relS scope X.env.scope = relS scope sc; rw [C.es]
  glo := C.glo
  calm := C.calm
  gd := C.gd
  tk := L2.takes0
  po := PassesOwn.never
theorem StC.blk (C : Cxt T F FN N sc X Wx) (s : Shared) (H : Hp) (scope : Scope) (C0 : Addr) (cl : List (Str × Addr)) (fp : List Addr) : StC N scope (X.blk s H scope (compEnvC scope cl C0 X.env) fp) where
  eN := C.eN
  nd := C.nd
  calm := C.calm
  loc := fun x h => lookup_relS_keep (by decide) h
  cel := fun x h => ⟨lookup_relS_keep (by decide) h, by show (scope.names.lookup x == some NameKind.cell) = true; rw [h]; rfl⟩
section
variable {pe tgE iter : Expr} {ifs : List Expr} {scope : Scope} {own : List (Str × Nat)} {pos : Pos} {tg : Tg} {ik : IK} {ia cond : List WE} {elt : WE}
theorem e_lc (C : Cxt T F FN N sc X Wx) (ok : blkC N sc scope own = true) (htg : tgOk N scope (own.map (·.2)) tg tgE = true) (hi : PI X tgE iter (tI T F Wx ik ia))
    (hc : ∀ (X' : Cx), Cxt T F FN N (relS scope sc) X' W0 → PTs X' ifs (tT T F W0 (condT cond))) (he : ∀ (X' : Cx), Cxt T F FN N (relS scope sc) X' W0 → PE X' pe (tE T F W0 elt.v)) (hs : ∀ x, foldedSetIterable iter X.env x = pure x) :
    PE X (.ListComp pe [⟨tgE, iter, ifs, 0⟩] scope pos) (tE T F Wx (cm1W (own.map (·.2)) tg ik ia cond elt)) := by
  have ok2 : BlkOk X.N X.env.scope scope own := by rw [C.eN, C.es]; exact blkOk_by ok
  exact PE.imp (pe_lc C.calm (by rw [C.eN]; exact C.nd) hi ok2 (fun s H C0 cl fp => pg_tg (StC.blk C s H scope C0 cl fp) htg) (fun s H C0 cl fp => hc _ (C.blk s H scope C0 cl fp)) (fun s H C0 cl fp => he _ (C.blk s H scope C0 cl fp)) hs) fun σ H Q h => lc_tops C.K (tgOk_ix htg) h
theorem s_setLc {i : Nat} {y : Str} {py spos : Pos} (C : Cxt T F FN N sc X Wx) (ok : blkC N sc scope own = true) (htg : tgOk N scope (own.map (·.2)) tg tgE = true) (hi : PI X tgE iter (tI T F Wx ik ia))
    (hc : ∀ (X' : Cx), Cxt T F FN N (relS scope sc) X' W0 → PTs X' ifs (tT T F W0 (condT cond))) (he : ∀ (X' : Cx), Cxt T F FN N (relS scope sc) X' W0 → PE X' pe (tE T F W0 elt.v)) (hs : ∀ x, foldedSetIterable iter X.env x = pure x)
    (hy : N[i]? = some y) (hyl : sc.names.lookup y = some .local) (hk : X.env.scope.kind = .function) (hl : (py.line == pos.line) = true) (ha : (scope.names.any fun (n, k) => n == y && (k == .local || k == .cell)) = false) :
    PS X (.Assign [.Name y py] (.ListComp pe [⟨tgE, iter, ifs, 0⟩] scope pos) spos) (tAsg (tE T F Wx (cm1W (own.map (·.2)) tg ik ia cond elt)) (gName i)) := by
  have ok2 : BlkOk X.N X.env.scope scope own := by rw [C.eN, C.es]; exact blkOk_by ok
  have hyl2 : X.env.scope.names.lookup y = some .local := by rw [C.es]; exact hyl
  exact PS.imp (ps_setLc C.calm (by rw [C.eN]; exact C.nd) (by rw [C.eN]; exact hy) hyl2 (sw_true hk hyl2 hl ha) hi ok2 (fun s H C0 cl fp => pg_tg (StC.blk C s H scope C0 cl fp) htg) (fun s H C0 cl fp => hc _ (C.blk s H scope C0 cl fp)) (fun s H C0 cl fp => he _ (C.blk s H scope C0 cl fp)) hs) fun σ H Q h => lc_tops C.K (tgOk_ix htg) h
end
theorem pts_c0 : PTs X [] (tT T F Wx (condT [])) := ⟨fun pins s σ H Q I ⟨ρ, O, P, Xp, R, w, q, hX⟩ => pts_nil.run pins s σ H Q I (q true ρ H O w (.refl R))⟩
theorem pts_c1 {e : Expr} {w : WE} (h : PT X e (tT T F Wx w.t)) : PTs X [e] (tT T F Wx (condT [w])) := pts_one h
end
end EV
set_option linter.all false
set_option maxRecDepth 20000
set_option autoImplicit false
/-! Statements: ends, moves, the simple ones. -/
namespace EV
open PySem PySem.Spec L2

/-- the ends of a statement -/
structure EK where
  nx : Env → Prop
  rt : RP
  bk : Env → Prop
  ct : Env → Prop
  ex : XP
/-- the addresses of the in-out parameters -/
def Mf (F : Fm) : AP1 := fun a => ∃ k, a = F.PA k
structure Ms (F : Fm) (O0 : AP1) (H : Hp) (O : AP1) (ρ' : Env) (σ' : L2.St) (H' : Hp) (O' : AP1) : Prop where
  rel : Rel F ρ' σ' H' O'
  fr : Stp (Mf F) F.H0 O0 H' O'
  st : Stay H O H' O'
  al : ∀ a, H a ≠ none → H' a ≠ none
/-- a function's result -/
def RF (F : Fm) (r : RV) (v : V) (H' : Hp) (O' : AP1) : Prop := match r with
  | .val d => Rep F.toFk H' O' d v
  | .own o => ∃ a, v = .ref a ∧ O' a ∧ F.H0 a = none ∧ OwAt F.toFk H' O' a o
structure SkOk (T : Tb) (F : Fm) (Wx : WX) (O0 : AP1) (D : Ends) (H : Hp) (O : AP1) (K : EK) : Prop where
  nx : ∀ ρ' σ' H' O', K.nx ρ' → Ms F O0 H O ρ' σ' H' O' → D.nx σ' H'
  rt : ∀ r ρ' v σ' H' O', K.rt r ρ' → Ms F O0 H O ρ' σ' H' O' → RF F r v H' O' → D.rt v H'
  bk : ∀ ρ' σ' H' O', K.bk ρ' → Ms F O0 H O ρ' σ' H' O' → D.bk σ' H'
  ct : ∀ ρ' σ' H' O', K.ct ρ' → Ms F O0 H O ρ' σ' H' O' → D.ct σ' H'
  ex : ∀ c ps ρ' cls d σ' H' O', K.ex c ps ρ' → Ms F O0 H O ρ' σ' H' O' → ExRep T F.toFk c ps cls d H' O' → Wx cls d σ' H'
section
variable {T : Tb} {F : Fm} {FN : List (Str × List Str)} {N : List Str} {sc : Scope} {X : Cx} {Wx : WX} {O0 : AP1}
theorem Stay.trans {H H1 H2 : Hp} {O O1 O2 : AP1} (a : Stay H O H1 O1) (b : Stay H1 O1 H2 O2) (al : ∀ x, H x ≠ none → H1 x ≠ none) : Stay H O H2 O2 :=
  ⟨fun x u h n => b.keep x u (a.keep x u h n) (a.low x (by rw [h]; simp) n), fun x h n => b.low x (al x h) (a.low x h n)⟩
section
variable {H H1 H2 : Hp} {O O1 O2 : AP1} {ρ1 ρ2 : Env} {σ1 σ2 : L2.St}
theorem Ms.refl (R : Rel F ρ1 σ1 H O) (fr : Stp (Mf F) F.H0 O0 H O) : Ms F O0 H O ρ1 σ1 H O := ⟨R, fr, .refl, fun _ h => h⟩
theorem Ms.trans (a : Ms F O0 H O ρ1 σ1 H1 O1) (b : Ms F O0 H1 O1 ρ2 σ2 H2 O2) : Ms F O0 H O ρ2 σ2 H2 O2 := ⟨b.rel, b.fr, a.st.trans b.st a.al, fun x h => b.al x (a.al x h)⟩
theorem mo_mf (R : Rel F ρ1 σ1 H O) : ∀ x, Mo ρ1 σ1 x → F.H0 x ≠ none → Mf F x := fun x m hx => by
  obtain ⟨i, s, h1, h2, h3⟩ := m
  obtain ⟨v, ev, q⟩ := R.sl i s h1
  rw [h3] at ev; cases ev
  cases s with
  | val d => exact h2.elim
  | own o => obtain ⟨a, ea, _, n, _⟩ := q; cases ea; exact absurd n hx
  | par k o => obtain ⟨ea, _, _⟩ := q; cases ea; exact ⟨k, rfl⟩
theorem fr_stp (hO : ∀ a, O0 a → OAt F.H0 a) (R : Rel F ρ1 σ1 H O) (fr : Stp (Mf F) F.H0 O0 H O) (s : Stp (Mo ρ1 σ1) H O H1 O1) : Stp (Mf F) F.H0 O0 H1 O1 := fr.trans s (mo_mf R) hO
theorem Ms.mv (hO : ∀ a, O0 a → OAt F.H0 a) (R : Rel F ρ1 σ1 H O) (fr : Stp (Mf F) F.H0 O0 H O) (m : Mv F ρ1 σ1 H O ρ2 H1 O1) : Ms F O0 H O ρ2 σ1 H1 O1 :=
  ⟨m.rel, fr_stp hO R fr m.stp, m.stay R, m.stp.al⟩
theorem SkOk.mv {D : Ends} {K : EK} (s : SkOk T F Wx O0 D H O K) (m : Ms F O0 H O ρ1 σ1 H1 O1) : SkOk T F Wx O0 D H1 O1 K where
  nx := fun ρ' σ' H' O' h q => s.nx ρ' σ' H' O' h (m.trans q)
  rt := fun r ρ' v σ' H' O' h q => s.rt r ρ' v σ' H' O' h (m.trans q)
  bk := fun ρ' σ' H' O' h q => s.bk ρ' σ' H' O' h (m.trans q)
  ct := fun ρ' σ' H' O' h q => s.ct ρ' σ' H' O' h (m.trans q)
  ex := fun c ps ρ' cls d σ' H' O' h q => s.ex c ps ρ' cls d σ' H' O' h (m.trans q)
theorem SkOk.x {D : Ends} {K : EK} (s : SkOk T F Wx O0 D H O K) (hO : ∀ a, O0 a → OAt F.H0 a) (R : Rel F ρ1 σ1 H O) (fr : Stp (Mf F) F.H0 O0 H O) : XOk T F Wx ρ1 σ1 H O K.ex :=
  fun c ps ρ' cls d H' O' h R' st e => s.ex c ps ρ' cls d σ1 H' O' h ⟨R', fr_stp hO R fr st, st.stay fun _ m => R.mo m, st.al⟩ e
end
def tSt (T : Tb) (F : Fm) (Wx : WX) (O0 : AP1) (w : Env → EK → Prop) : TS := fun D σ H => ∃ ρ O K, Rel F ρ σ H O ∧ Stp (Mf F) F.H0 O0 H O ∧ w ρ K ∧ SkOk T F Wx O0 D H O K
/-- a function's body -/
structure Cxf (T : Tb) (F : Fm) (FN : List (Str × List Str)) (N : List Str) (sc : Scope) (X : Cx) (Wx : WX) : Prop extends Cxt T F FN N sc X Wx where
  st : X.stack = X.env :: X.outer
  fr : X.env.frame = some X.env.locals
  kd : X.env.scope.kind = .function
  fn : ∀ x, sc.names.lookup x = some .cell → X.fn x = true
theorem Cxf.stc (C : Cxf T F FN N sc X Wx) : StC N sc X where
  eN := C.eN
  nd := C.nd
  calm := C.calm
  loc := fun x h => by rw [C.es]; exact h
  cel := fun x h => ⟨by rw [C.es]; exact h, C.fn x h⟩

/-! ### sequences, ends -/
theorem ss_nil : PSs X [] (tSt T F Wx O0 fun ρ K => K.nx ρ) := PSs.imp pss_nil fun D σ H ⟨ρ, O, K, R, fr, w, s⟩ => s.nx ρ σ H O w (.refl R fr)
theorem ss_cons {st : Stmt} {rest : List Stmt} {w1 w2 : Env → EK → Prop} (h1 : PS X st (tSt T F Wx O0 w1)) (h2 : PSs X rest (tSt T F Wx O0 w2)) :
    PSs X (st :: rest) (tSt T F Wx O0 fun ρ K => w1 ρ { K with nx := fun ρ1 => w2 ρ1 K }) := by
  refine PSs.imp (pss_cons h1 h2) fun D σ H ⟨ρ, O, K, R, fr, w, s⟩ => ⟨ρ, O, _, R, fr, w, ⟨fun ρ' σ' H' O' h m => ⟨ρ', O', K, m.rel, m.fr, h, s.mv m⟩, s.rt, s.bk, s.ct, s.ex⟩⟩
theorem s_pass {pos : Pos} : PS X (.Pass pos) (tSt T F Wx O0 fun ρ K => K.nx ρ) := PS.imp ps_pass fun D σ H ⟨ρ, O, K, R, fr, w, s⟩ => s.nx ρ σ H O w (.refl R fr)
theorem s_brk {pos : Pos} : PS X (.Break pos) (tSt T F Wx O0 fun ρ K => K.bk ρ) := PS.imp ps_break fun D σ H ⟨ρ, O, K, R, fr, w, s⟩ => s.bk ρ σ H O w (.refl R fr)
theorem s_cnt {pos : Pos} : PS X (.Continue pos) (tSt T F Wx O0 fun ρ K => K.ct ρ) := PS.imp ps_continue fun D σ H ⟨ρ, O, K, R, fr, w, s⟩ => s.ct ρ σ H O w (.refl R fr)
theorem s_exp {e : Expr} {pos : Pos} {w : WE} (hO : ∀ a, O0 a → OAt F.H0 a) (h : PE X e (tE T F Wx w.v)) (hs : swapsWith e none pos.line X.env = pure false) :
    PS X (.Expr e pos) (tSt T F Wx O0 fun ρ K => w.v ρ (fun _ ρ1 => K.nx ρ1) K.ex) := by
  refine PS.imp (ps_expr h hs) fun D σ H ⟨ρ, O, K, R, fr, w', s⟩ => ⟨ρ, O, _, K.ex, R, w', fun r ρ1 v H1 O1 hp m rr => ?_, s.x hO R fr⟩
  exact s.nx ρ1 σ H1 O1 hp (.mv hO R fr m)
theorem s_retN {pos : Pos} : PS X (.Return none pos) (tSt T F Wx O0 fun ρ K => K.rt (.val .non) ρ) := PS.imp ps_retN fun D σ H ⟨ρ, O, K, R, fr, w, s⟩ => s.rt _ ρ _ σ H O w (.refl R fr) (by show Rep _ _ _ _ _; unfold Rep; rfl)
def retW (w : WE) (ρ : Env) (K : EK) : Prop := match w.vi with
  | some i => (match get ρ i with
    | some (.own o) => K.rt (.own o) ρ
    | _ => w.v ρ K.rt K.ex)
  | none => w.v ρ K.rt K.ex
theorem rr_rf {Hs H : Hp} {O : AP1} {r : RV} {v : V} (h : RR F Hs r v H O) : RF F r v H O := by
  cases r with
  | val d => exact h
  | own o => obtain ⟨a, e, oa, _, n0, q⟩ := h; exact ⟨a, e, oa, n0, q⟩
theorem s_ret {e : Expr} {pos : Pos} {w : WE} (hO : ∀ a, O0 a → OAt F.H0 a) (h : PE X e (tE T F Wx w.v)) (hv : ∀ i, w.vi = some i → PE X e (tVar i)) :
    PS X (.Return (some e) pos) (tSt T F Wx O0 (retW w)) := by
  have h1 : PE X e (fun σ H Q => (∃ i v, w.vi = some i ∧ σ[i]? = some (some v) ∧ Q v H) ∨ tE T F Wx w.v σ H Q) := ⟨fun pins s σ H Q I q => by
    rcases q with ⟨i, v, hi, ev, q⟩ | q
    · exact (hv i hi).run pins s σ H Q I ⟨v, ev, q⟩
    · exact h.run pins s σ H Q I q⟩
  refine PS.imp (ps_ret h1) fun D σ H ⟨ρ, O, K, R, fr, w', s⟩ => ?_
  have gen : w.v ρ K.rt K.ex → tE T F Wx w.v σ H D.rt := fun w' => ⟨ρ, O, _, K.ex, R, w', fun r ρ1 v H1 O1 hp m rr => s.rt r ρ1 v σ H1 O1 hp (.mv hO R fr m) (rr_rf rr), s.x hO R fr⟩
  unfold retW at w'
  cases hvi : w.vi with
  | none => rw [hvi] at w'; exact .inr (gen w')
  | some i =>
    rw [hvi] at w'
    simp only at w'
    cases hg : get ρ i with
    | none => rw [hg] at w'; exact .inr (gen w')
    | some t =>
      rw [hg] at w'
      cases t with
      | own o =>
        obtain ⟨v, ev, a, ea, oa, n0, q⟩ := R.sl i _ hg
        exact .inl ⟨i, v, rfl, ev, s.rt _ ρ v σ H O w' (.refl R fr) ⟨a, ea, oa, n0, q⟩⟩
      | val d => exact .inr (gen w')
      | par k o => exact .inr (gen w')
theorem s_if {c : Expr} {a b : List Stmt} {pos : Pos} {w : WE} {wa wb : Env → EK → Prop} (hO : ∀ a, O0 a → OAt F.H0 a) (hc : PT X c (tT T F Wx w.t)) (ha : PSs X a (tSt T F Wx O0 wa)) (hb : PSs X b (tSt T F Wx O0 wb)) :
    PS X (.If c a b pos) (tSt T F Wx O0 fun ρ K => w.t ρ (fun t ρ1 => if t = true then wa ρ1 K else wb ρ1 K) K.ex) := by
  refine PS.imp (ps_if hc ha hb) fun D σ H ⟨ρ, O, K, R, fr, w', s⟩ => ⟨ρ, O, _, K.ex, R, w', fun t ρ1 H1 O1 hp m => ?_, s.x hO R fr⟩
  have ms : Ms F O0 H O ρ1 σ H1 O1 := .mv hO R fr m
  cases t with
  | true => exact ⟨ρ1, O1, K, ms.rel, ms.fr, by simpa using hp, s.mv ms⟩
  | false => exact ⟨ρ1, O1, K, ms.rel, ms.fr, by simpa using hp, s.mv ms⟩

/-! ### name = value -/
def RV.sv : RV → SV
  | .val d => .val d
  | .own o => .own o
theorem rr_slot {Hs H : Hp} {O : AP1} {r : RV} {v : V} (h : RR F Hs r v H O) : SlotAt F H O r.sv v := by
  cases r with
  | val d => exact h
  | own o => obtain ⟨a, e, oa, _, n0, q⟩ := h; exact ⟨a, e, oa, n0, q⟩
theorem Ms.put {H H1 : Hp} {O O1 : AP1} {ρ1 : Env} {σ : L2.St} {r : RV} {v : V} {i : Nat} {Hs : Hp} (m : Ms F O0 H O ρ1 σ H1 O1) (rr : RR F Hs r v H1 O1) (old : ∀ x, Mo ρ1 σ x → Hs x ≠ none) : Ms F O0 H O (EV.put ρ1 i (some r.sv)) (σ.set i (some v)) H1 O1 :=
  ⟨m.rel.put (rr_slot rr) fun ho a ea mo => by
    cases r with
    | val d => exact ho.elim
    | own o =>
      obtain ⟨b, eb, _, n, _⟩ := rr
      rw [ea] at eb; cases eb
      exact old a mo n, m.fr, m.st, m.al⟩
def setW (i : Nat) (w : WE) (ρ : Env) (K : EK) : Prop := w.v ρ (fun r ρ1 => K.nx (EV.put ρ1 i (some r.sv))) K.ex
theorem set_tops {i : Nat} {w : WE} (hO : ∀ a, O0 a → OAt F.H0 a) (D : Ends) (σ : L2.St) (H : Hp) (h : tSt T F Wx O0 (setW i w) D σ H) : tAsg (tE T F Wx w.v) (gName i) D σ H := by
  obtain ⟨ρ, O, K, R, fr, w', s⟩ := h
  refine ⟨ρ, O, _, K.ex, R, w', fun r ρ1 v H1 O1 hp m rr => ?_, s.x hO R fr⟩
  exact s.nx _ _ H1 O1 hp ((Ms.mv hO R fr m).put rr (m.old R))
theorem s_set {i : Nat} {x : Str} {p' pos : Pos} {e : Expr} {w : WE} (C : Cxf T F FN N sc X Wx) (hO : ∀ a, O0 a → OAt F.H0 a) (hx : nmOk N sc i (.Name x p') = true) (h : PE X e (tE T F Wx w.v)) (hs : swapsWith e (some (.Name x p')) pos.line X.env = pure false) :
    PS X (.Assign [.Name x p'] e pos) (tSt T F Wx O0 (setW i w)) := by
  have hx : (decide (N[i]? = some x) && stOk sc x) = true := hx
  simp only [Bool.and_eq_true, decide_eq_true_eq] at hx
  obtain ⟨h1, h2⟩ := hx
  have hN : X.N.Nodup := by rw [C.eN]; exact C.nd
  have hi : X.N[i]? = some x := by rw [C.eN]; exact h1
  unfold stOk at h2
  cases q : sc.names.lookup x with
  | none => rw [q] at h2; cases h2
  | some k =>
    rw [q] at h2
    have e2 : X.env.scope.names.lookup x = some k := by rw [C.es]; exact q
    cases k with
    | «local» => exact PS.imp (ps_set hN hi (.inl e2) h hs (.inr e2)) (set_tops hO)
    | cell => exact PS.imp (ps_set hN hi (.inr e2) h hs (.inl (C.fn x q))) (set_tops hO)
    | _ => cases h2
theorem s_unp {is : List Nat} {es : List Expr} {k : Nat} {p' pos : Pos} {e : Expr} {w : WE} (C : Cxf T F FN N sc X Wx) (hO : ∀ a, O0 a → OAt F.H0 a) (hx : nmsOk N sc is es = true) (h : PE X e (tE T F Wx w.v)) (hs : swapsWith e (some (.Tuple es k p')) pos.line X.env = pure false)
    (hw : swappedStores [.Tuple es k p'] e X.env = pure none) :
    PS X (.Assign [.Tuple es k p'] e pos) (tSt T F Wx O0 fun ρ K => w.v ρ (fun r ρ1 => ∃ d ρ2, r = .val d ∧ bindT (.tu is) d ρ1 = some ρ2 ∧ K.nx ρ2) K.ex) := by
  have tg : tgOk N sc is (.tu is) (.Tuple es k p') = true := by
    show (is.all (fun i => decide (i ∈ is)) && nmsOk N sc is es) = true
    rw [hx, Bool.and_true, List.all_eq_true]
    intro i hi
    simpa using hi
  refine PS.imp (ps_asg h (pg_tg C.stc tg) hs hw rfl) fun D σ H ⟨ρ, O, K, R, fr, w', s⟩ => ⟨ρ, O, _, K.ex, R, w', fun r ρ1 v H1 O1 hp m rr => ?_, s.x hO R fr⟩
  obtain ⟨d, ρ2, rfl, hb, hp⟩ := hp
  have ms := Ms.mv hO R fr m
  refine g_tops (vs := is) C.K hb rr m.rel (fun i hi => hi) fun σ2 R2 _ _ => ?_
  exact s.nx ρ2 σ2 H1 O1 hp ⟨R2, ms.fr, ms.st, ms.al⟩

/-! ### a, b = x, y : each its own value -/
def RRs (F : Fm) (Hs H : Hp) (O : AP1) : List RV → List V → Prop
  | [], vs => vs = []
  | r :: rs, vs => ∃ v q, vs = v :: q ∧ RR F Hs r v H O ∧ RRs F Hs H O rs q
def tRs (T : Tb) (F : Fm) (Wx : WX) (ws : List WE) : TA := fun σ H Q => ∃ ρ O P Xp, Rel F ρ σ H O ∧ rvals ws ρ P Xp ∧
  (∀ rs ρ' vs H' O', P rs ρ' → Mv F ρ σ H O ρ' H' O' → RRs F H H' O' rs vs → (ownA rs vs).Nodup → Q vs H') ∧ XOk T F Wx ρ σ H O Xp
theorem RR.keep {ρ1 ρ2 : Env} {σ : L2.St} {Hs H1 H2 : Hp} {O1 O2 : AP1} {r : RV} {v : V} (h : RR F Hs r v H1 O1) (R1 : Rel F ρ1 σ H1 O1) (old : ∀ x, Mo ρ1 σ x → Hs x ≠ none) (m : Mv F ρ1 σ H1 O1 ρ2 H2 O2) : RR F Hs r v H2 O2 := by
  cases r with
  | val d => exact Rep.stay (m.stay R1) _ _ h
  | own o =>
    obtain ⟨a, e, oa, n, n0, q⟩ := h
    have na : ¬ Mo ρ1 σ a := fun mm => old a mm n
    exact ⟨a, e, m.stp.up a oa na, n, n0, q.stay (m.stay R1) fun u hu => m.stp.keep a u hu na⟩
theorem ownA_new {Hs H : Hp} {O : AP1} : ∀ {rs : List RV} {vs : List V}, RRs F Hs H O rs vs → ∀ a ∈ ownA rs vs, Hs a = none
  | [], vs, h, a, ha => by cases (show vs = [] from h); cases ha
  | .val d :: rs, vs, h, a, ha => by
    obtain ⟨v, q, rfl, h1, h2⟩ := h
    exact ownA_new h2 a ha
  | .own o :: rs, vs, h, a, ha => by
    obtain ⟨v, q, rfl, ⟨b, rfl, _, n, _⟩, h2⟩ := h
    have ha : a ∈ b :: ownA rs q := ha
    rcases List.mem_cons.mp ha with rfl | ha
    · exact n
    · exact ownA_new h2 a ha
theorem RRs.back {Hs Hs' H : Hp} {O : AP1} (al : ∀ a, Hs' a ≠ none → Hs a ≠ none) : ∀ {rs : List RV} {vs : List V}, RRs F Hs H O rs vs → RRs F Hs' H O rs vs
  | [], _, h => h
  | r :: rs, _, h => by
    obtain ⟨v, q, rfl, h1, h2⟩ := h
    exact ⟨v, q, rfl, h1.back al, RRs.back al h2⟩
theorem RRs.len {Hs H : Hp} {O : AP1} : ∀ {rs : List RV} {vs : List V}, RRs F Hs H O rs vs → vs.length = rs.length
  | [], _, h => by cases (show _ = [] from h); rfl
  | r :: rs, _, h => by
    obtain ⟨v, q, rfl, h1, h2⟩ := h
    simp [RRs.len h2]
theorem rs_nil : PA X [] (tRs T F Wx []) := PA.imp pa_nil fun σ H Q ⟨ρ, O, P, Xp, R, w, q, hX⟩ => q [] ρ [] H O w (.refl R) rfl List.nodup_nil
theorem rs_cons {e : Expr} {es : List Expr} {w : WE} {ws : List WE} (h : PE X e (tE T F Wx w.v)) (hr : PA X es (tRs T F Wx ws)) (hs : starEach (e :: es) X.env = (false, eval e X.env) :: starEach es X.env) : PA X (e :: es) (tRs T F Wx (w :: ws)) := by
  refine PA.imp (pa_cons h hr hs) fun σ H Q ⟨ρ, O, P, Xp, R, w', q, hX⟩ => ?_
  refine ⟨ρ, O, _, Xp, R, w', fun r ρ1 v H1 O1 hp m1 a1 => ?_, hX⟩
  refine ⟨ρ1, O1, _, Xp, m1.rel, hp, fun rs ρ2 vs H2 O2 hp2 m2 a2 nd => ?_, hX.mv R m1⟩
  refine q _ ρ2 _ H2 O2 hp2 (Mv.trans R m1 m2) ⟨v, vs, rfl, a1.keep m1.rel (m1.old R) m2, a2.back m1.stp.al⟩ ?_
  cases r with
  | val d => exact nd
  | own o =>
    obtain ⟨a, rfl, oa, n, n0, qa⟩ := a1
    show (a :: ownA rs vs).Nodup
    refine List.nodup_cons.mpr ⟨fun hm => ?_, nd⟩
    exact absurd (ownA_new a2 a hm) qa.tr
/-- the slots, one after another -/
def sets (σ : L2.St) : List Nat → List V → L2.St
  | i :: is, v :: vs => sets (σ.set i (some v)) is vs
  | _, _ => σ
def putsR (ρ : Env) : List Nat → List RV → Env
  | i :: is, r :: rs => putsR (EV.put ρ i (some r.sv)) is rs
  | _, _ => ρ
theorem puts_rel {Hs H : Hp} {O : AP1} : ∀ {is : List Nat} {rs : List RV} {vs : List V} {ρ : Env} {σ : L2.St}, RRs F Hs H O rs vs → (ownA rs vs).Nodup → Rel F ρ σ H O → (∀ a ∈ ownA rs vs, ¬ Mo ρ σ a) → Rel F (putsR ρ is rs) (sets σ is vs) H O
  | [], _, _, ρ, σ, _, _, R, _ => by unfold putsR sets; exact R
  | i :: is, [], vs, ρ, σ, h, _, R, _ => by cases (show vs = [] from h); exact R
  | i :: is, r :: rs, _, ρ, σ, h, nd, R, nm => by
    obtain ⟨v, q, rfl, h1, h2⟩ := h
    show Rel F (putsR (EV.put ρ i (some r.sv)) is rs) (sets (σ.set i (some v)) is q) H O
    cases r with
    | val d =>
      refine puts_rel h2 nd (R.put (s := .val d) h1 fun z => z.elim) fun a ha m => nm a ha (Mo.put_val m)
    | own o =>
      obtain ⟨b, rfl, ob, n, n0, qb⟩ := h1
      have nd' : (b :: ownA rs q).Nodup := nd
      have nd' := List.nodup_cons.mp nd'
      have nb : ¬ Mo ρ σ b := nm b List.mem_cons_self
      refine puts_rel h2 nd'.2 (R.put (s := .own o) ⟨b, rfl, ob, n0, qb⟩ fun _ a ea => by cases ea; exact nb) fun a ha m => ?_
      obtain ⟨j, s, g1, g2, g3⟩ := m
      rcases get_put_cases g1 with ⟨rfl, e⟩ | ⟨e, g1⟩
      · have hl := get_lt g1
        rw [put_length, R.ln] at hl
        rw [List.getElem?_set_self hl] at g3
        cases g3
        exact nd'.1 ha
      · rw [List.getElem?_set_ne e] at g3
        exact nm a (List.mem_cons_of_mem _ ha) ⟨j, s, g1, g2, g3⟩
def parW (is : List Nat) (ws : List WE) (ρ : Env) (K : EK) : Prop := rvals ws ρ (fun rs ρ1 => rs.length = is.length ∧ K.nx (putsR ρ1 is rs)) K.ex
theorem par_ms {H H1 : Hp} {O O1 : AP1} {ρ ρ1 : Env} {σ : L2.St} {is : List Nat} {rs : List RV} {vs : List V} (hO : ∀ a, O0 a → OAt F.H0 a) (R : Rel F ρ σ H O) (fr : Stp (Mf F) F.H0 O0 H O) (m : Mv F ρ σ H O ρ1 H1 O1) (rr : RRs F H H1 O1 rs vs) (nd : (ownA rs vs).Nodup) : Ms F O0 H O (putsR ρ1 is rs) (sets σ is vs) H1 O1 :=
  let ms := Ms.mv hO R fr m
  ⟨puts_rel rr nd m.rel fun a ha mo => m.old R a mo (ownA_new rr a ha), ms.fr, ms.st, ms.al⟩
theorem ns_sets {H : Hp} {k : L2.St → Hp → Prop} : ∀ {is : List Nat} {vs : List V} {σ : L2.St}, is.length = vs.length → k (sets σ is vs) H → gNs is vs σ H k
  | [], [], σ, _, h => ⟨rfl, h⟩
  | i :: is, v :: vs, σ, e, h => ⟨v, vs, rfl, ns_sets (Nat.succ.inj e) h⟩
  | [], _ :: _, _, e, _ => by cases e
  | _ :: _, [], _, e, _ => by cases e
/-- by a tuple that is built -/
theorem s_parT {is : List Nat} {es vs : List Expr} {k k2 : Nat} {p' p2 pos : Pos} {ws : List WE} (C : Cxf T F FN N sc X Wx) (hO : ∀ a, O0 a → OAt F.H0 a) (hx : nmsOk N sc is es = true) (h : PA X vs (tRs T F Wx ws)) (hz : is.length ≤ lim)
    (hw : swappedStores [.Tuple es k p'] (.Tuple vs k2 p2) X.env = pure none) :
    PS X (.Assign [.Tuple es k p'] (.Tuple vs k2 p2) pos) (tSt T F Wx O0 (parW is ws)) := by
  obtain ⟨h1, h2, h3⟩ := pgs_nms C.stc hx
  refine PS.imp (ps_asg (pe_tup h) (pg_tup C.calm h1 h2 h3) rfl hw rfl) fun D σ H ⟨ρ, O, K, R, fr, w', s⟩ => ⟨ρ, O, _, K.ex, R, w', fun rs ρ1 us H1 O1 hp m rr nd => ?_, s.x hO R fr⟩
  obtain ⟨hl, hp⟩ := hp
  refine ⟨by rw [rr.len, hl, ← lim_eq]; exact hz, fun q hq => ?_⟩
  refine ⟨q, us, rfl, .inl (.inl upd_same), by rw [rr.len, hl], ns_sets (by rw [rr.len, hl]) ?_⟩
  have ms := par_ms (is := is) hO R fr m rr nd
  have g : Grow H1 O1 (upd H1 q (.tup us)) O1 := Grow.new hq m.rel.tr
  refine s.nx _ _ _ O1 hp (ms.trans ⟨ms.rel.grow g, ms.fr.trans (g.stp (M := fun _ => False)) (fun _ z _ => z.elim) hO, g.stay, g.al⟩)
theorem s_par2 {i j : Nat} {x y : Str} {a b : Expr} {px py pt pt2 pos : Pos} {kt k2 : Nat} {ws : List WE} (C : Cxf T F FN N sc X Wx) (hO : ∀ a, O0 a → OAt F.H0 a) (hi : N[i]? = some x) (hj : N[j]? = some y) (hij : i ≠ j) (hx : sc.names.lookup x = some .local) (hy : sc.names.lookup y = some .local)
    (h : PA X [a, b] (tRs T F Wx ws)) (hw : swappedStores [.Tuple [.Name x px, .Name y py] kt pt] (.Tuple [a, b] k2 pt2) X.env = pure (some [x, y])) :
    PS X (.Assign [.Tuple [.Name x px, .Name y py] kt pt] (.Tuple [a, b] k2 pt2) pos) (tSt T F Wx O0 (parW [i, j] ws)) := by
  refine PS.imp (ps_par C.calm (by rw [C.eN]; exact C.nd) (by rw [C.eN]; exact hi) (by rw [C.eN]; exact hj) hij (by rw [C.es]; exact hx) (by rw [C.es]; exact hy) h hw rfl) fun D σ H ⟨ρ, O, K, R, fr, w', s⟩ => ⟨ρ, O, _, K.ex, R, w', fun rs ρ1 us H1 O1 hp m rr nd => ?_, s.x hO R fr⟩
  obtain ⟨hl, hp⟩ := hp
  have el := rr.len
  rw [hl] at el
  match us, el with
  | [u, v], _ => exact ⟨u, v, rfl, s.nx _ _ H1 O1 hp (par_ms (is := [i, j]) hO R fr m rr nd)⟩
theorem s_par3 {i j l : Nat} {x y z : Str} {a b c : Expr} {px py pz pt pt2 pos : Pos} {kt k2 : Nat} {ws : List WE} (C : Cxf T F FN N sc X Wx) (hO : ∀ a, O0 a → OAt F.H0 a) (hi : N[i]? = some x) (hj : N[j]? = some y) (hl : N[l]? = some z) (hij : i ≠ j) (hil : i ≠ l) (hjl : j ≠ l)
    (hx : sc.names.lookup x = some .local) (hy : sc.names.lookup y = some .local) (hz : sc.names.lookup z = some .local)
    (h : PA X [a, b, c] (tRs T F Wx ws)) (hw : swappedStores [.Tuple [.Name x px, .Name y py, .Name z pz] kt pt] (.Tuple [a, b, c] k2 pt2) X.env = pure (some [x, y, z])) :
    PS X (.Assign [.Tuple [.Name x px, .Name y py, .Name z pz] kt pt] (.Tuple [a, b, c] k2 pt2) pos) (tSt T F Wx O0 (parW [i, j, l] ws)) := by
  refine PS.imp (ps_par3 C.calm (by rw [C.eN]; exact C.nd) (by rw [C.eN]; exact hi) (by rw [C.eN]; exact hj) (by rw [C.eN]; exact hl) hij hil hjl (by rw [C.es]; exact hx) (by rw [C.es]; exact hy) (by rw [C.es]; exact hz) h hw rfl) fun D σ H ⟨ρ, O, K, R, fr, w', s⟩ => ⟨ρ, O, _, K.ex, R, w', fun rs ρ1 us H1 O1 hp m rr nd => ?_, s.x hO R fr⟩
  obtain ⟨hlen, hp⟩ := hp
  have el := rr.len
  rw [hlen] at el
  match us, el with
  | [u, v, t], _ => exact ⟨u, v, t, rfl, s.nx _ _ H1 O1 hp (par_ms (is := [i, j, l]) hO R fr m rr nd)⟩

/-! ### for -/
def forW (tg : Tg) (ik : IK) (ia : List WE) (wb : Env → EK → Prop) (ρ : Env) (K : EK) : Prop :=
  iterW ik ia ρ (fun src ρ1 => src.fix = true ∧ ∃ I : Nat → Env → Prop, I 0 ρ1 ∧ (∀ j ρ2, I j ρ2 → src.still ρ2) ∧
    (∀ j ρ2 d, I j ρ2 → src.items[j]? = some d → ∃ ρ3, bindT tg d ρ2 = some ρ3 ∧ wb ρ3 { K with nx := I (j + 1), ct := I (j + 1), bk := K.nx }) ∧
    (∀ ρ2, I src.items.length ρ2 → K.nx ρ2)) K.ex
theorem s_for {tgE iter : Expr} {body : List Stmt} {pos : Pos} {tg : Tg} {ik : IK} {ia : List WE} {wb : Env → EK → Prop} (C : Cxf T F FN N sc X Wx) (hO : ∀ a, O0 a → OAt F.H0 a) (htg : tgOk N sc tg.ix tg tgE = true) (hi : PI X tgE iter (tI T F Wx ik ia)) (hb : PSs X body (tSt T F Wx O0 wb))
    (hs : ∀ x, foldedSetIterable iter X.env x = pure x) : PS X (.For tgE iter body [] pos) (tSt T F Wx O0 (forW tg ik ia wb)) := by
  refine PS.imp (ps_for C.po C.calm hi (pg_tg C.stc htg) hb hs) fun D σ H ⟨ρ, O, K, R, fr, w', s⟩ => ⟨ρ, O, _, K.ex, R, w', fun src ρ1 J H1 O1 hp m1 so st1 => ?_, s.x hO R fr⟩
  obtain ⟨fx, I, h0, hst, hstep, hend⟩ := hp
  have ms1 := Ms.mv hO R fr m1
  have s1 := s.mv ms1
  refine ⟨fun i m σ2 H2 => m = src.items.length - i ∧ i ≤ src.items.length ∧ ∃ ρ2 O2, I i ρ2 ∧ Ms F O0 H1 O1 ρ2 σ2 H2 O2, ⟨_, rfl, Nat.zero_le _, ρ1, O1, h0, .refl ms1.rel ms1.fr⟩, ?_⟩
  rintro i m σ2 H2 ⟨rfl, hle, ρ2, O2, hI, ms⟩
  have sok := so ρ2 σ2 H2 O2 ms.rel ms.st (fun z => by rw [fx] at z; cases z) (hst _ _ hI)
  by_cases hlt : i < src.items.length
  · obtain ⟨go, hy⟩ := sok.2 i _ (List.getElem?_eq_getElem hlt)
    refine .inr ⟨go, fun σ' H' => ∃ ρ' O', I (i + 1) ρ' ∧ Ms F O0 H1 O1 ρ' σ' H' O', fun σ' H' hn => ⟨src.items.length - (i + 1), by omega, rfl, hlt, hn⟩, fun x H3 y => ?_⟩
    obtain ⟨O3, g, rx⟩ := hy x H3 y
    obtain ⟨ρ3, hbd, hw⟩ := hstep i ρ2 _ hI (List.getElem?_eq_getElem hlt)
    have R3 := ms.rel.grow g
    have fr3 : Stp (Mf F) F.H0 O0 H3 O3 := ms.fr.trans (g.stp (M := fun _ => False)) (fun _ z _ => z.elim) hO
    refine g_tops (vs := tg.ix) C.K hbd rx R3 (fun i hi => hi) fun σ4 R4 _ _ => ?_
    have ms4 : Ms F O0 H1 O1 ρ3 σ4 H3 O3 := ⟨R4, fr3, ms.st.trans g.stay ms.al, fun a h => g.al a (ms.al a h)⟩
    refine ⟨ρ3, O3, _, R4, fr3, hw, ⟨fun ρ' σ' H' O' h q => ⟨ρ', O', h, ms4.trans q⟩, fun r ρ' v σ' H' O' h q => s1.rt r ρ' v σ' H' O' h (ms4.trans q), fun ρ' σ' H' O' h q => s1.nx ρ' σ' H' O' h (ms4.trans q), fun ρ' σ' H' O' h q => ⟨ρ', O', h, ms4.trans q⟩, fun c ps ρ' cls d σ' H' O' h q => s1.ex c ps ρ' cls d σ' H' O' h (ms4.trans q)⟩⟩
  · have e : i = src.items.length := by omega
    subst e
    exact .inl ⟨sok.1 _ (Nat.le_refl _), s1.nx ρ2 σ2 H2 O2 (hend ρ2 hI) ms⟩
end
end EV
set_option linter.all false
set_option maxRecDepth 20000
set_option autoImplicit false
/-! Statements that write: append, d[k] = v, name += e; displays of dicts. -/
namespace EV
open PySem PySem.Spec L2

section
variable {κ α : Type} [DecidableEq κ]
theorem putA_eq (kvs : List (κ × V)) (k : κ) (v : V) : putA kvs k v = putK kvs k v := rfl
end
section
variable {F : Fk} {H : Hp} {O : AP1} {κ : Type} [DecidableEq κ]
theorem zip_any (k : κ) : ∀ (ks : List κ) (vs : List V), ks.length = vs.length → ((ks.zip vs).any fun p => decide (p.1 = k)) = ks.any fun a => decide (a = k)
  | [], [], _ => rfl
  | a :: ks, v :: vs, e => by
    rw [List.zip_cons_cons, List.any_cons, List.any_cons, zip_any k ks vs (Nat.succ.inj e)]
  | [], _ :: _, e => by cases e
  | _ :: _, [], e => by cases e
theorem map_any (k : κ) : ∀ (kvs : List (κ × D)), (kvs.any fun p => decide (p.1 = k)) = (kvs.map (·.1)).any fun a => decide (a = k)
  | [] => rfl
  | p :: r => by rw [List.any_cons, List.map_cons, List.any_cons, map_any k r]
theorem upd_zip {d : D} {v : V} (r : Rep F H O d v) (k : κ) : ∀ {kvs : List (κ × D)} {vs : List V}, RepL F H O (kvs.map (·.2)) vs →
    ∃ vs', (((kvs.map (·.1)).zip vs).map fun p => if p.1 = k then (p.1, v) else p) = ((kvs.map fun p => if p.1 = k then (p.1, d) else p).map (·.1)).zip vs' ∧ RepL F H O ((kvs.map fun p => if p.1 = k then (p.1, d) else p).map (·.2)) vs'
  | [], vs, h => by
    have h : RepL F H O [] vs := h
    unfold RepL at h
    exact ⟨[], by rw [h]; rfl, RepL.nil⟩
  | p :: kvs, vs, h => by
    have h : RepL F H O (p.2 :: kvs.map (·.2)) vs := h
    unfold RepL at h
    obtain ⟨u, q, rfl, h1, h2⟩ := h
    obtain ⟨vs', e, h3⟩ := upd_zip r k h2
    by_cases z : p.1 = k
    · refine ⟨v :: vs', ?_, ?_⟩
      · simp only [List.map_cons, List.zip_cons_cons, if_pos z, e]
      · simp only [List.map_cons, if_pos z]
        exact .cons r h3
    · refine ⟨u :: vs', ?_, ?_⟩
      · simp only [List.map_cons, List.zip_cons_cons, if_neg z, e]
      · simp only [List.map_cons, if_neg z]
        exact .cons h1 h3
theorem put_zip {d : D} {v : V} (r : Rep F H O d v) (k : κ) {kvs : List (κ × D)} {vs : List V} (h : RepL F H O (kvs.map (·.2)) vs) :
    ∃ vs', putK ((kvs.map (·.1)).zip vs) k v = ((putA kvs k d).map (·.1)).zip vs' ∧ RepL F H O ((putA kvs k d).map (·.2)) vs' := by
  have hl : (kvs.map (·.1)).length = vs.length := by have := h.len; simpa using this
  unfold putK putA
  rw [zip_any k _ _ hl, map_any k kvs]
  by_cases z : ((kvs.map (·.1)).any fun a => decide (a = k)) = true
  · rw [if_pos z, if_pos z]
    exact upd_zip r k h
  · rw [if_neg z, if_neg z]
    refine ⟨vs ++ [v], ?_, ?_⟩
    · rw [List.map_append, List.zip_append hl]
      rfl
    · rw [List.map_append]
      exact h.append (.cons r .nil)
end
section
variable {T : Tb} {F : Fm} {FN : List (Str × List Str)} {N : List Str} {sc : Scope} {X : Cx} {Wx : WX} {O0 : AP1}
/-- the slot's own thing -/
theorem own_slot {ρ : Env} {σ : L2.St} {H : Hp} {O : AP1} (R : Rel F ρ σ H O) {i : Nat} {o : Ow} (h : ow? (get ρ i) = some o) :
    ∃ s a, get ρ i = some s ∧ isOw s ∧ σ[i]? = some (some (.ref a)) ∧ O a ∧ OwAt F.toFk H O a o ∧ Mo ρ σ a ∧ (F.H0 a = none ∨ Mf F a) := by
  cases hg : get ρ i with
  | none => rw [hg] at h; cases h
  | some s =>
    rw [hg] at h
    obtain ⟨v, ev, q⟩ := R.sl i s hg
    cases s with
    | val d => cases h
    | own o' =>
      cases h
      obtain ⟨a, rfl, oa, n0, q⟩ := q
      exact ⟨_, a, rfl, trivial, ev, oa, q, ⟨i, _, hg, trivial, ev⟩, .inl n0⟩
    | par k o' =>
      cases h
      obtain ⟨rfl, oa, q⟩ := q
      exact ⟨_, F.PA k, rfl, trivial, ev, oa, q, ⟨i, _, hg, trivial, ev⟩, .inr ⟨k, rfl⟩⟩
/-- it is written -/
theorem Ms.write {H H1 : Hp} {O O1 : AP1} {ρ1 : Env} {σ : L2.St} {i : Nat} {o o' : Ow} {a : Addr} {u : HO} (m : Ms F O0 H O ρ1 σ H1 O1) (h : ow? (get ρ1 i) = some o) (ea : σ[i]? = some (some (.ref a))) (q : OwAt F.toFk (upd H1 a u) O1 a o') :
    Ms F O0 H O (EV.put ρ1 i (setOw (get ρ1 i) o')) σ (upd H1 a u) O1 := by
  obtain ⟨s, a', hs, os, ea', oa, _, mo, fa⟩ := own_slot m.rel h
  rw [ea] at ea'; cases ea'
  have sy : Stay H1 O1 (upd H1 a u) O1 := ⟨fun b o e n => by rw [upd_ne (fun z : b = a => n (by rw [z]; exact oa))]; exact e, fun _ _ n => n⟩
  have al : ∀ b, H1 b ≠ none → upd H1 a u b ≠ none := fun b hb => by
    by_cases z : b = a
    · subst z; rw [upd_same]; simp
    · rw [upd_ne z]; exact hb
  have ou : OAt (upd H1 a u) a := (show OwAt F.toFk (upd H1 a u) O1 a o' from q).oat
  have oal : ∀ b, OAt H1 b → OAt (upd H1 a u) b := fun b hb => by
    by_cases z : b = a
    · subst z; exact ou
    · unfold OAt
      rw [upd_ne z]; exact hb
  have R := m.rel
  have hs' : ∃ s', setOw (get ρ1 i) o' = some s' ∧ isOw s' ∧ SlotAt F (upd H1 a u) O1 s' (.ref a) := by
    rw [hs]
    obtain ⟨v, ev, qv⟩ := R.sl i s hs
    rw [ea] at ev; cases ev
    cases s with
    | val d => exact os.elim
    | own o => obtain ⟨b, eb, ob, n0, _⟩ := qv; cases eb; exact ⟨.own o', rfl, trivial, a, rfl, oa, n0, q⟩
    | par k o =>
      obtain ⟨eb, ob, _⟩ := qv
      refine ⟨.par k o', rfl, trivial, eb, ?_⟩
      have eb : a = F.PA k := by simpa using eb
      subst eb
      exact ⟨oa, q⟩
  obtain ⟨s', es', os', qs'⟩ := hs'
  rw [es']
  refine ⟨⟨fun j t hj => ?_, fun j k t v b hj hk ot ov ej ek => ?_, fun b ob => oal b (R.tr b ob), by rw [put_length]; exact R.ln, fun b hb => al b (R.h0 b hb)⟩, ⟨fun b w e n => ?_, m.fr.low, m.fr.up, fun b hb => al b (m.fr.al b hb)⟩, m.st.trans sy m.al, fun b hb => al b (m.al b hb)⟩
  · rcases get_put_cases hj with ⟨rfl, e⟩ | ⟨e, hj⟩
    · cases e
      exact ⟨_, ea, qs'⟩
    · obtain ⟨v, ev, qv⟩ := R.sl j t hj
      refine ⟨v, ev, ?_⟩
      have nb : isOw t → ∀ b, v = .ref b → b ≠ a := fun ho b eb z => by
        subst eb; subst z
        exact e (R.ap i j s t _ hs hj os ho ea ev)
      cases t with
      | val d => exact Rep.stay sy d v qv
      | own o2 => obtain ⟨b, eb, ob, n0, z⟩ := qv; exact ⟨b, eb, ob, n0, z.stay sy fun w hw => by rw [upd_ne (nb trivial b eb)]; exact hw⟩
      | par k o2 => obtain ⟨eb, ob, z⟩ := qv; exact ⟨eb, ob, z.stay sy fun w hw => by rw [upd_ne (nb trivial _ eb)]; exact hw⟩
  · rcases get_put_cases hj with ⟨rfl, e⟩ | ⟨e, hj⟩
    · rcases get_put_cases hk with ⟨rfl, e'⟩ | ⟨e', hk⟩
      · rfl
      · exact R.ap i k s v b hs hk os ov ej ek
    · rcases get_put_cases hk with ⟨rfl, e'⟩ | ⟨e', hk⟩
      · exact R.ap j i t s b hj hs ot os ej ek
      · exact R.ap j k t v b hj hk ot ov ej ek
  · have nb : b ≠ a := fun z => by
      subst z
      rcases fa with f | f
      · rw [f] at e; cases e
      · exact n f
    rw [upd_ne nb]
    exact m.fr.keep b w e n
/-- x.append(e) -/
def appW (i : Nat) (w : WE) (ρ : Env) (K : EK) : Prop := (∃ ds0, ow? (get ρ i) = some (.lst ds0)) ∧ w.v ρ (fun r ρ1 => ∃ ds, ow? (get ρ1 i) = some (.lst ds) ∧ ds.length < lim ∧ K.nx (EV.put ρ1 i (setOw (get ρ1 i) (.lst (ds ++ [r.d]))))) K.ex
theorem s_app {i : Nat} {x : Str} {p apos cpos pos : Pos} {e : Expr} {w : WE} (C : Cxf T F FN N sc X Wx) (hO : ∀ a, O0 a → OAt F.H0 a) (hx : PE X (.Name x p) (tVar i)) (he : PE X e (tE T F Wx w.v)) (hs : notStar e = true) (hl : (apos.endLine == cpos.line) = true) (hb : attributeBase (.Name x p) "append" X.env (eval (.Name x p) X.env) = eval (.Name x p) X.env)
    (hf : ((backTo cpos (starEach [e] X.env)).all (fun x => !x.1) && (backToKw cpos (keywordEach [] X.env)).all (fun x => x.1.isSome) && decide (([e] : List Expr).length + ([] : List Keyword).length + (if ([] : List Keyword).isEmpty then 0 else 1) < 30)) = true) :
    PS X (.Expr (.Call (.Attribute (.Name x p) "append" apos) [e] [] cpos) pos) (tSt T F Wx O0 (appW i w)) := by
  have s1 := star_cons (es := []) (env := X.env) hs
  refine PS.imp (ps_expr (pe_bm PySem.F.plainAttrs_list PySem.F.slot_list_append PySem.F.type_list_append (fun pins s σ H x xs v us Q I rx rv h => mt_append pins s σ H x xs v us Q I rx rv h) hx (vs_cons he vs_nil s1) hb hf hl s1 rfl) rfl) fun D σ H ⟨ρ, O, K, R, fr, w', s⟩ => ?_
  obtain ⟨⟨ds0, h0⟩, w'⟩ := w'
  obtain ⟨s0, a, hs0, os, ea, oa, qa, mo, fa⟩ := own_slot R h0
  obtain ⟨vs0, hv0, _⟩ := qa
  refine ⟨_, ea, .inl ⟨rfl, vs0, .inl (.inl hv0)⟩, ρ, O, fun ds ρ1 => (match ds with | [d] => ∃ es, ow? (get ρ1 i) = some (.lst es) ∧ es.length < lim ∧ K.nx (EV.put ρ1 i (setOw (get ρ1 i) (.lst (es ++ [d])))) | _ => False), K.ex, R, w', fun ds ρ1 vs H1 O1 _ hp m rr => ?_, s.x hO R fr⟩
  match ds, rr, hp with
  | [d], rr, hp =>
    obtain ⟨es, h1, hl1, hp⟩ := hp
    unfold RepL at rr
    obtain ⟨v, q, rfl, r1, r2⟩ := rr
    unfold RepL at r2
    subst r2
    have ms := Ms.mv hO R fr m
    obtain ⟨s1, a', hs1, os1, ea1, oa1, qa1, mo1, fa1⟩ := own_slot m.rel h1
    rw [ea] at ea1; cases ea1
    obtain ⟨us, hu, ru⟩ := qa1
    have sy : Stay H1 O1 (upd H1 a (.lst (us ++ [v]))) O1 := ⟨fun b o e n => by rw [upd_ne (fun z : b = a => n (by rw [z]; exact oa1))]; exact e, fun _ _ n => n⟩
    refine ⟨a, us, v, rfl, rfl, hu, by rw [← ru.len, ← lim_eq]; exact hl1, ?_⟩
    exact s.nx _ _ _ O1 hp (ms.write h1 ea ⟨us ++ [v], upd_same, RepL.stay sy _ _ (ru.append (.cons r1 .nil))⟩)
/-- d[k] = v -/
def putW (i : Nat) (wk wv : WE) (ρ : Env) (K : EK) : Prop := wv.v ρ (fun r ρ1 => (∃ o, ow? (get ρ1 i) = some o) ∧ wk.v ρ1 (fun q ρ2 => match ow? (get ρ2 i) with
  | some (.dK kvs) => ∃ k, q.d.key = some k ∧ kvs.length < lim ∧ K.nx (EV.put ρ2 i (setOw (get ρ2 i) (.dK (putA kvs k r.d))))
  | some (.dT kvs) => ∃ k, q.d.tkey = some k ∧ kvs.length < lim ∧ K.nx (EV.put ρ2 i (setOw (get ρ2 i) (.dT (putA kvs k r.d))))
  | _ => False) K.ex) K.ex
theorem rep_key {H : Hp} {O : AP1} {d : D} {k : Key} {v : V} (h : d.key = some k) (r : Rep F.toFk H O d v) : v = kV k := rd_key h (.inl r)
theorem rep_tkey {H : Hp} {O : AP1} {d : D} {k : List Key} {v : V} (h : d.tkey = some k) (r : Rep F.toFk H O d v) : ∃ b, v = .ref b ∧ H b = some (.tup (k.map kV)) := by
  cases d with
  | tup ds =>
    have h' : D.keys ds = some k := h
    unfold Rep at r
    obtain ⟨b, vs, e, h1, h2⟩ := r
    rw [keys_kD h'] at h2
    rw [repL_kV h2] at h1
    exact ⟨b, e, h1.1⟩
  | _ => cases h
theorem s_put {i : Nat} {x : Str} {p spos pos : Pos} {ek ev : Expr} {wk wv : WE} (C : Cxf T F FN N sc X Wx) (hO : ∀ a, O0 a → OAt F.H0 a) (hx : PE X (.Name x p) (tVar i)) (hk : PE X ek (tE T F Wx wk.v)) (hv : PE X ev (tE T F Wx wv.v))
    (hs : swapsWith ev (some (.Subscript (.Name x p) ek spos)) pos.line X.env = pure false) :
    PS X (.Assign [.Subscript (.Name x p) ek spos] ev pos) (tSt T F Wx O0 (putW i wk wv)) := by
  refine PS.imp (ps_dput (by have := C.u; omega) hx hk hv hs) fun D σ H ⟨ρ, O, K, R, fr, w', s⟩ => ?_
  refine ⟨ρ, O, _, K.ex, R, w', fun r ρ1 v H1 O1 hp m1 rr => ?_, s.x hO R fr⟩
  obtain ⟨O1', m1', rep1⟩ := m1.frozen R rr
  have ms1 := Ms.mv hO R fr m1'
  obtain ⟨⟨o1, ho1⟩, hp⟩ := hp
  obtain ⟨s1, a, hs1, os1, ea1, _⟩ := own_slot m1'.rel ho1
  · refine ⟨_, ea1, ρ1, O1', _, K.ex, m1'.rel, hp, fun q ρ2 y H3 O3 hp3 m3 r3 => ?_, (s.mv ms1).x hO m1'.rel ms1.fr⟩
    obtain ⟨O4, m4, rep4⟩ := m3.frozen m1'.rel r3
    have ms3 := (Ms.mv hO m1'.rel ms1.fr m4)
    have ms := ms1.trans ms3
    have rep1' := Rep.stay (m4.stay m1'.rel) _ _ rep1
    cases ho : ow? (get ρ2 i) with
    | none => rw [ho] at hp3; exact hp3.elim
    | some o =>
      rw [ho] at hp3
      obtain ⟨s2, a', hs2, os2, ea2, oa2, qa2, mo2, fa2⟩ := own_slot m4.rel ho
      rw [ea1] at ea2; cases ea2
      cases o with
      | lst ds => exact hp3.elim
      | dK kvs =>
        obtain ⟨k, hkk, hl, hp3⟩ := hp3
        obtain ⟨us, hu, ru⟩ := qa2
        have ey := rep_key hkk rep4
        have hlen : us.length = kvs.length := by have := ru.len; simpa using this.symm
        obtain ⟨us', e', ru'⟩ := put_zip (H := H3) rep1' k ru
        refine ⟨a, upd H3 a (.dK (putK ((kvs.map (·.1)).zip us) k v)), rfl, .inl ⟨_, k, hu, ey, by rw [List.length_zip, List.length_map, hlen, Nat.min_self, ← lim_eq]; exact hl, rfl⟩, ?_⟩
        have sy : ∀ u, Stay H3 O4 (upd H3 a u) O4 := fun u => ⟨fun b o e n => by rw [upd_ne (fun z : b = a => n (by rw [z]; exact oa2))]; exact e, fun _ _ n => n⟩
        exact s.nx _ _ _ O4 hp3 (ms.write ho ea1 ⟨us', by rw [upd_same, e'], RepL.stay (sy _) _ _ ru'⟩)
      | dT kvs =>
        obtain ⟨k, hkk, hl, hp3⟩ := hp3
        obtain ⟨us, hu, ru⟩ := qa2
        obtain ⟨b, ey, hb⟩ := rep_tkey hkk rep4
        have hlen : us.length = kvs.length := by have := ru.len; simpa using this.symm
        obtain ⟨us', e', ru'⟩ := put_zip (H := H3) rep1' k ru
        refine ⟨a, upd H3 a (.dT (putK ((kvs.map (·.1)).zip us) k v)), rfl, .inr ⟨_, k, b, hu, ey, hb, by rw [List.length_zip, List.length_map, hlen, Nat.min_self, ← lim_eq]; exact hl, rfl⟩, ?_⟩
        have sy : ∀ u, Stay H3 O4 (upd H3 a u) O4 := fun u => ⟨fun b o e n => by rw [upd_ne (fun z : b = a => n (by rw [z]; exact oa2))]; exact e, fun _ _ n => n⟩
        exact s.nx _ _ _ O4 hp3 (ms.write ho ea1 ⟨us', by rw [upd_same, e'], RepL.stay (sy _) _ _ ru'⟩)
/-- name += e, of ints -/
def augO : BOp → Int → Int → Option Int
  | .add, a, b => some (a + b)
  | .sub, a, b => some (a - b)
  | _, _, _ => none
def augW (i : Nat) (op : BOp) (w : WE) (ρ : Env) (K : EK) : Prop := ∃ a, get ρ i = some (.val (.int a)) ∧ w.v ρ (fun r ρ1 => ∃ b c, r = .val (.int b) ∧ augO op a b = some c ∧ K.nx (EV.put ρ1 i (some (.val (.int c))))) K.ex
theorem s_aug {i : Nat} {x : Str} {p pos : Pos} {e : Expr} {op : BOp} {w : WE} (C : Cxf T F FN N sc X Wx) (hO : ∀ a, O0 a → OAt F.H0 a) (hx : nmOk N sc i (.Name x p) = true) (ho : op = .add ∨ op = .sub) (he : PE X e (tE T F Wx w.v)) :
    PS X (.AugAssign (.Name x p) (opB op) e pos) (tSt T F Wx O0 (augW i op w)) := by
  have hx : (decide (N[i]? = some x) && stOk sc x) = true := hx
  simp only [Bool.and_eq_true, decide_eq_true_eq] at hx
  obtain ⟨h1, h2⟩ := hx
  have hN : X.N.Nodup := by rw [C.eN]; exact C.nd
  have hi : X.N[i]? = some x := by rw [C.eN]; exact h1
  have hl : Loc X.env.scope x ∧ (X.fn x = true ∨ X.env.scope.names.lookup x = some .local) := by
    unfold stOk at h2
    cases q : sc.names.lookup x with
    | none => rw [q] at h2; cases h2
    | some k =>
      rw [q] at h2
      have e2 : X.env.scope.names.lookup x = some k := by rw [C.es]; exact q
      cases k with
      | «local» => exact ⟨.inl e2, .inr e2⟩
      | cell => exact ⟨.inr e2, .inl (C.fn x q)⟩
      | _ => cases h2
  have gen : ∀ {f : Int → Int → Int} (hp : PIp X (opB op) (ipI f)), (∀ a b, augO op a b = some (f a b)) → PS X (.AugAssign (.Name x p) (opB op) e pos) (tSt T F Wx O0 (augW i op w)) := fun {f} hp hf => by
    refine PS.imp (ps_aug hN hi hl.1 he hp hl.2) fun D σ H ⟨ρ, O, K, R, fr, w', s⟩ => ?_
    obtain ⟨a, ha, w'⟩ := w'
    obtain ⟨v, ev, q⟩ := R.sl i _ ha
    have q : Rep F.toFk H O (.int a) v := q
    unfold Rep at q
    subst q
    refine ⟨_, ev, ρ, O, _, K.ex, R, w', fun r ρ1 v H1 O1 hp m rr => ?_, s.x hO R fr⟩
    obtain ⟨b, c, rfl, hc, hp⟩ := hp
    have rr : Rep F.toFk H1 O1 (.int b) v := rr
    unfold Rep at rr
    subst rr
    rw [hf] at hc; cases hc
    have ms := Ms.mv hO R fr m
    exact ⟨a, b, rfl, rfl, s.nx _ _ H1 O1 hp (ms.put (Hs := H1) (r := .val (.int (f a b))) (by show Rep _ _ _ _ _; unfold Rep; rfl) fun x mo => (ms.rel.tr x (ms.rel.mo mo)).ne)⟩
  rcases ho with rfl | rfl
  · exact gen ip_add fun _ _ => rfl
  · exact gen ip_sub fun _ _ => rfl

/-! ### displays of dicts -/
theorem e_dK0 {pos : Pos} : PE X (.Dict [] [] pos) (tE T F Wx fun ρ P _ => P (.own (.dK [])) ρ) := by
  refine PE.imp pe_dnewK fun σ H Q ⟨ρ, O, P, Xp, R, w, q, hX⟩ p hp => ?_
  have g : Grow H O (upd H p (.dK [])) (fun a => O a ∨ a = p) := Grow.own hp R.tr
  exact q _ ρ _ _ _ w (Mv.grow R g) ⟨p, rfl, .inr rfl, hp, R.hk.n0 hp, [], by rw [upd_same]; rfl, .nil⟩
theorem e_dT0 {pos : Pos} : PE X (.Dict [] [] pos) (tE T F Wx fun ρ P _ => P (.own (.dT [])) ρ) := by
  refine PE.imp pe_dnewT fun σ H Q ⟨ρ, O, P, Xp, R, w, q, hX⟩ p hp => ?_
  have g : Grow H O (upd H p (.dT [])) (fun a => O a ∨ a = p) := Grow.own hp R.tr
  exact q _ ρ _ _ _ w (Mv.grow R g) ⟨p, rfl, .inr rfl, hp, R.hk.n0 hp, [], by rw [upd_same]; rfl, .nil⟩
/-- the values of a display whose keys are written -/
def pairT : List Key → List (TE) → List (TE × TE)
  | k :: ks, t :: ts => (tC (kV k), t) :: pairT ks ts
  | _, _ => []
theorem pair_tops {k : List Key → List D → L2.St → Hp → Prop} : ∀ {ks : List Key} {ws : List WE} {σ : L2.St} {H : Hp} {Q : List (V × V) → Hp → Prop}, ks.length = ws.length → tVs T F Wx ws σ H (fun vs H' => Q ((ks.map kV).zip vs) H') → tPairs (pairT ks (ws.map fun w => tE T F Wx w.v)) σ H Q
  | [], [], σ, H, Q, _, h => by
    obtain ⟨ρ, O, P, Xp, R, w, q, hX⟩ := h
    exact q [] ρ [] H O rfl w (.refl R) .nil
  | kk :: ks, w :: ws, σ, H, Q, e, h => by
    obtain ⟨ρ, O, P, Xp, R, w', q, hX⟩ := h
    show tE T F Wx w.v σ H _
    refine ⟨ρ, O, _, Xp, R, w', fun r ρ1 v H1 O1 hp m1 a1 => ?_, hX⟩
    obtain ⟨O1', m1', r1⟩ := m1.frozen R a1
    refine pair_tops (k := k) (Nat.succ.inj e) ?_
    exact ⟨ρ1, O1', _, Xp, m1'.rel, hp, fun ds ρ2 vs H2 O2 el hp2 m2 a2 => q _ ρ2 (v :: vs) H2 O2 (by simp [el]) hp2 (Mv.trans R m1' m2) (.cons (Rep.stay (m2.stay m1'.rel) _ _ r1) a2), hX.mv R m1'⟩
  | [], _ :: _, _, _, _, e, _ => by cases e
  | _ :: _, [], _, _, _, e, _ => by cases e
theorem zip_map_kV : ∀ (ks : List Key) (vs : List V), (ks.map kV).zip vs = (ks.zip vs).map fun kv => (kV kv.1, kv.2)
  | [], _ => rfl
  | _ :: _, [] => rfl
  | k :: ks, v :: vs => by rw [List.map_cons, List.zip_cons_cons, List.zip_cons_cons, List.map_cons, zip_map_kV]
theorem merge_nodup : ∀ (kvs acc : List (Key × V)), (∀ p ∈ kvs, ∀ q ∈ acc, q.1 ≠ p.1) → (kvs.map (·.1)).Nodup → mergeK acc kvs = acc ++ kvs
  | [], acc, _, _ => by simp [mergeK]
  | p :: r, acc, h, nd => by
    rw [List.map_cons, List.nodup_cons] at nd
    have e : putK acc p.1 p.2 = acc ++ [p] := by
      unfold putK
      rw [if_neg]
      simp only [List.any_eq_true, decide_eq_true_eq, not_exists, not_and]
      intro q hq
      exact h p List.mem_cons_self q hq
    show mergeK (putK acc p.1 p.2) r = _
    rw [e, merge_nodup r _ (fun a ha q hq => ?_) nd.2]
    · simp
    · rcases List.mem_append.mp hq with z | z
      · exact h a (List.mem_cons_of_mem _ ha) q z
      · have : q = p := by simpa using z
        subst this
        exact fun z => nd.1 (List.mem_map.mpr ⟨a, ha, z.symm⟩)
theorem e_dK {keys : List (Option Expr)} {values : List Expr} {pos : Pos} {ks : List Key} {ws : List WE} (h : PPs X pos keys values (pairT ks (ws.map fun w => tE T F Wx w.v))) (hall : keys.all (·.isSome) = true) (hl : keys.length = values.length) (h0 : keys ≠ []) (h15 : keys.length ≤ 15)
    (hk : ks.length = ws.length) (hz : ks.length = keys.length) :
    PE X (.Dict keys values pos) (tE T F Wx fun ρ P X => vals ws ρ (fun ds ρ' => ds.length = ks.length ∧ ks.length ≤ 15 ∧ ks.Nodup ∧ P (.own (.dK (ks.zip ds))) ρ') X) := by
  refine PE.imp (pe_disp h hall hl h0 h15) fun σ H Q ⟨ρ, O, P, Xp, R, w, q, hX⟩ p hp => ?_
  have g : Grow H O (upd H p (.dK [])) (fun a => O a ∨ a = p) := Grow.own hp R.tr
  have m0 := Mv.grow R g
  have np : ¬ Mo ρ σ p := fun m => (R.tr p (R.mo m)).ne hp
  refine pair_tops (k := fun _ _ _ _ => True) hk ⟨ρ, _, _, Xp, R.grow g, w, fun ds ρ1 vs H1 O1 _ hp1 m1 rr => ?_, hX.mv R m0⟩
  obtain ⟨el, e15, nd, hp1⟩ := hp1
  have lv : vs.length = ks.length := by rw [← rr.len]; exact el
  have hp2 : H1 p = some (.dK []) := m1.stp.keep p _ upd_same np
  refine ⟨hp2, ks.zip vs, zip_map_kV ks vs, by rw [List.length_zip, lv, Nat.min_self]; exact e15, ?_⟩
  have ek : (ks.zip vs).map (·.1) = ks := by rw [List.map_fst_zip]; omega
  have em : mergeK [] (ks.zip vs) = ks.zip vs := by rw [merge_nodup _ _ (fun _ _ _ z => absurd z (by simp)) (by rw [ek]; exact nd)]; rfl
  rw [em]
  have oP : O1 p := m1.stp.up p (.inr rfl) np
  have nP : ¬ Mo ρ1 σ p := fun z => np (m1.sub p z)
  have R2 : Rel F ρ1 σ (upd H1 p (.dK (ks.zip vs))) O1 := m1.rel.write oP nP
  have sy : Stay H1 O1 (upd H1 p (.dK (ks.zip vs))) O1 := ⟨fun b o e n => by rw [upd_ne (fun z : b = p => n (by rw [z]; exact oP))]; exact e, fun _ _ n => n⟩
  have nH : ∀ a u, H a = some u → a ≠ p := fun a u e z => by rw [z, hp] at e; cases e
  refine q _ ρ1 _ _ O1 hp1 ⟨R2, ⟨fun a u e n => ?_, fun a h n => ?_, fun a h n => ?_, fun a h => ?_⟩, m1.sub⟩ ⟨p, rfl, oP, hp, R.hk.n0 hp, vs, ?_, ?_⟩
  · rw [upd_ne (nH a u e)]
    exact m1.stp.keep a u (by rw [upd_ne (nH a u e)]; exact e) n
  · have ap : a ≠ p := fun z => h (by rw [z]; exact hp)
    refine m1.stp.low a (by rw [upd_ne ap]; exact h) fun z => ?_
    rcases z with z | z
    · exact n z
    · exact ap z
  · exact m1.stp.up a (.inl h) n
  · have ap : a ≠ p := fun z => h (by rw [z]; exact hp)
    rw [upd_ne ap]
    exact m1.stp.al a (by rw [upd_ne ap]; exact h)
  · rw [upd_same, show (ks.zip ds).map (·.1) = ks from by rw [List.map_fst_zip]; omega]
  · rw [show (ks.zip ds).map (·.2) = ds from by rw [List.map_snd_zip]; omega]
    exact RepL.stay sy _ _ rr
end
end EV
set_option linter.all false
set_option maxRecDepth 20000
set_option autoImplicit false
/-! List comprehensions of two clauses. -/
namespace EV
open PySem PySem.Spec L2
section
variable {T : Tb} {F : Fm} {FN : List (Str × List Str)} {N : List Str} {sc : Scope} {X : Cx} {Wx : WX}
theorem CmS.wp {ρ1 ρ : Env} {σ1 σ : L2.St} {H1 H : Hp} {O1 O : AP1} {D1 : Addr} {acc : List D} (c : CmS F ρ1 σ1 H1 O1 D1 acc ρ σ H O) (vs : List Nat) : CmS F ρ1 σ1 H1 O1 D1 acc (wipes ρ vs) (L2.wipe σ vs) H O :=
  ⟨c.rel.wipe vs, c.oD, c.at, c.stp, fun a m => c.sub a m.wipe⟩
theorem CmS.stay {ρ1 ρ ρ' : Env} {σ1 σ : L2.St} {H1 H H' : Hp} {O1 O O' : AP1} {D1 : Addr} {acc : List D} (c : CmS F ρ1 σ1 H1 O1 D1 acc ρ σ H O) (m : Mv F ρ σ H O ρ' H' O') : Stay H O H' O' := m.stay c.rel
theorem lc2_tops {K : PySem.W.Frag} {vs vs1 : List Nat} {tg tg1 : Tg} {ik ik1 : IK} {ia ia1 : List WE} {elt : WE} (hF : F.K = K) (htg : ∀ i ∈ tg.ix, i ∈ vs) (htg1 : ∀ i ∈ tg1.ix, i ∈ vs1) (hv : ∀ i ∈ vs1, i ∈ vs) {σ : L2.St} {H : Hp} {Q : VK}
    (h : tE T F Wx (cm2W vs vs1 tg ik ia tg1 ik1 ia1 elt) σ H Q) :
    tLc2 (tI T F Wx ik ia) (gT K tg) (tT T F W0 (condT [])) (tI T F W0 ik1 ia1) (gT K tg1) (tT T F W0 (condT [])) (tE T F W0 elt.v) vs vs1 σ H Q := by
  obtain ⟨ρ, O, P, Xp, R, w, q, hX⟩ := h
  refine ⟨ρ, O, _, Xp, R, w, fun src ρ1 J H1 O1 hp m1 so st1 D1 hD => ?_, hX⟩
  obtain ⟨I, hI0, hst, hstep, hend⟩ := hp
  have Rw : Rel F (wipes ρ1 vs) (L2.wipe σ vs) H1 O1 := m1.rel.wipe vs
  refine ⟨fun i m H2 => m = src.items.length - i ∧ i ≤ src.items.length ∧ ∃ acc ρ2 O2, I i acc ρ2 ∧ CmS F (wipes ρ1 vs) (L2.wipe σ vs) H1 O1 D1 acc ρ2 (L2.wipe σ vs) H2 O2, ⟨_, rfl, Nat.zero_le _, [], _, _, hI0, .start Rw hD⟩, ?_⟩
  rintro i m H2 ⟨rfl, hi, acc, ρ2, O2, hI, c⟩
  have sok := so ρ2 (L2.wipe σ vs) H2 O2 c.rel (c.stp.stay fun a m => Rw.mo m) (fun _ i v e => (wipe_some e).1) (hst _ _ _ hI)
  by_cases hlt : i < src.items.length
  · obtain ⟨go, hy⟩ := sok.2 i _ (List.getElem?_eq_getElem hlt)
    refine .inr ⟨go, fun H' => ∃ acc ρ2 O2, I (i + 1) acc ρ2 ∧ CmS F (wipes ρ1 vs) (L2.wipe σ vs) H1 O1 D1 acc ρ2 (L2.wipe σ vs) H' O2, fun H' hn => ⟨src.items.length - (i + 1), by omega, rfl, hlt, hn⟩, fun x H3 y => ?_⟩
    obtain ⟨O3, g, rx⟩ := hy x H3 y
    obtain ⟨ρ3, hb, hit⟩ := hstep i acc ρ2 _ hI (List.getElem?_eq_getElem hlt)
    have c3 := c.grow Rw g
    refine g_tops hF hb rx c3.rel htg fun σ2 R2 w2 mo2 => ?_
    rw [wipe_wipe fun i h => h] at w2
    refine ⟨by rw [w2] <;> exact (wipe_wipe fun i h => h).symm, ?_⟩
    have c4 := c3.bind R2 mo2
    refine ⟨ρ3, O3, fun b ρ' => b = true ∧ ρ' = ρ3, XF, R2, ⟨rfl, rfl⟩, fun b ρ4 H4 O4 hb m4 => ?_, xf_ok⟩
    obtain ⟨rfl, rfl⟩ := hb
    simp only [if_true]
    have c5 := c4.mv Rw hD m4
    refine ⟨ρ4, O4, _, XF, m4.rel, hit, fun src1 ρ5 J1 H5 O5 hp1 m5 so1 st5 => ?_, xf_ok⟩
    obtain ⟨I1, hI10, hst1, hstep1, hend1⟩ := hp1
    have c6 := c5.mv Rw hD m5
    have R5w := m5.rel.wipe vs1
    refine ⟨fun j k H' => k = src1.items.length - j ∧ j ≤ src1.items.length ∧ ∃ acc ρ' O', I1 j acc ρ' ∧ CmS F (wipes ρ1 vs) (L2.wipe σ vs) H1 O1 D1 acc ρ' (L2.wipe σ2 vs1) H' O' ∧ Stay H5 O5 H' O' ∧ (∀ a, H5 a ≠ none → H' a ≠ none), ⟨_, rfl, Nat.zero_le _, acc, _, O5, hI10, c6.wp vs1, .refl, fun _ h => h⟩, ?_⟩
    · rintro j k H7 ⟨rfl, hj, acc7, ρ7, O7, hI7, c7, st7, al7⟩
      have sok1 := so1 ρ7 (L2.wipe σ2 vs1) H7 O7 c7.rel st7 (fun _ i v e => (wipe_some e).1) (hst1 _ _ _ hI7)
      by_cases hlt1 : j < src1.items.length
      · obtain ⟨go1, hy1⟩ := sok1.2 j _ (List.getElem?_eq_getElem hlt1)
        refine .inr ⟨go1, fun H' => ∃ acc ρ' O', I1 (j + 1) acc ρ' ∧ CmS F (wipes ρ1 vs) (L2.wipe σ vs) H1 O1 D1 acc ρ' (L2.wipe σ2 vs1) H' O' ∧ Stay H5 O5 H' O' ∧ (∀ a, H5 a ≠ none → H' a ≠ none), fun H' hn => ⟨src1.items.length - (j + 1), by omega, rfl, hlt1, hn⟩, fun x1 H8 y1 => ?_⟩
        obtain ⟨O8, g1, rx1⟩ := hy1 x1 H8 y1
        obtain ⟨ρ8, hb1, hel⟩ := hstep1 j acc7 ρ7 _ hI7 (List.getElem?_eq_getElem hlt1)
        have c8 := c7.grow Rw g1
        have st8 := st7.trans g1.stay al7
        have al8 : ∀ a, H5 a ≠ none → H8 a ≠ none := fun a h => g1.al a (al7 a h)
        refine g_tops hF hb1 rx1 c8.rel htg1 fun σ3 R3 w3 mo3 => ?_
        rw [wipe_wipe fun i h => h] at w3
        refine ⟨by rw [w3] <;> exact (wipe_wipe fun i h => h).symm, ?_⟩
        have c9 := c8.bind R3 mo3
        refine ⟨ρ8, O8, fun b ρ' => b = true ∧ ρ' = ρ8, XF, R3, ⟨rfl, rfl⟩, fun b ρ9 H9 O9 hb m9 => ?_, xf_ok⟩
        obtain ⟨rfl, rfl⟩ := hb
        simp only [if_true]
        have c10 := c9.mv Rw hD m9
        have st9 := st8.trans (m9.stay c9.rel) al8
        have al9 : ∀ a, H5 a ≠ none → H9 a ≠ none := fun a h => m9.stp.al a (al8 a h)
        refine ⟨ρ9, O9, _, XF, m9.rel, hel, fun r ρ10 v H10 O10 hq m10 rr => ?_, xf_ok⟩
        obtain ⟨hl, hI10⟩ := hq
        obtain ⟨O11, m11, rep⟩ := m10.frozen m9.rel rr
        have st11 := st9.trans (m11.stay c10.rel) al9
        have al11 : ∀ a, H5 a ≠ none → H10 a ≠ none := fun a h => m11.stp.al a (al9 a h)
        have c11 := c10.mv Rw hD m11
        obtain ⟨ws, e, el, c12⟩ := c11.app Rw hD rep
        have sy : Stay H10 O11 (upd H10 D1 (.lst (ws ++ [v]))) O11 := ⟨fun b o e n => by rw [upd_ne (fun z : b = D1 => n (by rw [z]; exact c11.oD))]; exact e, fun _ _ n => n⟩
        have c13 := c12.wp vs1
        rw [w3] at c13
        refine ⟨ws, e, by rw [el, ← lim_eq]; exact hl, acc7 ++ [r.d], wipes ρ10 vs1, O11, hI10, c13, st11.trans sy al11, fun a h => ?_⟩
        by_cases z : a = D1
        · rw [z, upd_same]; simp
        · rw [upd_ne z]; exact al11 a h
      · have e : j = src1.items.length := by omega
        subst e
        refine .inl ⟨sok1.1 _ (Nat.le_refl _), acc7, wipes ρ7 vs, O7, hend1 acc7 ρ7 hI7, ?_⟩
        have c14 := c7.wp vs
        rw [wipe_wipe hv, w2] at c14
        exact c14
  · have e : i = src.items.length := by omega
    subst e
    refine .inl ⟨sok.1 _ (Nat.le_refl _), ?_⟩
    have pn := hend acc ρ2 hI
    have nD : H D1 = none := by
      cases z : H D1 with
      | none => rfl
      | some u => exact absurd hD (m1.stp.al D1 (by rw [z]; simp))
    have n0 : F.H0 D1 = none := by
      cases z : F.H0 D1 with
      | none => rfl
      | some u => exact absurd nD (R.h0 D1 (by rw [z]; simp))
    have R2 : Rel F ρ2 σ H2 O2 := c.rel.unwipe
    exact q _ ρ2 _ H2 O2 pn ⟨R2, m1.stp.trans c.stp (fun x h _ => m1.sub x h.wipe) R.tr, fun a h => m1.sub a (c.sub a (Mo.unwipe c.rel h)).wipe⟩ ⟨D1, rfl, c.oD, nD, n0, c.at⟩
theorem e_lc2 {pe tgE iter tgE1 iter1 : Expr} {scope : Scope} {own : List (Str × Nat)} {pos : Pos} {tg tg1 : Tg} {ik ik1 : IK} {ia ia1 : List WE} {elt : WE} {vs1 : List Nat} (C : Cxt T F FN N sc X Wx) (ok : blkC N sc scope own = true) (hv : ∀ i ∈ vs1, i ∈ own.map (·.2)) (htg : tgOk N scope (own.map (·.2)) tg tgE = true) (htg1 : tgOk N scope vs1 tg1 tgE1 = true) (hi : PI X tgE iter (tI T F Wx ik ia))
    (hi1 : ∀ (X' : Cx), Cxt T F FN N (relS scope sc) X' W0 → PI X' tgE1 iter1 (tI T F W0 ik1 ia1)) (he : ∀ (X' : Cx), Cxt T F FN N (relS scope sc) X' W0 → PE X' pe (tE T F W0 elt.v)) (hs : ∀ x, foldedSetIterable iter X.env x = pure x) (hs1 : ∀ env x, foldedSetIterable iter1 env x = pure x) :
    PE X (.ListComp pe [⟨tgE, iter, [], 0⟩, ⟨tgE1, iter1, [], 0⟩] scope pos) (tE T F Wx (cm2W (own.map (·.2)) vs1 tg ik ia tg1 ik1 ia1 elt)) := by
  have ok2 : BlkOk X.N X.env.scope scope own := by rw [C.eN, C.es]; exact blkOk_by ok
  exact PE.imp (pe_lc2 C.calm (by rw [C.eN]; exact C.nd) hi ok2 hv (fun s H C0 cl fp => pg_tg (StC.blk C s H scope C0 cl fp) htg) (fun s H C0 cl fp => pts_c0) (fun s H C0 cl fp => hi1 _ (C.blk s H scope C0 cl fp)) (fun s H C0 cl fp => pg_tg (StC.blk C s H scope C0 cl fp) htg1) (fun s H C0 cl fp => pts_c0) (fun s H C0 cl fp => he _ (C.blk s H scope C0 cl fp)) hs hs1)
    fun σ H Q h => lc2_tops C.K (tgOk_ix htg) (tgOk_ix htg1) hv h
end
end EV
set_option linter.all false
set_option maxRecDepth 20000
set_option autoImplicit false
/-! repr of data. -/
namespace EV
open PySem PySem.Spec L2
section
variable {X : Cx}
theorem call_reprD (hg : X.A.guards = some []) (hu : X.A.units + 64 < cLine) : CallR X (.builtin "repr") (fun xs H Q => ∃ (x : V) (d : PyData), xs = [x] ∧ Dp X.K H x d ∧ d.showable = true ∧ d.hasDict = false ∧ d.depth ≤ 60 ∧ d.shown.length ≤ sizeLine ∧ Q (.str d.shown) H) := by
  intro pins s σ H xs us Q I r h
  obtain ⟨x, d, rfl, hd, hs, hn, hp, hl, q⟩ := h
  obtain ⟨u, rfl, ru⟩ := vals1 r
  have big : ∀ a : Addr, u = .ref a → wpAny (model X.prog X.w) X.A (call (.builtin "repr") [u]) (EP X pins σ Q) X.xe s := fun a e => by
    subst e
    obtain ⟨as, rd⟩ := Dp.reads I d x _ hd ru
    exact repr_of_reads' rd hs (fun z => by rw [hn] at z; cases z) hg (by omega) (fun _ _ z => z) (fun h1 t tk k => ⟨.str d.shown, H, I.kept k, ⟨t, rfl⟩, q⟩) hl
  cases hd with
  | non =>
    have e : u = .none := ru
    subst e
    exact PySem.P.repr_of_none ⟨V.str _, H, I.tok _, ⟨_, rfl⟩, by simpa only [PyData.shown] using q⟩
  | bl b =>
    have e : u = .bool b := ru
    subst e
    exact PySem.P.repr_of_bool ⟨V.str _, H, I.tok _, ⟨_, rfl⟩, by simpa only [PyData.shown] using q⟩
  | int i =>
    obtain ⟨t, rfl⟩ := ru
    exact PySem.P.repr_of_int (by simpa [PyData.showable] using hs) ⟨V.str _, H, I.tok _, ⟨_, rfl⟩, by simpa only [PyData.shown] using q⟩
  | str z =>
    obtain ⟨t, rfl⟩ := ru
    exact PySem.P.repr_of_str ⟨V.str _, H, I.tok _, ⟨_, rfl⟩, by simpa only [PyData.shown] using q⟩ (by simpa only [PyData.shown] using hl)
  | lst h1 h2 => exact big _ ru
  | tup h1 h2 => exact big _ ru
end
end EV
set_option linter.all false
set_option maxRecDepth 20000
set_option autoImplicit false
/-! dict(pairs), update, for keys that are tuples. -/
namespace EV
open PySem PySem.Spec L2
def mergeT {κ : Type} [DecidableEq κ] (kvs more : List (κ × V)) : List (κ × V) := more.foldl (fun acc p => putK acc p.1 p.2) kvs
theorem mergeT_len {κ : Type} [DecidableEq κ] : ∀ (more kvs : List (κ × V)), (mergeT kvs more).length ≤ kvs.length + more.length
  | [], kvs => Nat.le_refl _
  | p :: r, kvs => by
    have h1 := mergeT_len r (putK kvs p.1 p.2)
    have h2 := length_putK kvs p.1 p.2
    show (mergeT (putK kvs p.1 p.2) r).length ≤ _
    rw [List.length_cons]; omega
theorem kt_merge {H : Hp} : ∀ {more : List (List Key × V)} {rs : List (List Key × Addr × Value)} {kvs : List (List Key × V)} {vs : List (List Key × Addr × Value)}, KT H more rs → KT H kvs vs → KT H (mergeT kvs more) (storedAllH vs rs) := by
  intro more rs kvs vs r
  unfold KT at r
  induction r generalizing kvs vs with
  | nil => intro q; exact q
  | @cons p q ps qs h t ih =>
    intro r0
    have e : KT H (putK kvs p.1 p.2) (storedH vs q.1 q.2.1 q.2.2) := by
      have := KT.put r0 p.1 h.2.1 h.2.2
      rw [← h.1]; exact this
    exact ih e
section
variable {X : Cx} {pins : List (Addr × Obj)} {σ : L2.St} {H : Hp} {s : Shared}
/-- pairs whose first is a tracked tuple -/
abbrev TPairs (K : PySem.W.Frag) (H : Hp) : List Addr → List (List Key × V) → Prop := Paired fun p kv => ∃ b, SqT K H p [.ref b, kv.2] ∧ H b = some (.tup (kv.1.map kV))
theorem tpairs_of (I : Inv X pins σ H s) : ∀ {ps : List Addr} {kvs : List (List Key × V)}, TPairs X.K H ps kvs →
    ∃ prs : List (List Key × Addr × Value), KT H kvs prs ∧ prs.length = ps.length ∧ ∀ (j : Nat) (q : List Key × Addr × Value), prs[j]? = some q → ∃ p : Addr, ps[j]? = some p ∧ s.heap.IsTuple p #[.ref q.2.1, q.2.2]
  | _, _, .nil => ⟨[], .nil, rfl, fun j q e => by simp at e⟩
  | _, _, .cons (a := p) (b := kv) h t => by
    obtain ⟨prs, r, hl, hp⟩ := tpairs_of I t
    obtain ⟨b, hb, hk⟩ := h
    obtain ⟨its, rv, ht, _⟩ := I.tuple hb
    obtain ⟨u, y, ei, ru, ry⟩ := vals2 rv
    subst ei
    cases (show u = Value.ref b from ru)
    refine ⟨(kv.1, b, y) :: prs, .cons ⟨rfl, hk, ry⟩ r, by rw [List.length_cons, List.length_cons, hl], fun j q e => ?_⟩
    cases j with
    | zero =>
      have e' : (kv.1, b, y) = q := Option.some.inj e
      subst e'
      exact ⟨p, rfl, ht⟩
    | succ j =>
      obtain ⟨p', e1, e2⟩ := hp j q (by simpa using e)
      exact ⟨p', by simpa using e1, e2⟩
theorem kt_is (I : Inv X pins σ H s) : ∀ {kvs : List (List Key × V)} {xs : List (List Key × Addr × Value)}, KT H kvs xs → ∀ x ∈ xs, (tupleKind (mixKind X.prog X.w)).is s.heap x.1 x.2.1
  | _, _, .nil, x, h => by cases h
  | _, _, .cons (a := p) (b := q) e t, x, h => by
    rcases List.mem_cons.mp h with rfl | h
    · rw [← e.1]; exact key_of I.hok e.2.1
    · exact kt_is I t x h
/-- a dict of tuples, as it stands -/
theorem dT_ok {a : Addr} {kvs : List (List Key × V)} {xs : List (List Key × Addr × Value)} {h' : Heap} {P : Program} {w : World} (hl : kvs.length ≤ sizeLine) (hs : (a == sysModules) = false) (r : KT H kvs xs) (hn : ∀ b ys, H b = some (.tup ys) → b ≠ a) (d : h'.DictOfH (tupleKind (mixKind P w)) a xs) :
    ObjOk P w (upd H a (.dT kvs)) h' a (.dT kvs) := by
  obtain ⟨q, es, ep, hq, h2, h3, h4, _, h5⟩ := d
  exact ⟨hl, hs, xs, r.keeps fun c ys ec => by rw [upd_ne (hn c ys ec)]; exact ec, q, es, ep, hq, h2, h3, h4, h5⟩
theorem call_dictT (hc : X.calm = true) (hu : X.A.units + 64 < cLine) : CallR X (.type "dict") (fun xs H Q => ∃ (a : Addr) (ps : List Addr) (kvs : List (List Key × V)), xs = [.ref a] ∧ SqL X.K H a (ps.map V.ref) ∧ TPairs X.K H ps kvs ∧
    ∀ p, H p = none → Q (.ref p) (upd H p (.dT (mergeT [] kvs)))) := by
  intro pins s σ H xs us Q I r h
  obtain ⟨a, ps, kvs, rfl, hq, hp, q⟩ := h
  obtain ⟨u, rfl, rx⟩ := vals1 r
  cases rx
  obtain ⟨its, rv, pl, hz⟩ := I.list hq
  have ei := refs_at rv
  subst ei
  rw [List.length_map] at hz
  obtain ⟨prs, rel, hl, hpr⟩ := tpairs_of I hp
  obtain ⟨o, n, ho, hcl, hd, hdat⟩ := pl
  have isk := kt_is I rel
  refine call_dict_pairsH (knd := tupleKind (mixKind X.prog X.w)) (ps := prs) (PairArg.list a (ps.map Value.ref).toArray (fun j => (ps[j]?).getD 0) (prs.map fun q => (Value.ref q.2.1, q.2.2))) (I.ok.hd hc) (by show X.A.units + 1 + 1 < cLine; omega) ⟨⟨o, n, ho, hcl, hd, hdat⟩, by simp [hl], fun j k v e => ?_⟩ ⟨by simp, fun i k v e => ?_⟩ (fun h' hk x hx => ?_) (by rw [List.length_map, hl]; exact hz) fun h' tk hd' hk => ?_
  · rw [List.getElem?_map] at e
    obtain ⟨x, ex, e⟩ := Option.map_eq_some_iff.mp e
    obtain ⟨p, e1, e2⟩ := hpr j x ex
    cases e
    exact ⟨by simp [e1], .inl (by show s.heap.IsTuple ((ps[j]?).getD 0) _; rw [e1]; exact e2)⟩
  · have e : (prs.map fun q => (Value.ref q.2.1, q.2.2))[i]? = some (k, v) := e
    rw [List.getElem?_map] at e
    obtain ⟨x, ex, e⟩ := Option.map_eq_some_iff.mp e
    cases e
    exact ⟨x.1, x.2.1, ex, rfl⟩
  · obtain ⟨ob, vs, m, h1, h2, h3, h4⟩ := isk x hx
    exact ⟨ob, vs, m, hk _ _ (Nat.ne_of_lt (Heap.lt_size h1)) (by simp) h1, h2, h3, h4⟩
  · have hm : (s.heap.objs.size == sysModules) = false := beq_eq_false_iff_ne.mpr (Nat.ne_of_gt I.big)
    have hf := I.hok.fresh (Nat.le_refl s.heap.objs.size)
    have k2 : ∀ b o, s.heap.get? b = some o → h'.get? b = some o := fun b o e => hk b o (by simp) e
    have hlen : (mergeT [] kvs).length ≤ sizeLine := by
      refine Nat.le_trans (mergeT_len kvs []) ?_
      rw [List.length_nil, Nat.zero_add, Paired.length rel, hl]
      exact hz
    exact ⟨.ref s.heap.objs.size, _, I.laid (t' := tk) k2 (Nat.le_refl _) (dT_ok hlen hm (kt_merge rel .nil) (fun b ys e z => by rw [z, hf] at e; cases e) hd'), rfl, q _ hf⟩
/-- d.update(d2) -/
theorem mt_updT (hu : X.A.units + 64 < cLine) : MtR X "dict.update" (fun x vs H Q => ∃ (a b : Addr) (kvs more : List (List Key × V)), x = .ref a ∧ vs = [.ref b] ∧ a ≠ b ∧ H a = some (.dT kvs) ∧ H b = some (.dT more) ∧
    (kvs ≠ [] ∨ (more.map fun p => tupleKeyHash (mixKind X.prog X.w) p.1).Nodup) ∧ kvs.length + more.length ≤ sizeLine ∧ Q .non (upd H a (.dT (mergeT kvs more)))) := by
  intro pins s σ H x vs v us Q I rx rv h
  obtain ⟨a, b, kvs, more, rfl, rfl, ne, ha, hb, hap, hz, q⟩ := h
  cases rx
  obtain ⟨u, rfl, ru⟩ := vals1 rv
  cases ru
  obtain ⟨z1, s1, xs, r1, d1⟩ := dt_of I.hok ha
  obtain ⟨z2, s2, ys, r2, d2⟩ := dt_of I.hok hb
  have keys : ∀ {kvs : List (List Key × V)} {xs : List (List Key × Addr × Value)}, KT H kvs xs → (kvs.map fun p => tupleKeyHash (mixKind X.prog X.w) p.1) = xs.map fun x => (tupleKind (mixKind X.prog X.w)).hash x.1 := fun {kvs xs} r => by
    unfold KT at r
    induction r with
    | nil => rfl
    | cons h t ih => rw [List.map_cons, List.map_cons, ih, h.1]; rfl
  refine call_update_dictH (knd := tupleKind (mixKind X.prog X.w)) (by show X.A.units + 1 < cLine; omega) ne s2 d1 d2 ?_ (by rw [← Paired.length r1, ← Paired.length r2]; exact hz) fun h' e1 e2 sb => ?_
  · rcases hap with z | z
    · refine .inl fun e => z ?_
      have := Paired.length r1
      rw [e] at this
      exact List.eq_nil_of_length_eq_zero (by simpa using this)
    · exact .inr ⟨fun x hx => by obtain ⟨o, _, _, h1, h2, _⟩ := kt_is I r2 x hx; exact ⟨o, h1, h2⟩, by rw [← keys r2]; exact z⟩
  · have hlen : (mergeT kvs more).length ≤ sizeLine := Nat.le_trans (mergeT_len more kvs) hz
    have new := dT_ok hlen s1 (kt_merge r2 r1) (fun c ys e z => by rw [z, ha] at e; cases e) e1
    have he : ∃ q, h'.get? a = some q := let ⟨q, _, _, hq, _⟩ := e1; ⟨q, hq⟩
    exact ⟨.non, _, d_write I (by rw [ha]; exact True.intro) sb he new, rfl, q⟩
end
end EV
set_option linter.all false
set_option maxRecDepth 20000
set_option autoImplicit false
/-! {k: v}, k a tuple. -/
namespace EV
open PySem PySem.Spec L2
section
variable {X : Cx} {kx vx : Expr} {tk tv : TE} {pos : Pos}
def tDispT (tk tv : TE) : TE := fun σ H Q => ∀ p, H p = none → tk σ (upd H p (.dT [])) fun x H1 => tv σ H1 fun y H2 => H2 p = some (.dT []) ∧ ∃ b k, x = .ref b ∧ H2 b = some (.tup (k.map kV)) ∧ Q (.ref p) (upd H2 p (.dT [(k, y)]))
theorem pe_dispT (hu : X.A.units + 64 < cLine) (hk : PE X kx tk) (hv : PE X vx tv) : PE X (.Dict [some kx] [vx] pos) (tDispT tk tv) := by
  refine ⟨fun pins s σ H Q I q => ?_⟩
  have hn := I.hok.fresh (Nat.le_refl s.heap.objs.size)
  have I1 := I.laid (a := s.heap.objs.size) (o := .dT []) (h' := s.heap.push { cls := .type "dict", data := .dict #[] }) (t' := s.toks) (fun _ _ q => Heap.get?_push_of_some _ q) (Nat.le_refl _) (dt_empty s.heap I.big)
  have pp := pps_cons (pos := pos) hk hv pps_nil
  rw [arm_eval_Dict]
  have hshape : (evalEachOpt [some kx] X.env).zip ((evalEach [vx] X.env).map fun v => do let x ← v; standAt pos; pure x) = (pairTrees [some kx] [vx] X.env pos).map fun p => (some p.1, p.2) := rfl
  rw [hshape, dictDisplay_pairs (pairTrees [some kx] [vx] X.env pos) (by intro z; cases z) (by show (1 : Nat) < 17; omega)]
  refine wpAny_bind (wpAny_standAt (wpAny_bind (wpAny_subDictH (knd := tupleKind (mixKind X.prog X.w)) (by show X.A.units < cLine; omega) (by show (1 : Nat) ≤ 15; omega) ?_)))
  refine thn (pp.run pins _ σ _ (fun ps H2 => match ps with
    | [(x, y)] => H2 s.heap.objs.size = some (.dT []) ∧ ∃ b k, x = .ref b ∧ H2 b = some (.tup (k.map kV)) ∧ Q (.ref s.heap.objs.size) (upd H2 s.heap.objs.size (.dT [(k, y)]))
    | _ => False) I1 (q _ hn)) fun ws s2 ⟨ps, H2, I2, rel, w⟩ => ?_
  have fin : ∀ (x y : V) (key u : Value), RelV x key → RelV y u → (H2 s.heap.objs.size = some (.dT []) ∧ ∃ b k, x = .ref b ∧ H2 b = some (.tup (k.map kV)) ∧ Q (.ref s.heap.objs.size) (upd H2 s.heap.objs.size (.dT [(k, y)]))) →
      ∃ ps, CarriesH (tupleKind (mixKind X.prog X.w)) s2.heap [(key, u)] ps ∧ s2.heap.DictOfH (tupleKind (mixKind X.prog X.w)) s.heap.objs.size [] ∧
        ∀ h' tk', h'.DictOfH (tupleKind (mixKind X.prog X.w)) s.heap.objs.size (storedAllH [] ps) → Heap.SameBut s.heap.objs.size s2.heap h' → EP X pins σ Q (.ref s.heap.objs.size) { s2 with heap := h', toks := tk' } := fun x y key u rk ru w => by
    obtain ⟨e, b, k, ex, eb, q2⟩ := w
    subst ex
    cases (show key = Value.ref b from rk)
    obtain ⟨z, hs, xs, r0, dd⟩ := dt_of I2.hok e
    cases r0
    have hne : ∀ c ys, H2 c = some (.tup ys) → c ≠ s.heap.objs.size := fun c ys ec z => by rw [z, e] at ec; cases ec
    refine ⟨[(k, b, u)], ⟨rfl, rfl, key_of I2.hok eb, trivial⟩, dd, fun h' tk' hd' sb => ?_⟩
    have e1 : storedAllH ([] : List (List Key × Addr × Value)) [(k, b, u)] = [(k, b, u)] := rfl
    rw [e1] at hd'
    have he : ∃ q, h'.get? s.heap.objs.size = some q := let ⟨q, _, _, hq, _⟩ := hd'; ⟨q, hq⟩
    have new := dT_ok (P := X.prog) (w := X.w) (kvs := [(k, y)]) (by rw [sizeLine_eq, List.length_singleton]; omega) hs (.cons ⟨rfl, eb, ru⟩ .nil) hne hd'
    exact ⟨.ref s.heap.objs.size, _, d_write I2 (by rw [e]; exact True.intro) sb he new, rfl, q2⟩
  cases rel with
  | nil => exact w.elim
  | @cons p pv _ _ r rr =>
    cases rr with
    | cons _ _ => exact w.elim
    | nil =>
      obtain ⟨x, y⟩ := p
      obtain ⟨key, u⟩ := pv
      obtain ⟨ps', c1, c2, c3⟩ := fin x y key u r.1 r.2 w
      exact ⟨ps', c1, c2, fun h' tk' a b => wpAny_pure (c3 h' tk' a b)⟩
end
end EV
set_option linter.all false
set_option maxRecDepth 20000
set_option autoImplicit false
/-! repr, dicts of pairs, items, words, update, a display with a tuple key. -/
namespace EV
open PySem PySem.Spec L2
section
variable {T : Tb} {F : Fm} {FN : List (Str × List Str)} {N : List Str} {sc : Scope} {X : Cx} {Wx : WX} {O0 : AP1}
/-! ### repr -/
mutual
theorem py_noDict : ∀ d : D, d.py.hasDict = false
  | .non => rfl
  | .bl _ => rfl
  | .int _ => rfl
  | .str _ => rfl
  | .tup xs => by show PyData.hasDict (.tuple (D.pys xs)) = false; unfold PyData.hasDict; exact pys_noDict xs
  | .lst xs => by show PyData.hasDict (.list (D.pys xs)) = false; unfold PyData.hasDict; exact pys_noDict xs
  | .tC xs => by show PyData.hasDict (.tuple (D.pys xs)) = false; unfold PyData.hasDict; exact pys_noDict xs
  | .dK _ _ => rfl
  | .dT _ _ => rfl
  | .dC _ _ => rfl
  | .ins _ _ => rfl
theorem pys_noDict : ∀ ds : List D, PyData.hasDictAll (D.pys ds) = false
  | [] => rfl
  | d :: ds => by
    show PyData.hasDictAll (d.py :: D.pys ds) = false
    unfold PyData.hasDictAll
    rw [py_noDict d, pys_noDict ds]
    rfl
end
theorem ok_repr (hF : F.K = X.K) : BltOk F .repr (fun xs H Q => ∃ (x : V) (d : PyData), xs = [x] ∧ Dp X.K H x d ∧ d.showable = true ∧ d.hasDict = false ∧ d.depth ≤ 60 ∧ d.shown.length ≤ sizeLine ∧ Q (.str d.shown) H) := by
  refine ok1 (fun H O d v P Q k a w q => ?_) (fun ds P w => ?_)
  rotate_left
  · match ds, w with
    | [_], _ => rfl
    | [], w => unfold bltW at w; simp at w
    | _ :: _ :: _, w => unfold bltW at w; simp at w
  · have w : (d.plain = true ∧ d.py.showable = true ∧ d.py.depth ≤ 60 ∧ d.py.shown.length ≤ lim) ∧ P (.val (.str d.py.shown)) := w
    obtain ⟨⟨h1, h2, h3, h4⟩, hp⟩ := w
    exact ⟨v, d.py, rfl, by rw [← hF]; exact rd_dp h1 a, h2, py_noDict d, h3, by rw [← lim_eq]; exact h4, q.str k hp⟩
/-! ### dict(pairs) -/
theorem pairsK_rep {K : PySem.W.Frag} {H : Hp} {O : AP1} (hF : F.K = K) : ∀ {ds : List D} {vs : List V} {kvs : List (Key × D)}, pairsK ds = some kvs → RepL F.toFk H O ds vs →
    ∃ (ps : List Addr) (us : List V), vs = ps.map V.ref ∧ Paired (fun p kv => SqT K H p [kV kv.1, kv.2]) ps ((kvs.map (·.1)).zip us) ∧ RepL F.toFk H O (kvs.map (·.2)) us
  | [], vs, kvs, h, r => by
    cases h
    unfold RepL at r
    subst r
    exact ⟨[], [], rfl, .nil, .nil⟩
  | d :: ds, vs, kvs, h, r => by
    unfold RepL at r
    obtain ⟨v, q, rfl, r1, r2⟩ := r
    unfold pairsK at h
    split at h
    · rename_i k u hd
      split at h
      · rename_i kk rest hk hr
        cases h
        obtain ⟨ps, us, e1, e2, e3⟩ := pairsK_rep hF hr r2
        obtain ⟨a, ws, rfl, ht, hw⟩ := RD.tup hd (.inl r1)
        unfold RepL at hw
        obtain ⟨w1, ws1, rfl, g1, hw⟩ := hw
        unfold RepL at hw
        obtain ⟨w2, ws2, rfl, g2, hw⟩ := hw
        unfold RepL at hw
        subst hw
        have ek := rd_key hk (.inl g1)
        subst ek
        refine ⟨a :: ps, w2 :: us, by rw [e1]; rfl, ?_, .cons g2 e3⟩
        rw [List.map_cons, List.zip_cons_cons]
        exact .cons (by rw [← hF]; exact ht.sq) e2
      · cases h
    · cases h
theorem pairsT_rep {K : PySem.W.Frag} {H : Hp} {O : AP1} (hF : F.K = K) : ∀ {ds : List D} {vs : List V} {kvs : List (List Key × D)}, pairsT ds = some kvs → RepL F.toFk H O ds vs →
    ∃ (ps : List Addr) (us : List V), vs = ps.map V.ref ∧ TPairs K H ps ((kvs.map (·.1)).zip us) ∧ RepL F.toFk H O (kvs.map (·.2)) us
  | [], vs, kvs, h, r => by
    cases h
    unfold RepL at r
    subst r
    exact ⟨[], [], rfl, .nil, .nil⟩
  | d :: ds, vs, kvs, h, r => by
    unfold RepL at r
    obtain ⟨v, q, rfl, r1, r2⟩ := r
    unfold pairsT at h
    split at h
    · rename_i k u hd
      split at h
      · rename_i kk rest hk hr
        cases h
        obtain ⟨ps, us, e1, e2, e3⟩ := pairsT_rep hF hr r2
        obtain ⟨a, ws, rfl, ht, hw⟩ := RD.tup hd (.inl r1)
        unfold RepL at hw
        obtain ⟨w1, ws1, rfl, g1, hw⟩ := hw
        unfold RepL at hw
        obtain ⟨w2, ws2, rfl, g2, hw⟩ := hw
        unfold RepL at hw
        subst hw
        obtain ⟨b, rfl, hb⟩ := rep_tkey hk g1
        refine ⟨a :: ps, w2 :: us, by rw [e1]; rfl, ?_, .cons g2 e3⟩
        rw [List.map_cons, List.zip_cons_cons]
        exact .cons ⟨b, by rw [← hF]; exact ht.sq, hb⟩ e2
      · cases h
    · cases h
theorem merge_zip {κ : Type} [DecidableEq κ] {G : Fk} {H : Hp} {O : AP1} : ∀ {more kvs : List (κ × D)} {us vs : List V}, RepL G H O (more.map (·.2)) us → RepL G H O (kvs.map (·.2)) vs →
    ∃ vs', mergeT ((kvs.map (·.1)).zip vs) ((more.map (·.1)).zip us) = ((mergeA kvs more).map (·.1)).zip vs' ∧ RepL G H O ((mergeA kvs more).map (·.2)) vs'
  | [], kvs, us, vs, h, r => ⟨vs, rfl, r⟩
  | p :: more, kvs, us, vs, h, r => by
    have h : RepL G H O (p.2 :: more.map (·.2)) us := h
    unfold RepL at h
    obtain ⟨u, q, rfl, h1, h2⟩ := h
    obtain ⟨vs1, e1, r1⟩ := put_zip h1 p.1 r
    obtain ⟨vs2, e2, r2⟩ := merge_zip (more := more) h2 r1
    refine ⟨vs2, ?_, r2⟩
    show mergeT (putK ((kvs.map (·.1)).zip vs) p.1 u) ((more.map (·.1)).zip q) = _
    rw [e1]
    exact e2
theorem OpQ.dK {H : Hp} {O : AP1} {P : RV → Prop} {Q : VK} (k : Hk F H O) (h : OpQ F H O P Q) {kvs : List (Key × D)} {vs : List V} {p : Addr} (hp : H p = none) (q : P (.own (.dK kvs))) (r : RepL F.toFk H O (kvs.map (·.2)) vs) : Q (.ref p) (upd H p (.dK ((kvs.map (·.1)).zip vs))) :=
  h _ _ _ _ q (.own hp k.tr) ⟨p, rfl, .inr rfl, hp, k.n0 hp, vs, upd_same, RepL.stay (Grow.own hp k.tr).stay _ _ r⟩
theorem OpQ.dT {H : Hp} {O : AP1} {P : RV → Prop} {Q : VK} (k : Hk F H O) (h : OpQ F H O P Q) {kvs : List (List Key × D)} {vs : List V} {p : Addr} (hp : H p = none) (q : P (.own (.dT kvs))) (r : RepL F.toFk H O (kvs.map (·.2)) vs) : Q (.ref p) (upd H p (.dT ((kvs.map (·.1)).zip vs))) :=
  h _ _ _ _ q (.own hp k.tr) ⟨p, rfl, .inr rfl, hp, k.n0 hp, vs, upd_same, RepL.stay (Grow.own hp k.tr).stay _ _ r⟩
theorem ok_dictK (hF : F.K = X.K) : BltOk F .toDictK (fun xs H Q => ∃ (a : Addr) (ps : List Addr) (kvs : List (Key × V)), xs = [.ref a] ∧ SqL X.K H a (ps.map V.ref) ∧ Paired (fun p kv => SqT X.K H p [kV kv.1, kv.2]) ps kvs ∧
    ∀ p, H p = none → Q (.ref p) (upd H p (.dK (mergeK [] kvs)))) := by
  refine ok1 (fun H O d v P Q k a w q => ?_) (fun ds P w => ?_)
  rotate_left
  · match ds, w with
    | [_], _ => rfl
    | [], w => unfold bltW at w; simp at w
    | _ :: _ :: _, w => unfold bltW at w; simp at w
  · cases d with
    | lst xs =>
      obtain ⟨kvs, hk, hp⟩ := w
      obtain ⟨b, vs, rfl, h1, h2⟩ := a.lst
      obtain ⟨ps, us, rfl, e2, e3⟩ := pairsK_rep hF hk h2
      obtain ⟨vs', e, r⟩ := merge_zip (κ := Key) (kvs := []) e3 RepL.nil
      refine ⟨b, ps, _, rfl, .inl h1, e2, fun p hn => ?_⟩
      have e : mergeK [] ((kvs.map (·.1)).zip us) = ((mergeA [] kvs).map (·.1)).zip vs' := e
      rw [e]
      exact q.dK k hn hp r
    | _ => exact w.elim
theorem ok_dictT (hF : F.K = X.K) : BltOk F .toDictT (fun xs H Q => ∃ (a : Addr) (ps : List Addr) (kvs : List (List Key × V)), xs = [.ref a] ∧ SqL X.K H a (ps.map V.ref) ∧ TPairs X.K H ps kvs ∧
    ∀ p, H p = none → Q (.ref p) (upd H p (.dT (mergeT [] kvs)))) := by
  refine ok1 (fun H O d v P Q k a w q => ?_) (fun ds P w => ?_)
  rotate_left
  · match ds, w with
    | [_], _ => rfl
    | [], w => unfold bltW at w; simp at w
    | _ :: _ :: _, w => unfold bltW at w; simp at w
  · cases d with
    | lst xs =>
      obtain ⟨kvs, hk, hp⟩ := w
      obtain ⟨b, vs, rfl, h1, h2⟩ := a.lst
      obtain ⟨ps, us, rfl, e2, e3⟩ := pairsT_rep hF hk h2
      obtain ⟨vs', e, r⟩ := merge_zip (κ := List Key) (kvs := []) e3 RepL.nil
      refine ⟨b, ps, _, rfl, .inl h1, e2, fun p hn => ?_⟩
      have e : mergeT [] ((kvs.map (·.1)).zip us) = ((mergeA [] kvs).map (·.1)).zip vs' := e
      rw [e]
      exact q.dT k hn hp r
    | _ => exact w.elim
/-! ### x.split(), list(x.items()) -/
def notCall : Expr → Bool
  | .Call _ _ _ _ => false
  | _ => true
theorem abase_ok {e : Expr} {n : Str} {env : PySem.Env} {w : Sem Value} (h : notCall e = true) : attributeBase e n env w = w := by
  cases e <;> first | rfl | cases h
theorem e_words {e : Expr} {w : WE} {ap cp : Pos} (h : PE X e (tP T F Wx w)) (hn : notCall e = true) (hl : (ap.endLine == cp.line) = true) :
    PE X (.Call (.Attribute e "split" ap) [] [] cp) (tE T F Wx (bltE .words [w])) := by
  refine PE.imp (pe_words h (abase_ok hn) hl) fun σ H Q ⟨ρ, O, P, Xp, R, w', q, hX⟩ => ?_
  refine ⟨ρ, O, fun p ρ1 => p.still ρ1 ∧ bltW .words [p.d] fun r => P r ρ1, Xp, R, w', fun p ρ1 v H1 O1 hp sp m1 a1 => ?_, hX⟩
  have d1 : RD F.toFk H1 O1 p.d v := a1.rd m1.rel (m1.old R) (.refl m1.rel) sp
  obtain ⟨_, hp⟩ := hp
  cases hd : p.d with
  | str x =>
    rw [hd] at d1 hp
    have := d1.str
    subst this
    have hp : x.length + 2 ≤ lim ∧ P (.own (.lst ((Txt.words x).map .str))) ρ1 := hp
    refine ⟨⟨x, rfl⟩, x, rfl, rfl, by rw [← lim_eq]; exact hp.1, fun l hl => ?_⟩
    have rr : ∀ ys : List Str, RepL F.toFk H1 O1 (ys.map .str) (ys.map V.str) := fun ys => by
      induction ys with
      | nil => exact .nil
      | cons y ys ih => exact .cons (by unfold Rep; rfl) ih
    exact OpQ.lst (F := F) (P := fun r => P r ρ1) m1.rel.hk (fun r v H3 O3 hq g rr => q r ρ1 v H3 O3 hq (Mv.trans R m1 (Mv.grow m1.rel g)) (rr.back m1.stp.al)) hl hp.2 (rr _)
  | _ => rw [hd] at hp; exact hp.elim
/-! ### list(range(..)) -/
theorem rep_rng {H : Hp} {O : AP1} : ∀ (n : Nat) (lo : Int) (k : Nat), RepL F.toFk H O (rngD (lo + k) n) ((List.range' k n).map fun i => V.int (lo + (i : Nat)))
  | 0, lo, k => .nil
  | n + 1, lo, k => by
    rw [List.range'_succ, List.map_cons]
    refine .cons (by unfold Rep; rfl) ?_
    have := rep_rng (H := H) (O := O) n lo (k + 1)
    have e : lo + (k : Int) + 1 = lo + ((k + 1 : Nat) : Int) := by omega
    show RepL F.toFk H O (rngD (lo + (k : Int) + 1) n) _
    rw [e]
    exact this
theorem rep_rgV {H : Hp} {O : AP1} (a b : Int) : RepL F.toFk H O (rngD a (b - a).toNat) (rgV a b) := by
  have := rep_rng (F := F) (H := H) (O := O) (b - a).toNat a 0
  unfold rgV
  rw [List.range_eq_range']
  have e : a + ((0 : Nat) : Int) = a := by omega
  rw [e] at this
  exact this
theorem e_lrng1 {e : Expr} {w : WE} {p1 p2 p3 p4 : Pos} (C : Cxt T F FN N sc X Wx) (hg : Gl X "list") (hr : Gl X "range") (h : PE X e (tP T F Wx w)) (hs : notStar e = true) :
    PE X (.Call (.Name "list" p1) [.Call (.Name "range" p2) [e] [] p3] [] p4) (tE T F Wx (bltE .lrng1 [w])) := by
  have s1 := star_cons (es := []) (env := X.env) hs
  refine PE.imp (pe_listRg C.calm hg (C.nob (by decide +kernel)) (prg_1 hr (C.nob (by decide +kernel)) h s1) rfl) fun σ H Q ⟨ρ, O, P, Xp, R, w', q, hX⟩ => ?_
  refine ⟨ρ, O, _, Xp, R, w', fun p ρ1 v H1 O1 hp sp m1 a1 => ?_, hX⟩
  have d1 : RD F.toFk H1 O1 p.d v := a1.rd m1.rel (m1.old R) (.refl m1.rel) sp
  obtain ⟨_, hp⟩ := hp
  replace hp : bltW .lrng1 [p.d] fun r => P r ρ1 := hp
  cases hd : p.d with
  | int n =>
    rw [hd] at d1 hp
    have := d1.int
    subst this
    have hp : (0 ≤ n ∧ n ≤ 16777216) ∧ P (.own (.lst (rngD 0 n.toNat))) ρ1 := hp
    refine ⟨n, rfl, RgOk.of_le (by omega) hp.1.2 (by omega) hp.1.1, fun l hl => ?_⟩
    have rr := rep_rgV (F := F) (H := H1) (O := O1) 0 n
    have e0 : (n - 0).toNat = n.toNat := by omega
    rw [e0] at rr
    exact OpQ.lst (F := F) (P := fun r => P r ρ1) m1.rel.hk (fun r v H3 O3 hq g rr => q r ρ1 v H3 O3 hq (Mv.trans R m1 (Mv.grow m1.rel g)) (rr.back m1.stp.al)) hl hp.2 rr
  | _ => rw [hd] at hp; exact hp.elim
theorem e_lrng2 {e e2 : Expr} {w w2 : WE} {p1 p2 p3 p4 : Pos} (C : Cxt T F FN N sc X Wx) (hg : Gl X "list") (hr : Gl X "range") (h : PE X e (tP T F Wx w)) (h2 : PE X e2 (tP T F Wx w2)) (hs : notStar e = true) (hs2 : notStar e2 = true) :
    PE X (.Call (.Name "list" p1) [.Call (.Name "range" p2) [e, e2] [] p3] [] p4) (tE T F Wx (bltE .lrng2 [w, w2])) := by
  have s2 := star_cons (es := []) (env := X.env) hs2
  have s1 := star_cons (es := [e2]) (env := X.env) hs
  refine PE.imp (pe_listRg C.calm hg (C.nob (by decide +kernel)) (prg_2 hr (C.nob (by decide +kernel)) h h2 s1 s2 (by rw [s2]; rfl)) rfl) fun σ H Q ⟨ρ, O, P, Xp, R, w', q, hX⟩ => ?_
  refine ⟨ρ, O, _, Xp, R, w', fun p ρ1 v H1 O1 hp sp m1 a1 => ⟨ρ1, O1, _, Xp, m1.rel, hp, fun p' ρ2 u H2 O2 hp2 sp2 m2 a2 => ?_, hX.mv R m1⟩, hX⟩
  obtain ⟨_, st, hp2⟩ := hp2
  have mm := Mv.trans R m1 m2
  have d1 : RD F.toFk H2 O2 p.d v := a1.rd m1.rel (m1.old R) m2 st
  have d2 : RD F.toFk H2 O2 p'.d u := a2.rd m2.rel (m2.old m1.rel) (.refl m2.rel) sp2
  replace hp2 : bltW .lrng2 [p.d, p'.d] fun r => P r ρ2 := hp2
  cases hd : p.d with
  | int m =>
    cases hd' : p'.d with
    | int n =>
      rw [hd] at d1 hp2
      rw [hd'] at d2 hp2
      have e1 := d1.int
      have e2 := d2.int
      subst e1
      subst e2
      have hp2 : (0 ≤ m ∧ m ≤ 16777216 ∧ 0 ≤ n ∧ n ≤ 16777216) ∧ P (.own (.lst (rngD m (n - m).toNat))) ρ2 := hp2
      refine ⟨m, n, rfl, rfl, RgOk.of_le hp2.1.1 hp2.1.2.2.2 hp2.1.2.1 hp2.1.2.2.1, fun l hl => ?_⟩
      exact OpQ.lst (F := F) (P := fun r => P r ρ2) m2.rel.hk (fun r v H3 O3 hq g rr => q r ρ2 v H3 O3 hq (Mv.trans R mm (Mv.grow m2.rel g)) (rr.back mm.stp.al)) hl hp2.2 (rep_rgV m n)
    | _ => rw [hd, hd'] at hp2; exact hp2.elim
  | _ => rw [hd] at hp2; exact hp2.elim
end
end EV
set_option linter.all false
set_option maxRecDepth 20000
set_option autoImplicit false
/-! list(d.items()), d.update(e), a display with one tuple key. -/
namespace EV
open PySem PySem.Spec L2
section
variable {T : Tb} {F : Fm} {FN : List (Str × List Str)} {N : List Str} {sc : Scope} {X : Cx} {Wx : WX} {O0 : AP1}
theorem rep_kD {H : Hp} {O : AP1} (k : Key) : Rep F.toFk H O (kD k) (kV k) := by
  cases k with
  | inl i => show Rep F.toFk H O (.int i) (.int i); unfold Rep; rfl
  | inr x => show Rep F.toFk H O (.str x) (.str x); unfold Rep; rfl
theorem items_rep {H' : Hp} {O' : AP1} : ∀ {ts : List Addr} {ks : List Key} {ds : List D} {us : List V}, (∀ t ∈ ts, ¬ O' t) → Paired (fun (t : Addr) (q : Key × V) => H' t = some (.tup [kV q.1, q.2])) ts (ks.zip us) → ks.length = us.length → RepL F.toFk H' O' ds us →
    RepL F.toFk H' O' ((ks.zip ds).map fun p => .tup [kD p.1, p.2]) (ts.map V.ref)
  | _, [], ds, [], _, h, _, r => by
    unfold RepL at r
    cases h
    cases ds with
    | nil => exact .nil
    | cons d ds => simp at r
  | _, k :: ks, ds, u :: us, n, h, e, r => by
    rw [List.zip_cons_cons] at h
    cases h with
    | @cons t q ts _ h1 h2 =>
      cases ds with
      | nil => unfold RepL at r; cases r
      | cons d ds =>
        unfold RepL at r
        obtain ⟨v, q', e', r1, r2⟩ := r
        cases e'
        rw [List.zip_cons_cons, List.map_cons, List.map_cons]
        refine .cons ?_ (items_rep (fun t ht => n t (List.mem_cons_of_mem _ ht)) h2 (Nat.succ.inj e) r2)
        unfold Rep
        exact ⟨t, [kV k, u], rfl, ⟨h1, n t List.mem_cons_self⟩, .cons (rep_kD k) (.cons r1 .nil)⟩
  | _, [], _, _ :: _, _, _, e, _ => by cases e
  | _, _ :: _, _, [], _, _, e, _ => by cases e
theorem e_items {e : Expr} {w : WE} {p ap cp pos : Pos} (C : Cxt T F FN N sc X Wx) (h : PE X e (tP T F Wx w)) (hg : Gl X "list") (hn : notCall e = true) (hl : (ap.endLine == cp.line) = true) :
    PE X (.Call (.Name "list" p) [.Call (.Attribute e "items" ap) [] [] cp] [] pos) (tE T F Wx (bltE .items [w])) := by
  refine PE.imp (LiI.pe_listItems C.calm h hg (C.nob (by decide +kernel)) (by decide +kernel) (abase_ok hn) hl rfl) fun σ H Q ⟨ρ, O, P, Xp, R, w', q, hX⟩ => ?_
  refine ⟨ρ, O, fun p ρ1 => p.still ρ1 ∧ bltW .items [p.d] fun r => P r ρ1, Xp, R, w', fun p ρ1 v H1 O1 hp sp m1 a1 => ?_, hX⟩
  have d1 : RD F.toFk H1 O1 p.d v := a1.rd m1.rel (m1.old R) (.refl m1.rel) sp
  obtain ⟨_, hp⟩ := hp
  cases hd : p.d with
  | dK ks ds =>
    rw [hd] at d1 hp
    have hp : P (.own (.lst ((ks.zip ds).map fun p => .tup [kD p.1, p.2]))) ρ1 := hp
    obtain ⟨a, us, rfl, h1, h2, h3⟩ := d1.dK
    refine ⟨a, _, rfl, h1, fun H' l ts kp hl0 ht hlt hl1 pr => ?_⟩
    have g : Grow H1 O1 H' (fun x => O1 x ∨ x = l) := ⟨kp, fun x hx n z => by
      rcases z with z | z
      · exact n z
      · subst z; exact hx hl0, fun x hx => .inl hx, fun x hx => by
      rcases hx with z | z
      · obtain ⟨u, e, t⟩ := m1.rel.tr x z
        exact ⟨u, kp x u e, t⟩
      · rw [z]; exact ⟨_, hl1, rfl⟩⟩
    have nO : ∀ t ∈ ts, ¬ (O1 t ∨ t = l) := fun t htm z => by
      rcases z with z | z
      · exact (m1.rel.tr t z).ne (ht t htm)
      · subst z; exact hlt htm
    refine q _ ρ1 _ H' _ hp (Mv.trans R m1 (Mv.grow m1.rel g)) ⟨l, rfl, .inr rfl, ?_, ?_, ts.map V.ref, hl1, items_rep nO pr h2 (RepL.stay g.stay _ _ h3)⟩
    · cases e : H l with
      | none => rfl
      | some u => exact absurd hl0 (m1.stp.al l (by rw [e]; simp))
    · exact m1.rel.hk.n0 hl0
  | _ => rw [hd] at hp; exact hp.elim
/-! ### d.update(e) -/
def HashOk (kvs : List (List Key × D)) (ks : List (List Key)) : Prop := kvs ≠ [] ∨ ∃ iss : List (List Int), ks = iss.map (fun is => is.map Sum.inl) ∧ (iss.map hashI).Nodup
def updW (i : Nat) (w : WE) (ρ : Env) (K : EK) : Prop := (∃ kvs0, ow? (get ρ i) = some (.dT kvs0)) ∧ w.v ρ (fun r ρ1 => ∃ kvs ks vs, ow? (get ρ1 i) = some (.dT kvs) ∧ r.d = .dT ks vs ∧ HashOk kvs ks ∧ kvs.length + ks.length ≤ lim ∧
  K.nx (EV.put ρ1 i (setOw (get ρ1 i) (.dT (mergeA kvs (ks.zip vs)))))) K.ex
theorem hash_int {P : Program} {w : World} (is : List Int) : tupleKeyHash (mixKind P w) (is.map Sum.inl) = hashI is := by
  unfold tupleKeyHash hashI
  rw [List.map_map]
  rfl
theorem type_update : typeOf (.builtin "dict.update") = pure (.type "method_descriptor") := by show builtinType _ = _; rw [builtinType_eq_fast]; kernel_rfl
theorem s_upd {i : Nat} {x : Str} {p apos cpos pos : Pos} {e : Expr} {w : WE} (C : Cxf T F FN N sc X Wx) (hO : ∀ a, O0 a → OAt F.H0 a) (hx : PE X (.Name x p) (tVar i)) (he : PE X e (tE T F Wx w.v)) (hs : notStar e = true) (hl : (apos.endLine == cpos.line) = true)
    (hf : ((backTo cpos (starEach [e] X.env)).all (fun x => !x.1) && (backToKw cpos (keywordEach [] X.env)).all (fun x => x.1.isSome) && decide (([e] : List Expr).length + ([] : List Keyword).length + (if ([] : List Keyword).isEmpty then 0 else 1) < 30)) = true) :
    PS X (.Expr (.Call (.Attribute (.Name x p) "update" apos) [e] [] cpos) pos) (tSt T F Wx O0 (updW i w)) := by
  have s1 := star_cons (es := []) (env := X.env) hs
  refine PS.imp (ps_expr (pe_bm PySem.F.plainAttrs_dict PySem.F.slot_dict_update type_update (mt_updT C.u) hx (vs_cons he vs_nil s1) rfl hf hl s1 rfl) rfl) fun D σ H ⟨ρ, O, K, R, fr, w', s⟩ => ?_
  obtain ⟨⟨kvs0, h0⟩, w'⟩ := w'
  obtain ⟨s0, a, hs0, os, ea, oa, qa, mo, fa⟩ := own_slot R h0
  obtain ⟨vs0, hv0, _⟩ := qa
  refine ⟨_, ea, .inr (.inr (.inl ⟨rfl, .inr ⟨_, hv0⟩⟩)), ρ, O, fun ds ρ1 => (match ds with | [d] => ∃ kvs ks vs, ow? (get ρ1 i) = some (.dT kvs) ∧ d = .dT ks vs ∧ HashOk kvs ks ∧ kvs.length + ks.length ≤ lim ∧ K.nx (EV.put ρ1 i (setOw (get ρ1 i) (.dT (mergeA kvs (ks.zip vs))))) | _ => False), K.ex, R, w', fun ds ρ1 vs H1 O1 _ hp m rr => ?_, s.x hO R fr⟩
  match ds, rr, hp with
  | [d], rr, hp =>
    obtain ⟨kvs, ks, ds, h1, rfl, hh, hz, hp⟩ := hp
    unfold RepL at rr
    obtain ⟨v, q, rfl, r1, r2⟩ := rr
    unfold RepL at r2
    subst r2
    unfold Rep at r1
    obtain ⟨b, us, rfl, ⟨hb, nb⟩, hlen, ru⟩ := r1
    have ms := Ms.mv hO R fr m
    obtain ⟨s1, a', hs1, os1, ea1, oa1, qa1, mo1, fa1⟩ := own_slot m.rel h1
    rw [ea] at ea1; cases ea1
    obtain ⟨ws, hw, rw'⟩ := qa1
    have lk : ks.length = ds.length := by rw [hlen, ru.len]
    have e1 : (ks.zip ds).map (·.1) = ks := by rw [List.map_fst_zip]; omega
    have e2 : (ks.zip ds).map (·.2) = ds := by rw [List.map_snd_zip]; omega
    obtain ⟨vs', em, rm⟩ := merge_zip (κ := List Key) (more := ks.zip ds) (kvs := kvs) (by rw [e2]; exact ru) rw'
    rw [e1] at em
    have lw : ws.length = kvs.length := by have := rw'.len; simpa using this.symm
    refine ⟨a, b, _, _, rfl, rfl, fun z => nb (by rw [← z]; exact oa1), hw, hb, ?_, ?_, ?_⟩
    · rcases hh with hh | ⟨iss, ei, nd⟩
      · refine .inl fun z => hh ?_
        have := congrArg List.length z
        rw [List.length_zip, List.length_map, lw, Nat.min_self] at this
        exact List.eq_nil_of_length_eq_zero this
      · refine .inr ?_
        have : ((ks.zip us).map fun p => tupleKeyHash (mixKind X.prog X.w) p.1) = iss.map hashI := by
          have e3 : (ks.zip us).map (·.1) = ks := by rw [List.map_fst_zip]; omega
          have : ((ks.zip us).map fun p => tupleKeyHash (mixKind X.prog X.w) p.1) = ((ks.zip us).map (·.1)).map (tupleKeyHash (mixKind X.prog X.w)) := by rw [List.map_map]; rfl
          rw [this, e3, ei, List.map_map]
          exact List.map_congr_left fun is _ => hash_int is
        rw [this]; exact nd
    · rw [List.length_zip, List.length_map, lw, Nat.min_self, List.length_zip, ← hlen, Nat.min_self, ← lim_eq]; exact hz
    · rw [em]
      have sy : Stay H1 O1 (upd H1 a (.dT (((mergeA kvs (ks.zip ds)).map (·.1)).zip vs'))) O1 := ⟨fun b o e n => by rw [upd_ne (fun z : b = a => n (by rw [z]; exact oa1))]; exact e, fun _ _ n => n⟩
      exact s.nx _ _ _ O1 hp (ms.write h1 ea ⟨vs', upd_same, RepL.stay sy _ _ rm⟩)
/-! ### {k: e}, k a written tuple -/
def keyEs : List Key → Es
  | [] => .nil
  | k :: ks => .cons (.cst (kD k)) (keyEs ks)
theorem keyEs_vals {S : SPX} {G : Str → Option D} {Xp : XP} : ∀ {k : List Key} {ρ : Env} {P : List D → Env → Prop}, P (k.map kD) ρ → vals (Ws S G (keyEs k)) ρ P Xp
  | [], ρ, P, h => by unfold keyEs Ws; exact h
  | a :: k, ρ, P, h => by
    unfold keyEs Ws
    show (W S G (.cst (kD a))).v ρ _ _
    unfold W
    exact keyEs_vals (k := k) (P := fun ds ρ2 => P (kD a :: ds) ρ2) h
theorem rep_tupK {H : Hp} {O : AP1} {k : List Key} {v : V} (r : Rep F.toFk H O (.tup (k.map kD)) v) : ∃ b, v = .ref b ∧ H b = some (.tup (k.map kV)) ∧ ¬ O b := by
  unfold Rep at r
  obtain ⟨b, vs, e, h1, h2⟩ := r
  rw [repL_kV h2] at h1
  exact ⟨b, e, h1⟩
theorem e_dT1 {kx vx : Expr} {k : List Key} {w : WE} {pos : Pos} (C : Cxt T F FN N sc X Wx) (hz : k.length ≤ 1000) (hk : PE X kx (tE T F Wx (W T.S T.G (.tup (keyEs k))).v)) (hv : PE X vx (tE T F Wx w.v)) :
    PE X (.Dict [some kx] [vx] pos) (tE T F Wx fun ρ P X => vals [w] ρ (fun ds ρ' => ds.length = [k].length ∧ [k].length ≤ 15 ∧ [k].Nodup ∧ P (.own (.dT ([k].zip ds))) ρ') X) := by
  refine PE.imp (pe_dispT C.u hk hv) fun σ H Q ⟨ρ, O, P, Xp, R, w', q, hX⟩ p hp => ?_
  have g : Grow H O (upd H p (.dT [])) (fun a => O a ∨ a = p) := Grow.own hp R.tr
  have m0 := Mv.grow R g
  have np : ¬ Mo ρ σ p := fun m => (R.tr p (R.mo m)).ne hp
  refine ⟨ρ, _, fun r ρ' => r = .val (.tup (k.map kD)) ∧ ρ' = ρ, Xp, R.grow g, ?_, fun r ρ1 x H1 O1 hr m1 rr => ?_, hX.mv R m0⟩
  · unfold W
    exact keyEs_vals ⟨by rw [List.length_map]; exact Nat.le_trans hz (by decide), rfl, rfl⟩
  obtain ⟨rfl, rfl⟩ := hr
  obtain ⟨b, rfl, hb, nb⟩ := rep_tupK (show Rep F.toFk H1 O1 (.tup (k.map kD)) x from rr)
  have hp1 : H1 p = some (.dT []) := m1.stp.keep p _ upd_same np
  have op1 : O1 p := m1.stp.up p (.inr rfl) np
  refine ⟨ρ1, O1, _, Xp, m1.rel, w', fun r ρ2 y H2 O2 hp2 m2 rr2 => ?_, (hX.mv R m0).mv (R.grow g) m1⟩
  obtain ⟨O3, m3, rep⟩ := m2.frozen m1.rel rr2
  obtain ⟨_, _, _, hp2⟩ := hp2
  have np1 : ¬ Mo ρ1 σ p := fun z => np (m1.sub p z)
  have hpp : H2 p = some (.dT []) := m3.stp.keep p _ hp1 np1
  have opp : O3 p := m3.stp.up p op1 np1
  have hbb : H2 b = some (.tup (k.map kV)) := (m3.stay m1.rel).keep b _ hb nb
  refine ⟨hpp, b, k, rfl, hbb, ?_⟩
  have nP : ¬ Mo ρ2 σ p := fun z => np1 (m3.sub p z)
  have R2 : Rel F ρ2 σ (upd H2 p (.dT [(k, y)])) O3 := m3.rel.write opp nP
  have sy : Stay H2 O3 (upd H2 p (.dT [(k, y)])) O3 := ⟨fun b o e n => by rw [upd_ne (fun z : b = p => n (by rw [z]; exact opp))]; exact e, fun _ _ n => n⟩
  have nH : ∀ a u, H a = some u → a ≠ p := fun a u e z => by rw [z, hp] at e; cases e
  have m13 := Mv.trans (R.grow g) m1 m3
  refine q _ ρ2 _ _ O3 hp2 ⟨R2, ⟨fun a u e n => ?_, fun a h n => ?_, fun a h n => ?_, fun a h => ?_⟩, m13.sub⟩ ⟨p, rfl, opp, hp, R.hk.n0 hp, [y], upd_same, .cons (Rep.stay sy _ _ rep) .nil⟩
  · rw [upd_ne (nH a u e)]
    exact m13.stp.keep a u (by rw [upd_ne (nH a u e)]; exact e) n
  · have ap : a ≠ p := fun z => h (by rw [z]; exact hp)
    refine m13.stp.low a (by rw [upd_ne ap]; exact h) fun z => ?_
    rcases z with z | z
    · exact n z
    · exact ap z
  · exact m13.stp.up a (.inl h) n
  · have ap : a ≠ p := fun z => h (by rw [z]; exact hp)
    rw [upd_ne ap]
    exact m13.stp.al a (by rw [upd_ne ap]; exact h)
end
end EV
set_option linter.all false
set_option maxRecDepth 20000
set_option autoImplicit false
/-! sorting tuples of texts and ints that can be compared, the first of each a text -/
namespace Bs4
open PySem PySem.Spec L2 EV SrtO
open PyProof.Rows (seqObj size_push')
/-! ### the order -/
theorem k_asym {a b : Key} (h : kLt a b = true) : kLt b a = false := by
  cases a <;> cases b <;> unfold kLt at h ⊢ <;> simp only [decide_eq_true_eq, decide_eq_false_iff_not] at h ⊢ <;> first
    | omega
    | exact List.lt_asymm h
    | cases h
theorem k_tr {a b c : Key} (h1 : kLt b a = false) (h2 : kLt c b = false) : kLt c a = false := by
  cases a <;> cases b <;> cases c <;> unfold kLt at h1 h2 ⊢ <;> simp only [decide_eq_false_iff_not, reduceCtorEq] at h1 h2 ⊢ <;> first
    | omega
    | exact List.not_lt.mpr (List.le_trans (List.not_lt.mp h1) (List.not_lt.mp h2))
theorem k_tri {a b : Key} (h1 : kLt a b = false) (h2 : kLt b a = false) : a = b := by
  cases a <;> cases b <;> unfold kLt at h1 h2 <;> simp only [decide_eq_false_iff_not, reduceCtorEq] at h1 h2
  · congr 1; omega
  · rename_i x y
    have := List.le_antisymm (List.not_lt.mp h2) (List.not_lt.mp h1)
    congr 1
    cases x; cases y
    simp only at this ⊢
    congr 1
    exact Array.toList_inj.mp this
theorem tk_nil (c : List Key) : tkLt c [] = false := by cases c <;> rfl
theorem tk_cons {a b : Key} {r q : List Key} : tkLt (a :: r) (b :: q) = if a = b then tkLt r q else kLt a b := rfl
theorem tk_asym : ∀ {a b : List Key}, tkLt a b = true → tkLt b a = false
  | [], b, _ => tk_nil b
  | a :: r, [], h => by cases h
  | a :: r, b :: q, h => by
    rw [tk_cons] at h ⊢
    by_cases e : a = b
    · subst e
      rw [if_pos rfl] at h ⊢
      exact tk_asym h
    · rw [if_neg e] at h
      rw [if_neg (fun z => e z.symm)]
      exact k_asym h
theorem tk_tr : ∀ {a b c : List Key}, tkLt b a = false → tkLt c b = false → tkLt c a = false
  | [], _, c, _, _ => tk_nil c
  | _ :: _, [], _, h, _ => by cases h
  | _ :: _, _ :: _, [], _, h => by cases h
  | x :: a, y :: b, z :: c, h1, h2 => by
    rw [tk_cons] at h1 h2 ⊢
    by_cases e1 : y = x
    · subst e1
      rw [if_pos rfl] at h1
      by_cases e2 : z = y
      · subst e2
        rw [if_pos rfl] at h2 ⊢
        exact tk_tr h1 h2
      · rw [if_neg e2] at h2 ⊢
        exact h2
    · rw [if_neg e1] at h1
      by_cases e2 : z = y
      · subst e2
        rw [if_neg e1]
        exact h1
      · rw [if_neg e2] at h2
        have e3 : z ≠ x := fun e => by
          subst e
          exact e1 (k_tri h1 h2)
        rw [if_neg e3]
        exact k_tr h1 h2
theorem tk_tri : ∀ {a b : List Key}, tkLt a b = false → tkLt b a = false → a = b
  | [], [], _, _ => rfl
  | [], _ :: _, h, _ => by cases h
  | _ :: _, [], _, h => by cases h
  | a :: r, b :: q, h1, h2 => by
    rw [tk_cons] at h1 h2
    by_cases e : a = b
    · subst e
      rw [if_pos rfl] at h1 h2
      rw [tk_tri h1 h2]
    · rw [if_neg e] at h1
      rw [if_neg (fun z => e z.symm)] at h2
      exact absurd (k_tri h1 h2) e
theorem swo_tk {α : Type} (k : α → List Key) : Swo fun v u => tkLt (k v) (k u) := ⟨fun _ _ h => tk_asym h, fun _ _ _ h1 h2 => tk_tr h1 h2⟩

/-! ### the walk -/
def Rels : List Key → List Value → Prop
  | [], [] => True
  | k :: ks, v :: vs => RelV (kV k) v ∧ Rels ks vs
  | _, _ => False
theorem Rels.len : ∀ {ks : List Key} {vs : List Value}, Rels ks vs → ks.length = vs.length
  | [], [], _ => rfl
  | [], _ :: _, h => h.elim
  | _ :: _, [], h => h.elim
  | _ :: _, _ :: _, h => by rw [List.length_cons, List.length_cons, Rels.len h.2]
def IsMix (h : Heap) (v : Value) (ks : List Key) : Prop := ∃ (a : Addr) (o : Obj) (its : Array Value) (n : Nat), v = .ref a ∧ h.get? a = some o ∧ o.cls = .type "tuple" ∧ o.data = .seq its n ∧ Rels ks its.toList
section
variable {prog : Program} {w : World} {A : Around} {E : Value → Shared → Prop} {s : Shared}
theorem lex {fin : Bool} {Q : Bool → Shared → Prop} {f : Bool} : ∀ {ks js : List Key} {xs ys : List Value} {i : Nat}, Rels ks xs → Rels js ys → tkCan ks js = true → fin = decide (ks.length < js.length) → Q (tkLt ks js) s →
    PySem.W.KatLex prog w A f fin Q (xs.zip ys) i s
  | [], [], [], [], i, _, _, _, hf, h => by subst hf; exact PySem.W.kat_nil h
  | [], b :: js, [], y :: ys, i, _, _, _, hf, h => by
    have : fin = true := by rw [hf]; simp
    subst this
    exact PySem.W.kat_nil h
  | a :: ks, [], x :: xs, [], i, _, _, _, hf, h => by
    have : fin = false := by rw [hf]; simp
    subst this
    exact PySem.W.kat_nil h
  | a :: ks, b :: js, x :: xs, y :: ys, i, h1, h2, hc, hf, h => by
    obtain ⟨r1, h1⟩ := h1
    obtain ⟨r2, h2⟩ := h2
    have hf' : fin = decide (ks.length < js.length) := by rw [hf]; simp
    rw [tk_cons] at h
    unfold tkCan at hc
    cases a with
    | inl m => cases b with
      | inl n =>
        obtain ⟨t, rfl⟩ := r1
        obtain ⟨u, rfl⟩ := r2
        refine PySem.W.kat_cons (SeqAt.EqAt.int_int m t n u prog w _ _ ?_)
        refine PySem.W.kat_go (fun e => ?_) (fun e => ?_)
        · have e : m = n := by simpa using e
          subst e
          rw [if_pos rfl] at h hc
          exact PySem.W.kat_yes (lex h1 h2 hc hf' h)
        · have e : ¬ (Sum.inl m : Key) = .inl n := fun z => by cases z; simp at e
          rw [if_neg e] at h
          exact PySem.W.kat_no (PyProof.Rows.oneLt_any_int h)
      | inr n => rw [if_neg (fun z => by cases z)] at hc; cases hc
    | inr m => cases b with
      | inl n => rw [if_neg (fun z => by cases z)] at hc; cases hc
      | inr n =>
        obtain ⟨t, rfl⟩ := r1
        obtain ⟨u, rfl⟩ := r2
        refine PySem.W.kat_cons (SeqAt.EqAt.str_str m t n u prog w _ _ ?_)
        refine PySem.W.kat_go (fun e => ?_) (fun e => ?_)
        · have e : m = n := by simpa using e
          subst e
          rw [if_pos rfl] at h hc
          exact PySem.W.kat_yes (lex h1 h2 hc hf' h)
        · have e : ¬ (Sum.inr m : Key) = .inr n := fun z => by cases z; simp at e
          rw [if_neg e] at h
          exact PySem.W.kat_no (PyProof.Rows.oneLt_any_str h)
theorem mix_cmp {vs : List Value} {k : Value → List Key} (hp : ∀ v ∈ vs, IsMix s.heap v (k v)) (hc : ∀ v ∈ vs, ∀ u ∈ vs, tkCan (k v) (k u) = true) (f : Bool) :
    SrtO.Cmp prog w A s (PyProof.Rows.tuples' f) (fun p => p.1 ∈ vs) (lt2 fun v u => tkLt (k v) (k u)) := by
  intro p q hm hm'
  obtain ⟨a, o, xs, n, e, ho, _, hd, r⟩ := hp _ hm
  obtain ⟨a', o', ys, n', e', ho', _, hd', r'⟩ := hp _ hm'
  have hcc := hc _ hm _ hm'
  show wpAny (model prog w) A (PyProof.Rows.keyLt' (PyProof.Rows.tuples' f) p.1 q.1) (fun r s' => s' = s ∧ r = tkLt (k p.1) (k q.1)) (fun _ _ => False) s
  generalize k p.1 = kp at r hcc ⊢
  generalize k q.1 = kq at r' hcc ⊢
  rw [e, e']
  exact PySem.W.kat_lt ho hd ho' hd' (lex r r' hcc (by rw [r.len, r'.len]; simp) ⟨rfl, rfl⟩)
theorem firsts {h : Heap} {k : Value → List Key} : ∀ {vs : List Value}, (∀ v ∈ vs, IsMix h v (k v) ∧ ∃ x r, k v = .inr x :: r) → ∃ fs : List Value, PySem.W.KatTups h vs fs ∧ fs.length = vs.length ∧ ∀ f ∈ fs, ∃ x t, f = Value.str x t
  | [], _ => ⟨[], PySem.W.KatTups.nil, rfl, fun _ hm => by simp at hm⟩
  | v :: vs, hp => by
    obtain ⟨fs, h1, h2, h3⟩ := firsts (vs := vs) fun v' hm => hp v' (List.mem_cons_of_mem _ hm)
    obtain ⟨⟨a, o, its, n, e, ho, hc, hd, r⟩, x, q, ek⟩ := hp v (List.mem_cons_self ..)
    rw [ek] at r
    subst e
    obtain ⟨l⟩ := its
    cases l with
    | nil => exact r.elim
    | cons y l =>
      obtain ⟨⟨t, rfl⟩, _⟩ := r
      refine ⟨.str x t :: fs, PySem.W.KatTups.cons ho hc hd rfl h1, by rw [List.length_cons, List.length_cons, h2], fun f hm => ?_⟩
      rcases List.mem_cons.mp hm with rfl | hm
      · exact ⟨x, t, rfl⟩
      · exact h3 f hm
theorem IsMix.keeps {h h' : Heap} {v : Value} {ks : List Key} (H : IsMix h v ks) (hk : ∀ b o, h.get? b = some o → o.cls = .type "tuple" → h'.get? b = some o) : IsMix h' v ks := by
  obtain ⟨a, o, its, n, e, ho, hc, hd, r⟩ := H
  exact ⟨a, o, its, n, e, hk _ _ ho hc, hc, hd, r⟩
theorem mix_sortableO {a : Addr} {vs : List Value} {k : Value → List Key} (h0 : 0 < vs.length) (hp : ∀ v ∈ vs, IsMix s.heap v (k v) ∧ ∃ x r, k v = .inr x :: r) (hc : ∀ v ∈ vs, ∀ u ∈ vs, tkCan (k v) (k u) = true)
    (ha : ∀ o, s.heap.get? a = some o → o.cls ≠ .type "tuple") : SortableO prog w A s a vs fun v u => tkLt (k v) (k u) := by
  intro h' keep
  have hp' : ∀ v ∈ vs, IsMix h' v (k v) ∧ ∃ x r, k v = .inr x :: r := fun v hm => ⟨(hp v hm).1.keeps fun b o e c => keep b o (fun z => by subst z; exact ha o e c) e, (hp v hm).2⟩
  obtain ⟨fs, h1, h2, h3⟩ := firsts hp'
  refine ⟨PyProof.Rows.tuples' true, fun Q E hq => ?_, mix_cmp (fun v hm => (hp' v hm).1) hc true⟩
  refine PySem.W.kat_kind (T := .type "str") h1 (by omega) (fun f hm => ?_) (by rfl) ?_
  · obtain ⟨x, t, rfl⟩ := h3 f hm
    exact PySem.W.Looks.now
  · have e : (Value.type "str" != Value.type "tuple") = true := by first | decide +kernel | rfl | decide
    rw [e]
    exact hq
end

/-! ### sorted(d), d with tuple keys -/
def unkV : V → Key
  | .int i => .inl i
  | .str x => .inr x
  | _ => .inl 0
theorem unkV_map (ks : List Key) : (ks.map kV).map unkV = ks := by
  rw [List.map_map]
  exact Eq.trans (List.map_congr_left (g := id) fun k _ => by cases k <;> rfl) (List.map_id _)
def kOf (H : Hp) : Value → List Key
  | .ref a => match H a with
    | some (.tup xs) => xs.map unkV
    | _ => []
  | _ => []
theorem kOf_at {H : Hp} {b : Addr} {ks : List Key} (h : H b = some (.tup (ks.map kV))) : kOf H (.ref b) = ks := by
  unfold kOf
  dsimp only
  rw [h]
  exact unkV_map ks
theorem rels_of : ∀ {ks : List Key} {us : List Value}, Vals (ks.map kV) us → Rels ks us
  | [], _, .nil => trivial
  | _ :: _, _, .cons h t => ⟨h, rels_of t⟩
theorem mix_of {P : Program} {w : World} {H : Hp} {h : Heap} {b : Addr} {ks : List Key} (ok : HOk P w H h) (e : H b = some (.tup (ks.map kV))) : IsMix h (.ref b) (kOf H (.ref b)) := by
  rw [kOf_at e]
  obtain ⟨_, its, r, o, ho, hc, n, hd⟩ := (show ObjOk P w H h b (.tup (ks.map kV)) from ok b _ e)
  exact ⟨b, o, its.toArray, n, rfl, ho, hc, hd, by simpa using rels_of r⟩
theorem keys_at {H : Hp} {kvs : List (List Key × V)} {bs : List Addr} (h : IsKeys H kvs bs) : (∀ b ∈ bs, ∃ ks, ks ∈ kvs.map (·.1) ∧ H b = some (.tup (ks.map kV))) ∧ bs.map (fun b => kOf H (.ref b)) = kvs.map (·.1) := by
  unfold IsKeys at h
  induction h with
  | nil => exact ⟨fun _ h => by simp at h, rfl⟩
  | cons h t ih =>
    refine ⟨fun b hb => ?_, ?_⟩
    · rcases List.mem_cons.mp hb with e | hb
      · subst e
        exact ⟨_, List.mem_cons_self, h⟩
      · obtain ⟨ks, m, e⟩ := ih.1 b hb
        exact ⟨ks, List.mem_cons_of_mem _ m, e⟩
    · rw [List.map_cons, List.map_cons, ih.2, kOf_at h]
theorem call_sortedT {X : Cx} (hc : X.calm = true) : CallR X (.builtin "sorted") (fun xs H Q => ∃ d kvs, xs = [V.ref d] ∧ Rd H d (.dT kvs) ∧ (∀ ks ∈ kvs.map (·.1), ∃ x r, ks = Sum.inr x :: r) ∧
    (∀ a ∈ kvs.map (·.1), ∀ b ∈ kvs.map (·.1), tkCan a b = true) ∧
    ∀ p (cs : List Addr), H p = none → (∀ b ∈ cs, ∃ ks, ks ∈ kvs.map (·.1) ∧ H b = some (.tup (ks.map kV))) → (cs.map fun b => kOf H (.ref b)).Perm (kvs.map (·.1)) →
      (cs.map fun b => kOf H (.ref b)).Pairwise (fun a b => tkLt b a = false) → Q (.ref p) (upd H p (.lst (cs.map V.ref)))) := by
  intro pins s σ H xs us Q I r h
  obtain ⟨d, kvs, rfl, hd, hstr, hcan, q⟩ := h
  obtain ⟨u, rfl, rx⟩ := r.one
  cases rx
  obtain ⟨z, hs, ks, pr, o, es, ep, ho, hx, hdt, he, hn⟩ := (show ObjOk X.prog X.w H s.heap d (.dT kvs) from hd.ok I.hok)
  have l1 : es.size = ks.length := size_of_entries he
  have l2 : kvs.length = ks.length := Paired.length pr
  obtain ⟨k1, k2⟩ := keys_at (isKeys_of pr)
  refine Calls.call_function_entry PyProof.Rows.kind_sorted PyProof.Rows.plain_sorted PyProof.Rows.entry_sorted (PyProof.Rows.args_sorted1 _) ?_
  unfold Builtin.«sorted»
  refine wpAny_bind (m := checkCount "sorted" 1 1 _) (wpAny_pure ?_)
  refine wpAny_bind (PySem.W.kdu_collect (A := X.A.in1) (kdl_raw hs hx hdt) (I.ok.hd hc) ho (by omega) fun h' tk acc hk it => ?_)
  have ea : acc.toList = ks.map fun x => Value.ref x.2.1 := by
    have hl : acc.toList.length = ks.length := by rw [Array.length_toList, it.1]; exact l1
    apply List.ext_getElem?
    intro j
    rw [List.getElem?_map]
    cases hj : acc.toList[j]? with
    | none =>
      have h1 := List.getElem?_eq_none_iff.mp hj
      rw [List.getElem?_eq_none (by omega)]
      all_goals rfl
    | some v =>
      obtain ⟨en, hen, hv⟩ := it.2 j v (by rw [← Array.getElem?_toList]; exact hj)
      have qe := entry_at he j
      rw [hen] at qe
      cases hb : ks[j]? with
      | none => rw [hb] at qe; cases qe
      | some b =>
        rw [hb] at qe
        have e2 : en = entryOfKey (tupleKind (mixKind X.prog X.w)) b := Option.some.inj qe
        rw [hv, e2]
        all_goals rfl
  have eb : acc.toList = (ks.map fun x => x.2.1).map Value.ref := by rw [ea, List.map_map]; all_goals rfl
  generalize ks.map (fun x => x.2.1) = bs at eb k1 k2
  rw [eb]
  have lb : bs.length = kvs.length := by
    have := congrArg List.length k2
    simpa using this
  have hzb : (bs.map Value.ref).length ≤ sizeLine := by rw [List.length_map, lb]; exact z
  have I1 : Inv X pins σ H { s with heap := h', toks := tk } := I.kept hk
  refine wpAny_bind (wpAny_newList ?_ hzb)
  have hoL : (h'.push (seqObj "list" (bs.map Value.ref).toArray 0)).get? h'.objs.size = some (seqObj "list" (bs.map Value.ref).toArray 0) := Heap.get?_push_size _ rfl
  have hm : ∀ v ∈ bs.map Value.ref, IsMix (h'.push (seqObj "list" (bs.map Value.ref).toArray 0)) v (kOf H v) ∧ kOf H v ∈ kvs.map (·.1) := fun v hv => by
    obtain ⟨b, hb, rfl⟩ := List.mem_map.mp hv
    obtain ⟨kk, m, e⟩ := k1 b hb
    refine ⟨(mix_of I.hok e).keeps fun b o e _ => Heap.get?_push_of_some _ (hk b o e), ?_⟩
    rw [kOf_at e]
    exact m
  show wpAny _ _ _ _ _ { s with heap := h'.push (seqObj "list" (bs.map Value.ref).toArray 0), toks := tk }
  refine wpAny_bind (wpAny_holding (wpAny_call_entry PyProof.Rows.slot_list_sort ⟨_, hoL, rfl⟩ PyProof.Rows.entry_list_sort
    (list_sort_ord (s := { s with heap := h'.push (seqObj "list" (bs.map Value.ref).toArray 0), toks := tk }) (swo_tk (kOf H)) hoL hzb (fun h2 => mix_sortableO (by omega) (fun v hv => ⟨(hm v hv).1, hstr _ (hm v hv).2⟩)
      (fun v hv u hu => hcan _ (hm v hv).2 _ (hm u hu).2) fun o e => ?_) fun out hs' hb => ⟨_, rfl, ?_⟩)
    (PyProof.Rows.args_list_sort _)))
  · have e' := hoL.symm.trans e
    have e2 := Option.some.inj e'
    rw [← e2]
    intro c
    have : ("list" : String) = "tuple" := by injection c
    exact absurd this (by decide)
  obtain ⟨e', he'⟩ := PyProof.Rows.sortedHeap_at (vs := bs.map Value.ref) (out := out.toArray) hoL
  obtain ⟨cs, rfl, hsub⟩ : ∃ cs : List Addr, out = cs.map Value.ref ∧ ∀ c ∈ cs, c ∈ bs := by
    have hin : ∀ v ∈ out, ∃ b ∈ bs, v = Value.ref b := fun v hv => by
      obtain ⟨b, hb', e⟩ := List.mem_map.mp (hb.perm.mem_iff.mp hv)
      exact ⟨b, hb', e.symm⟩
    clear hb hs' he'
    induction out with
    | nil => exact ⟨[], rfl, fun _ h => by simp at h⟩
    | cons v out ih =>
      obtain ⟨b, hb1, e⟩ := hin v List.mem_cons_self
      obtain ⟨cs, e2, h2⟩ := ih fun u hu => hin u (List.mem_cons_of_mem _ hu)
      refine ⟨b :: cs, by rw [List.map_cons, e, e2], fun c hc => ?_⟩
      rcases List.mem_cons.mp hc with h | h
      · rw [h]; exact hb1
      · exact h2 c h
  have lc : cs.length = bs.length := by
    have := hb.perm.length_eq
    simpa using this
  have hlen : (cs.map V.ref).length ≤ sizeLine := by rw [List.length_map, lc, lb]; exact z
  have hperm : (cs.map fun b => kOf H (.ref b)).Perm (kvs.map (·.1)) := by
    have := hb.perm.map (kOf H)
    rw [List.map_map, List.map_map] at this
    rw [← k2]
    exact this
  have hpw : (cs.map fun b => kOf H (.ref b)).Pairwise (fun a b => tkLt b a = false) := by
    have h1 : (cs.map Value.ref).Pairwise fun v u => tkLt (kOf H u) (kOf H v) = false := hs'
    rw [List.pairwise_map] at h1 ⊢
    exact h1
  refine wpAny_pure ⟨_, rfl, .ref h'.objs.size, upd H h'.objs.size (.lst (cs.map V.ref)), I1.laid (t' := tk) (fun b u e => ?_) (Nat.le_refl _)
    (show ObjOk X.prog X.w _ _ _ (.lst (cs.map V.ref)) from ⟨hlen, cs.map Value.ref, e', vals_refs _, he'⟩), rfl, q _ cs (I1.hok.fresh (Nat.le_refl _)) (fun b hb' => k1 b (hsub b hb')) hperm hpw⟩
  have hb : b < h'.objs.size := Heap.lt_size e
  rw [PyProof.Rows.sortedHeap_old (Nat.ne_of_lt hb) (by rw [size_push']; exact Nat.lt_succ_of_lt hb)]
  exact Heap.get?_push_of_some _ e
end Bs4
set_option linter.all false
set_option maxRecDepth 20000
set_option autoImplicit false
/-! sorted(set(xs)), xs a list of tuples that hold texts and ints -/
namespace Bs5
open PySem PySem.Spec PyProof.Rows L2 EV SrtO Bs4

abbrev KTup (P : Program) (w : World) (h : Heap) (k : List Key) (b : Addr) : Prop := IsTupleKey (mixKind P w) h k b
abbrev hK (P : Program) (w : World) (k : List Key) : Int := tupleKeyHash (mixKind P w) k
def Flat (v : Value) : Prop := (∃ i t, v = Value.int i t) ∨ ∃ x t, v = Value.str x t
section
variable {P : Program} {w : World} {A : Around} {E : Value → Shared → Prop} {s : Shared}
theorem flats {k : List Key} {vs : List Value} (h : ItemsAre (mixKind P w) k vs) : ∀ u, u ∈ vs → Flat u := by
  induction h with
  | nil => exact fun u m => absurd m List.not_mem_nil
  | cons e t ih =>
    intro u m
    rcases List.mem_cons.mp m with z | z
    · subst z
      rcases keyIs_shape e with ⟨i, q, _, z⟩ | ⟨x, q, _, z⟩
      · exact .inl ⟨i, q, z⟩
      · exact .inr ⟨x, q, z⟩
    · exact ih u z
theorem flat_cls {v : Value} (h : Flat v) (n : Nat) : ofAClassStatement n v = pure false := by
  rcases h with ⟨i, t, rfl⟩ | ⟨x, t, rfl⟩ <;> cases n <;> rfl
theorem flat_hash {v : Value} (h : Flat v) (n : Nat) : ∃ c, hashByValue n v = pure c := by
  rcases h with ⟨i, t, rfl⟩ | ⟨x, t, rfl⟩
  · exact ⟨true, by cases n <;> rfl⟩
  · exact ⟨false, by cases n <;> rfl⟩
theorem k_cls {k : List Key} {b : Addr} {Q : Bool → Shared → Prop} (x : KTup P w s.heap k b) (q : Q false s) : wpAny (model P w) A (ofAClassStatement 8 (.ref b)) Q E s := by
  have ty := x.typeIs
  obtain ⟨g, its, n, hg, _, dg, ig⟩ := x
  unfold ofAClassStatement
  refine wpAny_bind (wpAny_typeOf ty ?_)
  dsimp only
  have yes : (("tuple" : String) == "tuple") = true := by decide
  simp only [yes, if_true, Bool.not_true, Bool.false_eq_true, if_false]
  try refine wpAny_bind (wpAny_pure ?_)
  try simp only [Bool.not_true, Bool.false_eq_true, if_false]
  show wpAny _ _ (seqItems? (.ref b) >>= _) _ _ s
  refine wpAny_bind (wpAny_seqItems hg dg ?_)
  dsimp only
  refine wpAny_bind ?_
  show wpAny _ _ (forIn its _ _) _ _ s
  rw [← Array.forIn_toList]
  refine wpAny_forIn_list _ (fun l r s1 => r.1 = none ∧ s1 = s ∧ ∀ u, u ∈ l → Flat u) _ (fun u l r s1 ⟨a1, a2, a3⟩ => ?_) (fun r s1 ⟨a1, a2, _⟩ => ?_) _ _ ⟨rfl, rfl, flats ig⟩
  · subst a2
    rw [flat_cls (a3 u List.mem_cons_self)]
    refine wpAny_bind (wpAny_pure ?_)
    simp only [Bool.false_eq_true, if_false]
    exact wpAny_pure ⟨rfl, rfl, fun z m => a3 z (List.mem_cons_of_mem _ m)⟩
  · obtain ⟨r1, r2⟩ := r
    subst a2
    dsimp only at a1
    subst a1
    exact wpAny_pure q
/-- whether the hash goes by value: some answer -/
theorem k_val {k : List Key} {b : Addr} {Q : Bool → Shared → Prop} (x : KTup P w s.heap k b) (q : ∀ c, Q c s) : wpAny (model P w) A (hashByValue 8 (.ref b)) Q E s := by
  have ty := x.typeIs
  obtain ⟨g, its, n, hg, _, dg, ig⟩ := x
  unfold hashByValue
  refine wpAny_bind (wpAny_specialOf ty F.slot_tuple_hash.lookup ?_)
  show wpAny _ _ (seqItems? (.ref b) >>= _) _ _ s
  refine wpAny_bind (wpAny_seqItems hg dg ?_)
  refine wpAny_bind ?_
  show wpAny _ _ (forIn its _ _) _ _ s
  rw [← Array.forIn_toList]
  refine wpAny_forIn_list _ (fun l r s1 => s1 = s ∧ ∀ u, u ∈ l → Flat u) _ (fun u l r s1 ⟨a2, a3⟩ => ?_) (fun r s1 ⟨a2, _⟩ => ?_) _ _ ⟨rfl, flats ig⟩
  · subst a2
    obtain ⟨c, ec⟩ := flat_hash (a3 u List.mem_cons_self) 7
    rw [ec]
    refine wpAny_bind (wpAny_pure ?_)
    cases c with
    | true =>
      simp only [Bool.not_true, Bool.false_eq_true, if_false]
      exact wpAny_pure ⟨rfl, fun z m => a3 z (List.mem_cons_of_mem _ m)⟩
    | false =>
      simp only [Bool.not_false, if_true]
      exact wpAny_pure (wpAny_pure (q false))
  · obtain ⟨r1, r2⟩ := r
    subst a2
    cases r1 with
    | none => exact wpAny_pure (q _)
    | some c => exact wpAny_pure (q _)
theorem k_quiet {k : List Key} {b : Addr} {Q : Bool → Shared → Prop} (x : KTup P w s.heap k b) {ys : List Value} (hy : ∀ y, y ∈ ys → ∃ j c, y = Value.ref c ∧ KTup P w s.heap j c) (q : Q false s) :
    wpAny (model P w) A (searchCouldBeSeen (.ref b) ys) Q E s := by
  unfold searchCouldBeSeen
  refine wpAny_bind ?_
  refine wpAny_forIn_list _ (fun l r s1 => r.1 = none ∧ s1 = s ∧ ∀ y, y ∈ l → ∃ j c, y = Value.ref c ∧ KTup P w s.heap j c) _ (fun u l r s1 ⟨a1, a2, a3⟩ => ?_) (fun r s1 ⟨a1, a2, _⟩ => ?_) _ _ ⟨rfl, rfl, hy⟩
  · subst a2
    obtain ⟨j, c, rfl, kc⟩ := a3 u List.mem_cons_self
    have more : ∀ y, y ∈ l → ∃ j c, y = Value.ref c ∧ KTup P w s1.heap j c := fun y m => a3 y (List.mem_cons_of_mem _ m)
    dsimp only
    by_cases very : (b == c || (carriedByValue (.ref b) && carriedByValue (.ref c))) = true
    · exact wp_if_pos very (wpAny_pure ⟨rfl, rfl, more⟩)
    · refine wp_if_neg very (wpAny_bind (wpAny_eqIsQuiet_tuple x ?_))
      simp only [Bool.not_true, Bool.false_eq_true, if_false]
      refine wpAny_bind (wpAny_eqIsQuiet_tuple kc ?_)
      simp only [Bool.not_true, Bool.false_eq_true, if_false]
      refine wpAny_bind (k_cls x ?_)
      simp only [Bool.false_eq_true, if_false]
      refine wpAny_bind (k_cls kc ?_)
      simp only [Bool.false_eq_true, if_false]
      exact wpAny_pure ⟨rfl, rfl, more⟩
  · obtain ⟨r1, r2⟩ := r
    subst a2
    dsimp only at a1
    subst a1
    exact wpAny_pure q

/-! ### the table -/
abbrev LK := List (Addr × List Key)
def recs (P : Program) (w : World) (L : LK) : List (Int × Value) := L.map fun p => (hK P w p.2, Value.ref p.1)
/-- the set at a holds the tuples of L, in the order of its table -/
structure MS (P : Program) (w : World) (h : Heap) (a : Addr) (L : LK) (es : Array (Int × Value)) (ep : Nat) (t : SetTable) : Prop where
  obj : ∃ g, h.get? a = some g ∧ g.ExactSet ∧ g.data = .set es ep t
  row : es.toList = recs P w L
  tab : TabOk t (L.map fun p => hK P w p.2)
  nd : (L.map (·.2)).Nodup
  tup : ∀ p, p ∈ L → KTup P w h p.2 p.1
  ld : w.params.followText "set-order" = true ∨ t.led = true
  room : L.length * 5 < t.mask * 3
variable {a : Addr} {L : LK} {es : Array (Int × Value)} {ep : Nat} {t : SetTable}
theorem recs_size {es : Array (Int × Value)} {L : LK} (h : es.toList = recs P w L) : es.size = L.length := by
  rw [← Array.length_toList, h]
  exact List.length_map ..
theorem recs_at {es : Array (Int × Value)} {L : LK} (h : es.toList = recs P w L) {i : Nat} {p : Addr × List Key} (e : L[i]? = some p) : es[i]? = some (hK P w p.2, Value.ref p.1) := by
  rw [← Array.getElem?_toList, h]
  unfold recs
  rw [List.getElem?_map, e]
  rfl
theorem MS.fits {h : Heap} (M : MS P w h a L es ep t) : t.fits es.size = true := by
  have z1 := M.tab.sz
  have z2 := M.room
  rw [List.length_map] at z1
  unfold SetTable.fits SetTable.fill
  rw [M.tab.dm, recs_size M.row, Bool.and_eq_true, beq_iff_eq, decide_eq_true_eq]
  refine ⟨z1, ?_⟩
  show t.place.size + 0 ≤ t.mask
  omega
theorem MS.gw {h : Heap} (M : MS P w h a L es ep t) : ¬ t.gaveWay = true := by
  unfold SetTable.gaveWay
  rw [mask_odd M.tab.mok]
  decide
/-- the n-th step of the way of a key -/
abbrev stp (P : Program) (w : World) (t : SetTable) (k : List Key) (n : Nat) : SetTable.Probe := nth t.mask (runAt t.mask (SetTable.bits (hK P w k) % (t.mask + 1)) (SetTable.bits (hK P w k))) n
theorem nth_dm (m : Nat) : ∀ (n : Nat) (p : SetTable.Probe), p.dummy = none → (nth m p n).dummy = none
  | 0, _, h => h
  | n + 1, p, h => nth_dm m n (adv m p) (by unfold adv; split <;> exact h)
theorem find {k : List Key} {x : Addr} {K : Nat} {Q : SetFound → Shared → Prop} (M : MS P w s.heap a L es ep t) (hx : KTup P w s.heap k x) (hu : A.units < cLine) (hf : K < 10 * SetTable.turns t.mask)
    (free : (stp P w t k K).j ∉ t.place.toList) (full : ∀ n, n < K → (stp P w t k n).j ∈ t.place.toList)
    (yes : k ∈ L.map (·.2) → Q (.there none) s) (no : k ∉ L.map (·.2) → Q (.free (stp P w t k K).j false) s) :
    ∀ (fuel n : Nat) (st : Option SetTable.Probe), st.getD (t.probeStart (hK P w k)) = stp P w t k n → n ≤ K → K - n < fuel → (∀ (i : Nat) p, L[i]? = some p → p.2 = k → ∃ m, n ≤ m ∧ m < K ∧ t.place.toList[i]? = some (stp P w t k m).j) →
      wpAny (model P w) A (setSearchFrom a (.ref x) (hK P w k) true fuel st) Q E s := by
  intro fuel
  induction fuel with
  | zero => exact fun n st _ _ z _ => absurd z (Nat.not_lt_zero _)
  | succ fuel ih =>
    intro n st est hn hz left
    obtain ⟨g, hg, ex, dg⟩ := M.obj
    have at_ : ∀ q, nth t.mask (stp P w t k n) q = stp P w t k (n + q) := fun q => (nth_add t.mask n _ q).symm
    have at_K : n + (K - n) = K := by omega
    have hash_at : ∀ (i : Nat) p, L[i]? = some p → (es[i]?.map (·.1)).getD 0 = hK P w p.2 := fun i p e => by rw [recs_at M.row e]; rfl
    have sp := go_spec t M.tab.ris M.tab.dm (fun i => (es[i]?.map (·.1)).getD 0) (hK P w k) (10 * SetTable.turns t.mask) (K - n) (stp P w t k n) (nth_dm _ _ _ rfl) (by omega)
      (fun q hq => by rw [at_]; exact full _ (by omega)) (by rw [at_, at_K]; exact free)
    rw [setSearchFrom_succ]
    refine wpAny_bind (wpAny_setState_of hg dg M.fits ?_)
    dsimp only
    refine wp_if_neg M.gw ?_
    try refine wpAny_bind (wpAny_pure ?_)
    have hpr : t.probe (fun i => (es[i]?.map (·.1)).getD 0) (hK P w k) (st.getD (t.probeStart (hK P w k))) = SetTable.probe.go t (fun i => (es[i]?.map (·.1)).getD 0) (hK P w k) (10 * SetTable.turns t.mask) (stp P w t k n) := by rw [est]; rfl
    rw [hpr]
    rcases sp with ⟨q, i, hq, hi, hh, before, e⟩ | ⟨before, e⟩
    · rw [e, at_, at_]
      rw [at_] at hi
      dsimp only
      have hil : i < L.length := by
        have z1 := (List.getElem?_eq_some_iff.mp hi).1
        have z2 := M.tab.sz
        rw [List.length_map] at z2
        rw [Array.length_toList] at z1
        omega
      obtain ⟨p, hp⟩ : ∃ p, L[i]? = some p := ⟨_, List.getElem?_eq_getElem hil⟩
      have pm : p ∈ L := List.mem_of_getElem? hp
      have lv : t.slot (stp P w t k (n + q)).j = .live i := slot_live M.tab.ris hi
      have after : wpAny (model P w) A (searchRest a (.ref x) (hK P w k) true fuel es t (stp P w t k (n + q)).j i (stp P w t k (n + (q + 1)))) Q E s := by
        unfold searchRest
        rw [recs_at M.row hp]
        dsimp only
        refine wpAny_bind (wpAny_holding (wpAny_eqBool_tuple hu (M.tup p pm) hx ?_))
        refine wpAny_bind (wpAny_setState_of hg dg M.fits ?_)
        dsimp only
        by_cases ek : p.2 = k
        · refine wp_if_pos (by simp [ek]) (wpAny_pure (yes ?_))
          exact List.mem_map.mpr ⟨p, pm, ek⟩
        · refine wp_if_neg (by simp [ek]) ?_
          try refine wpAny_bind (wpAny_pure ?_)
          rw [sameMem]
          dsimp only
          simp only [if_true, lv, recs_at M.row hp]
          refine wpAny_bind (wpAny_isSame_ref_self (wpAny_bind (wpAny_pure ?_)))
          simp only [if_true]
          refine wp_if_neg (by simp [ek]) ?_
          refine ih (n + (q + 1)) _ rfl (by omega) (by omega) fun i2 p2 h2 k2 => ?_
          obtain ⟨m, m1, m2, m3⟩ := left i2 p2 h2 k2
          refine ⟨m, ?_, m2, m3⟩
          rcases Nat.lt_trichotomy m (n + q) with z | z | z
          · refine absurd ((hash_at i2 p2 h2).trans (congrArg (hK P w) k2)) (before (m - n) i2 (by omega) ?_)
            rw [at_, show n + (m - n) = m from by omega]
            exact m3
          · subst z
            have z2 := slot_live M.tab.ris m3
            rw [lv] at z2
            injection z2 with z2
            rw [← z2, hp] at h2
            cases h2
            exact absurd k2 ek
          · omega
      by_cases hl : t.led = true
      · refine wp_if_neg (by simp [hl]) ?_
        try refine wpAny_bind (wpAny_pure ?_)
        exact after
      · refine wp_if_pos (by simp [hl]) ?_
        refine wpAny_bind (k_quiet hx (fun y hy => ?_) ?_)
        · obtain ⟨e1, me, ee⟩ := List.mem_map.mp hy
          have me1 : e1 ∈ es ∧ e1.1 = hK P w k := by simpa using me
          have me2 : e1 ∈ es.toList := by simpa using me1.1
          rw [M.row] at me2
          obtain ⟨p2, mp2, e2⟩ := List.mem_map.mp me2
          exact ⟨p2.2, p2.1, by rw [← ee, ← e2], M.tup p2 mp2⟩
        · refine wp_if_neg (by decide) ?_
          try refine wpAny_bind (wpAny_pure ?_)
          exact after
    · rw [e, at_, at_K]
      dsimp only
      refine wpAny_pure (no fun m => ?_)
      obtain ⟨p, pm, kp⟩ := List.mem_map.mp m
      obtain ⟨i, hi, ei⟩ := List.getElem_of_mem pm
      have ei2 : L[i]? = some p := by rw [List.getElem?_eq_getElem hi, ei]
      obtain ⟨c, c1, c2, c3⟩ := left i p ei2 kp
      refine before (c - n) i (by omega) ?_ ((hash_at i p ei2).trans (congrArg (hK P w) kp))
      rw [at_, show n + (c - n) = c from by omega]
      exact c3
theorem find0 {k : List Key} {x : Addr} {Q : SetFound → Shared → Prop} (M : MS P w s.heap a L es ep t) (hx : KTup P w s.heap k x) (hu : A.units < cLine)
    (yes : k ∈ L.map (·.2) → Q (.there none) s)
    (no : ∀ K, k ∉ L.map (·.2) → way t.mask (hK P w k) K ∉ t.place.toList → (∀ c, c < K → way t.mask (hK P w k) c ∈ t.place.toList) → Q (.free (way t.mask (hK P w k) K) false) s) :
    wpAny (model P w) A (setSearch a (.ref x) (hK P w k) true) Q E s := by
  have rm := M.room
  obtain ⟨K, k1, k2, k3⟩ := M.tab.first (by rw [List.length_map]; omega) (hK P w k)
  have small : K < 100000 := by
    have : 10 * SetTable.turns t.mask ≤ 1420 := by
      unfold SetTable.turns
      rcases M.tab.mok with e | e | e <;> omega
    omega
  unfold setSearch
  refine find M hx hu k1 k2 k3 yes (fun z => no K z k2 k3) 100000 0 none rfl (Nat.zero_le _) (by omega) fun i p hp ek => ?_
  have hi : (L.map fun p => hK P w p.2)[i]? = some (hK P w k) := by rw [List.getElem?_map, hp, ← ek]; rfl
  have hil : i < t.place.toList.length := by
    have z1 := (List.getElem?_eq_some_iff.mp hp).1
    have z2 := M.tab.sz
    rw [List.length_map] at z2
    rw [Array.length_toList]
    omega
  have ej := List.getElem?_eq_getElem hil
  obtain ⟨c, c1, c2⟩ := M.tab.before k2 hi ej
  exact ⟨c, Nat.zero_le _, c1, by rw [ej]; exact congrArg some c2.symm⟩
/-- another object changes -/
theorem KTup.but {h h' : Heap} {k : List Key} {b : Addr} {g : Obj} (x : KTup P w h k b) (hg : h.get? a = some g) (dg : g.data = .set es ep t) (sb : Heap.SameBut a h h') : KTup P w h' k b := by
  obtain ⟨o, its, n, ho, r1, r2, r3⟩ := x
  have ne : b ≠ a := fun e => by
    subst e
    rw [hg] at ho
    cases ho
    rw [dg] at r2
    cases r2
  exact ⟨o, its, n, (sb.2 b ne).trans ho, r1, r2, r3⟩
theorem KTup.keep {h h' : Heap} {k : List Key} {b : Addr} (x : KTup P w h k b) (kp : ∀ c o, h.get? c = some o → h'.get? c = some o) : KTup P w h' k b := by
  obtain ⟨o, its, n, ho, r⟩ := x
  exact ⟨o, its, n, kp b o ho, r⟩
theorem reordered (l : List Nat) {es : Array (Int × Value)} {L : LK} (h : es.toList = recs P w L) (hl : ∀ i, i ∈ l → i < L.length) :
    l.filterMap (fun i => es[i]?) = recs P w (l.filterMap fun i => L[i]?) ∧ ((l.filterMap fun i => L[i]?).map fun p => hK P w p.2) = l.map fun i => (es.map (·.1)).getD i 0 := by
  induction l with
  | nil => exact ⟨rfl, rfl⟩
  | cons i l ih =>
    have hi := hl i List.mem_cons_self
    obtain ⟨i1, i2⟩ := ih fun j m => hl j (List.mem_cons_of_mem _ m)
    have eL : L[i]? = some L[i] := List.getElem?_eq_getElem hi
    have eE := recs_at h eL
    have eD : (es.map (·.1)).getD i 0 = hK P w (L[i]).2 := by simp [Array.getD_eq_getD_getElem?, eE]
    rw [List.filterMap_cons_some eE, List.filterMap_cons_some eL, i1, List.map_cons, List.map_cons, i2, eD]
    exact ⟨rfl, rfl⟩
theorem all_there (L : LK) : ∀ n, n ≤ L.length → (List.range n).filterMap (fun i => L[i]?) = L.take n
  | 0, _ => rfl
  | n + 1, h => by
    rw [List.range_succ, List.filterMap_append, all_there L n (by omega), List.take_succ, List.filterMap_cons_some (List.getElem?_eq_getElem h), List.getElem?_eq_getElem h]
    rfl
/-- the table is laid anew -/
theorem relaid {g : Obj} {wanted B : Nat} {Q : Unit → Shared → Prop} (hg : s.heap.get? a = some g) (ex : g.ExactSet) (dg : g.data = .set es ep t) (hr : es.toList = recs P w L) (sz : t.place.size = es.size) (dm : t.dummies = #[]) (fl : es.size ≤ t.mask)
    (nd : (L.map (·.2)).Nodup) (tup : ∀ p, p ∈ L → KTup P w s.heap p.2 p.1) (ld : w.params.followText "set-order" = true ∨ t.led = true)
    (hw : SetTable.sizeAbove wanted - 1 = B) (hB : MaskOk B) (hw2 : SetTable.sizeAbove wanted ≤ 128) (few : L.length * 5 < B * 3)
    (q : ∀ h' L' es' ep' t', Heap.SameBut a s.heap h' → MS P w h' a L' es' ep' t' → L'.Perm L → Q () { s with heap := h' }) : wpAny (model P w) A (setRelay a wanted) Q E s := by
  have zl := recs_size hr
  have ft : t.fits es.size = true := by
    unfold SetTable.fits SetTable.fill
    rw [dm, Bool.and_eq_true, beq_iff_eq, decide_eq_true_eq]
    refine ⟨sz, ?_⟩
    show t.place.size + 0 ≤ t.mask
    omega
  obtain ⟨t', od, e, pm, T, em, el, _, ed⟩ := relaid_ok t (hs := es.map (·.1)) (wanted := wanted) hw hB (by rw [Array.size_map, zl]; omega)
  rw [Array.size_map, zl] at pm
  obtain ⟨r1, r2⟩ := reordered (P := P) (w := w) od.toList hr fun i m => List.mem_range.mp (pm.mem_iff.mp m)
  have pL : (od.toList.filterMap fun i => L[i]?).Perm L := by
    have z := pm.filterMap fun i => L[i]?
    rw [all_there L L.length (Nat.le_refl _), List.take_length] at z
    exact z
  rw [← r2] at T
  have r1' : (od.filterMap (es[·]?)).toList = recs P w (od.toList.filterMap fun i => L[i]?) := by
    first
      | (rw [Array.toList_filterMap]; exact r1)
      | simpa using r1
  have zs : (od.filterMap (es[·]?)).size = es.size := by rw [recs_size r1', pL.length_eq, zl]
  generalize od.toList.filterMap (fun i => L[i]?) = L2 at r1' pL T
  rw [setRelay_eq]
  refine wpAny_bind (wpAny_setState_of hg dg ft ?_)
  dsimp only
  refine wp_if_neg (by rw [sizeLine_eq]; omega) ?_
  try refine wpAny_bind (wpAny_pure ?_)
  rw [e]
  dsimp only
  refine wpAny_bind ?_
  refine wp_if_neg (by rw [zs]; simp) ?_
  try refine wpAny_bind (wpAny_pure ?_)
  refine wpAny_pure ?_
  dsimp only
  have few2 : L.length < 128 := by rcases hB with z | z | z <;> omega
  refine wpAny_storeSet_of hg dg ?_ (by rw [zs, zl, sizeLine_eq]; omega)
  have sb : Heap.SameBut a s.heap (s.heap.update a (Obj.putSet (od.filterMap (es[·]?)) t')) := Heap.SameBut.update ..
  refine q _ L2 (od.filterMap (es[·]?)) (ep + 1) t' sb ⟨⟨_, store_at hg dg, ⟨ex.1, ex.2.1, ex.2.2⟩, rfl⟩, r1', T, (pL.map (·.2)).nodup_iff.mpr nd, fun p m => (tup p (pL.mem_iff.mp m)).but hg dg sb, by rw [el]; exact ld, ?_⟩ pL
  rw [pL.length_eq, em]
  exact few
/-- one is put in -/
theorem added {x : Addr} {k : List Key} {Q : Bool → Shared → Prop} (M : MS P w s.heap a L es ep t) (hx : KTup P w s.heap k x) (hu : A.units < cLine) (few : k ∉ L.map (·.2) → L.length + 1 ≤ 76)
    (q : ∀ b h' L' es' ep' t', Heap.SameBut a s.heap h' → MS P w h' a L' es' ep' t' → (k ∈ L.map (·.2) → L' = L) → (k ∉ L.map (·.2) → L'.Perm ((x, k) :: L)) → Q b { s with heap := h' }) :
    wpAny (model P w) A (setAddHashed a (.ref x) (hK P w k)) Q E s := by
  obtain ⟨g, hg, ex, dg⟩ := M.obj
  have zl := recs_size M.row
  have rm := M.room
  unfold setAddHashed
  refine wpAny_holding ?_
  rw [show (100000 : Nat) = 99999 + 1 from rfl, setAddHashedIn_succ]
  refine wpAny_bind (wpAny_setState_of hg dg M.fits ?_)
  dsimp only
  refine wp_if_neg (by simp [byScan, Value.scannable]) ?_
  try refine wpAny_bind (wpAny_pure ?_)
  refine wpAny_bind (find0 M hx hu (fun m => ?_) fun K nm free full => ?_)
  · dsimp only
    exact wpAny_pure (q false s.heap L es ep t (Heap.SameBut.refl a s.heap) M (fun _ => rfl) fun z => absurd m z)
  · have few := few nm
    dsimp only
    refine wpAny_bind (wpAny_setState_of hg dg M.fits ?_)
    dsimp only
    obtain ⟨c1, c2, c3, c4, c5, _, c7, c8, c9⟩ := M.tab.put free full
    generalize hpt : t.put (way t.mask (hK P w k) K) = pt at c1 c3 c4 c5 c7 c8 c9 ⊢
    obtain ⟨t1, j⟩ := pt
    dsimp only at c1 c3 c4 c5 c7 c8 c9 ⊢
    subst c1
    have hin : (SetTable.insertAt es (SetTable.below t.place (way t.mask (hK P w k) K)) (hK P w k, Value.ref x)).toList = recs P w (L.take (SetTable.below t.place (way t.mask (hK P w k) K)) ++ (x, k) :: L.drop (SetTable.below t.place (way t.mask (hK P w k) K))) := by
      rw [SetTable.toList_insertAt, M.row]
      unfold recs
      rw [List.map_append, List.map_cons, List.map_take, List.map_drop]
    generalize SetTable.below t.place (way t.mask (hK P w k) K) = j at c2 c3 hin ⊢
    have pm := put_perm L j (x, k)
    have eh : (L.take j ++ (x, k) :: L.drop j).map (fun p => hK P w p.2) = (L.map fun p => hK P w p.2).take j ++ hK P w k :: (L.map fun p => hK P w p.2).drop j := by
      rw [List.map_append, List.map_cons, List.map_take, List.map_drop]
    rw [← eh] at c3
    have len1 : (L.take j ++ (x, k) :: L.drop j).length = L.length + 1 := pm.length_eq
    have nd1 : ((L.take j ++ (x, k) :: L.drop j).map (·.2)).Nodup := (pm.map (·.2)).nodup_iff.mpr (List.nodup_cons.mpr ⟨nm, M.nd⟩)
    have zes : (SetTable.insertAt es j (hK P w k, Value.ref x)).size = L.length + 1 := by rw [recs_size hin, len1]
    generalize SetTable.insertAt es j (hK P w k, Value.ref x) = es1 at hin zes ⊢
    generalize L.take j ++ (x, k) :: L.drop j = L1 at pm len1 c3 nd1 hin
    have go : ∀ t2 : SetTable, t2.place = t1.place → t2.dummies = t1.dummies → t2.mask = t1.mask → t2.led = t1.led → t2.tooFull = t1.tooFull → TabOk t2 (L1.map fun p => hK P w p.2) →
        wpAny (model P w) A (do storeSet a es1 t2; if (!false && t2.tooFull) = true then (do setRelay a (SetTable.grown (es.size + 1)); pure true) else pure true) Q E s := by
      intro t2 z1 z2 z3 z4 z5 T2
      refine wpAny_bind (wpAny_storeSet_of hg dg ?_ (by rw [zes, sizeLine_eq]; omega))
      have sb : Heap.SameBut a s.heap (s.heap.update a (Obj.putSet es1 t2)) := Heap.SameBut.update ..
      have hg1 := store_at (es' := es1) (t' := t2) hg dg
      generalize s.heap.update a (Obj.putSet es1 t2) = h1 at sb hg1 ⊢
      have tup1 : ∀ p, p ∈ L1 → KTup P w h1 p.2 p.1 := fun p m => by
        rcases List.mem_cons.mp (pm.mem_iff.mp m) with e | m
        · rw [e]; exact hx.but hg dg sb
        · exact (M.tup p m).but hg dg sb
      have ld1 : w.params.followText "set-order" = true ∨ t2.led = true := by rw [z4, c5]; exact M.ld
      by_cases hf : t2.tooFull = true
      · refine wp_if_pos (by simp [hf]) ?_
        refine wpAny_bind ?_
        have hfull : (L.length + 1) * 5 ≥ t2.mask * 3 := by
          have z := hf
          rw [z5] at z
          unfold SetTable.tooFull at z
          rw [decide_eq_true_eq, c9, List.length_map] at z
          rw [z3]
          exact z
        rw [zl]
        have sz1 : t2.place.size = es1.size := by
          have z := T2.sz
          rw [List.length_map, len1] at z
          rw [z, zes]
        have two : (t.mask = 7 ∧ L.length = 4) ∨ (t.mask = 31 ∧ L.length = 18) := by
          rcases M.tab.mok with e | e | e
          · rw [z3, c4, e] at hfull; rw [e] at rm; exact .inl ⟨e, by omega⟩
          · rw [z3, c4, e] at hfull; rw [e] at rm; exact .inr ⟨e, by omega⟩
          · rw [z3, c4, e] at hfull; omega
        have lay : ∀ B, SetTable.sizeAbove (SetTable.grown (L.length + 1)) - 1 = B → MaskOk B → SetTable.sizeAbove (SetTable.grown (L.length + 1)) ≤ 128 → (L.length + 1) * 5 < B * 3 →
            wpAny (model P w) A (setRelay a (SetTable.grown (L.length + 1))) (fun _ s' => wpAny (model P w) A (pure true) Q E s') E { s with heap := h1 } := fun B b1 b2 b3 b4 => by
          refine relaid (s := { s with heap := h1 }) (L := L1) hg1 ⟨ex.1, ex.2.1, ex.2.2⟩ rfl hin sz1 T2.dm (by rw [zes, z3, c4]; rcases two with ⟨e, e2⟩ | ⟨e, e2⟩ <;> omega) nd1 tup1 ld1 b1 b2 b3 (by rw [len1]; exact b4) fun h2 L2 es2 ep2 t3 sb2 M2 pm2 => ?_
          exact wpAny_pure (q true h2 L2 es2 ep2 t3 (sb.trans sb2) M2 (fun z => absurd z nm) fun _ => pm2.trans pm)
        rcases two with ⟨_, e2⟩ | ⟨_, e2⟩
        · exact lay 31 (by rw [e2, size_20]) (.inr (.inl rfl)) (by rw [e2, size_20]; decide) (by omega)
        · exact lay 127 (by rw [e2, size_76]) (.inr (.inr rfl)) (by rw [e2, size_76]; decide) (by omega)
      · refine wp_if_neg (by simp [hf]) ?_
        refine wpAny_pure (q true h1 L1 es1 (ep + 1) t2 sb ⟨⟨_, hg1, ⟨ex.1, ex.2.1, ex.2.2⟩, rfl⟩, hin, T2, nd1, tup1, ld1, ?_⟩ (fun z => absurd z nm) fun _ => pm)
        have z := hf
        rw [z5] at z
        unfold SetTable.tooFull at z
        rw [decide_eq_true_eq, c9, List.length_map] at z
        rw [len1, z3]
        omega
    by_cases hp : t1.plain = true
    · refine wp_if_pos hp (wpAny_bind (k_val hx fun c => ?_))
      cases c with
      | true => exact go t1 rfl rfl rfl rfl rfl c3
      | false => exact go { t1 with plain := false } rfl rfl rfl rfl rfl ⟨c3.ris, c3.dm, c3.sz, c3.mok, c3.bd, c3.reach⟩
    · refine wp_if_neg hp (wpAny_bind (wpAny_pure ?_))
      exact go t1 rfl rfl rfl rfl rfl c3

/-! ### set(xs) -/
/-- what is in after i items -/
structure Had (ks : LK) (i : Nat) (L : LK) : Prop where
  sub : ∀ p, p ∈ L → p ∈ ks.take i
  all : ∀ p, p ∈ ks.take i → p.2 ∈ L.map (·.2)
theorem take_one {α : Type} {l : List α} {i : Nat} {x : α} (h : l[i]? = some x) {y : α} : y ∈ l.take (i + 1) ↔ y ∈ l.take i ∨ y = x := by
  rw [List.take_succ, h]
  simp
theorem Had.old {ks L : LK} {i : Nat} {x : Addr × List Key} (g : Had ks i L) (h : ks[i]? = some x) (m : x.2 ∈ L.map (·.2)) : Had ks (i + 1) L :=
  ⟨fun p z => (take_one h).mpr (.inl (g.sub p z)), fun p z => by
    rcases (take_one h).mp z with z | z
    · exact g.all p z
    · rw [z]; exact m⟩
theorem Had.new {ks L L' : LK} {i : Nat} {x : Addr × List Key} (g : Had ks i L) (h : ks[i]? = some x) (pm : L'.Perm (x :: L)) : Had ks (i + 1) L' :=
  ⟨fun p z => (take_one h).mpr (by
    rcases List.mem_cons.mp (pm.mem_iff.mp z) with e | z
    · exact .inr e
    · exact .inl (g.sub p z)), fun p z => by
    rw [(pm.map (·.2)).mem_iff, List.map_cons]
    rcases (take_one h).mp z with z | z
    · exact List.mem_cons_of_mem _ (g.all p z)
    · rw [z]; exact List.mem_cons_self⟩
theorem MS.keep {h h' : Heap} (M : MS P w h a L es ep t) (ha : ∀ o, h.get? a = some o → h'.get? a = some o) (ht : ∀ p, p ∈ L → KTup P w h' p.2 p.1) : MS P w h' a L es ep t := by
  obtain ⟨g, hg, r⟩ := M.obj
  exact ⟨⟨g, ha g hg, r⟩, M.row, M.tab, M.nd, ht, M.ld, M.room⟩
theorem MS.fresh {h : Heap} {a : Addr} (hg : h.get? a = some { cls := .type "set", dict := none, data := .set #[] 0 (.fresh 0 0 (!w.params.followText "set-order")) }) : MS P w h a [] #[] 0 (.fresh 0 0 (!w.params.followText "set-order")) where
  obj := ⟨_, hg, ⟨rfl, rfl, rfl⟩, rfl⟩
  row := rfl
  tab := ⟨List.Pairwise.nil, rfl, rfl, .inl rfl, fun x z => (by cases z), fun i h j z => (by simp at z)⟩
  nd := List.nodup_nil
  tup := fun p z => by cases z
  ld := by
    show _ ∨ (!w.params.followText "set-order") = true
    cases w.params.followText "set-order" <;> simp
  room := by
    show 0 * 5 < 7 * 3
    decide
/-- few unlike keys -/
def Few (ks : LK) : Prop := ∃ D : List (List Key), D.length ≤ 76 ∧ ∀ p, p ∈ ks → p.2 ∈ D
theorem sub_len {α : Type} [DecidableEq α] : ∀ {l D : List α}, l.Nodup → (∀ x, x ∈ l → x ∈ D) → l.length ≤ D.length
  | [], _, _, _ => Nat.zero_le _
  | x :: l, D, nd, h => by
    rw [List.nodup_cons] at nd
    have hx := h x List.mem_cons_self
    have := sub_len (D := D.erase x) nd.2 fun y hy => (List.mem_erase_of_ne (fun e => nd.1 (by rw [← e]; exact hy))).mpr (h y (List.mem_cons_of_mem _ hy))
    rw [List.length_erase_of_mem hx] at this
    have hp := List.length_pos_of_mem hx
    rw [List.length_cons]
    omega
theorem gather {I : Addr} {fp wr : List Addr} {G : Array GenState → Array GenState → Prop} {n : Nat} {Pv : Nat → Value → Prop} {St : Nat → Shared → Prop} {R : Result → Shared → Prop}
    (W : WalksS P w A.in1 I fp wr G n Pv St) (S : Addr) (nf : S ∉ fp) (ks : LK) (en : n = ks.length) (few : Few ks) (val : ∀ i v, Pv i v → ∃ p, ks[i]? = some p ∧ v = .ref p.1)
    (h0 : Heap) (k0 : ∀ p, p ∈ ks → KTup P w h0 p.2 p.1) (S0 : h0.get? S = none) (w0 : ∀ b, b ∈ wr → h0.get? b = none) (hu : A.in1.units < cLine) :
    ∀ (d i : Nat) (s : Shared), n - i = d → i ≤ n → St i s → (∀ b o, h0.get? b = some o → s.heap.get? b = some o) → (∃ L es ep t, MS P w s.heap S L es ep t ∧ Had ks i L) →
      (∀ s' L es ep t, Moved (S :: wr) G s s' → MS P w s'.heap S L es ep t → Had ks n L → (∀ b o, h0.get? b = some o → s'.heap.get? b = some o) → R (.ok (.ret .none)) s') →
      codeAny (model P w) A (.builtin "set.update.loop" ⟨[.ref S, .ref I], []⟩) R s := by
  have nw : S ∉ wr := fun z => nf (W.sub _ z)
  have inc : ∀ b, b ∈ wr → b ∈ S :: wr := fun b z => List.mem_cons_of_mem _ z
  have stays : ∀ {s s' : Shared}, Moved wr G s s' → (∀ b o, h0.get? b = some o → s.heap.get? b = some o) → ∀ b o, h0.get? b = some o → s'.heap.get? b = some o := fun mv kp b o e =>
    mv.heap b o (fun z => by rw [w0 b z] at e; cases e) (kp b o e)
  have inks : ∀ {i : Nat} {L : LK}, Had ks i L → ∀ p, p ∈ L → p ∈ ks := fun g p z => List.mem_of_mem_take (g.sub p z)
  intro d
  induction d with
  | zero =>
    intro i s hd hi st kp ⟨L, es, ep, t, M, g⟩ hR
    have ei : i = n := by omega
    subst ei
    refine codeAny_builtin F.entry_set_update_loop ?_
    rw [Around.under_plainId F.plain_set_update_loop _]
    show wpAny _ A.in1 (pyNext (.ref I) >>= _) _ _ s
    refine wpAny_bind (W.done s _ _ st fun s' mv => ?_)
    show wpAny _ A.in1 (ret Value.none) _ _ s'
    have kp' := stays mv kp
    exact wpAny_pure (hR s' L es ep t (mv.mono inc) (M.keep (fun o e => mv.heap S o nw e) fun p z => (k0 p (inks g p z)).keep kp') g kp')
  | succ d ih =>
    intro i s hd hi st kp ⟨L, es, ep, t, M, g⟩ hR
    have li : i < n := by omega
    refine codeAny_builtin F.entry_set_update_loop ?_
    rw [Around.under_plainId F.plain_set_update_loop _]
    show wpAny _ A.in1 (pyNext (.ref I) >>= _) _ _ s
    refine wpAny_bind (W.item i s _ _ li st fun v s' pv st' mv => ?_)
    obtain ⟨p, hp, rfl⟩ := val i v pv
    have kp' := stays mv kp
    have M' : MS P w s'.heap S L es ep t := M.keep (fun o e => mv.heap S o nw e) fun q z => (k0 q (inks g q z)).keep kp'
    have hx : KTup P w s'.heap p.2 p.1 := (k0 p (List.mem_of_getElem? hp)).keep kp'
    show wpAny _ A.in1 (holding [Value.ref p.1] (setAdd S (.ref p.1)) >>= _) _ _ s'
    refine wpAny_bind (wpAny_holding ?_)
    unfold setAdd
    refine wpAny_holding (wpAny_bind (wpAny_pyHash_tuple hu hx ?_))
    obtain ⟨D, dl, dm⟩ := few
    · refine added (s := { s' with toks := s'.toks + (p.2.length + 1) }) M' hx hu (fun nm => ?_) fun b h' L' es' ep' t' sb M2 c1 c2 => ?_
      · have z := sub_len (l := p.2 :: L.map (·.2)) (D := D) (List.nodup_cons.mpr ⟨nm, M.nd⟩) fun k hk => by
          rcases List.mem_cons.mp hk with e | hk
          · rw [e]; exact dm p (List.mem_of_getElem? hp)
          · obtain ⟨q, hq, e⟩ := List.mem_map.mp hk
            rw [← e]; exact dm q (inks g q hq)
        rw [List.length_cons, List.length_map] at z
        omega
      have g' : Had ks (i + 1) L' := by
        by_cases c : p.2 ∈ L.map (·.2)
        · rw [c1 c]; exact g.old hp c
        · exact g.new hp (c2 c)
      have kp2 : ∀ b o, h0.get? b = some o → h'.get? b = some o := fun b o e => (sb.2 b (fun z => by rw [z, S0] at e; cases e)).trans (kp' b o e)
      refine wpAny_pure ⟨plainId_quiet F.plain_set_update_loop _, ih (i + 1) _ (by omega) li (W.frame _ s' _ _ st' (Nat.le_add_right _ _) fun b hb o e => ?_) kp2 ⟨L', es', ep', t', M2, g'⟩ fun s'' L2 es2 ep2 t2 mv2 M3 g2 kp3 => ?_⟩
      · rw [sb.2 b (fun z : b = S => nf (by rw [← z]; exact hb))]; exact e
      · refine hR s'' L2 es2 ep2 t2 (Moved.trans W.gtrans ((mv.mono inc).then_heap (Nat.le_add_right _ _) fun b o hb e => ?_) mv2) M3 g2 kp3
        rw [sb.2 b (fun z : b = S => hb (by rw [z]; exact List.mem_cons_self))]; exact e
/-- an empty set -/
abbrev empt (w : World) : Obj := { cls := .type "set", dict := none, data := .set #[] 0 (.fresh 0 0 (!w.params.followText "set-order")) }
set_option maxRecDepth 100000 in
set_option maxHeartbeats 3200000 in
theorem made {l : Addr} {xs : Array Value} (ks : LK) {Q : Value → Shared → Prop} (hh : A.handled = none) (hl : s.heap.IsList l xs) (ex : xs.toList = ks.map fun p => Value.ref p.1) (hk : ∀ p, p ∈ ks → KTup P w s.heap p.2 p.1) (few : Few ks) (hu : A.units + 3 < cLine)
    (q : ∀ (h' : Heap) (tk : Nat) L es ep t, MS P w h' s.heap.objs.size L es ep t → Had ks ks.length L → (∀ b o, s.heap.get? b = some o → h'.get? b = some o) → Q (.ref s.heap.objs.size) { s with heap := h', toks := tk }) :
    wpAny (model P w) A (call (.type "set") [.ref l]) Q E s := by
  have xsz : xs.size = ks.length := by rw [← Array.length_toList, ex, List.length_map]
  obtain ⟨c, tl, m1⟩ := F.called_set.mro
  have m2 := F.called_set.made
  have m3 := F.called_set.sub
  have m4 := F.called_set.notType
  have m5 := F.called_set.canCreate
  have m6 := F.typeCall_set_1 (.ref l)
  refine wpAny_call (codeAny_of_tree ?_)
  show wpAny _ _ (callAny (.type "set") _) _ _ _
  refine wpAny_pure ⟨Code.quiet_builtin _ (by decide +kernel), codeAny_builtin F.entry_type_call ?_⟩
  rw [Around.under_plain (weight_type_call_type "set" [.ref l] []) rfl]
  repeat (any_goals (first | assumption | wp_step))
  refine codeAny_mono (code_set_led1 (.ref l) (E := E) (Q₁ := fun u s₁ => u = .ref s.heap.objs.size ∧ s₁ = { s with heap := s.heap.push (empt w) }) ⟨rfl, rfl⟩) fun r s₁ hr => ?_
  match r, hr with
  | .ok (.ret u), ⟨eu, e1⟩ =>
    subst eu
    subst e1
    have gS : (s.heap.push (empt w)).get? s.heap.objs.size = some (empt w) := Heap.get?_push_size _ rfl
    have tS : Shared.TypeIs { s with heap := s.heap.push (empt w) } (.ref s.heap.objs.size) "set" := ⟨_, gS, rfl⟩
    have n1 := F.called_set.init.lookup
    have n2 := F.called_set.init.bind (.ref s.heap.objs.size)
    repeat (any_goals (first | assumption | wp_step))
    refine codeAny_mono (codeAny_call_builtin (R := wants (fun r s₂ => r = .none ∧ ∃ h' tk L es ep t, s₂ = { s with heap := h', toks := tk } ∧ MS P w h' s.heap.objs.size L es ep t ∧ Had ks ks.length L ∧ (∀ b o, s.heap.get? b = some o → h'.get? b = some o)) E)
      F.called_set.init.plain F.entry_set_init (check_set_init_1 tS ?_)) fun r₂ s₂ hr₂ => ?_
    · obtain ⟨ol, gl, cl, nl, dl⟩ := hl
      obtain ⟨ocls, odict, odata, oslots⟩ := ol
      dsimp only at cl dl
      subst cl
      subst dl
      have gl1 : (s.heap.push (empt w)).get? l = some { cls := .type "list", dict := odict, data := .seq xs nl, slots := oslots } := Heap.get?_push_of_some _ gl
      have w1 := F.sub_list_set
      have w2 := F.sub_list_frozenset
      have w3 : (Value.type "list" == Value.type "dict") = false := by decide
      have il : (s.heap.push (empt w)).IsList l xs := ⟨_, gl1, rfl, nl, rfl⟩
      unfold Builtin.«set.__init__» noKeywords Builtin.Frozenset.updateFrom
      generalize hPI : pyIter = PI
      wp_walk
      subst hPI
      refine wpAny_pyIter_list il ?_
      refine wpAny_bind (wpAny_runValue ?_)
      have lS : l < s.heap.objs.size := Heap.lt_size gl
      have zS : (s.heap.push (empt w)).objs.size = s.heap.objs.size + 1 := Heap.size_push ..
      have neI : l ≠ (s.heap.push (empt w)).objs.size := by rw [zS]; exact Nat.ne_of_lt (Nat.lt_succ_of_lt lS)
      have nfS : s.heap.objs.size ∉ [(s.heap.push (empt w)).objs.size, l] := by
        rw [zS]
        simp only [List.mem_cons, List.not_mem_nil, or_false, not_or]
        exact ⟨Nat.ne_of_lt (Nat.lt_succ_self _), Nat.ne_of_gt lS⟩
      have val : ∀ (i : Nat) (v : Value), xs[i]? = some v → ∃ p, ks[i]? = some p ∧ v = .ref p.1 := fun i v hv => by
        rw [← Array.getElem?_toList, ex, List.getElem?_map] at hv
        cases hq : ks[i]? with
        | none => rw [hq] at hv; cases hv
        | some p => rw [hq] at hv; exact ⟨p, rfl, (Option.some.inj hv).symm⟩
      have above : ∀ b, s.heap.objs.size ≤ b → s.heap.get? b = none := fun b hb => by
        cases z : s.heap.get? b with
        | none => rfl
        | some o => exact absurd (Nat.lt_of_lt_of_le (Heap.lt_size z) hb) (Nat.lt_irrefl _)
      have hh3 : A.in1.in1.in1.handled = none := by simp [hh]
      refine gather ((Walks.list hh3 _ l neI xs).toS) s.heap.objs.size nfS ks xsz few val s.heap hk (above _ (Nat.le_refl _)) (fun b hb => above b (by rw [List.mem_singleton.mp hb, zS]; exact Nat.le_succ _)) hu (xs.size - 0) 0 _ (by omega) (Nat.zero_le _)
        ⟨⟨_, Heap.get?_push_size _ rfl, rfl, rfl⟩, (il.push _)⟩ (fun b o e => Heap.get?_push_of_some _ (Heap.get?_push_of_some _ e)) ?start ?done
      case start => exact ⟨[], #[], 0, _, MS.fresh (Heap.get?_push_of_some _ gS), ⟨fun p z => (by cases z), fun p z => (by simp at z)⟩⟩
      case done =>
        intro s' L es ep t mv M g kp
        obtain ⟨h', g2, d', tk', os'⟩ := s'
        have e1 : g2 = s.gens := mv.gens
        have e2 : d' = s.drawn := mv.drawn
        have e3 : os' = s.os := mv.os
        subst e1
        subst e2
        subst e3
        rw [xsz] at g
        exact wpAny_pure (wpAny_pure ⟨rfl, h', tk', L, es, ep, t, rfl, M, g, kp⟩)
    · match r₂, hr₂ with
      | .ok (.ret r), ⟨e1, h', tk, L, es, ep, t, e2, M, g, kp⟩ =>
        subst e1
        subst e2
        repeat (any_goals (first | assumption | wp_step))
        exact q _ _ _ _ _ _ M g kp
      | .error e, hr₂ => exact hr₂
  | .error e, hr => exact hr

/-! ### sorted(set) -/
theorem mix_items : ∀ {k : List Key} {vs : List Value}, ItemsAre (mixKind P w) k vs → Rels k vs
  | [], _, .nil => trivial
  | k :: ks, _, .cons e t => ⟨by
      rcases keyIs_shape e with ⟨i, q, rfl, rfl⟩ | ⟨x, q, rfl, rfl⟩
      · exact ⟨q, rfl⟩
      · exact ⟨q, rfl⟩, mix_items t⟩
theorem KTup.mix {h : Heap} {k : List Key} {b : Addr} (x : KTup P w h k b) : IsMix h (.ref b) k := by
  obtain ⟨o, its, n, ho, hc, hd, hi⟩ := x
  exact ⟨b, o, its, n, rfl, ho, hc, hd, mix_items hi⟩
/-- the key of an address, by the list -/
def keyAt (L : LK) (v : Value) : List Key := ((L.find? fun p => decide (Value.ref p.1 = v)).map (·.2)).getD []
theorem keyAt_of {h : Heap} {L : LK} (t : ∀ p, p ∈ L → KTup P w h p.2 p.1) {p : Addr × List Key} (m : p ∈ L) : keyAt L (.ref p.1) = p.2 := by
  unfold keyAt
  cases e : L.find? fun q => decide (Value.ref q.1 = Value.ref p.1) with
  | none =>
    have := List.find?_eq_none.mp e p m
    simp at this
  | some q =>
    have h1 := List.mem_of_find?_eq_some e
    have h2 := List.find?_some e
    have h2 : Value.ref q.1 = Value.ref p.1 := of_decide_eq_true h2
    injection h2 with h2
    have a1 := t q h1
    rw [h2] at a1
    show q.2 = p.2
    exact a1.inj (t p m)
theorem sorted_ms {Q : Value → Shared → Prop} (M : MS P w s.heap a L es ep t) (hh : A.handled = none) (hs : ∀ p, p ∈ L → ∃ x r, p.2 = Sum.inr x :: r) (hc : ∀ p, p ∈ L → ∀ q, q ∈ L → tkCan p.2 q.2 = true)
    (q : ∀ s' p (out : Array Value) (c : Nat) (L' : LK), (∀ b o, s.heap.get? b = some o → s'.heap.get? b = some o) → s'.gens = s.gens → s'.os = s.os → s.heap.objs.size ≤ p →
      s'.heap.get? p = some (seqObj "list" out c) → out.toList = L'.map (fun z => Value.ref z.1) → L'.Perm L → L'.Pairwise (fun x y => tkLt y.2 x.2 = false) → Q (.ref p) s') :
    wpAny (model P w) A (call (.builtin "sorted") [.ref a]) Q E s := by
  obtain ⟨g, hg, ex, dg⟩ := M.obj
  have zl := recs_size M.row
  have rm := M.room
  have few : L.length < 80 := by rcases M.tab.mok with e | e | e <;> omega
  refine Calls.call_function_entry kind_sorted plain_sorted entry_sorted (args_sorted1 _) ?_
  unfold Builtin.«sorted»
  refine wpAny_bind (m := checkCount "sorted" 1 1 _) (wpAny_pure ?_)
  refine wpAny_bind (collect_set (A := A.in1) hh ⟨g, hg, ex.1, dg⟩ M.fits (by unfold scanBound; omega) M.tab.ris M.ld fun s1 vs kp hz eg eo pm => ?_)
  have ev : es.toList.map (·.2) = L.map fun z => Value.ref z.1 := by
    rw [M.row]
    unfold recs
    rw [List.map_map]
    rfl
  rw [ev] at pm
  have lv : vs.length = L.length := by rw [pm.length_eq, List.length_map]
  have zv : vs.length ≤ sizeLine := by rw [lv, sizeLine_eq]; omega
  refine wpAny_bind (wpAny_newList ?_ zv)
  have gl : (s1.heap.push (seqObj "list" vs.toArray 0)).get? s1.heap.objs.size = some (seqObj "list" vs.toArray 0) := Heap.get?_push_size _ rfl
  have of : ∀ v, v ∈ vs → ∃ p, p ∈ L ∧ v = Value.ref p.1 := fun v hv => by
    obtain ⟨p, hp, e⟩ := List.mem_map.mp (pm.mem_iff.mp hv)
    exact ⟨p, hp, e.symm⟩
  have mx : ∀ v, v ∈ vs → IsMix (s1.heap.push (seqObj "list" vs.toArray 0)) v (keyAt L v) ∧ ∃ p, p ∈ L ∧ keyAt L v = p.2 := fun v hv => by
    obtain ⟨p, hp, rfl⟩ := of v hv
    rw [keyAt_of M.tup hp]
    exact ⟨((M.tup p hp).keep fun b o e => Heap.get?_push_of_some _ (kp b o e)).mix, p, hp, rfl⟩
  refine wpAny_bind (wpAny_holding (wpAny_call_entry slot_list_sort ⟨_, gl, rfl⟩ entry_list_sort (list_sort_ord (s := { s1 with heap := s1.heap.push (seqObj "list" vs.toArray 0) }) (swo_tk (keyAt L)) gl zv
    (fun h2 => mix_sortableO (by omega) (fun v hv => ⟨(mx v hv).1, ?_⟩) (fun v hv u hu => ?_) fun o e => ?_) fun out hs' hb => ⟨_, rfl, ?_⟩) (args_list_sort _)))
  · obtain ⟨_, p, hp, e⟩ := mx v hv
    rw [e]
    exact hs p hp
  · obtain ⟨_, p, hp, e⟩ := mx v hv
    obtain ⟨_, r, hr, e'⟩ := mx u hu
    rw [e, e']
    exact hc p hp r hr
  · have e' := gl.symm.trans e
    have e2 := Option.some.inj e'
    rw [← e2]
    intro c
    have : ("list" : String) = "tuple" := by injection c
    exact absurd this (by decide)
  obtain ⟨c, he⟩ := sortedHeap_at (vs := vs) (out := out.toArray) gl
  obtain ⟨L', rfl, hL⟩ : ∃ L' : LK, out = L'.map (fun z => Value.ref z.1) ∧ ∀ p, p ∈ L' → p ∈ L := by
    have hin : ∀ v, v ∈ out → ∃ p, p ∈ L ∧ v = Value.ref p.1 := fun v hv => of v (hb.perm.mem_iff.mp hv)
    clear hb hs' he
    induction out with
    | nil => exact ⟨[], rfl, fun _ h => by simp at h⟩
    | cons v out ih =>
      obtain ⟨p, hp, e⟩ := hin v List.mem_cons_self
      obtain ⟨L1, e2, h2⟩ := ih fun u hu => hin u (List.mem_cons_of_mem _ hu)
      refine ⟨p :: L1, by rw [List.map_cons, e, e2], fun c hc => ?_⟩
      rcases List.mem_cons.mp hc with h | h
      · rw [h]; exact hp
      · exact h2 c h
  have perm1 : (L'.map fun z => Value.ref z.1).Perm (L.map fun z => Value.ref z.1) := hb.perm.trans pm
  have pL : L'.Perm L := by
    have k1 : ∀ l : LK, (∀ p, p ∈ l → p ∈ L) → (l.map fun z => Value.ref z.1).map (fun v => (v, keyAt L v)) = l.map fun p => (Value.ref p.1, p.2) := fun l hl => by
      rw [List.map_map]
      exact List.map_congr_left fun p hp => by
        show (Value.ref p.1, keyAt L (.ref p.1)) = _
        rw [keyAt_of M.tup (hl p hp)]
    have z := perm1.map fun v => (v, keyAt L v)
    rw [k1 L' hL, k1 L fun _ h => h] at z
    have z2 := z.map fun x : Value × List Key => (match x.1 with | .ref b => (b, x.2) | _ => (0, x.2))
    rw [List.map_map, List.map_map] at z2
    have idm : ∀ l : LK, l.map ((fun x : Value × List Key => (match x.1 with | .ref b => (b, x.2) | _ => ((0 : Addr), x.2))) ∘ fun p => (Value.ref p.1, p.2)) = l := fun l => by
      exact (List.map_congr_left (g := id) fun p _ => rfl).trans (List.map_id _)
    have e1 := idm L'
    have e2 := idm L
    exact (e1 ▸ e2 ▸ z2 : _)
  have pw : L'.Pairwise fun x y => tkLt y.2 x.2 = false := by
    have h1 : (L'.map fun z => Value.ref z.1).Pairwise fun v u => tkLt (keyAt L u) (keyAt L v) = false := hs'
    rw [List.pairwise_map] at h1
    refine List.Pairwise.imp_of_mem (fun {x y} hx hy h => ?_) h1
    rw [keyAt_of M.tup (hL x hx), keyAt_of M.tup (hL y hy)] at h
    exact h
  refine wpAny_pure ⟨_, rfl, q _ s1.heap.objs.size _ c L' (fun b u e => ?_) eg eo hz he rfl pL pw⟩
  have lt := Heap.lt_size (kp b u e)
  show (sortedHeap (s1.heap.push (seqObj "list" vs.toArray 0)) s1.heap.objs.size vs _).get? b = some u
  rw [sortedHeap_old (Nat.ne_of_lt lt) (by rw [size_push']; exact Nat.lt_succ_of_lt lt)]
  exact Heap.get?_push_of_some _ (kp b u e)
end
/-! ### as values of the hand layer -/
structure SetM (P : Program) (w : World) (h : Heap) (a : Addr) (L : LK) : Prop where
  ex : ∃ (es : Array (Int × Value)) (ep : Nat) (t : SetTable), (∃ g, h.get? a = some g ∧ g.ExactSet ∧ g.data = .set es ep t) ∧ es.toList = recs P w L ∧ TabOk t (L.map fun p => hK P w p.2) ∧ (L.map (·.2)).Nodup ∧
    (w.params.followText "set-order" = true ∨ t.led = true) ∧ L.length * 5 < t.mask * 3
def setO (P : Program) (w : World) (a : Addr) (L : LK) : HO := .ext fun h => SetM P w h a L
theorem setO_ok {P : Program} {w : World} {H : Hp} {h : Heap} {a : Addr} {L : LK} (R : SetM P w h a L) : ObjOk P w H h a (setO P w a L) := by
  have ⟨es, ep, t, ⟨g, hg, r⟩, q⟩ := R.ex
  refine ⟨R, ⟨g, hg⟩, fun h1 h2 p k => ?_⟩
  have ⟨es', ep', t', ⟨o', ho', r'⟩, q'⟩ := SetM.ex p
  exact ⟨es', ep', t', ⟨o', k o' ho', r'⟩, q'⟩
theorem items_mix {P : Program} {w : World} : ∀ {k : List Key} {us : List Value}, Vals (k.map kV) us → ItemsAre (mixKind P w) k us
  | [], _, .nil => .nil
  | .inl i :: k, _, .cons r t => by
    obtain ⟨q, rfl⟩ := r
    exact .cons (keyIs_int i q) (items_mix t)
  | .inr x :: k, _, .cons r t => by
    obtain ⟨q, rfl⟩ := r
    exact .cons (keyIs_str x q) (items_mix t)
theorem ref_vals : ∀ {ks : LK} {us : List Value}, Vals (ks.map fun p => V.ref p.1) us → us = ks.map fun p => Value.ref p.1
  | [], _, .nil => rfl
  | p :: ks, _, .cons r t => by
    cases r
    rw [ref_vals t]
    rfl
theorem val_refs : ∀ (ks : LK), Vals (ks.map fun p => V.ref p.1) (ks.map fun p => Value.ref p.1)
  | [] => .nil
  | p :: ks => .cons rfl (val_refs ks)
section
variable {X : Cx}
theorem inv_tup {pins : List (Addr × Obj)} {σ : L2.St} {H : Hp} {s : Shared} {b : Addr} {k : List Key} (I : L2.Inv X pins σ H s) (h : SqT X.K H b (k.map kV)) : KTup X.prog X.w s.heap k b := by
  obtain ⟨its, r, ⟨o, ho, hc, n, hd⟩, _⟩ := I.tuple h
  exact ⟨o, its.toArray, n, ho, hc, hd, by simpa using items_mix r⟩
def rSet (K : PySem.W.Frag) (P : Program) (w : World) : List V → Hp → VK → Prop := fun xs H Q => ∃ (l : Addr) (ks : LK), xs = [V.ref l] ∧ SqL K H l (ks.map fun p => V.ref p.1) ∧ (∀ p, p ∈ ks → SqT K H p.1 (p.2.map kV)) ∧ Few ks ∧
  ∀ a L, H a = none → (∀ p, p ∈ L → p ∈ ks) → (∀ p, p ∈ ks → p.2 ∈ L.map (·.2)) → Q (.ref a) (upd H a (setO P w a L))
theorem cr_set (hc : X.calm = true) (hu : X.A.units + 64 < cLine) : CallR X (.type "set") (rSet X.K X.prog X.w) := by
  intro pins s σ H xs us Q I r h
  obtain ⟨l, ks, rfl, hl, hk, few, q⟩ := h
  rw [Vals.ref1 r]
  obtain ⟨its, rv, pl, hz⟩ := I.list hl
  have hn : H s.heap.objs.size = none := I.hok.fresh (Nat.le_refl _)
  refine made (P := X.prog) (w := X.w) ks (I.ok.hd hc) pl.isList (by simpa using ref_vals rv) (fun p hp => inv_tup I (hk p hp)) few (by omega) fun h' tk L es ep t M g kp => ?_
  refine ⟨.ref s.heap.objs.size, upd H s.heap.objs.size (setO X.prog X.w s.heap.objs.size L), I.laid (t' := tk) kp (Nat.le_refl _) (setO_ok ⟨es, ep, t, M.obj, M.row, M.tab, M.nd, M.ld, M.room⟩), rfl, q _ L hn (fun p hp => ?_) fun p hp => ?_⟩
  · exact List.mem_of_mem_take (g.sub p hp)
  · exact g.all p (by rw [List.take_length]; exact hp)
def rSortSet (K : PySem.W.Frag) (P : Program) (w : World) : List V → Hp → VK → Prop := fun vs H Q => ∃ (a : Addr) (L : LK), vs = [V.ref a] ∧ H a = some (setO P w a L) ∧ (∀ p, p ∈ L → SqT K H p.1 (p.2.map kV)) ∧ (∀ p, p ∈ L → ∃ x r, p.2 = Sum.inr x :: r) ∧
  (∀ p, p ∈ L → ∀ q, q ∈ L → tkCan p.2 q.2 = true) ∧ ∀ (L' : LK) (p : Addr), L'.Perm L → (L'.map (·.2)).Nodup → L'.Pairwise (fun x y => tkLt y.2 x.2 = false) → H p = none → Q (.ref p) (upd H p (.lst (L'.map fun z => V.ref z.1)))
theorem cr_sortSet (hc : X.calm = true) : CallR X (.builtin "sorted") (rSortSet X.K X.prog X.w) := by
  intro pins s σ H vs us Q I r h
  obtain ⟨a, L, rfl, ha, hk, hs, hcn, q⟩ := h
  have R0 : SetM X.prog X.w s.heap a L := (I.hok a _ ha).1
  obtain ⟨es, ep, t, e1, e2, e3, e4, e5, e6⟩ := R0.ex
  have M : MS X.prog X.w s.heap a L es ep t := ⟨e1, e2, e3, e4, fun p hp => inv_tup I (hk p hp), e5, e6⟩
  rw [Vals.ref1 r]
  refine sorted_ms M (I.ok.hd hc) hs hcn fun s' p out c L' kp hg ho hp he eo pm pw => ?_
  have few : L'.length < 80 := by
    rw [pm.length_eq]
    rcases e3.mok with e | e | e <;> omega
  have hz : (L'.map fun z => V.ref z.1).length ≤ sizeLine := by rw [List.length_map, sizeLine_eq]; omega
  have hn : H p = none := I.hok.fresh hp
  have hv : Vals (L'.map fun z => V.ref z.1) out.toList := by rw [eo]; exact val_refs L'
  have J : Inv X pins σ (upd H p (.lst (L'.map fun z => V.ref z.1))) { s with heap := s'.heap, gens := s'.gens, drawn := s'.drawn, toks := s'.toks } :=
    I.call (ch := []) (Un.laid kp hp hn) (I.hok.laid kp hp ⟨hz, out.toList, c, hv, he⟩) (by rw [hg]; exact I.bare) (fun _ z => nomatch z)
  have es' : s' = { s with heap := s'.heap, gens := s'.gens, drawn := s'.drawn, toks := s'.toks } := by
    cases s'
    cases s
    cases ho
    rfl
  rw [es']
  exact ⟨.ref p, _, J, rfl, q L' p pm ((pm.map (·.2)).nodup_iff.mpr e4) pw hn⟩
end
end Bs5
set_option linter.all false
set_option maxRecDepth 20000
set_option autoImplicit false
/-! sorted(d), sorted(set(xs)), keys and members tuples that hold texts and ints. -/
namespace EV
open PySem PySem.Spec L2
section
variable {T : Tb} {F : Fm} {FN : List (Str × List Str)} {N : List Str} {sc : Scope} {X : Cx} {Wx : WX} {O0 : AP1}
theorem repL_kD {H : Hp} {O : AP1} : ∀ (k : List Key), RepL F.toFk H O (k.map kD) (k.map kV)
  | [] => .nil
  | a :: k => .cons (rep_kD a) (repL_kD k)
theorem tup_no {H : Hp} {O : AP1} (k : Hk F H O) {b : Addr} {vs : List V} (h : H b = some (.tup vs)) : ¬ O b := fun o => by
  obtain ⟨u, e, t⟩ := k.tr b o
  rw [h] at e
  cases e
  cases t
theorem sorted_rep {H : Hp} {O : AP1} (k : Hk F H O) : ∀ {cs : List Addr}, (∀ b, b ∈ cs → ∃ ks : List Key, H b = some (.tup (ks.map kV))) → RepL F.toFk H O ((cs.map fun b => Bs4.kOf H (.ref b)).map tkD) (cs.map V.ref)
  | [], _ => .nil
  | b :: cs, h => by
    refine .cons ?_ (sorted_rep k fun c hc => h c (List.mem_cons_of_mem _ hc))
    obtain ⟨ks, e⟩ := h b List.mem_cons_self
    show Rep F.toFk H O (tkD (Bs4.kOf H (.ref b))) (.ref b)
    rw [Bs4.kOf_at e]
    unfold tkD Rep
    exact ⟨b, _, rfl, ⟨e, tup_no k e⟩, repL_kD ks⟩
theorem ok_sortKeys : BltOk F .sortKeys (fun xs H Q => ∃ d kvs, xs = [V.ref d] ∧ Rd H d (.dT kvs) ∧ (∀ ks ∈ kvs.map (·.1), ∃ x r, ks = Sum.inr x :: r) ∧
    (∀ a ∈ kvs.map (·.1), ∀ b ∈ kvs.map (·.1), tkCan a b = true) ∧
    ∀ p (cs : List Addr), H p = none → (∀ b ∈ cs, ∃ ks, ks ∈ kvs.map (·.1) ∧ H b = some (.tup (ks.map kV))) → (cs.map fun b => Bs4.kOf H (.ref b)).Perm (kvs.map (·.1)) →
      (cs.map fun b => Bs4.kOf H (.ref b)).Pairwise (fun a b => tkLt b a = false) → Q (.ref p) (upd H p (.lst (cs.map V.ref)))) := by
  refine ok1 (fun H O d v P Q k a w q => ?_) (fun ds P w => ?_)
  rotate_left
  · match ds, w with
    | [_], _ => rfl
    | [], w => unfold bltW at w; simp at w
    | _ :: _ :: _, w => unfold bltW at w; simp at w
  · cases d with
    | dT ks ds =>
      obtain ⟨⟨h1, h2⟩, h3⟩ := w
      obtain ⟨b, us, rfl, hb, hl, hr⟩ := a.dT
      have e : (ks.zip us).map (·.1) = ks := by rw [List.map_fst_zip]; omega
      refine ⟨b, _, rfl, .inl hb, by rw [e]; exact h1, by rw [e]; exact h2, fun p cs hp hc pm pw => ?_⟩
      rw [e] at pm
      exact q.lst k hp (h3 _ pm pw) (sorted_rep k fun b hb => (hc b hb).imp fun _ z => z.2)
    | _ => exact w.elim
/-! ### sorted(set(xs)) -/
theorem tk_sq {H : Hp} {O : AP1} {d : D} {k : List Key} {b : Addr} (h : tkn d = some k) (r : Rep F.toFk H O d (.ref b)) : SqT F.K H b (k.map kV) := by
  obtain ⟨b', e, t⟩ := rd_tkey h (.inl r)
  cases e
  exact t.sq
theorem tk_reps {H : Hp} {O : AP1} : ∀ {xs : List D} {ks : List (List Key)} {vs : List V}, xs.map tkn = ks.map some → RepL F.toFk H O xs vs →
    ∃ lk : Bs5.LK, vs = lk.map (fun p => V.ref p.1) ∧ lk.map (·.2) = ks ∧ ∀ p, p ∈ lk → ∃ d, d ∈ xs ∧ tkn d = some p.2 ∧ Rep F.toFk H O d (.ref p.1)
  | [], [], vs, _, r => by unfold RepL at r; subst r; exact ⟨[], rfl, rfl, fun _ h => by simp at h⟩
  | [], _ :: _, _, e, _ => by cases e
  | _ :: _, [], _, e, _ => by cases e
  | d :: xs, k :: ks, vs, e, r => by
    unfold RepL at r
    obtain ⟨v, q, rfl, r1, r2⟩ := r
    rw [List.map_cons, List.map_cons] at e
    injection e with e1 e2
    obtain ⟨lk, h1, h2, h3⟩ := tk_reps e2 r2
    obtain ⟨b, rfl, t⟩ := rd_tkey e1 (.inl r1)
    refine ⟨(b, k) :: lk, by rw [h1]; rfl, by rw [List.map_cons, h2], fun p hp => ?_⟩
    rcases List.mem_cons.mp hp with z | z
    · subst z
      exact ⟨d, List.mem_cons_self, e1, r1⟩
    · obtain ⟨d', m, z⟩ := h3 p z
      exact ⟨d', List.mem_cons_of_mem _ m, z⟩
theorem tk_back {H : Hp} {O : AP1} {xs : List D} : ∀ {L : Bs5.LK}, (∀ p, p ∈ L → ∃ d, d ∈ xs ∧ tkn d = some p.2 ∧ Rep F.toFk H O d (.ref p.1)) → ∃ ds : List D, ds.map tkn = (L.map (·.2)).map some ∧ (∀ d, d ∈ ds → d ∈ xs) ∧ RepL F.toFk H O ds (L.map fun p => V.ref p.1)
  | [], _ => ⟨[], rfl, fun _ h => by simp at h, .nil⟩
  | p :: L, h => by
    obtain ⟨d, d1, d2, d3⟩ := h p List.mem_cons_self
    obtain ⟨ds, h1, h2, h3⟩ := tk_back fun q hq => h q (List.mem_cons_of_mem _ hq)
    refine ⟨d :: ds, by rw [List.map_cons, h1, d2]; rfl, fun e he => ?_, .cons d3 h3⟩
    rcases List.mem_cons.mp he with z | z
    · rw [z]; exact d1
    · exact h2 e z
theorem e_sortSet {e : Expr} {w : WE} {p p1 q q1 : Pos} (C : Cxt T F FN N sc X Wx) (h : PE X e (tP T F Wx w)) (hg : Gl X "sorted") (hg1 : Gl X "set") (hs : notStar e = true) :
    PE X (.Call (.Name "sorted" p) [.Call (.Name "set" p1) [e] [] q] [] q1) (tE T F Wx (bltE .sortSet [w])) := by
  have s1 := star_cons (es := []) (env := X.env) hs
  have inner := pe_callTy (pos := q) (p := p1) (Bs5.cr_set C.calm C.u) hg1 (C.nob (by decide +kernel)) (by decide +kernel) (pa_cons h pa_nil s1) (by decide) (by decide) s1 rfl
  refine PE.imp (pe_callB (pos := q1) (p := p) (Bs5.cr_sortSet C.calm) hg (C.nob (by decide +kernel)) (by decide +kernel) (pa_cons inner pa_nil rfl) (by decide) (by decide) rfl rfl) fun σ H Q ⟨ρ, O, P, Xp, R, w', q, hX⟩ => ?_
  refine ⟨ρ, O, fun p ρ1 => p.still ρ1 ∧ bltW .sortSet [p.d] fun r => P r ρ1, Xp, R, w', fun p ρ1 v H1 O1 hp sp m1 a1 => ?_, hX⟩
  have d1 : RD F.toFk H1 O1 p.d v := a1.rd m1.rel (m1.old R) (.refl m1.rel) sp
  obtain ⟨_, hp⟩ := hp
  cases hd : p.d with
  | lst xs =>
    rw [hd] at d1 hp
    obtain ⟨ks, ek, ⟨D, dl, dm⟩, ⟨h1, h2⟩, hp⟩ := hp
    obtain ⟨a, vs, rfl, ha, rl⟩ := d1.lst
    obtain ⟨lk, rfl, el, fl⟩ := tk_reps ek rl
    have inks : ∀ z, z ∈ lk → z.2 ∈ ks := fun z hz => by rw [← el]; exact List.mem_map_of_mem hz
    have k1 := m1.rel.hk
    refine ⟨a, lk, rfl, .inl ha, fun z hz => ?_, ⟨D, dl, fun z hz => dm _ (inks z hz)⟩, fun s L hs sub all => ?_⟩
    · obtain ⟨d, _, t, r⟩ := fl z hz
      rw [← C.K]
      exact tk_sq t r
    have g1 : Grow H1 O1 (upd H1 s (Bs5.setO X.prog X.w s L)) O1 := Grow.new hs m1.rel.tr
    refine ⟨s, L, rfl, upd_same, fun z hz => ?_, fun z hz => h1 _ (inks z (sub z hz)), fun z hz y hy => h2 _ (inks z (sub z hz)) _ (inks y (sub y hy)), fun L' b pm nd pw hb => ?_⟩
    · obtain ⟨d, _, t, r⟩ := fl z (sub z hz)
      rw [← C.K]
      exact tk_sq t (Rep.stay g1.stay _ _ r)
    have inlk : ∀ z, z ∈ L' → z ∈ lk := fun z hz => sub z (pm.mem_iff.mp hz)
    obtain ⟨ds, e1, e2, e3⟩ := tk_back (L := L') (xs := xs) fun z hz => fl z (inlk z hz)
    have hP : P (.own (.lst ds)) ρ1 := hp ds (L'.map (·.2)) e1 e2 nd (fun k => ⟨fun hk => ?_, fun hk => ?_⟩) (List.pairwise_map.mpr pw)
    · exact OpQ.lst (F := F) (P := fun r => P r ρ1) (k1.grow g1) (fun r v H3 O3 hq g rr => q r ρ1 v H3 O3 hq (Mv.trans R m1 (Mv.grow m1.rel (g1.trans g))) (rr.back fun x hx => g1.al x (m1.stp.al x hx))) hb hP (RepL.stay g1.stay _ _ e3)
    · obtain ⟨z, hz, rfl⟩ := List.mem_map.mp hk
      exact inks z (inlk z hz)
    · rw [← el] at hk
      obtain ⟨z, hz, rfl⟩ := List.mem_map.mp hk
      rw [(pm.map (·.2)).mem_iff]
      exact all z hz
  | _ => rw [hd] at hp; exact hp.elim
end
end EV
set_option linter.all false
set_option maxRecDepth 20000
set_option autoImplicit false
/-! A reading against the program's text: a check that the kernel runs, and what it gives. -/
namespace EV
open PySem PySem.Spec L2

/-! ### shapes of the text -/
def nd (x : Str) : Bool := !(x == ("__debug__" : Str)) && !(x == ("__classdict__" : Str)) && !(decide (x = ("__name__" : Str)))
def vis (sc : Scope) (x : Str) : Bool := match sc.names.lookup x with | some .local => true | some .cell => true | some .free => true | _ => false
def gl (sc : Scope) (x : Str) : Bool := match sc.names.lookup x with | some .globalImplicit => true | _ => false
theorem nd_ok {x : Str} (h : nd x = true) : (x == ("__debug__" : Str)) = false ∧ (x == ("__classdict__" : Str)) = false ∧ x ≠ ("__name__" : Str) := by
  unfold nd at h
  simp only [Bool.and_eq_true, Bool.not_eq_true', decide_eq_false_iff_not] at h
  exact ⟨h.1.1, h.1.2, h.2⟩
theorem vis_ok {sc : Scope} {x : Str} (h : vis sc x = true) : Vis sc x := by
  unfold vis at h
  unfold Vis
  cases e : sc.names.lookup x with
  | none => rw [e] at h; cases h
  | some k => rw [e] at h; cases k <;> first | exact .inl rfl | exact .inr (.inl rfl) | exact .inr (.inr rfl) | cases h
theorem gl_ok {sc : Scope} {x : Str} {X : Cx} (h : gl sc x = true) (e : X.env.scope = sc) : Gl X x := by
  unfold gl at h
  show X.env.scope.names.lookup x = some .globalImplicit
  rw [e]
  cases q : sc.names.lookup x with
  | none => rw [q] at h; cases h
  | some k => rw [q] at h; cases k <;> first | rfl | cases h
def ckName (k : Str → Bool) : Expr → Bool
  | .Name n _ => k n
  | _ => false
theorem ckName_ok {k : Str → Bool} {x : Expr} (h : ckName k x = true) : ∃ n p, x = .Name n p ∧ k n = true := by
  cases x <;> first | exact ⟨_, _, rfl, h⟩ | cases h
def ckConst (k : Const → Bool) : Expr → Bool
  | .Constant c _ _ => k c
  | _ => false
theorem ckConst_ok {k : Const → Bool} {x : Expr} (h : ckConst k x = true) : ∃ c j p, x = .Constant c j p ∧ k c = true := by
  cases x <;> first | exact ⟨_, _, _, rfl, h⟩ | cases h
def ckTup (k : List Expr → Bool) : Expr → Bool
  | .Tuple l _ _ => l.all notStar && k l
  | _ => false
theorem ckTup_ok {k : List Expr → Bool} {x : Expr} (h : ckTup k x = true) : ∃ l j p, x = .Tuple l j p ∧ l.all notStar = true ∧ k l = true := by
  cases x <;> first | exact ⟨_, _, _, rfl, (Bool.and_eq_true_iff.mp h).1, (Bool.and_eq_true_iff.mp h).2⟩ | cases h
def ckLst (k : List Expr → Bool) : Expr → Bool
  | .List l _ => l.all notStar && k l
  | _ => false
theorem ckLst_ok {k : List Expr → Bool} {x : Expr} (h : ckLst k x = true) : ∃ l p, x = .List l p ∧ l.all notStar = true ∧ k l = true := by
  cases x <;> first | exact ⟨_, _, rfl, (Bool.and_eq_true_iff.mp h).1, (Bool.and_eq_true_iff.mp h).2⟩ | cases h
def ckDict (k : List (Option Expr) → List Expr → Bool) : Expr → Bool
  | .Dict ks vs _ => k ks vs
  | _ => false
theorem ckDict_ok {k : List (Option Expr) → List Expr → Bool} {x : Expr} (h : ckDict k x = true) : ∃ a b p, x = .Dict a b p ∧ k a b = true := by
  cases x <;> first | exact ⟨_, _, _, rfl, h⟩ | cases h
def ckBin (o : Operator) (k : Expr → Expr → Bool) : Expr → Bool
  | .BinOp a o' b _ => decide (o' = o) && k a b
  | _ => false
theorem ckBin_ok {o : Operator} {k : Expr → Expr → Bool} {x : Expr} (h : ckBin o k x = true) : ∃ a b p, x = .BinOp a o b p ∧ k a b = true := by
  cases x with
  | BinOp a o' b p =>
    obtain ⟨h1, h2⟩ := Bool.and_eq_true_iff.mp (show (decide (o' = o) && k a b) = true from h)
    have := of_decide_eq_true h1
    subst this
    exact ⟨_, _, _, rfl, h2⟩
  | _ => cases h
def ckUn (o : UnaryOp) (k : Expr → Bool) : Expr → Bool
  | .UnaryOp o' a _ => decide (o' = o) && k a
  | _ => false
theorem ckUn_ok {o : UnaryOp} {k : Expr → Bool} {x : Expr} (h : ckUn o k x = true) : ∃ a p, x = .UnaryOp o a p ∧ k a = true := by
  cases x with
  | UnaryOp o' a p =>
    obtain ⟨h1, h2⟩ := Bool.and_eq_true_iff.mp (show (decide (o' = o) && k a) = true from h)
    have := of_decide_eq_true h1
    subst this
    exact ⟨_, _, rfl, h2⟩
  | _ => cases h
def ckCmp1 (o : CmpOp) (k : Expr → Expr → Bool) : Expr → Bool
  | .Compare a [o'] [b] _ => decide (o' = o) && (!behindInMarks o b && k a b)
  | _ => false
theorem ckCmp1_ok {o : CmpOp} {k : Expr → Expr → Bool} {x : Expr} (h : ckCmp1 o k x = true) : ∃ a b p, x = .Compare a [o] [b] p ∧ behindInMarks o b = false ∧ k a b = true := by
  unfold ckCmp1 at h
  split at h
  · rename_i a o' b p
    simp only [Bool.and_eq_true, decide_eq_true_eq, Bool.not_eq_true'] at h
    obtain ⟨rfl, h1, h2⟩ := h
    exact ⟨_, _, _, rfl, h1, h2⟩
  · cases h
def ckCmp2 (o u : CmpOp) (k : Expr → Expr → Expr → Bool) : Expr → Bool
  | .Compare a [o', u'] [b, c] _ => decide (o' = o) && (decide (u' = u) && (!behindInMarks u c && k a b c))
  | _ => false
theorem ckCmp2_ok {o u : CmpOp} {k : Expr → Expr → Expr → Bool} {x : Expr} (h : ckCmp2 o u k x = true) : ∃ a b c p, x = .Compare a [o, u] [b, c] p ∧ behindInMarks u c = false ∧ k a b c = true := by
  unfold ckCmp2 at h
  split at h
  · simp only [Bool.and_eq_true, decide_eq_true_eq, Bool.not_eq_true'] at h
    obtain ⟨rfl, rfl, h1, h2⟩ := h
    exact ⟨_, _, _, _, rfl, h1, h2⟩
  · cases h
def ckCmp3 (o u v : CmpOp) (k : Expr → Expr → Expr → Expr → Bool) : Expr → Bool
  | .Compare a [o', u', v'] [b, c, d] _ => decide (o' = o) && (decide (u' = u) && (decide (v' = v) && (!behindInMarks v d && k a b c d)))
  | _ => false
theorem ckCmp3_ok {o u v : CmpOp} {k : Expr → Expr → Expr → Expr → Bool} {x : Expr} (h : ckCmp3 o u v k x = true) : ∃ a b c d p, x = .Compare a [o, u, v] [b, c, d] p ∧ behindInMarks v d = false ∧ k a b c d = true := by
  unfold ckCmp3 at h
  split at h
  · simp only [Bool.and_eq_true, decide_eq_true_eq, Bool.not_eq_true'] at h
    obtain ⟨rfl, rfl, rfl, h1, h2⟩ := h
    exact ⟨_, _, _, _, _, rfl, h1, h2⟩
  · cases h
def tailB (op : BoolOp) (b : Expr) (rest : List Expr) (p : Pos) : Expr := match rest with
  | [] => b
  | _ => .BoolOp op (b :: rest) p
def isB (op : BoolOp) : BoolOp → Bool := fun o => match op, o with | .And, .And => true | .Or, .Or => true | _, _ => false
def ckBool (op : BoolOp) (k k2 : Expr → Bool) : Expr → Bool
  | .BoolOp o (a :: b :: rest) p => isB op o && (k a && k2 (tailB op b rest p))
  | _ => false
theorem ckBool_ok {op : BoolOp} {k k2 : Expr → Bool} {x : Expr} (h : ckBool op k k2 x = true) : ∃ a b rest p, x = .BoolOp op (a :: b :: rest) p ∧ k a = true ∧ k2 (tailB op b rest p) = true := by
  unfold ckBool at h
  split at h
  · rename_i o a b rest p
    simp only [Bool.and_eq_true] at h
    obtain ⟨h0, h1, h2⟩ := h
    have : o = op := by cases op <;> cases o <;> first | rfl | cases h0
    subst this
    exact ⟨_, _, _, _, rfl, h1, h2⟩
  · cases h
def ckIf (k : Expr → Expr → Expr → Bool) : Expr → Bool
  | .IfExp t a b _ => k t a b
  | _ => false
theorem ckIf_ok {k : Expr → Expr → Expr → Bool} {x : Expr} (h : ckIf k x = true) : ∃ t a b p, x = .IfExp t a b p ∧ k t a b = true := by
  cases x <;> first | exact ⟨_, _, _, _, rfl, h⟩ | cases h
def notSl : Expr → Bool
  | .Slice _ _ _ _ => false
  | _ => true
theorem notSl_ok {i : Expr} (h : notSl i = true) : PlainIx i := by
  intro o v
  cases i <;> first | rfl | cases h
def ckSub (k : Expr → Expr → Bool) : Expr → Bool
  | .Subscript a i _ => notSl i && k a i
  | _ => false
theorem ckSub_ok {k : Expr → Expr → Bool} {x : Expr} (h : ckSub k x = true) : ∃ a i p, x = .Subscript a i p ∧ PlainIx i ∧ k a i = true := by
  cases x <;> first | exact ⟨_, _, _, rfl, notSl_ok (Bool.and_eq_true_iff.mp h).1, (Bool.and_eq_true_iff.mp h).2⟩ | cases h
def ckSlc (k : Expr → Option Expr → Option Expr → Bool) : Expr → Bool
  | .Subscript a (.Slice lo hi none _) _ => k a lo hi
  | _ => false
theorem ckSlc_ok {k : Expr → Option Expr → Option Expr → Bool} {x : Expr} (h : ckSlc k x = true) : ∃ a lo hi p q, x = .Subscript a (.Slice lo hi none p) q ∧ k a lo hi = true := by
  unfold ckSlc at h
  split at h
  · exact ⟨_, _, _, _, _, rfl, h⟩
  · cases h
def ckCall (k : Str → Expr → List Expr → Bool) : Expr → Bool
  | .Call (.Name n _) (e :: es) [] _ => nd n && ((e :: es).all notStar && k n e es)
  | _ => false
theorem ckCall_ok {k : Str → Expr → List Expr → Bool} {x : Expr} (h : ckCall k x = true) : ∃ n p e es q, x = .Call (.Name n p) (e :: es) [] q ∧ nd n = true ∧ (e :: es).all notStar = true ∧ k n e es = true := by
  unfold ckCall at h
  split at h
  · simp only [Bool.and_eq_true] at h
    exact ⟨_, _, _, _, _, rfl, h.1, h.2.1, h.2.2⟩
  · cases h
def ckCallK (k : Str → Str → Expr → Bool) : Expr → Bool
  | .Call (.Name n _) [] [⟨some a, e, _⟩] _ => nd n && k n a e
  | _ => false
theorem ckCallK_ok {k : Str → Str → Expr → Bool} {x : Expr} (h : ckCallK k x = true) : ∃ n p a e kp q, x = .Call (.Name n p) [] [⟨some a, e, kp⟩] q ∧ nd n = true ∧ k n a e = true := by
  unfold ckCallK at h
  split at h
  · simp only [Bool.and_eq_true] at h
    exact ⟨_, _, _, _, _, _, rfl, h.1, h.2⟩
  · cases h
def isOne : Es → Option E
  | .cons e .nil => some e
  | _ => none
/-- sorted(set(e)) -/
def ckSSet (g : Bool) (k : Expr → Bool) : Expr → Bool
  | .Call (.Name n _) [.Call (.Name m _) [e] [] _] [] _ => decide (n = ("sorted" : Str)) && (decide (m = ("set" : Str)) && (g && (notStar e && k e)))
  | _ => false
theorem ckSSet_ok {g : Bool} {k : Expr → Bool} {x : Expr} (h : ckSSet g k x = true) : ∃ p p1 q e q1, x = .Call (.Name ("sorted" : Str) p) [.Call (.Name ("set" : Str) p1) [e] [] q] [] q1 ∧ g = true ∧ notStar e = true ∧ k e = true := by
  unfold ckSSet at h
  split at h
  · simp only [Bool.and_eq_true, decide_eq_true_eq] at h
    obtain ⟨rfl, rfl, h1, h2, h3⟩ := h
    exact ⟨_, _, _, _, _, rfl, h1, h2, h3⟩
  · cases h
def notSet : Expr → Bool
  | .Set _ _ _ => false
  | _ => true
theorem notSet_ok {e : Expr} (env : PySem.Env) (h : notSet e = true) : ∀ x, foldedSetIterable e env x = pure x := by
  intro x
  cases e <;> first | rfl | cases h
def ckLC (k : Expr → Expr → Expr → List Expr → Scope → Bool) : Expr → Bool
  | .ListComp e [⟨t, i, ifs, 0⟩] sc _ => notSet i && k e t i ifs sc
  | _ => false
theorem ckLC_ok {k : Expr → Expr → Expr → List Expr → Scope → Bool} {x : Expr} (h : ckLC k x = true) : ∃ e t i ifs sc p, x = .ListComp e [⟨t, i, ifs, 0⟩] sc p ∧ notSet i = true ∧ k e t i ifs sc = true := by
  unfold ckLC at h
  split at h
  · simp only [Bool.and_eq_true] at h
    exact ⟨_, _, _, _, _, _, rfl, h.1, h.2⟩
  · cases h
def cstOk : D → Const → Bool
  | .non, .none => true
  | .bl a, .bool b => a == b
  | .int i, .int j => decide (i = j)
  | .str x, .str y => decide (x = y)
  | _, _ => false

/-- list(e.items()) -/
def ckItems (k : Expr → Bool) (g : Bool) : Expr → Bool
  | .Call (.Name n _) [.Call (.Attribute e m ap) [] [] cp] [] _ => decide (n = ("list" : Str)) && (decide (m = ("items" : Str)) && (g && (notCall e && ((ap.endLine == cp.line) && k e))))
  | _ => false
theorem ckItems_ok {k : Expr → Bool} {g : Bool} {x : Expr} (h : ckItems k g x = true) : ∃ p e ap cp q, x = .Call (.Name ("list" : Str) p) [.Call (.Attribute e ("items" : Str) ap) [] [] cp] [] q ∧ g = true ∧ notCall e = true ∧ (ap.endLine == cp.line) = true ∧ k e = true := by
  unfold ckItems at h
  split at h
  · simp only [Bool.and_eq_true, decide_eq_true_eq] at h
    obtain ⟨rfl, rfl, h1, h2, h3, h4⟩ := h
    exact ⟨_, _, _, _, _, rfl, h1, h2, h3, h4⟩
  · cases h
/-- e.split() -/
def ckWords (k : Expr → Bool) : Expr → Bool
  | .Call (.Attribute e m ap) [] [] cp => decide (m = ("split" : Str)) && (notCall e && ((ap.endLine == cp.line) && k e))
  | _ => false
theorem ckWords_ok {k : Expr → Bool} {x : Expr} (h : ckWords k x = true) : ∃ e ap cp, x = .Call (.Attribute e ("split" : Str) ap) [] [] cp ∧ notCall e = true ∧ (ap.endLine == cp.line) = true ∧ k e = true := by
  unfold ckWords at h
  split at h
  · simp only [Bool.and_eq_true, decide_eq_true_eq] at h
    obtain ⟨rfl, h2, h3, h4⟩ := h
    exact ⟨_, _, _, rfl, h2, h3, h4⟩
  · cases h
def ckLrng (kl kr : Bool) (k : List Expr → Bool) : Expr → Bool
  | .Call (.Name l _) [.Call (.Name r _) as [] _] [] _ => decide (l = ("list" : Str)) && (decide (r = ("range" : Str)) && ((kl && kr) && k as))
  | _ => false
theorem ckLrng_ok {kl kr : Bool} {k : List Expr → Bool} {x : Expr} (h : ckLrng kl kr k x = true) : ∃ p1 p2 p3 p4 as, x = .Call (.Name "list" p1) [.Call (.Name "range" p2) as [] p3] [] p4 ∧ kl = true ∧ kr = true ∧ k as = true := by
  unfold ckLrng at h
  split at h
  · simp only [Bool.and_eq_true, decide_eq_true_eq] at h
    obtain ⟨rfl, rfl, ⟨h2, h3⟩, h4⟩ := h
    exact ⟨_, _, _, _, _, rfl, h2, h3, h4⟩
  · cases h
def one1 (k : Expr → Bool) : List Expr → Bool
  | [x] => notStar x && k x
  | _ => false
theorem one1_ok {k : Expr → Bool} {l : List Expr} (h : one1 k l = true) : ∃ x, l = [x] ∧ notStar x = true ∧ k x = true := by
  unfold one1 at h
  split at h
  · rw [Bool.and_eq_true] at h
    exact ⟨_, rfl, h.1, h.2⟩
  · cases h
def two1 (k k2 : Expr → Bool) : List Expr → Bool
  | [x, y] => (notStar x && notStar y) && (k x && k2 y)
  | _ => false
theorem two1_ok {k k2 : Expr → Bool} {l : List Expr} (h : two1 k k2 l = true) : ∃ x y, l = [x, y] ∧ notStar x = true ∧ notStar y = true ∧ k x = true ∧ k2 y = true := by
  unfold two1 at h
  split at h
  · simp only [Bool.and_eq_true] at h
    exact ⟨_, _, rfl, h.1.1, h.1.2, h.2.1, h.2.2⟩
  · cases h
def ckLC2 (k : Expr → Expr → Expr → Expr → Expr → Scope → Bool) : Expr → Bool
  | .ListComp e [⟨t, i, [], 0⟩, ⟨t1, i1, [], 0⟩] sc _ => notSet i && (notSet i1 && k e t i t1 i1 sc)
  | _ => false
theorem ckLC2_ok {k : Expr → Expr → Expr → Expr → Expr → Scope → Bool} {x : Expr} (h : ckLC2 k x = true) : ∃ e t i t1 i1 sc p, x = .ListComp e [⟨t, i, [], 0⟩, ⟨t1, i1, [], 0⟩] sc p ∧ notSet i = true ∧ notSet i1 = true ∧ k e t i t1 i1 sc = true := by
  unfold ckLC2 at h
  split at h
  · simp only [Bool.and_eq_true] at h
    exact ⟨_, _, _, _, _, _, _, rfl, h.1, h.2.1, h.2.2⟩
  · cases h
/-- a tuple of written keys -/
def cstsOk : List Key → List Expr → Bool
  | [], [] => true
  | k :: ks, x :: xs => ckConst (cstOk (kD k)) x && cstsOk ks xs
  | _, _ => false
/-! ### the check -/
def vi? : E → Option Nat
  | .var i => some i
  | _ => none
def bltN1 : Blt → Option (String × Bool)
  | .len => some ("len", true) | .toInt => some ("int", false) | .toTup => some ("tuple", false) | .toList => some ("list", false)
  | .sortKeys => some ("sorted", true) | .repr => some ("repr", true) | .toDictK => some ("dict", false) | .toDictT => some ("dict", false)
  | .sum => some ("sum", true) | .max1 => some ("max", true) | .min2 => some ("min", true) | .abs => some ("abs", true) | .all => some ("all", true) | .any => some ("any", true)
  | _ => none
def ownN (N : List Str) (vs : List Nat) : List (Str × Nat) := vs.map fun i => ((N[i]?).getD default, i)
section
variable (FN : List (Str × List Str)) (N : List Str)
def ioOk : Es → List Bool → Bool
  | .nil, _ => true
  | .cons e r, true :: io => (vi? e).isSome && ioOk r io
  | .cons _ r, io => ioOk r (io.drop 1)
mutual
def chk : E → Scope → Expr → Bool
  | .var i, sc, x => ckName (fun n => decide (N[i]? = some n) && (vis sc n && nd n)) x
  | .fvar i, sc, x => ckName (fun n => decide (N[i]? = some n) && (vis sc n && nd n)) x
  | .cst d, _, x => ckConst (cstOk d) x
  | .glb g, sc, x => ckName (fun n => decide (n = g) && (gl sc n && nd n)) x
  | .tup es, sc, x => ckTup (chks es sc) x
  | .lst es, sc, x => ckLst (chks es sc) x
  | .dspK ks vs, sc, x => ckDict (fun a b => match ks, a with
      | [], [] => b.isEmpty && chks vs sc b
      | [], _ => false
      | _, _ => decide (a.length ≤ 15) && (decide (a.length = b.length) && (decide (a.length = ks.length) && ((ks.zip a).all (fun p => match p.1, p.2 with
        | .inr s, some (.Constant (.str t) _ _) => decide (s = t)
        | .inl i, some (.Constant (.int j) _ _) => decide (i = j)
        | _, _ => false) && chks vs sc b)))) x
  | .dspT ks vs, sc, x => match ks with
      | [] => ckDict (fun a b => a.isEmpty && (b.isEmpty && chks vs sc b)) x
      | [k] => ckDict (fun a b => match a, b with
        | [some kx], [vx] => decide (k.length ≤ 1000) && (ckTup (cstsOk k) kx && chks vs sc [vx])
        | _, _ => false) x
      | _ => false
  | .bin op a b, sc, x => ckBin (opB op) (fun p q => chk a sc p && chk b sc q) x
  | .neg a, sc, x => ckUn .USub (chk a sc) x
  | .repL a b, sc, x => ckBin .Mult (fun p q => chk a sc p && chk b sc q) x
  | .cmp op a b, sc, x => ckCmp1 (opC op) (fun p q => chk a sc p && chk b sc q) x
  | .chn a op b op' c, sc, x => ckCmp2 (opC op) (opC op') (fun p q r => chk a sc p && (chk b sc q && chk c sc r)) x
  | .chn3 a op b op' c op'' d, sc, x => ckCmp3 (opC op) (opC op') (opC op'') (fun p q r s => chk a sc p && (chk b sc q && (chk c sc r && chk d sc s))) x
  | .and_ a b, sc, x => ckBool .And (chk a sc) (chk b sc) x
  | .or_ a b, sc, x => ckBool .Or (chk a sc) (chk b sc) x
  | .not_ a, sc, x => ckUn .Not (chk a sc) x
  | .ife t a b, sc, x => ckIf (fun p q r => chk t sc p && (chk a sc q && chk b sc r)) x
  | .idx a i, sc, x => ckSub (fun p q => chk a sc p && chk i sc q) x
  | .slc a lo hi, sc, x => ckSlc (fun p l h => chk a sc p && (chko lo sc l && chko hi sc h)) x
  | .cm1 vs tg ik ia cond elt, sc, x => ckLC (fun e t i ifs sc' => blkC N sc sc' (ownN N vs) && (tgOk N sc' vs tg t && (chki ia ik sc t i && (chks cond (relS sc' sc) ifs && (decide (ifs.length ≤ 1) && chk elt (relS sc' sc) e))))) x
  | .cm2 vs vs1 tg ik ia tg1 ik1 ia1 elt, sc, x => ckLC2 (fun e t i t1 i1 sc' => blkC N sc sc' (ownN N vs) && (vs1.all (fun i => decide (i ∈ vs)) && (tgOk N sc' vs tg t && (tgOk N sc' vs1 tg1 t1 && (chki ia ik sc t i && (chki ia1 ik1 (relS sc' sc) t1 i1 && chk elt (relS sc' sc) e)))))) x
  | .call f as io, sc, x => ckCall (fun n e es => gl sc n && ((match FN[f]? with | some p => decide (p.1 = n) | none => false) && (ioOk as io && chks as sc (e :: es)))) x || (decide (io = [false]) && ckCallK (fun n c e => gl sc n && ((match FN[f]? with | some p => decide (p.1 = n) && decide (p.2 = [c]) | none => false) && chks as sc [e])) x)
  | .blt b as, sc, x => match b, as with
    | .isi t, .cons a .nil => ckCall (fun n e es => decide (n = ("isinstance" : Str)) && (gl sc n && (gl sc (Str.ofString (tyN t)) && (chk a sc e && (match es with | [.Name m _] => decide (m = Str.ofString (tyN t)) | _ => false))))) x
    | .items, .cons a .nil => ckItems (chk a sc) (gl sc ("list" : Str)) x
    | .words, .cons a .nil => ckWords (chk a sc) x
    | .sortSet, .cons a .nil => ckSSet (gl sc ("sorted" : Str) && gl sc ("set" : Str)) (chk a sc) x
    | .lrng1, .cons a .nil => ckLrng (gl sc ("list" : Str)) (gl sc ("range" : Str)) (one1 (chk a sc)) x
    | .lrng2, .cons a (.cons b .nil) => ckLrng (gl sc ("list" : Str)) (gl sc ("range" : Str)) (two1 (chk a sc) (chk b sc)) x
    | b, as => match bltN1 b with
      | some (nm, _) => ckCall (fun n e es => decide (n = Str.ofString nm) && (gl sc n && chks as sc (e :: es))) x
      | none => false
  | .mth _ _ _, _, _ => false
def chks : Es → Scope → List Expr → Bool
  | .nil, _, l => l.isEmpty
  | .cons e r, sc, l => match l with
    | x :: xs => chk e sc x && chks r sc xs
    | [] => false
def chko : Es → Scope → Option Expr → Bool
  | .nil, _, x => x.isNone
  | .cons e .nil, sc, x => match x with
    | some x => chk e sc x
    | none => false
  | _, _, _ => false
def chki : Es → IK → Scope → Expr → Expr → Bool
  | .cons e .nil, .seq, sc, _, i => chk e sc i
  | .cons e .nil, .rng1, sc, _, i => ckCall (fun n a as => decide (n = ("range" : Str)) && (gl sc n && (as.isEmpty && chk e sc a))) i
  | .cons e (.cons e2 .nil), .rng2, sc, _, i => ckCall (fun n a as => decide (n = ("range" : Str)) && (gl sc n && (match as with | [b] => chk e sc a && chk e2 sc b | _ => false))) i
  | .cons e .nil, .enm, sc, t, i => (match t with | .Tuple _ _ _ => true | _ => false) && ckCall (fun n a as => decide (n = ("enumerate" : Str)) && (gl sc n && (as.isEmpty && chk e sc a))) i
  | .cons e (.cons e2 .nil), .zip, sc, t, i => (match t with | .Tuple _ _ _ => true | _ => false) && ckCall (fun n a as => decide (n = ("zip" : Str)) && (gl sc n && (match as with | [b] => chk e sc a && chk e2 sc b | _ => false))) i
  | _, _, _, _, _ => false
end
end
end EV
set_option linter.all false
set_option maxRecDepth 20000
set_option autoImplicit false
/-! What the check gives: a reading of the text. -/
namespace EV
open PySem PySem.Spec L2

section
variable {T : Tb} {F : Fm} {FN : List (Str × List Str)} {N : List Str} {sc : Scope} {X : Cx} {Wx : WX}
structure Snd (T : Tb) (F : Fm) (Wx : WX) (X : Cx) (x : Expr) (w : WE) : Prop where
  v : PE X x (tE T F Wx w.v)
  p : PE X x (tP T F Wx w)
  t : PT X x (tT T F Wx w.t)
  b : ∀ op l q, x = .BoolOp op l q → PW X x (tT T F Wx w.t)
  r : ∀ i, w.vi = some i → PE X x (tVar i)
def SndL (T : Tb) (F : Fm) (Wx : WX) (X : Cx) : List Expr → List WE → Prop
  | [], [] => True
  | x :: xs, w :: ws => Snd T F Wx X x w ∧ SndL T F Wx X xs ws
  | _, _ => False
/-- the test is the value's -/
def Plain (X : Cx) (e : Expr) : Prop := ∀ whole, isTrue e X.env whole = (do let v ← whole; standAt e.pos; holding [v] (truthy v))
theorem snd_of {x : Expr} {v : Env → RP → XP → Prop} (h : PE X x (tE T F Wx v)) (hp : Plain X x) (nb : ∀ op l q, x ≠ .BoolOp op l q) : Snd T F Wx X x (ofV v) :=
  ⟨h, p_of rfl h, t_val h hp, fun op l q e => absurd e (nb op l q), fun i e => by cases e⟩
theorem snd_vt {x : Expr} {v : Env → RP → XP → Prop} {t : Env → (Bool → Env → Prop) → XP → Prop} (h : PE X x (tE T F Wx v)) (ht : PT X x (tT T F Wx t)) (nb : ∀ op l q, x ≠ .BoolOp op l q) : Snd T F Wx X x ⟨v, t, none⟩ :=
  ⟨h, p_of rfl h, ht, fun op l q e => absurd e (nb op l q), fun i e => by cases e⟩
theorem l_vs : ∀ {xs : List Expr} {ws : List WE}, SndL T F Wx X xs ws → xs.all notStar = true → PA X xs (tVs T F Wx ws)
  | [], [], _, _ => vs_nil
  | x :: xs, w :: ws, h, hs => by
    rw [List.all_cons, Bool.and_eq_true] at hs
    exact vs_cons h.1.v (l_vs h.2 hs.2) (star_cons hs.1)
  | [], _ :: _, h, _ => h.elim
  | _ :: _, [], h, _ => h.elim
theorem l_ps : ∀ {xs : List Expr} {ws : List WE}, SndL T F Wx X xs ws → xs.all notStar = true → PA X xs (tPs T F Wx ws)
  | [], [], _, _ => ps_nil
  | x :: xs, w :: ws, h, hs => by
    rw [List.all_cons, Bool.and_eq_true] at hs
    exact ps_cons' h.1.p (l_ps h.2 hs.2) (star_cons hs.1)
  | [], _ :: _, h, _ => h.elim
  | _ :: _, [], h, _ => h.elim
theorem l_rs : ∀ {xs : List Expr} {ws : List WE}, SndL T F Wx X xs ws → xs.all notStar = true → PA X xs (tRs T F Wx ws)
  | [], [], _, _ => rs_nil
  | x :: xs, w :: ws, h, hs => by
    rw [List.all_cons, Bool.and_eq_true] at hs
    exact rs_cons h.1.v (l_rs h.2 hs.2) (star_cons hs.1)
  | [], _ :: _, h, _ => h.elim
  | _ :: _, [], h, _ => h.elim
theorem vi_W {S : SPX} {G : Str → Option D} {e : E} {i : Nat} (h : vi? e = some i) : (W S G e).vi = some i := by
  cases e <;> first | (cases h; unfold W; rfl) | cases h
theorem l_as {S : SPX} {G : Str → Option D} : ∀ {es : Es} {xs : List Expr} {io : List Bool}, SndL T F Wx X xs (Ws S G es) → xs.all notStar = true → ioOk es io = true → PA X xs (tAs T F Wx (Ws S G es) io)
  | .nil, [], io, _, _, _ => by unfold Ws; exact as_nil
  | .nil, _ :: _, _, h, _, _ => by unfold Ws at h; exact h.elim
  | .cons e r, [], _, h, _, _ => by unfold Ws at h; exact h.elim
  | .cons e r, x :: xs, io, h, hs, hi => by
    unfold Ws at h ⊢
    rw [List.all_cons, Bool.and_eq_true] at hs
    match io, hi with
    | true :: io, hi =>
      have hi : ((vi? e).isSome && ioOk r io) = true := hi
      rw [Bool.and_eq_true] at hi
      obtain ⟨i, ei⟩ := Option.isSome_iff_exists.mp hi.1
      exact as_io (vi_W ei) (h.1.r i (vi_W ei)) (l_as h.2 hs.2 hi.2) (star_cons hs.1)
    | false :: io, hi => exact as_v (by simp) h.1.v (l_as (io := io) h.2 hs.2 hi) (star_cons hs.1)
    | [], hi => exact as_v (by simp) h.1.v (l_as (io := []) h.2 hs.2 hi) (star_cons hs.1)

/-! ### pieces -/
theorem snd_cst {d : D} {c : Const} {j : Nat} {p : Pos} (h : cstOk d c = true) : Snd T F Wx X (.Constant c j p) (ofV fun ρ P _ => P (.val d) ρ) := by
  refine snd_of ?_ (fun _ => rfl) (fun _ _ _ z => nomatch z)
  cases d <;> cases c <;> first
    | (cases h; done)
    | exact e_const pe_non (fun _ _ => by unfold Rep; rfl)
    | (cases (eq_of_beq h); exact e_const pe_bl (fun _ _ => by unfold Rep; rfl))
    | (cases (of_decide_eq_true h); exact e_const pe_int (fun _ _ => by unfold Rep; rfl))
    | (cases (of_decide_eq_true h); exact e_const pe_str (fun _ _ => by unfold Rep; rfl))
theorem snd_glb (C : Cxt T F FN N sc X Wx) {g : Str} {p : Pos} (hg : Gl X g) (hd : (g == ("__debug__" : Str)) = false) : Snd T F Wx X (.Name g p) (ofV fun ρ P _ => ∃ d, T.G g = some d ∧ P (.val d) ρ) := by
  refine snd_of ?_ (fun _ => rfl) (fun _ _ _ z => nomatch z)
  refine ⟨fun pins s σ H Q I ⟨ρ, O, P, Xp, R, ⟨d, hd', w⟩, q, hX⟩ => ?_⟩
  obtain ⟨k, hr, gl⟩ := C.glo
  obtain ⟨u, v, hm, rv, rep⟩ := gl.glob g d hd'
  exact (pe_glob hg hm rv hd).run pins s σ H Q I (q _ ρ v H O w (.refl R) (rep H O))
theorem snd_var (C : Cxt T F FN N sc X Wx) {i : Nat} {n : Str} {p : Pos} (hi : N[i]? = some n) (hv : vis sc n = true) (hn : nd n = true) {S : SPX} {G : Str → Option D} : Snd T F Wx X (.Name n p) (W S G (.var i)) := by
  obtain ⟨n1, n2, _⟩ := nd_ok hn
  have h : PE X (.Name n p) (tVar i) := pe_var (by rw [C.eN]; exact hi) (by rw [C.es]; exact vis_ok hv) n1 n2
  have hv : PE X (.Name n p) (tE T F Wx fun ρ P _ => varV i ρ P) := e_var h
  unfold W
  exact ⟨hv, p_var rfl h, t_val hv (fun _ => rfl), (fun _ _ _ e => nomatch e), fun j e => by cases e; exact h⟩
theorem tail_pe {op : BoolOp} {b : Expr} {rest : List Expr} {p : Pos} {w : WE} (h : Snd T F Wx X (tailB op b rest p) w) : PE X (.BoolOp op (b :: rest) p) (tE T F Wx w.v) ∧ PW X (.BoolOp op (b :: rest) p) (tT T F Wx w.t) := by
  cases rest with
  | nil =>
    refine ⟨pe_one h.v, ?_⟩
    cases op with
    | And => exact pw_and1 h.t
    | Or => exact pw_or1 h.t
  | cons c r => exact ⟨h.v, h.b op _ p rfl⟩
set_option maxHeartbeats 4000000 in
theorem bltN1_ok (C : Cxt T F FN N sc X Wx) {b : Blt} {nm : String} {f : Bool} {n : Str} {p q : Pos} {e : Expr} {es : List Expr} {ws : List WE} (h : bltN1 b = some (nm, f)) (en : n = Str.ofString nm) (hg : Gl X n) (hnd : nd n = true) (hs : (e :: es).all notStar = true) (ha : PA X (e :: es) (tPs T F Wx ws)) :
    PE X (.Call (.Name n p) (e :: es) [] q) (tE T F Wx (bltE b ws)) := by
  obtain ⟨n1, n2, n3⟩ := nd_ok hnd
  subst en
  cases b <;> first
    | (cases h; done)
    | (cases h; exact b_fn (ok_len C.K) call_len hg (C.nob (by decide +kernel)) (by decide +kernel) ha n3 n1 hs)
    | (cases h; exact b_ty ok_int call_int1 hg (C.nob (by decide +kernel)) (by decide +kernel) ha n3 n1 hs)
    | (cases h; exact b_ty (ok_toTup C.K) call_tuple_of hg (C.nob (by decide +kernel)) (by decide +kernel) ha n3 n1 hs)
    | (cases h; exact b_ty (ok_toList C.K) call_list_of hg (C.nob (by decide +kernel)) (by decide +kernel) ha n3 n1 hs)
    | (cases h; exact b_fn ok_sum (cr_sum C.calm) hg (C.nob (by decide +kernel)) (by decide +kernel) ha n3 n1 hs)
    | (cases h; exact b_fn ok_max (cr_max C.calm) hg (C.nob (by decide +kernel)) (by decide +kernel) ha n3 n1 hs)
    | (cases h; exact b_fn ok_min2 (call_min2 C.calm) hg (C.nob (by decide +kernel)) (by decide +kernel) ha n3 n1 hs)
    | (cases h; exact b_fn ok_abs call_abs hg (C.nob (by decide +kernel)) (by decide +kernel) ha n3 n1 hs)
    | (cases h; exact b_fn ok_all (cr_all C.calm) hg (C.nob (by decide +kernel)) (by decide +kernel) ha n3 n1 hs)
    | (cases h; exact b_fn ok_sortKeys (Bs4.call_sortedT C.calm) hg (C.nob (by decide +kernel)) (by decide +kernel) ha n3 n1 hs)
    | (cases h; exact b_fn (ok_repr C.K) (call_reprD C.gd C.u) hg (C.nob (by decide +kernel)) (by decide +kernel) ha n3 n1 hs)
    | (cases h; exact b_ty (ok_dictK C.K) (call_dictP C.calm) hg (C.nob (by decide +kernel)) (by decide +kernel) ha n3 n1 hs)
    | (cases h; exact b_ty (ok_dictT C.K) (call_dictT C.calm C.u) hg (C.nob (by decide +kernel)) (by decide +kernel) ha n3 n1 hs)
    | (cases h; exact b_fn ok_any (cr_any C.calm) hg (C.nob (by decide +kernel)) (by decide +kernel) ha n3 n1 hs)

/-! ### all of them -/
theorem ownN_snd {N : List Str} {vs : List Nat} : (ownN N vs).map (·.2) = vs := by
  unfold ownN
  rw [List.map_map]
  exact List.map_id' vs
theorem sndL_one {e : Expr} : ∀ {ws : List WE}, SndL T F Wx X [e] ws → ∃ w, ws = [w] ∧ Snd T F Wx X e w
  | [], h => h.elim
  | [w], h => ⟨w, rfl, h.1⟩
  | _ :: _ :: _, h => h.2.elim
theorem l_one {w : WE} {e : Expr} (h : Snd T F Wx X e w) : SndL T F Wx X [e] [w] := ⟨h, trivial⟩
theorem keys_tops : ∀ {ks : List Key} {a : List (Option Expr)} {b : List Expr} {ws : List WE} {pos : Pos}, ks.length = a.length → a.length = b.length → ((ks.zip a).all (fun p => match p.1, p.2 with
        | .inr s, some (.Constant (.str t) _ _) => decide (s = t)
        | .inl i, some (.Constant (.int j) _ _) => decide (i = j)
        | _, _ => false) = true) → SndL T F Wx X b ws → PPs X pos a b (pairT ks (ws.map fun w => tE T F Wx w.v)) ∧ a.all (·.isSome) = true ∧ ws.length = ks.length
  | [], [], [], [], _, _, _, _, _ => ⟨pps_nil, rfl, rfl⟩
  | k :: ks, a :: as, b :: bs, w :: ws, pos, h1, h2, h3, h4 => by
    rw [List.zip_cons_cons, List.all_cons, Bool.and_eq_true] at h3
    obtain ⟨ih1, ih2, ih3⟩ := keys_tops (pos := pos) (Nat.succ.inj h1) (Nat.succ.inj h2) h3.2 h4.2
    obtain ⟨x, rfl, hx⟩ : ∃ x, a = some x ∧ PE X x (tC (kV k)) := by
      have h := h3.1
      split at h
      · rename_i s t _ _ e1 e2
        have h := of_decide_eq_true h
        cases k with
        | inl i => cases e1
        | inr s' =>
          cases e1
          subst h
          exact ⟨_, e2, pe_str⟩
      · rename_i s t _ _ e1 e2
        have h := of_decide_eq_true h
        cases k with
        | inr i => cases e1
        | inl s' =>
          cases e1
          subst h
          exact ⟨_, e2, pe_int⟩
      · cases h
    refine ⟨pps_cons hx h4.1.v ih1, ?_, by simp [ih3]⟩
    rw [List.all_cons, ih2]
    rfl
  | [], [], _ :: _, _, _, _, h, _, _ => by cases h
  | [], [], [], _ :: _, _, _, _, _, h => h.elim
  | [], _ :: _, _, _, _, h, _, _, _ => by cases h
  | _ :: _, [], _, _, _, h, _, _, _ => by cases h
  | _ :: _, _ :: _, [], _, _, _, h, _, _ => by cases h
  | _ :: _, _ :: _, _ :: _, [], _, _, _, _, h => h.elim
theorem e_dK' {keys : List (Option Expr)} {values : List Expr} {pos : Pos} {ks : List Key} {ws : List WE} (h1 : ks.length = keys.length) (h2 : keys.length = values.length) (h0 : keys ≠ []) (h15 : keys.length ≤ 15)
    (h3 : ((ks.zip keys).all (fun p => match p.1, p.2 with
        | .inr s, some (.Constant (.str t) _ _) => decide (s = t)
        | .inl i, some (.Constant (.int j) _ _) => decide (i = j)
        | _, _ => false) = true)) (h4 : SndL T F Wx X values ws) :
    PE X (.Dict keys values pos) (tE T F Wx fun ρ P X => vals ws ρ (fun ds ρ' => ds.length = ks.length ∧ ks.length ≤ 15 ∧ ks.Nodup ∧ P (.own (.dK (ks.zip ds))) ρ') X) := by
  obtain ⟨a, b, c⟩ := keys_tops (pos := pos) h1 h2 h3 h4
  exact e_dK a b h2 h0 h15 c.symm h1
theorem len_one {ifs : List Expr} {ws : List WE} (h : SndL T F Wx X ifs ws) (hl : ifs.length ≤ 1) : PTs X ifs (tT T F Wx (condT ws)) := by
  match ifs, ws, h with
  | [], [], _ => exact pts_c0
  | [x], [w], h => exact pts_c1 h.1.t
  | [], _ :: _, h => exact h.elim
  | [_], [], h => exact h.elim
  | [_], _ :: _ :: _, h => exact h.2.elim
  | _ :: _ :: _, _, _ => simp at hl
theorem chki3 {e e2 e3 : E} {r : Es} {ik : IK} {sc : Scope} {t i : Expr} : chki FN N (.cons e (.cons e2 (.cons e3 r))) ik sc t i = false := by
  cases ik <;> simp [chki]
theorem csts_ok {S : SPX} {G : Str → Option D} : ∀ {k : List Key} {xs : List Expr}, cstsOk k xs = true → SndL T F Wx X xs (Ws S G (keyEs k))
  | [], [], _ => by unfold keyEs Ws; exact trivial
  | a :: k, x :: xs, h => by
    have h : (ckConst (cstOk (kD a)) x && cstsOk k xs) = true := h
    rw [Bool.and_eq_true] at h
    obtain ⟨c, j, p, rfl, hc⟩ := ckConst_ok h.1
    unfold keyEs Ws
    refine ⟨?_, csts_ok h.2⟩
    unfold W
    exact snd_cst hc
  | [], _ :: _, h => by cases h
  | _ :: _, [], h => by cases h
set_option maxHeartbeats 8000000 in
mutual
theorem snd : ∀ (e : E) {sc : Scope} {x : Expr} {X : Cx} {Wx : WX}, Cxt T F FN N sc X Wx → chk FN N e sc x = true → Snd T F Wx X x (W T.S T.G e)
  | .var i, sc, x, X, Wx, C, h => by
    unfold chk at h
    replace h := ckName_ok h
    obtain ⟨n, p, rfl, h⟩ := h
    simp only [Bool.and_eq_true, decide_eq_true_eq] at h
    exact snd_var C h.1 h.2.1 h.2.2
  | .fvar i, sc, x, X, Wx, C, h => by
    unfold chk at h
    replace h := ckName_ok h
    obtain ⟨n, p, rfl, h⟩ := h
    simp only [Bool.and_eq_true, decide_eq_true_eq] at h
    have z := (snd_var (T := T) (F := F) (Wx := Wx) (p := p) C h.1 h.2.1 h.2.2 (S := T.S) (G := T.G)).v
    unfold W at z ⊢
    exact snd_of z (fun _ => rfl) (fun _ _ _ e => nomatch e)
  | .cst d, sc, x, X, Wx, C, h => by
    unfold chk at h
    replace h := ckConst_ok h
    obtain ⟨c, j, p, rfl, h⟩ := h
    unfold W
    exact snd_cst h
  | .glb g, sc, x, X, Wx, C, h => by
    unfold chk at h
    replace h := ckName_ok h
    obtain ⟨n, p, rfl, h⟩ := h
    simp only [Bool.and_eq_true, decide_eq_true_eq] at h
    obtain ⟨rfl, h1, h2⟩ := h
    unfold W
    exact snd_glb C (gl_ok h1 C.es) (nd_ok h2).1
  | .tup es, sc, x, X, Wx, C, h => by
    unfold chk at h
    replace h := ckTup_ok h
    obtain ⟨l, j, p, rfl, hs, h⟩ := h
    unfold W
    exact snd_of (e_tup (l_vs (snds es C h) hs)) (fun _ => rfl) (fun _ _ _ z => nomatch z)
  | .lst es, sc, x, X, Wx, C, h => by
    unfold chk at h
    replace h := ckLst_ok h
    obtain ⟨l, p, rfl, hs, h⟩ := h
    unfold W
    exact snd_of (e_lst (l_vs (snds es C h) hs)) (fun _ => rfl) (fun _ _ _ z => nomatch z)
  | .dspK ks vs, sc, x, X, Wx, C, h => by
    unfold chk at h
    replace h := ckDict_ok h
    obtain ⟨a, b, p, rfl, h⟩ := h
    unfold W
    refine snd_of ?_ (fun _ => rfl) (fun _ _ _ z => nomatch z)
    cases ks with
    | nil =>
      cases a with
      | nil =>
        have h : (b.isEmpty && chks FN N vs sc b) = true := h
        rw [Bool.and_eq_true] at h
        have hb : b = [] := List.isEmpty_iff.mp h.1
        subst hb
        have hl := snds vs C h.2
        cases vs with
        | nil =>
          unfold Ws
          exact PE.imp e_dK0 fun σ H Q ⟨ρ, O, P, Xp, R, w, q, hX⟩ => ⟨ρ, O, P, Xp, R, w.2.2.2, q, hX⟩
        | cons e r => unfold Ws at hl; exact hl.elim
      | cons a as => cases h
    | cons k ks =>
      have h : (decide (a.length ≤ 15) && (decide (a.length = b.length) && (decide (a.length = (k :: ks).length) && (((k :: ks).zip a).all (fun p => match p.1, p.2 with
        | .inr s, some (.Constant (.str t) _ _) => decide (s = t)
        | .inl i, some (.Constant (.int j) _ _) => decide (i = j)
        | _, _ => false) && chks FN N vs sc b)))) = true := by cases a <;> exact h
      simp only [Bool.and_eq_true, decide_eq_true_eq] at h
      obtain ⟨h1, h2, h3, h4, h5⟩ := h
      exact e_dK' h3.symm h2 (fun z => by rw [z] at h3; cases h3) h1 h4 (snds vs C h5)
  | .dspT ks vs, sc, x, X, Wx, C, h => by
    unfold chk at h
    cases ks with
    | cons k ks =>
      cases ks with
      | cons _ _ => cases h
      | nil =>
        replace h := ckDict_ok h
        obtain ⟨a, b, p, rfl, h⟩ := h
        split at h
        · rename_i kx vx
          simp only [Bool.and_eq_true, decide_eq_true_eq] at h
          obtain ⟨h1, h2, h3⟩ := h
          replace h2 := ckTup_ok h2
          obtain ⟨l, j, q, rfl, hs, h2⟩ := h2
          have hl := snds vs C h3
          cases vs with
          | nil => unfold Ws at hl; exact hl.elim
          | cons e r =>
            cases r with
            | cons _ _ => unfold Ws Ws at hl; exact hl.2.elim
            | nil =>
              unfold Ws Ws at hl
              unfold W Ws Ws
              have hk : PE X (.Tuple l j q) (tE T F Wx (W T.S T.G (.tup (keyEs k))).v) := by
                unfold W
                exact e_tup (l_vs (csts_ok h2) hs)
              exact snd_of (e_dT1 C h1 hk hl.1.v) (fun _ => rfl) (fun _ _ _ z => nomatch z)
        · cases h
    | nil =>
      replace h := ckDict_ok h
      obtain ⟨a, b, p, rfl, h⟩ := h
      rw [Bool.and_eq_true, Bool.and_eq_true] at h
      have ha : a = [] := List.isEmpty_iff.mp h.1
      have hb : b = [] := List.isEmpty_iff.mp h.2.1
      subst ha; subst hb
      unfold W
      refine snd_of ?_ (fun _ => rfl) (fun _ _ _ z => nomatch z)
      have hl := snds vs C h.2.2
      cases vs with
      | nil =>
        unfold Ws
        exact PE.imp e_dT0 fun σ H Q ⟨ρ, O, P, Xp, R, w, q, hX⟩ => ⟨ρ, O, P, Xp, R, w.2.2.2, q, hX⟩
      | cons e r => unfold Ws at hl; exact hl.elim
  | .bin op a b, sc, x, X, Wx, C, h => by
    unfold chk at h
    replace h := ckBin_ok h
    obtain ⟨p, q, r, rfl, h⟩ := h
    rw [Bool.and_eq_true] at h
    unfold W
    exact snd_of (e_bin C (snd a C h.1).p (snd b C h.2).p) (fun _ => rfl) (fun _ _ _ z => nomatch z)
  | .neg a, sc, x, X, Wx, C, h => by
    unfold chk at h
    replace h := ckUn_ok h
    obtain ⟨p, r, rfl, h⟩ := h
    unfold W
    exact snd_of (e_neg (snd a C h).p) (fun _ => rfl) (fun _ _ _ z => nomatch z)
  | .repL a b, sc, x, X, Wx, C, h => by
    unfold chk at h
    replace h := ckBin_ok h
    obtain ⟨p, q, r, rfl, h⟩ := h
    rw [Bool.and_eq_true] at h
    unfold W
    exact snd_of (e_repL (snd a C h.1).v (snd b C h.2).v) (fun _ => rfl) (fun _ _ _ z => nomatch z)
  | .cmp op a b, sc, x, X, Wx, C, h => by
    unfold chk at h
    replace h := ckCmp1_ok h
    obtain ⟨p, q, r, rfl, hm, h⟩ := h
    rw [Bool.and_eq_true] at h
    unfold W
    obtain ⟨h1, h2⟩ := e_cmp (pos := r) C (snd a C h.1).p (snd b C h.2).p hm
    exact snd_vt h1 h2 (fun _ _ _ z => nomatch z)
  | .chn a op b op' c, sc, x, X, Wx, C, h => by
    unfold chk at h
    replace h := ckCmp2_ok h
    obtain ⟨p, q, r, s, rfl, hm, h⟩ := h
    simp only [Bool.and_eq_true] at h
    unfold W
    obtain ⟨h1, h2⟩ := e_chn (pos := s) C (snd a C h.1).v (snd b C h.2.1).v (snd c C h.2.2).v hm
    exact snd_vt h1 h2 (fun _ _ _ z => nomatch z)
  | .chn3 a op b op' c op'' d, sc, x, X, Wx, C, h => by
    unfold chk at h
    replace h := ckCmp3_ok h
    obtain ⟨p, q, r, s, u, rfl, hm, h⟩ := h
    simp only [Bool.and_eq_true] at h
    unfold W
    obtain ⟨h1, h2⟩ := e_chn3 (pos := u) C (snd a C h.1).v (snd b C h.2.1).v (snd c C h.2.2.1).v (snd d C h.2.2.2).v hm
    exact snd_vt h1 h2 (fun _ _ _ z => nomatch z)
  | .and_ a b, sc, x, X, Wx, C, h => by
    unfold chk at h
    replace h := ckBool_ok h
    obtain ⟨p, q, rest, r, rfl, h1, h2⟩ := h
    unfold W
    have sa := snd a C h1
    obtain ⟨b1, b2⟩ := tail_pe (snd b C h2)
    have hv := e_and sa.v b1
    have ht := t_and sa.t b2
    exact ⟨hv, p_of rfl hv, ht.pt, (fun op l q e => by cases e; exact ht), fun i e => by cases e⟩
  | .or_ a b, sc, x, X, Wx, C, h => by
    unfold chk at h
    replace h := ckBool_ok h
    obtain ⟨p, q, rest, r, rfl, h1, h2⟩ := h
    unfold W
    have sa := snd a C h1
    obtain ⟨b1, b2⟩ := tail_pe (snd b C h2)
    have hv := e_or sa.v b1
    have ht := t_or sa.t b2
    exact ⟨hv, p_of rfl hv, ht.pt, (fun op l q e => by cases e; exact ht), fun i e => by cases e⟩
  | .not_ a, sc, x, X, Wx, C, h => by
    unfold chk at h
    replace h := ckUn_ok h
    obtain ⟨p, r, rfl, h⟩ := h
    unfold W
    have sa := snd a C h
    exact snd_vt (e_not sa.v) (t_not sa.t) (fun _ _ _ z => nomatch z)
  | .ife t a b, sc, x, X, Wx, C, h => by
    unfold chk at h
    replace h := ckIf_ok h
    obtain ⟨p, q, r, s, rfl, h⟩ := h
    simp only [Bool.and_eq_true] at h
    unfold W
    exact snd_vt (e_ife (snd t C h.1).t (snd a C h.2.1).v (snd b C h.2.2).v) (t_ife (snd t C h.1).t (snd a C h.2.1).t (snd b C h.2.2).t) (fun _ _ _ z => nomatch z)
  | .idx a i, sc, x, X, Wx, C, h => by
    unfold chk at h
    replace h := ckSub_ok h
    obtain ⟨p, q, r, rfl, hs, h⟩ := h
    rw [Bool.and_eq_true] at h
    unfold W
    exact snd_of (e_idx C (snd a C h.1).p (snd i C h.2).p hs) (fun _ => rfl) (fun _ _ _ z => nomatch z)
  | .slc a lo hi, sc, x, X, Wx, C, h => by
    unfold chk at h
    replace h := ckSlc_ok h
    obtain ⟨p, l, u, q, r, rfl, h⟩ := h
    simp only [Bool.and_eq_true] at h
    unfold W
    exact snd_of (e_slc C (snd a C h.1).p (sndo lo C h.2.1) (sndo hi C h.2.2)) (fun _ => rfl) (fun _ _ _ z => nomatch z)
  | .cm1 vs tg ik ia cond elt, sc, x, X, Wx, C, h => by
    unfold chk at h
    replace h := ckLC_ok h
    obtain ⟨e, t, i, ifs, sc', p, rfl, hn, h⟩ := h
    simp only [Bool.and_eq_true, decide_eq_true_eq] at h
    obtain ⟨h1, h2, h3, h4, h5, h6⟩ := h
    unfold W
    refine snd_of ?_ (fun _ => rfl) (fun _ _ _ z => nomatch z)
    have := e_lc (pos := p) (ik := ik) (elt := W T.S T.G elt) C h1 (by rw [ownN_snd]; exact h2) (sndi ia C h3) (fun X' C' => len_one (snds cond C' h4) h5) (fun X' C' => (snd elt C' h6).v) (notSet_ok _ hn)
    rw [ownN_snd] at this
    exact this
  | .cm2 vs vs1 tg ik ia tg1 ik1 ia1 elt, sc, x, X, Wx, C, h => by
    unfold chk at h
    replace h := ckLC2_ok h
    obtain ⟨e, t, i, t1, i1, sc', p, rfl, hn, hn1, h⟩ := h
    simp only [Bool.and_eq_true, List.all_eq_true, decide_eq_true_eq] at h
    obtain ⟨h1, h2, h3, h4, h5, h6, h7⟩ := h
    unfold W
    refine snd_of ?_ (fun _ => rfl) (fun _ _ _ z => nomatch z)
    have := e_lc2 (pos := p) (ik := ik) (ik1 := ik1) (elt := W T.S T.G elt) (vs1 := vs1) C h1 (by rw [ownN_snd]; exact h2) (by rw [ownN_snd]; exact h3) h4 (sndi ia C h5) (fun X' C' => sndi ia1 C' h6) (fun X' C' => (snd elt C' h7).v) (notSet_ok _ hn) (fun env x => notSet_ok env hn1 x)
    rw [ownN_snd] at this
    exact this
  | .call f as io, sc, x, X, Wx, C, h => by
    unfold chk at h
    rw [Bool.or_eq_true] at h
    rcases h with h | h
    · replace h := ckCall_ok h
      obtain ⟨n, p, e, es, q, rfl, hnd, hs, h⟩ := h
      simp only [Bool.and_eq_true] at h
      obtain ⟨h1, h2, h3, h4⟩ := h
      cases hf : FN[f]? with
      | none => rw [hf] at h2; cases h2
      | some pr =>
        rw [hf] at h2
        have h2 := of_decide_eq_true h2
        obtain ⟨nm, pn⟩ := pr
        subst h2
        unfold W
        exact snd_of (e_call C hf (gl_ok h1 C.es) (l_as (snds as C h4) hs h3) (nd_ok hnd).1 hs) (fun _ => rfl) (fun _ _ _ z => nomatch z)
    · rw [Bool.and_eq_true] at h
      obtain ⟨h0, h⟩ := h
      have := of_decide_eq_true h0
      subst this
      replace h := ckCallK_ok h
      obtain ⟨n, p, c, e, kp, q, rfl, hnd, h⟩ := h
      simp only [Bool.and_eq_true] at h
      obtain ⟨h1, h2, h3⟩ := h
      cases hf : FN[f]? with
      | none => rw [hf] at h2; cases h2
      | some pr =>
        rw [hf] at h2
        obtain ⟨nm, pn⟩ := pr
        simp only [Bool.and_eq_true, decide_eq_true_eq] at h2
        obtain ⟨rfl, rfl⟩ := h2
        obtain ⟨w, ew, hw⟩ := sndL_one (snds as C h3)
        unfold W
        rw [ew]
        exact snd_of (e_callK C hf (gl_ok h1 C.es) hw.v (nd_ok hnd).1) (fun _ => rfl) (fun _ _ _ z => nomatch z)
  | .blt b as, sc, x, X, Wx, C, h => by
    have gen : ∀ {nm : String} {f : Bool}, bltN1 b = some (nm, f) → ckCall (fun n e es => decide (n = Str.ofString nm) && (gl sc n && chks FN N as sc (e :: es))) x = true → Snd T F Wx X x (W T.S T.G (.blt b as)) := fun {nm f} hb h => by
      replace h := ckCall_ok h
      obtain ⟨n, p, e, es, q, rfl, hnd, hs, h⟩ := h
      simp only [Bool.and_eq_true, decide_eq_true_eq] at h
      obtain ⟨h1, h2, h3⟩ := h
      unfold W
      exact snd_of (bltN1_ok C hb h1 (gl_ok h2 C.es) hnd hs (l_ps (snds as C h3) hs)) (fun _ => rfl) (fun _ _ _ z => nomatch z)
    unfold chk at h
    split at h
    · rename_i t a
      replace h := ckCall_ok h
      obtain ⟨n, p, e, es, q, rfl, hnd, hs, h⟩ := h
      simp only [Bool.and_eq_true, decide_eq_true_eq] at h
      obtain ⟨h1, h2, h3, h4, h5⟩ := h
      split at h5
      · rename_i m pm
        have h5 := of_decide_eq_true h5
        subst h5; subst h1
        rw [List.all_cons, Bool.and_eq_true] at hs
        unfold W Ws Ws
        exact snd_of (b_isi C (snd a C h4).p (gl_ok h2 C.es) (gl_ok h3 C.es) hs.1) (fun _ => rfl) (fun _ _ _ z => nomatch z)
      · cases h5
    · rename_i a
      replace h := ckItems_ok h
      obtain ⟨p, e, ap, cp, q, rfl, h1, h2, h3, h4⟩ := h
      unfold W Ws Ws
      exact snd_of (e_items C (snd a C h4).p (gl_ok h1 C.es) h2 h3) (fun _ => rfl) (fun _ _ _ z => nomatch z)
    · rename_i a
      replace h := ckWords_ok h
      obtain ⟨e, ap, cp, rfl, h2, h3, h4⟩ := h
      unfold W Ws Ws
      exact snd_of (e_words (snd a C h4).p h2 h3) (fun _ => rfl) (fun _ _ _ z => nomatch z)
    · rename_i a
      replace h := ckSSet_ok h
      obtain ⟨p, p1, q, e, q1, rfl, h1, h2, h3⟩ := h
      rw [Bool.and_eq_true] at h1
      unfold W Ws Ws
      exact snd_of (e_sortSet C (snd a C h3).p (gl_ok h1.1 C.es) (gl_ok h1.2 C.es) h2) (fun _ => rfl) (fun _ _ _ z => nomatch z)
    · rename_i a
      replace h := ckLrng_ok h
      obtain ⟨p1, p2, p3, p4, as, rfl, h1, h2, h3⟩ := h
      replace h3 := one1_ok h3
      obtain ⟨y, rfl, n1, h3⟩ := h3
      unfold W Ws Ws
      exact snd_of (e_lrng1 C (gl_ok h1 C.es) (gl_ok h2 C.es) (snd a C h3).p n1) (fun _ => rfl) (fun _ _ _ z => nomatch z)
    · rename_i a b
      replace h := ckLrng_ok h
      obtain ⟨p1, p2, p3, p4, as, rfl, h1, h2, h3⟩ := h
      replace h3 := two1_ok h3
      obtain ⟨y, z, rfl, n1, n2, h3, h4⟩ := h3
      unfold W Ws Ws Ws
      exact snd_of (e_lrng2 C (gl_ok h1 C.es) (gl_ok h2 C.es) (snd a C h3).p (snd b C h4).p n1 n2) (fun _ => rfl) (fun _ _ _ z => nomatch z)
    · split at h
      · rename_i nm f hb
        exact gen hb h
      · cases h
  | .mth _ _ _, sc, x, X, Wx, C, h => by unfold chk at h; cases h
theorem snds : ∀ (es : Es) {sc : Scope} {xs : List Expr} {X : Cx} {Wx : WX}, Cxt T F FN N sc X Wx → chks FN N es sc xs = true → SndL T F Wx X xs (Ws T.S T.G es)
  | .nil, sc, xs, X, Wx, C, h => by
    unfold chks at h
    have := List.isEmpty_iff.mp h
    subst this
    unfold Ws
    exact trivial
  | .cons e r, sc, xs, X, Wx, C, h => by
    unfold chks at h
    cases xs with
    | nil => cases h
    | cons x xs =>
      have h : (chk FN N e sc x && chks FN N r sc xs) = true := h
      rw [Bool.and_eq_true] at h
      unfold Ws
      exact ⟨snd e C h.1, snds r C h.2⟩
theorem sndo : ∀ (es : Es) {sc : Scope} {o : Option Expr} {X : Cx} {Wx : WX}, Cxt T F FN N sc X Wx → chko FN N es sc o = true → PO X o (tO T F Wx (Ws T.S T.G es))
  | .nil, sc, o, X, Wx, C, h => by
    unfold chko at h
    have := Option.isNone_iff_eq_none.mp h
    subst this
    unfold Ws
    exact o_none
  | .cons e .nil, sc, o, X, Wx, C, h => by
    unfold chko at h
    cases o with
    | none => cases h
    | some x =>
      unfold Ws Ws
      exact o_some (snd e C h).p
  | .cons e (.cons _ _), sc, o, X, Wx, C, h => by
    unfold chko at h; cases h
theorem sndi : ∀ (es : Es) {ik : IK} {sc : Scope} {t i : Expr} {X : Cx} {Wx : WX}, Cxt T F FN N sc X Wx → chki FN N es ik sc t i = true → PI X t i (tI T F Wx ik (Ws T.S T.G es))
  | .nil, ik, sc, t, i, X, Wx, C, h => by unfold chki at h; cases h
  | .cons e .nil, ik, sc, t, i, X, Wx, C, h => by
    cases ik with
    | seq =>
      unfold chki at h
      unfold Ws Ws
      exact i_seq C (snd e C h).p
    | rng1 =>
      unfold chki at h
      replace h := ckCall_ok h
      obtain ⟨n, p, a, as, q, rfl, hnd, hs, h⟩ := h
      simp only [Bool.and_eq_true, decide_eq_true_eq] at h
      obtain ⟨rfl, h2, h3, h4⟩ := h
      have := List.isEmpty_iff.mp h3
      subst this
      rw [List.all_cons, Bool.and_eq_true] at hs
      unfold Ws Ws
      exact i_rng1 C (gl_ok h2 C.es) (snd e C h4).p hs.1
    | rng2 => unfold chki at h; cases h
    | enm =>
      unfold chki at h
      rw [Bool.and_eq_true] at h
      obtain ⟨h0, h⟩ := h
      replace h := ckCall_ok h
      obtain ⟨n, p, a, as, q, rfl, hnd, hs, h⟩ := h
      simp only [Bool.and_eq_true, decide_eq_true_eq] at h
      obtain ⟨rfl, h2, h3, h4⟩ := h
      have := List.isEmpty_iff.mp h3
      subst this
      rw [List.all_cons, Bool.and_eq_true] at hs
      unfold Ws Ws
      cases t with
      | Tuple l j pt => exact i_en C (gl_ok h2 C.es) (snd e C h4).p hs.1
      | _ => cases h0
    | zip => unfold chki at h; cases h
  | .cons e (.cons e2 .nil), ik, sc, t, i, X, Wx, C, h => by
    cases ik with
    | seq => unfold chki at h; cases h
    | rng1 => unfold chki at h; cases h
    | rng2 =>
      unfold chki at h
      replace h := ckCall_ok h
      obtain ⟨n, p, a, as, q, rfl, hnd, hs, h⟩ := h
      simp only [Bool.and_eq_true, decide_eq_true_eq] at h
      obtain ⟨rfl, h2, h3⟩ := h
      split at h3
      · rename_i b
        rw [Bool.and_eq_true] at h3
        simp only [List.all_cons, List.all_nil, Bool.and_true, Bool.and_eq_true] at hs
        unfold Ws Ws Ws
        exact i_rng2 C (gl_ok h2 C.es) (snd e C h3.1).p (snd e2 C h3.2).p hs.1 hs.2
      · cases h3
    | enm => unfold chki at h; cases h
    | zip =>
      unfold chki at h
      rw [Bool.and_eq_true] at h
      obtain ⟨h0, h⟩ := h
      replace h := ckCall_ok h
      obtain ⟨n, p, a, as, q, rfl, hnd, hs, h⟩ := h
      simp only [Bool.and_eq_true, decide_eq_true_eq] at h
      obtain ⟨rfl, h2, h3⟩ := h
      split at h3
      · rename_i b
        rw [Bool.and_eq_true] at h3
        simp only [List.all_cons, List.all_nil, Bool.and_true, Bool.and_eq_true] at hs
        have s1 := (snd e C h3.1).p
        have s2 := (snd e2 C h3.2).p
        have g2 := gl_ok h2 C.es
        unfold Ws Ws Ws
        cases t with
        | Tuple l j pt => exact i_zip C g2 s1 s2 hs.1 hs.2
        | _ => cases h0
      · cases h3
  | .cons e (.cons e2 (.cons _ _)), ik, sc, t, i, X, Wx, C, h => by
    rw [chki3] at h; cases h
end
end
end EV
set_option linter.all false
set_option maxRecDepth 20000
set_option autoImplicit false
/-! Statements against the text. -/
namespace EV
open PySem PySem.Spec L2

mutual
inductive S where
  | set (i : Nat) (e : E) | unp (is : List Nat) (e : E) | par (is : List Nat) (es : Es) | put (i : Nat) (k v : E)
  | aug (i : Nat) (op : BOp) (e : E) | app (i : Nat) (e : E) | upd (i : Nat) (e : E) | exp (e : E) | ret (e : E) | retN
  | if_ (t : E) (a b : Ss) | for_ (tg : Tg) (ik : IK) (ia : Es) (b : Ss) | raise (c : Nat) (es : Es)
  | tryO (a : Ss) (cs : List Nat) (d : D) | tryF (a : Ss) (c j n i : Nat)
  | pass | brk | cnt
inductive Ss where
  | nil | cons (s : S) (r : Ss)
end
section
variable (Sx : SPX) (G : Str → Option D)
mutual
def wS : S → Env → EK → Prop
  | .set i e => setW i (W Sx G e)
  | .unp is e => fun ρ K => (W Sx G e).v ρ (fun r ρ1 => ∃ d ρ2, r = .val d ∧ bindT (.tu is) d ρ1 = some ρ2 ∧ K.nx ρ2) K.ex
  | .par is es => parW is (Ws Sx G es)
  | .put i k v => putW i (W Sx G k) (W Sx G v)
  | .aug i op e => augW i op (W Sx G e)
  | .app i e => appW i (W Sx G e)
  | .upd i e => updW i (W Sx G e)
  | .exp e => fun ρ K => (W Sx G e).v ρ (fun _ ρ1 => K.nx ρ1) K.ex
  | .ret e => retW (W Sx G e)
  | .retN => fun ρ K => K.rt (.val .non) ρ
  | .if_ t a b => fun ρ K => (W Sx G t).t ρ (fun c ρ1 => if c = true then wSs a ρ1 K else wSs b ρ1 K) K.ex
  | .for_ tg ik ia b => forW tg ik (Ws Sx G ia) (wSs b)
  | .raise c es => fun ρ K => vals (Ws Sx G es) ρ (fun ds ρ1 => K.ex c ds ρ1) K.ex
  | .tryO a cs d => fun ρ K => wSs a ρ { K with ex := fun c ps ρ1 => if c ∈ cs then K.rt (.val d) ρ1 else K.ex c ps ρ1 }
  | .tryF a c j n i => fun ρ K => wSs a ρ { K with ex := fun c' ps ρ1 => if c' = c then n < ρ1.length ∧ ∃ d, ps[j]? = some d ∧ K.nx (put (put ρ1 n none) i (some (.val d))) else K.ex c' ps ρ1 }
  | .pass => fun ρ K => K.nx ρ
  | .brk => fun ρ K => K.bk ρ
  | .cnt => fun ρ K => K.ct ρ
def wSs : Ss → Env → EK → Prop
  | .nil => fun ρ K => K.nx ρ
  | .cons s r => fun ρ K => wS s ρ { K with nx := fun ρ1 => wSs r ρ1 K }
end
end

/-! ### the order of stores -/
def compSc : Expr → Option Scope
  | .ListComp _ _ s _ => some s
  | .SetComp _ _ s _ => some s
  | .DictComp _ _ _ s _ => some s
  | _ => none
def swN (sc : Scope) (value : Expr) (x : Str) (p : Pos) : Bool := match compSc value with
  | none => false
  | some s => sc.names.lookup x == some .local && p.line == value.pos.line && !(s.names.any fun (n, k) => n == x && (k == .local || k == .cell))
theorem sw_name {sc : Scope} {value : Expr} {x : Str} {p : Pos} {l : Nat} {env : PySem.Env} (hk : env.scope.kind = .function) (he : env.scope = sc) : swapsWith value (some (.Name x p)) l env = pure (swN sc value x p) := by
  have hb : env.blockKind = .function := by unfold Env.blockKind; rw [hk]; rfl
  have hn : ∀ y, env.kindOf y = sc.names.lookup y := fun y => by unfold Env.kindOf; rw [he]
  cases value <;> first
    | rfl
    | (unfold swapsWith swN compSc; simp only [hb, hn]; rfl)
theorem sw_tup {value : Expr} {es : List Expr} {k : Nat} {p : Pos} {l : Nat} {env : PySem.Env} : swapsWith value (some (.Tuple es k p)) l env = pure false := by
  cases value <;> rfl
theorem sw_sub {value o i : Expr} {p : Pos} {l : Nat} {env : PySem.Env} : swapsWith value (some (.Subscript o i p)) l env = pure false := by
  cases value <;> rfl
def notComp (e : Expr) : Bool := (compSc e).isNone
theorem sw_none {value : Expr} {l : Nat} {env : PySem.Env} (h : notComp value = true) : swapsWith value none l env = pure false := by
  cases value <;> first | rfl | cases h
def notTup : Expr → Bool
  | .Tuple _ _ _ => false
  | _ => true
theorem ss_none {value : Expr} {es : List Expr} {k : Nat} {p : Pos} {env : PySem.Env} (h : notTup value = true) : swappedStores [.Tuple es k p] value env = pure none := by
  cases value <;> first | rfl | cases h
/-- what swappedStores says -/
def ssN (sc : Scope) (ts vs : List Expr) : Option (Option (List Str)) :=
  if !(ts.length == 2 || ts.length == 3) || vs.length != ts.length then some none else
  if vs.any (fun | .Starred .. => true | _ => false) then some none else
  let line := (ts.head?.map (·.pos.line)).getD 0
  let names := ts.filterMap fun
    | .Name id pos => if sc.names.lookup id == some .local && pos.line == line then some id else none
    | _ => none
  if names.length != ts.length || names.eraseDups.length != names.length then some none else
  if vs.all (foldedForSure 8) then some none else
  if vs.all (constantsAlone 8) then none else some (some names)
theorem ss_eq {sc : Scope} {ts vs : List Expr} {k k2 : Nat} {p p2 : Pos} {env : PySem.Env} {r : Option (List Str)} (hk : env.scope.kind = .function) (he : env.scope = sc) (h : ssN sc ts vs = some r) :
    swappedStores [.Tuple ts k p] (.Tuple vs k2 p2) env = pure r := by
  have hb : env.blockKind = .function := by unfold Env.blockKind; rw [hk]; rfl
  have hn : ∀ y, env.kindOf y = sc.names.lookup y := fun y => by unfold Env.kindOf; rw [he]
  unfold ssN at h
  unfold swappedStores
  simp only [hb, hn, bne_self_eq_false, Bool.or_false]
  by_cases c1 : (!(ts.length == 2 || ts.length == 3) || vs.length != ts.length) = true
  · rw [if_pos c1] at h; cases h; rw [if_pos c1] <;> rfl
  rw [if_neg c1] at h
  rw [if_neg c1]
  split at h
  · rename_i c2; cases h; exact if_pos c2
  rename_i c2
  refine Eq.trans (if_neg c2) ?_
  dsimp only at h
  split at h
  · rename_i c3; cases h; exact if_pos c3
  rename_i c3
  refine Eq.trans (if_neg c3) ?_
  split at h
  · rename_i c4; cases h; exact if_pos c4
  rename_i c4
  refine Eq.trans (if_neg c4) ?_
  split at h
  · cases h
  rename_i c5
  refine Eq.trans (if_neg c5) ?_
  cases h
  rfl
end EV
set_option linter.all false
set_option maxRecDepth 20000
set_option autoImplicit false
/-! raise, try; the check of statements and what it gives. -/
namespace EV
open PySem PySem.Spec L2

section
variable {T : Tb} {F : Fm} {FN XN : List (Str × List Str)} {CN : List (Str × List Nat)} {N : List Str} {sc : Scope} {X : Cx} {Wx : WX} {O0 : AP1}
/-! ### exceptions -/
def SameX (X X' : Cx) : Prop := X'.prog = X.prog ∧ X'.w = X.w ∧ X'.K = X.K ∧ X'.mg = X.mg ∧ X'.base = X.base ∧ X'.A = X.A ∧ X'.calm = true
/-- nm(..) makes an exception with these fields -/
def MkOk (X : Cx) (nm : Str) (Ca : Addr) (fs : List Str) : Prop := ∀ (p pos : Pos) (e : Expr) (es : List Expr) (t : TA), PA X (e :: es) t → (e :: es).all notStar = true → Gl X nm → nd nm = true →
  PMk X (.Call (.Name nm p) (e :: es) [] pos) (fun σ H Q => t σ H fun vs H1 => vs.length = fs.length ∧ ∀ dd, H1 dd = none → Q (.ref Ca) (some dd) (upd H1 dd (.xd (fs.zip vs))))
structure XFacts (T : Tb) (XN : List (Str × List Str)) (CN : List (Str × List Nat)) (X : Cx) : Prop where
  made : ∀ c nm fs, XN[c]? = some (nm, fs) → c < T.nC ∧ (T.CA c).2 = fs ∧ fs ≠ [] ∧ fs.Nodup ∧ ∀ X', SameX X X' → MkOk X' nm (T.CA c).1 fs
  cat : ∀ x cs, (x, cs) ∈ CN → ∃ a, X.mg x = some (.ref a) ∧ ∀ c, c < T.nC → PySem.W.exmOne X.K (.ref (T.CA c).1) (.ref a) = some (decide (c ∈ cs))
  fld : ∀ c nm fs, XN[c]? = some (nm, fs) → XfC X.K (T.CA c).1 ∧ ∀ f, f ∈ fs → PySem.W.findIn X.K (.ref (T.CA c).1) f = some none
theorem XFacts.tr (h : XFacts T XN CN X) (hc : X.calm = true) (pn : List (Addr × Obj)) (xe : Value → Shared → Prop) : XFacts T XN CN (X.tr pn xe) where
  made := fun c nm fs e => h.made c nm fs e
  cat := fun x cs e => h.cat x cs e
  fld := fun c nm fs e => h.fld c nm fs e
theorem Cxf.tr (C : Cxf T F FN N sc X Wx) {W : WX} {pn : List (Addr × Obj)} {xe : Value → Shared → Prop} (tk : Takes (X.tr pn xe) W) (po : PassesOwn (model X.prog X.w) X.A X.env xe) : Cxf T F FN N sc (X.tr pn xe) W where
  eN := C.eN
  nd := C.nd
  es := C.es
  glo := C.glo
  calm := C.calm
  gd := C.gd
  tk := tk
  po := po
  st := C.st
  fr := C.fr
  kd := C.kd
  fn := C.fn
theorem s_raise {c : Nat} {nm : Str} {fs : List Str} {p pos pos' : Pos} {e : Expr} {es : List Expr} {ws : List WE} (C : Cxf T F FN N sc X Wx) (XF : XFacts T XN CN X) (hO : ∀ a, O0 a → OAt F.H0 a) (hc : XN[c]? = some (nm, fs)) (hg : Gl X nm) (hn : nd nm = true) (hs : (e :: es).all notStar = true) (hl : ws.length = fs.length) (h : PA X (e :: es) (tVs T F Wx ws)) :
    PS X (.Raise (some (.Call (.Name nm p) (e :: es) [] pos)) none pos') (tSt T F Wx O0 fun ρ K => vals ws ρ (fun ds ρ1 => K.ex c ds ρ1) K.ex) := by
  obtain ⟨c1, c2, c3, c4, c5⟩ := XF.made c nm fs hc
  have mk := c5 X ⟨rfl, rfl, rfl, rfl, rfl, rfl, C.calm⟩ p pos e es _ h hs hg hn
  refine PS.imp (L2.ps_raise C.calm C.tk mk) fun D σ H ⟨ρ, O, K, R, fr, w, s⟩ => ?_
  refine ⟨ρ, O, _, K.ex, R, w, fun ds ρ1 vs H1 O1 el hp m rr => ?_, s.x hO R fr⟩
  · have hl2 : ds.length = fs.length := el.trans hl
    refine ⟨by rw [← rr.len]; exact hl2, fun dd hdd => ?_⟩
    have g : Grow H1 O1 (upd H1 dd (.xd (fs.zip vs))) O1 := Grow.new hdd m.rel.tr
    have ms := (Ms.mv hO R fr m).trans (Ms.mv hO m.rel (fr_stp hO R fr m.stp) (Mv.grow m.rel g))
    refine s.ex c ds ρ1 _ _ σ _ O1 hp ms ⟨c1, rfl, by rw [c2]; exact hl2, ?_⟩
    exact .inr ⟨dd, vs, rfl, by rw [c2, upd_same], RepL.stay g.stay _ _ rr⟩
end
end EV
set_option linter.all false
set_option maxRecDepth 20000
set_option autoImplicit false
/-! try; the check of statements and what it gives. -/
namespace EV
open PySem PySem.Spec L2

section
variable {T : Tb} {F : Fm} {FN XN : List (Str × List Str)} {CN : List (Str × List Nat)} {N : List Str} {sc : Scope} {X : Cx} {Wx : WX} {O0 : AP1}
def cV : D → V
  | .bl b => .bl b | .int i => .int i | .str x => .str x | _ => .non
theorem cst_pe {d : D} {c : Const} {j : Nat} {p : Pos} {Y : Cx} (h : cstOk d c = true) : PE Y (.Constant c j p) (tC (cV d)) ∧ ∀ H O, Rep F.toFk H O d (cV d) := by
  cases d <;> cases c <;> first
    | (cases h; done)
    | exact ⟨pe_non, fun _ _ => by unfold Rep; rfl⟩
    | (cases (eq_of_beq h); exact ⟨pe_bl, fun _ _ => by unfold Rep; rfl⟩)
    | (cases (of_decide_eq_true h); exact ⟨pe_int, fun _ _ => by unfold Rep; rfl⟩)
    | (cases (of_decide_eq_true h); exact ⟨pe_str, fun _ _ => by unfold Rep; rfl⟩)
theorem s_tryO {x : Str} {cs : List Nat} {d : D} {c : Const} {j : Nat} {p1 p2 p3 p4 p5 : Pos} {body : List Stmt} {wb : Env → EK → Prop} (C : Cxf T F FN N sc X Wx) (XF : XFacts T XN CN X) (hO : ∀ a, O0 a → OAt F.H0 a) (hx : (x, cs) ∈ CN) (hg : Gl X x) (hn : nd x = true) (hd : cstOk d c = true)
    (hb : ∀ (X' : Cx) (W' : WX), Cxf T F FN N sc X' W' → XFacts T XN CN X' → PSs X' body (tSt T F W' O0 wb)) :
    PS X (.Try body [.ExceptHandler (some (.Name x p1)) none [.Return (some (.Constant c j p2)) p3] p4] [] [] p5) (tSt T F Wx O0 fun ρ K => wb ρ { K with ex := fun c ps ρ1 => if c ∈ cs then K.rt (.val d) ρ1 else K.ex c ps ρ1 }) := by
  obtain ⟨a, hm, hcat⟩ := XF.cat x cs hx
  obtain ⟨n1, n2, n3⟩ := nd_ok hn
  have hN : Names X x (.ref a) := ⟨hg, n1, .inl hm⟩
  refine PS.imp (ps_try_only (tb := fun W => tSt T F W O0 wb) (ts := fun _ _ _ => tRet (tC (cV d))) C.st C.fr hN C.tk (fun W pn xe tk po => hb _ _ (C.tr tk po) (XF.tr C.calm pn xe)) (fun a oe cls dd pn hz hf => pss_one (ps_ret (cst_pe (F := F) hd).1))) fun D σ H ⟨ρ, O, K, R, fr, w, s⟩ => ?_
  refine ⟨ρ, O, _, R, fr, w, ⟨s.nx, s.rt, s.bk, s.ct, fun c' ps ρ' cls dd σ' H' O' hx m er => ?_⟩⟩
  obtain ⟨c1, rfl, er2⟩ := id er
  refine ⟨decide (c' ∈ cs), hcat c' c1, fun e a' na => ?_, fun e => ?_⟩
  · have e := of_decide_eq_true e
    simp only [if_pos e] at hx
    exact s.rt (.val d) ρ' _ σ' H' O' hx m ((cst_pe (F := F) (Y := X) (j := j) (p := p2) hd).2 H' O')
  · have e := of_decide_eq_false e
    simp only [if_neg e] at hx
    exact s.ex c' ps ρ' _ dd σ' H' O' hx m er
theorem Rel.none {ρ : Env} {σ : L2.St} {H : Hp} {O : AP1} (R : Rel F ρ σ H O) (n : Nat) : Rel F (EV.put ρ n none) σ H O where
  sl := fun i s h => by
    rcases get_put_cases h with ⟨_, e⟩ | ⟨_, h⟩
    · cases e
    · exact R.sl i s h
  ap := fun i j s t a hi hj os ot ei ej => by
    rcases get_put_cases hi with ⟨_, e⟩ | ⟨_, hi⟩
    · cases e
    rcases get_put_cases hj with ⟨_, e⟩ | ⟨_, hj⟩
    · cases e
    exact R.ap i j s t a hi hj os ot ei ej
  tr := R.tr
  ln := by rw [put_length]; exact R.ln
  h0 := R.h0
theorem Rel.free {ρ : Env} {σ : L2.St} {H : Hp} {O : AP1} (R : Rel F ρ σ H O) {n : Nat} {o : Option V} (h : get ρ n = Option.none) : Rel F ρ (σ.set n o) H O where
  sl := fun i s hi => by
    have e : n ≠ i := fun z => by rw [z] at h; rw [h] at hi; cases hi
    rw [List.getElem?_set_ne e]
    exact R.sl i s hi
  ap := fun i j s t a hi hj os ot ei ej => by
    have e : n ≠ i := fun z => by rw [z] at h; rw [h] at hi; cases hi
    have e' : n ≠ j := fun z => by rw [z] at h; rw [h] at hj; cases hj
    rw [List.getElem?_set_ne e] at ei
    rw [List.getElem?_set_ne e'] at ej
    exact R.ap i j s t a hi hj os ot ei ej
  tr := R.tr
  ln := by rw [List.length_set]; exact R.ln
  h0 := R.h0
theorem get_put_none {ρ : Env} {n : Nat} : get (EV.put ρ n Option.none) n = Option.none := by
  cases h : get (EV.put ρ n Option.none) n with
  | none => rfl
  | some s =>
    rcases get_put_cases h with ⟨_, e⟩ | ⟨e, _⟩
    · cases e
    · exact absurd rfl e
theorem zip_lookup {f : Str} : ∀ {fs : List Str} {vs : List V} {j : Nat} {v : V}, fs.Nodup → fs[j]? = some f → vs[j]? = some v → (fs.zip vs).lookup f = some v
  | a :: fs, b :: vs, 0, v, nd, h1, h2 => by
    cases h1; cases h2
    rw [List.zip_cons_cons, List.lookup_cons]
    simp
  | a :: fs, b :: vs, j + 1, v, nd, h1, h2 => by
    rw [List.nodup_cons] at nd
    have h1 : fs[j]? = some f := h1
    have h2 : vs[j]? = some v := h2
    rw [List.zip_cons_cons, List.lookup_cons]
    have : (f == a) = false := by
      simp only [beq_eq_false_iff_ne]
      intro z
      subst z
      exact nd.1 (List.mem_of_getElem? h1)
    rw [this]
    exact zip_lookup nd.2 h1 h2
  | [], _, _, _, _, h, _ => by simp at h
  | _ :: _, [], _, _, _, _, h => by simp at h
theorem s_tryF {x y z f nm : Str} {fs : List Str} {c0 fj n i : Nat} {p1 p2 p3 p4 p5 p6 p7 : Pos} {body : List Stmt} {wb : Env → EK → Prop} (C : Cxf T F FN N sc X Wx) (XF : XFacts T XN CN X) (hO : ∀ a, O0 a → OAt F.H0 a) (hx : (x, [c0]) ∈ CN) (hg : Gl X x) (hn : nd x = true)
    (hc : XN[c0]? = some (nm, fs)) (hf : fs[fj]? = some f) (hny : N[n]? = some y) (hyl : sc.names.lookup y = some .local) (hiz : N[i]? = some z) (hzl : sc.names.lookup z = some .local) (hni : n ≠ i) (hnd : nd y = true)
    (hb : ∀ (X' : Cx) (W' : WX), Cxf T F FN N sc X' W' → XFacts T XN CN X' → PSs X' body (tSt T F W' O0 wb)) :
    PS X (.Try body [.ExceptHandler (some (.Name x p1)) (some y) [.Assign [.Name z p2] (.Attribute (.Name y p3) f p4) p5] p6] [] [] p7) (tSt T F Wx O0 fun ρ K => wb ρ { K with ex := fun c' ps ρ1 => if c' = c0 then n < ρ1.length ∧ ∃ d, ps[fj]? = some d ∧ K.nx (EV.put (EV.put ρ1 n none) i (some (.val d))) else K.ex c' ps ρ1 }) := by
  obtain ⟨a, hm, hcat⟩ := XF.cat x [c0] hx
  obtain ⟨c1, c2, c3, c4, c5⟩ := XF.made c0 nm fs hc
  obtain ⟨xf, hff⟩ := XF.fld c0 nm fs hc
  obtain ⟨n1, n2, n3⟩ := nd_ok hn
  obtain ⟨m1, m2, m3⟩ := nd_ok hnd
  have hN : Names X x (.ref a) := ⟨hg, n1, .inl hm⟩
  have hXN : X.N.Nodup := by rw [C.eN]; exact C.nd
  have hk : X.env.kindOf y = some .local := by unfold Env.kindOf; rw [C.es]; exact hyl
  have hkz : X.env.scope.names.lookup z = some .local := by rw [C.es]; exact hzl
  have hky : X.env.scope.names.lookup y = some .local := by rw [C.es]; exact hyl
  refine PS.imp (L2.ps_try_as (n := y) (i := n) (tb := fun W => tSt T F W O0 wb) (ts := fun a' cls dd => tAsg (tXf a' cls dd (T.CA c0).1 f (tVar n)) (gName i)) C.st C.fr hXN (by rw [C.eN]; exact hny) hk hN C.tk (fun W pn xe tk po => hb _ _ (C.tr tk po) (XF.tr C.calm pn xe))
    (fun a' oe cls dd pn hz hfl => pss_one (ps_set (X := X.suite a' ((a', oe) :: pn)) (i := i) (by exact hXN) (by show X.N[i]? = _; rw [C.eN]; exact hiz) (.inl hkz) (pe_xf xf (hff f (List.mem_of_getElem? hf)) hz hfl (pe_var (X := X.suite a' ((a', oe) :: pn)) (by show X.N[n]? = _; rw [C.eN]; exact hny) (.inl hky) m1 m2)) rfl (.inr hkz)))) fun D σ H ⟨ρ, O, K, R, fr, w, s⟩ => ?_
  refine ⟨ρ, O, _, R, fr, w, ⟨s.nx, s.rt, s.bk, s.ct, fun c' ps ρ' cls dd σ' H' O' hx m er => ?_⟩⟩
  obtain ⟨e1, rfl, e2, e3⟩ := id er
  refine ⟨decide (c' ∈ [c0]), hcat c' e1, fun e a' na => ?_, fun e => ?_⟩
  · have e : c' = c0 := by simpa using of_decide_eq_true e
    subst e
    simp only [if_true] at hx
    obtain ⟨hnl, d, hd, hx⟩ := hx
    rw [m.rel.ln] at hnl
    rcases e3 with e3 | ⟨da, vs, rfl, hda, rl⟩
    · rw [e3] at hd; simp at hd
    obtain ⟨v, hv, rv⟩ := rl.get hd
    refine ⟨.ref a', by rw [List.getElem?_set_self hnl], rfl, rfl, da, _, v, rfl, hda, by rw [c2]; exact zip_lookup c4 hf hv, ?_⟩
    show D.nx (((σ'.set n (some (.ref a'))).set i (some v)).set n Option.none) H'
    have R1 : Rel F (EV.put ρ' n Option.none) (σ'.set n (some (.ref a'))) H' O' := (m.rel.none n).free get_put_none
    have R2 := R1.put (i := i) (s := .val d) rv (fun z => z.elim)
    have g : get (EV.put (EV.put ρ' n Option.none) i (some (.val d))) n = Option.none := by rw [get_put_ne (Ne.symm hni)]; exact get_put_none
    exact s.nx _ _ H' O' hx ⟨R2.free g, m.fr, m.st, m.al⟩
  · have e : ¬ c' = c0 := by simpa using of_decide_eq_false e
    simp only [if_neg e] at hx
    exact s.ex c' ps ρ' _ dd σ' H' O' hx m er
end
end EV
set_option linter.all false
set_option maxRecDepth 20000
set_option autoImplicit false
/-! The check of statements and what it gives. -/
namespace EV
open PySem PySem.Spec L2

def kAsg (k : Expr → Expr → Bool) : Stmt → Bool
  | .Assign [t] v _ => k t v
  | _ => false
theorem kAsg_ok {k : Expr → Expr → Bool} {s : Stmt} (h : kAsg k s = true) : ∃ t v p, s = .Assign [t] v p ∧ k t v = true := by
  unfold kAsg at h
  split at h
  · exact ⟨_, _, _, rfl, h⟩
  · cases h
def kExpr (k : Expr → Bool) : Stmt → Bool
  | .Expr e _ => k e
  | _ => false
theorem kExpr_ok {k : Expr → Bool} {s : Stmt} (h : kExpr k s = true) : ∃ e p, s = .Expr e p ∧ k e = true := by
  cases s <;> first | exact ⟨_, _, rfl, h⟩ | cases h
def kRet (k : Expr → Bool) : Stmt → Bool
  | .Return (some e) _ => k e
  | _ => false
theorem kRet_ok {k : Expr → Bool} {s : Stmt} (h : kRet k s = true) : ∃ e p, s = .Return (some e) p ∧ k e = true := by
  unfold kRet at h
  split at h
  · exact ⟨_, _, rfl, h⟩
  · cases h
def kIf (k : Expr → List Stmt → List Stmt → Bool) : Stmt → Bool
  | .If c a b _ => k c a b
  | _ => false
theorem kIf_ok {k : Expr → List Stmt → List Stmt → Bool} {s : Stmt} (h : kIf k s = true) : ∃ c a b p, s = .If c a b p ∧ k c a b = true := by
  cases s <;> first | exact ⟨_, _, _, _, rfl, h⟩ | cases h
def kFor (k : Expr → Expr → List Stmt → Bool) : Stmt → Bool
  | .For t i b [] _ => notSet i && k t i b
  | _ => false
theorem kFor_ok {k : Expr → Expr → List Stmt → Bool} {s : Stmt} (h : kFor k s = true) : ∃ t i b p, s = .For t i b [] p ∧ notSet i = true ∧ k t i b = true := by
  unfold kFor at h
  split at h
  · rw [Bool.and_eq_true] at h; exact ⟨_, _, _, _, rfl, h.1, h.2⟩
  · cases h
def kAug (o : Operator) (k : Expr → Expr → Bool) : Stmt → Bool
  | .AugAssign t o' v _ => decide (o' = o) && k t v
  | _ => false
theorem kAug_ok {o : Operator} {k : Expr → Expr → Bool} {s : Stmt} (h : kAug o k s = true) : ∃ t v p, s = .AugAssign t o v p ∧ k t v = true := by
  cases s with
  | AugAssign t o' v p =>
    have h : (decide (o' = o) && k t v) = true := h
    rw [Bool.and_eq_true] at h
    have := of_decide_eq_true h.1
    subst this
    exact ⟨_, _, _, rfl, h.2⟩
  | _ => cases h
def kRaise (k : Expr → Bool) : Stmt → Bool
  | .Raise (some e) none _ => k e
  | _ => false
theorem kRaise_ok {k : Expr → Bool} {s : Stmt} (h : kRaise k s = true) : ∃ e p, s = .Raise (some e) none p ∧ k e = true := by
  unfold kRaise at h
  split at h
  · exact ⟨_, _, rfl, h⟩
  · cases h
def kTryO (k : List Stmt → Str → Const → Bool) : Stmt → Bool
  | .Try b [.ExceptHandler (some (.Name x _)) none [.Return (some (.Constant c _ _)) _] _] [] [] _ => k b x c
  | _ => false
theorem kTryO_ok {k : List Stmt → Str → Const → Bool} {s : Stmt} (h : kTryO k s = true) : ∃ b x p1 c j p2 p3 p4 p5, s = .Try b [.ExceptHandler (some (.Name x p1)) none [.Return (some (.Constant c j p2)) p3] p4] [] [] p5 ∧ k b x c = true := by
  unfold kTryO at h
  split at h
  · exact ⟨_, _, _, _, _, _, _, _, _, rfl, h⟩
  · cases h
def kTryF (k : List Stmt → Str → Str → Str → Str → Bool) : Stmt → Bool
  | .Try b [.ExceptHandler (some (.Name x _)) (some y) [.Assign [.Name z _] (.Attribute (.Name y' _) f _) _] _] [] [] _ => decide (y' = y) && k b x y z f
  | _ => false
theorem kTryF_ok {k : List Stmt → Str → Str → Str → Str → Bool} {s : Stmt} (h : kTryF k s = true) : ∃ b x p1 y z p2 p3 f p4 p5 p6 p7, s = .Try b [.ExceptHandler (some (.Name x p1)) (some y) [.Assign [.Name z p2] (.Attribute (.Name y p3) f p4) p5] p6] [] [] p7 ∧ k b x y z f = true := by
  unfold kTryF at h
  split at h
  · rw [Bool.and_eq_true] at h
    have := of_decide_eq_true h.1
    subst this
    exact ⟨_, _, _, _, _, _, _, _, _, _, _, _, rfl, h.2⟩
  · cases h
def isCm1 : E → Bool
  | .cm1 _ _ _ _ _ _ => true
  | _ => false
/-- x.append(e) -/
def kApp (k : Str → Expr → Bool) : Stmt → Bool
  | .Expr (.Call (.Attribute (.Name x _) m ap) [e] [] cp) _ => decide (m = ("append" : Str)) && ((ap.endLine == cp.line) && (notStar e && k x e))
  | _ => false
theorem kApp_ok {k : Str → Expr → Bool} {s : Stmt} (h : kApp k s = true) : ∃ x p ap e cp q, s = .Expr (.Call (.Attribute (.Name x p) ("append" : Str) ap) [e] [] cp) q ∧ (ap.endLine == cp.line) = true ∧ notStar e = true ∧ k x e = true := by
  unfold kApp at h
  split at h
  · simp only [Bool.and_eq_true, decide_eq_true_eq] at h
    obtain ⟨rfl, h1, h2, h3⟩ := h
    exact ⟨_, _, _, _, _, _, rfl, h1, h2, h3⟩
  · cases h
/-- x.update(e) -/
def kUpd (k : Str → Expr → Bool) : Stmt → Bool
  | .Expr (.Call (.Attribute (.Name x _) m ap) [e] [] cp) _ => decide (m = ("update" : Str)) && ((ap.endLine == cp.line) && (notStar e && k x e))
  | _ => false
theorem kUpd_ok {k : Str → Expr → Bool} {s : Stmt} (h : kUpd k s = true) : ∃ x p ap e cp q, s = .Expr (.Call (.Attribute (.Name x p) ("update" : Str) ap) [e] [] cp) q ∧ (ap.endLine == cp.line) = true ∧ notStar e = true ∧ k x e = true := by
  unfold kUpd at h
  split at h
  · simp only [Bool.and_eq_true, decide_eq_true_eq] at h
    obtain ⟨rfl, h1, h2, h3⟩ := h
    exact ⟨_, _, _, _, _, _, rfl, h1, h2, h3⟩
  · cases h

section
variable (FN XN : List (Str × List Str)) (CN : List (Str × List Nat)) (N : List Str) (sc : Scope)
def isLoc (x : Str) : Bool := sc.names.lookup x == some .local
mutual
def chkS : S → Stmt → Bool
  | .set i e, st => kAsg (fun t v => match t with
      | .Name x p => nmOk N sc i (.Name x p) && (chk FN N e sc v && (!swN sc v x p || isCm1 e))
      | _ => false) st
  | .unp is e, st => kAsg (fun t v => match t with
      | .Tuple es _ _ => nmsOk N sc is es && (notTup v && chk FN N e sc v)
      | _ => false) st
  | .par is evs, st => kAsg (fun t v => match t, v with
      | .Tuple es _ _, .Tuple vs _ _ => nmsOk N sc is es && (vs.all notStar && (chks FN N evs sc vs && (match ssN sc es vs with
          | some none => decide (is.length ≤ 1000)
          | some (some names) => (match is, es, vs, names with
            | [i, j], [.Name x _, .Name y _], [_, _], [x', y'] => decide (i ≠ j) && (isLoc sc x && (isLoc sc y && (decide (x' = x) && decide (y' = y))))
            | [i, j, l], [.Name x _, .Name y _, .Name z _], [_, _, _], [x', y', z'] => decide (i ≠ j) && (decide (i ≠ l) && (decide (j ≠ l) && (isLoc sc x && (isLoc sc y && (isLoc sc z && (decide (x' = x) && (decide (y' = y) && decide (z' = z))))))))
            | _, _, _, _ => false)
          | none => false)))
      | _, _ => false) st
  | .put i k v, st => kAsg (fun t w => match t with
      | .Subscript (.Name x p) ek _ => chk FN N (.var i) sc (.Name x p) && (chk FN N k sc ek && chk FN N v sc w)
      | _ => false) st
  | .aug i op e, st => (match op with | .add => true | .sub => true | _ => false) && kAug (opB op) (fun t v => nmOk N sc i t && chk FN N e sc v) st
  | .app i e, st => kApp (fun x a => chk FN N (.var i) sc (.Name x ⟨0, 0, 0, 0⟩) && chk FN N e sc a) st
  | .upd i e, st => kUpd (fun x a => chk FN N (.var i) sc (.Name x ⟨0, 0, 0, 0⟩) && chk FN N e sc a) st
  | .exp e, st => kExpr (fun x => notComp x && chk FN N e sc x) st
  | .ret e, st => kRet (chk FN N e sc) st
  | .retN, st => (match st with | .Return none _ => true | _ => false)
  | .if_ t a b, st => kIf (fun c x y => chk FN N t sc c && (chkSs a x && chkSs b y)) st
  | .for_ tg ik ia b, st => kFor (fun t i body => tgOk N sc tg.ix tg t && (chki FN N ia ik sc t i && chkSs b body)) st
  | .raise c es, st => kRaise (ckCall (fun n e r => gl sc n && ((match XN[c]? with | some p => decide (p.1 = n) && decide (p.2.length = (e :: r).length) | none => false) && chks FN N es sc (e :: r)))) st
  | .tryO a cs d, st => kTryO (fun b x c => decide ((x, cs) ∈ CN) && (gl sc x && (nd x && (cstOk d c && chkSs a b)))) st
  | .tryF a c j n i, st => kTryF (fun b x y z f => decide ((x, [c]) ∈ CN) && (gl sc x && (nd x && ((match XN[c]? with | some p => decide (p.2[j]? = some f) | none => false) && (decide (N[n]? = some y) && (isLoc sc y && (decide (N[i]? = some z) && (isLoc sc z && (decide (n ≠ i) && (nd y && chkSs a b)))))))))) st
  | .pass, st => (match st with | .Pass _ => true | _ => false)
  | .brk, st => (match st with | .Break _ => true | _ => false)
  | .cnt, st => (match st with | .Continue _ => true | _ => false)
def chkSs : Ss → List Stmt → Bool
  | .nil, l => l.isEmpty
  | .cons s r, l => match l with
    | x :: xs => chkS s x && chkSs r xs
    | [] => false
end
end
section
variable {T : Tb} {F : Fm} {FN XN : List (Str × List Str)} {CN : List (Str × List Nat)} {N : List Str} {sc : Scope} {O0 : AP1}
theorem loc_ok {x : Str} (h : isLoc sc x = true) : sc.names.lookup x = some .local := by
  unfold isLoc at h
  exact eq_of_beq h
theorem ws_len {S : SPX} {G : Str → Option D} : ∀ {es : Es} {xs : List Expr} {X : Cx} {Wx : WX}, SndL T F Wx X xs (Ws S G es) → (Ws S G es).length = xs.length
  | .nil, [], _, _, _ => by unfold Ws; rfl
  | .nil, _ :: _, _, _, h => by unfold Ws at h; exact h.elim
  | .cons e r, [], _, _, h => by unfold Ws at h; exact h.elim
  | .cons e r, x :: xs, _, _, h => by
    unfold Ws at h ⊢
    simp [ws_len h.2]
theorem nms1 {i : Nat} {e : Expr} {is : List Nat} {es : List Expr} (h : nmsOk N sc (i :: is) (e :: es) = true) : nmOk N sc i e = true ∧ nmsOk N sc is es = true := by
  have h : (nmOk N sc i e && nmsOk N sc is es) = true := h
  rw [Bool.and_eq_true] at h
  exact h
theorem nm_ix {i : Nat} {x : Str} {p : Pos} (h : nmOk N sc i (.Name x p) = true) : N[i]? = some x := by
  have h : (decide (N[i]? = some x) && stOk sc x) = true := h
  rw [Bool.and_eq_true, decide_eq_true_eq] at h
  exact h.1
/-- name = [..] on one line -/
theorem snd_setLc {X : Cx} {Wx : WX} {e : E} {v : Expr} {i : Nat} {x : Str} {p pos : Pos} (C : Cxf T F FN N sc X Wx) (hO : ∀ a, O0 a → OAt F.H0 a) (hi : N[i]? = some x) (h : chk FN N e sc v = true) (hs : swN sc v x p = true) (he : isCm1 e = true) :
    PS X (.Assign [.Name x p] v pos) (tSt T F Wx O0 (setW i (W T.S T.G e))) := by
  cases e with
  | cm1 vs tg ik ia cond elt =>
    unfold chk at h
    replace h := ckLC_ok h
    obtain ⟨e, t, it, ifs, sc', q, rfl, hn, h⟩ := h
    simp only [Bool.and_eq_true, decide_eq_true_eq] at h
    obtain ⟨h1, h2, h3, h4, h5, h6⟩ := h
    have hs : (sc.names.lookup x == some .local && p.line == q.line && !(sc'.names.any fun (n, k) => n == x && (k == .local || k == .cell))) = true := hs
    simp only [Bool.and_eq_true, Bool.not_eq_true'] at hs
    obtain ⟨⟨s1, s2⟩, s3⟩ := hs
    have c1 := C.toCxt
    have := s_setLc (pos := q) (spos := pos) (py := p) (ik := ik) (i := i) (y := x) (elt := W T.S T.G elt) c1 h1 (by rw [ownN_snd]; exact h2) (sndi ia c1 h3) (fun X' C' => len_one (snds cond C' h4) h5) (fun X' C' => (snd elt C' h6).v) (notSet_ok _ hn) hi (eq_of_beq s1) C.kd s2 s3
    rw [ownN_snd] at this
    refine PS.imp this fun D σ H w => ?_
    have w2 := set_tops hO D σ H w
    unfold W at w2
    exact w2
  | _ => cases he
set_option maxHeartbeats 4000000 in
mutual
theorem sndS : ∀ (s : S) {st : Stmt} {X : Cx} {Wx : WX}, Cxf T F FN N sc X Wx → XFacts T XN CN X → (∀ a, O0 a → OAt F.H0 a) → chkS FN XN CN N sc s st = true → PS X st (tSt T F Wx O0 (wS T.S T.G s))
  | .set i e, st, X, Wx, C, XF, hO, h => by
    unfold chkS at h
    replace h := kAsg_ok h
    obtain ⟨t, v, p, rfl, h⟩ := h
    split at h
    · rename_i x q
      simp only [Bool.and_eq_true] at h
      obtain ⟨h1, h2, h3⟩ := h
      unfold wS
      cases hsw : swN sc v x q with
      | false => exact s_set C hO h1 (snd e C.toCxt h2).v (by rw [sw_name C.kd C.es, hsw])
      | true =>
        rw [hsw] at h3
        exact snd_setLc C hO (nm_ix h1) h2 hsw h3
    · cases h
  | .unp is e, st, X, Wx, C, XF, hO, h => by
    unfold chkS at h
    replace h := kAsg_ok h
    obtain ⟨t, v, p, rfl, h⟩ := h
    split at h
    · simp only [Bool.and_eq_true] at h
      obtain ⟨h1, h2, h3⟩ := h
      unfold wS
      exact s_unp C hO h1 (snd e C.toCxt h3).v sw_tup (ss_none h2)
    · cases h
  | .par is evs, st, X, Wx, C, XF, hO, h => by
    unfold chkS at h
    replace h := kAsg_ok h
    obtain ⟨t, v, p, rfl, h⟩ := h
    split at h
    · rename_i es k1 p1 vs k2 p2
      simp only [Bool.and_eq_true] at h
      obtain ⟨h1, h2, h3, h4⟩ := h
      have hl := snds evs C.toCxt h3
      have ha := l_rs hl h2
      unfold wS
      split at h4
      · rename_i hss
        exact s_parT C hO h1 ha (Nat.le_trans (of_decide_eq_true h4) (by decide)) (ss_eq C.kd C.es hss)
      · rename_i names hss
        split at h4
        · simp only [Bool.and_eq_true, decide_eq_true_eq] at h4
          obtain ⟨a1, a2, a3, rfl, rfl⟩ := h4
          obtain ⟨n1, n2⟩ := nms1 h1
          obtain ⟨n3, _⟩ := nms1 n2
          exact s_par2 C hO (nm_ix n1) (nm_ix n3) a1 (loc_ok a2) (loc_ok a3) ha (ss_eq C.kd C.es hss)
        · simp only [Bool.and_eq_true, decide_eq_true_eq] at h4
          obtain ⟨a1, a2, a3, a4, a5, a6, rfl, rfl, rfl⟩ := h4
          obtain ⟨n1, n2⟩ := nms1 h1
          obtain ⟨n3, n4⟩ := nms1 n2
          obtain ⟨n5, _⟩ := nms1 n4
          exact s_par3 C hO (nm_ix n1) (nm_ix n3) (nm_ix n5) a1 a2 a3 (loc_ok a4) (loc_ok a5) (loc_ok a6) ha (ss_eq C.kd C.es hss)
        · cases h4
      · cases h4
    · cases h
  | .put i k v, st, X, Wx, C, XF, hO, h => by
    unfold chkS at h
    replace h := kAsg_ok h
    obtain ⟨t, w, p, rfl, h⟩ := h
    split at h
    · simp only [Bool.and_eq_true] at h
      obtain ⟨h1, h2, h3⟩ := h
      unfold wS
      exact s_put C hO ((snd (.var i) C.toCxt h1).r i (by unfold W; rfl)) (snd k C.toCxt h2).v (snd v C.toCxt h3).v sw_sub
    · cases h
  | .aug i op e, st, X, Wx, C, XF, hO, h => by
    unfold chkS at h
    rw [Bool.and_eq_true] at h
    obtain ⟨h0, h⟩ := h
    replace h := kAug_ok h
    obtain ⟨t, v, p, rfl, h⟩ := h
    rw [Bool.and_eq_true] at h
    obtain ⟨x, q, rfl⟩ := name_of h.1
    unfold wS
    exact s_aug C hO h.1 (by cases op <;> first | exact .inl rfl | exact .inr rfl | cases h0) (snd e C.toCxt h.2).v
  | .app i e, st, X, Wx, C, XF, hO, h => by
    unfold chkS at h
    replace h := kApp_ok h
    obtain ⟨x, p, ap, a, cp, q, rfl, hl, hs, h⟩ := h
    rw [Bool.and_eq_true] at h
    have h1 : chk FN N (.var i) sc (.Name x p) = true := by
      have := h.1
      unfold chk at this ⊢
      exact this
    unfold wS
    refine s_app C hO ((snd (.var i) C.toCxt h1).r i (by unfold W; rfl)) (snd e C.toCxt h.2).v hs hl rfl ?_
    have s1 := star_cons (es := []) (env := X.env) hs
    rw [s1]
    rfl
  | .upd i e, st, X, Wx, C, XF, hO, h => by
    unfold chkS at h
    replace h := kUpd_ok h
    obtain ⟨x, p, ap, a, cp, q, rfl, hl, hs, h⟩ := h
    rw [Bool.and_eq_true] at h
    have h1 : chk FN N (.var i) sc (.Name x p) = true := by
      have := h.1
      unfold chk at this ⊢
      exact this
    unfold wS
    refine s_upd C hO ((snd (.var i) C.toCxt h1).r i (by unfold W; rfl)) (snd e C.toCxt h.2).v hs hl ?_
    have s1 := star_cons (es := []) (env := X.env) hs
    rw [s1]
    rfl
  | .exp e, st, X, Wx, C, XF, hO, h => by
    unfold chkS at h
    replace h := kExpr_ok h
    obtain ⟨x, p, rfl, h⟩ := h
    rw [Bool.and_eq_true] at h
    unfold wS
    exact s_exp hO (snd e C.toCxt h.2).v (sw_none h.1)
  | .ret e, st, X, Wx, C, XF, hO, h => by
    unfold chkS at h
    replace h := kRet_ok h
    obtain ⟨x, p, rfl, h⟩ := h
    unfold wS
    have := snd e C.toCxt h
    exact s_ret hO this.v this.r
  | .retN, st, X, Wx, C, XF, hO, h => by
    unfold chkS at h
    split at h
    · unfold wS; exact s_retN
    · cases h
  | .if_ t a b, st, X, Wx, C, XF, hO, h => by
    unfold chkS at h
    replace h := kIf_ok h
    obtain ⟨c, x, y, p, rfl, h⟩ := h
    simp only [Bool.and_eq_true] at h
    unfold wS
    exact s_if hO (snd t C.toCxt h.1).t (sndSs a C XF hO h.2.1) (sndSs b C XF hO h.2.2)
  | .for_ tg ik ia b, st, X, Wx, C, XF, hO, h => by
    unfold chkS at h
    replace h := kFor_ok h
    obtain ⟨t, i, body, p, rfl, hn, h⟩ := h
    simp only [Bool.and_eq_true] at h
    unfold wS
    exact s_for C hO h.1 (sndi ia C.toCxt h.2.1) (sndSs b C XF hO h.2.2) (notSet_ok _ hn)
  | .raise c es, st, X, Wx, C, XF, hO, h => by
    unfold chkS at h
    replace h := kRaise_ok h
    obtain ⟨e, p, rfl, h⟩ := h
    replace h := ckCall_ok h
    obtain ⟨n, q, e, r, q2, rfl, hnd, hs, h⟩ := h
    simp only [Bool.and_eq_true] at h
    obtain ⟨h1, h2, h3⟩ := h
    have hl := snds es C.toCxt h3
    cases hx : XN[c]? with
    | none => rw [hx] at h2; cases h2
    | some pr =>
      rw [hx] at h2
      obtain ⟨nm, fs⟩ := pr
      simp only [Bool.and_eq_true, decide_eq_true_eq] at h2
      obtain ⟨rfl, h2⟩ := h2
      unfold wS
      exact s_raise C XF hO hx (gl_ok h1 C.es) hnd hs ((ws_len hl).trans h2.symm) (l_vs hl hs)
  | .tryO a cs d, st, X, Wx, C, XF, hO, h => by
    unfold chkS at h
    replace h := kTryO_ok h
    obtain ⟨b, x, p1, c, j, p2, p3, p4, p5, rfl, h⟩ := h
    simp only [Bool.and_eq_true, decide_eq_true_eq] at h
    obtain ⟨h1, h2, h3, h4, h5⟩ := h
    unfold wS
    exact s_tryO C XF hO h1 (gl_ok h2 C.es) h3 h4 fun X' W' C' XF' => sndSs a C' XF' hO h5
  | .tryF a c j n i, st, X, Wx, C, XF, hO, h => by
    unfold chkS at h
    replace h := kTryF_ok h
    obtain ⟨b, x, p1, y, z, p2, p3, f, p4, p5, p6, p7, rfl, h⟩ := h
    simp only [Bool.and_eq_true, decide_eq_true_eq] at h
    obtain ⟨h1, h2, h3, h4, h5, h6, h7, h8, h9, h10, h11⟩ := h
    cases hx : XN[c]? with
    | none => rw [hx] at h4; cases h4
    | some pr =>
      rw [hx] at h4
      obtain ⟨nm, fs⟩ := pr
      have h4 := of_decide_eq_true h4
      unfold wS
      exact s_tryF C XF hO h1 (gl_ok h2 C.es) h3 hx h4 h5 (loc_ok h6) h7 (loc_ok h8) h9 h10 fun X' W' C' XF' => sndSs a C' XF' hO h11
  | .pass, st, X, Wx, C, XF, hO, h => by
    unfold chkS at h
    split at h
    · unfold wS; exact s_pass
    · cases h
  | .brk, st, X, Wx, C, XF, hO, h => by
    unfold chkS at h
    split at h
    · unfold wS; exact s_brk
    · cases h
  | .cnt, st, X, Wx, C, XF, hO, h => by
    unfold chkS at h
    split at h
    · unfold wS; exact s_cnt
    · cases h
theorem sndSs : ∀ (ss : Ss) {l : List Stmt} {X : Cx} {Wx : WX}, Cxf T F FN N sc X Wx → XFacts T XN CN X → (∀ a, O0 a → OAt F.H0 a) → chkSs FN XN CN N sc ss l = true → PSs X l (tSt T F Wx O0 (wSs T.S T.G ss))
  | .nil, l, X, Wx, C, XF, hO, h => by
    unfold chkSs at h
    have := List.isEmpty_iff.mp h
    subst this
    unfold wSs
    exact ss_nil
  | .cons s r, l, X, Wx, C, XF, hO, h => by
    unfold chkSs at h
    cases l with
    | nil => cases h
    | cons x xs =>
      have h : (chkS FN XN CN N sc s x && chkSs FN XN CN N sc r xs) = true := h
      rw [Bool.and_eq_true] at h
      unfold wSs
      exact ss_cons (sndS s C XF hO h.1) (sndSs r C XF hO h.2)
end
end
end EV
set_option linter.all false
set_option maxRecDepth 20000
set_option autoImplicit false
/-! A def: from its text and a pure promise of its body to the promise of its calls. -/
namespace EV
open PySem PySem.Spec L2

/-- the slots at the entry -/
def envOf : List Bool → List RV → Nat → Option Env
  | [], [], _ => some []
  | true :: io, .own o :: rs, k => (envOf io rs (k + 1)).map fun ρ => some (.par k o) :: ρ
  | false :: io, .val d :: rs, k => (envOf io rs k).map fun ρ => some (.val d) :: ρ
  | _, _, _ => none
def env0 (io : List Bool) (rs : List RV) (n : Nat) : Option Env := (envOf io rs 0).map fun ρ => ρ ++ List.replicate (n - rs.length) none
/-- what the in-out parameters hold at the end -/
def outsOf : List Bool → Env → Nat → Option (List Ow)
  | [], _, _ => some []
  | true :: io, some (.par k' o) :: ρ, k => if k' = k then (outsOf io ρ (k + 1)).map fun os => o :: os else none
  | false :: io, _ :: ρ, k => outsOf io ρ k
  | _, _, _ => none
def endK (io : List Bool) (R : RV → List Ow → Prop) (Xc : Nat → List D → Prop) : EK where
  nx := fun ρ => ∃ os, outsOf io ρ 0 = some os ∧ R (.val .non) os
  rt := fun r ρ => ∃ os, outsOf io ρ 0 = some os ∧ R r os
  bk := fun _ => False
  ct := fun _ => False
  ex := fun c ps _ => Xc c ps
section
variable {T : Tb} {F : Fm} {FN XN : List (Str × List Str)} {CN : List (Str × List Nat)} {N : List Str} {sc : Scope} {X : Cx} {Wx : WX} {O0 : AP1}
theorem envOf_len : ∀ {io : List Bool} {rs : List RV} {k : Nat} {ρ : Env}, envOf io rs k = some ρ → ρ.length = rs.length ∧ io.length = rs.length
  | [], [], _, ρ, h => by cases h; exact ⟨rfl, rfl⟩
  | true :: io, .own o :: rs, k, ρ, h => by
    obtain ⟨ρ', h', rfl⟩ := Option.map_eq_some_iff.mp h
    obtain ⟨h1, h2⟩ := envOf_len h'
    exact ⟨by simp [h1], by simp [h2]⟩
  | false :: io, .val d :: rs, k, ρ, h => by
    obtain ⟨ρ', h', rfl⟩ := Option.map_eq_some_iff.mp h
    obtain ⟨h1, h2⟩ := envOf_len h'
    exact ⟨by simp [h1], by simp [h2]⟩
  | [], _ :: _, _, _, h => by cases h
  | true :: _, [], _, _, h => by cases h
  | false :: _, [], _, _, h => by cases h
  | true :: _, .val _ :: _, _, _, h => by cases h
  | false :: _, .own _ :: _, _, _, h => by cases h
theorem args_len {F : Fk} {H : Hp} {O : AP1} : ∀ {rs : List RV} {vs : List V}, ArgsAt F H O rs vs → vs.length = rs.length
  | [], _, h => by cases (show _ = [] from h); rfl
  | .val d :: rs, _, h => by
    obtain ⟨v, r, rfl, _, h2⟩ := h
    simp [args_len h2]
  | .own o :: rs, _, h => by
    obtain ⟨a, r, rfl, _, _, h2⟩ := h
    simp [args_len h2]
theorem get_app : ∀ {ρ : Env} {n i : Nat} {s : SV}, get (ρ ++ List.replicate n none) i = some s → get ρ i = some s
  | [], 0, i, s, h => by simp [get] at h
  | [], n + 1, 0, s, h => by simp [List.replicate_succ, get] at h
  | [], n + 1, i + 1, s, h => by
    rw [List.nil_append, List.replicate_succ] at h
    have h : get (List.replicate n none) i = some s := h
    have := get_app (ρ := []) (n := n) (i := i) (s := s) (by rw [List.nil_append]; exact h)
    simp [get] at this
  | a :: ρ, n, 0, s, h => h
  | a :: ρ, n, i + 1, s, h => get_app (ρ := ρ) h
/-- the parameters' slots -/
theorem env_slots {H : Hp} {O : AP1} {l0 : List Addr} (hPA : ∀ k a, l0[k]? = some a → F.PA k = a) : ∀ {io : List Bool} {rs : List RV} {vs : List V} {k : Nat} {ρ : Env} {pre : List Addr}, envOf io rs k = some ρ → ArgsAt F.toFk H O rs vs → l0 = pre ++ ownA rs vs → pre.length = k →
    ∀ i s, get ρ i = some s → ∃ v, vs[i]? = some v ∧ SlotAt F H O s v ∧ (isOw s → ∃ j a, v = .ref a ∧ k ≤ j ∧ l0[j]? = some a ∧ ∃ o, s = .par j o)
  | [], [], _, _, ρ, _, h, _, _, _, i, s, hi => by cases h; simp [get] at hi
  | true :: io, .own o :: rs, _, k, ρ, pre, h, ha, el, ek, i, s, hi => by
    obtain ⟨ρ', h', rfl⟩ := Option.map_eq_some_iff.mp h
    obtain ⟨a, r, rfl, oa, qa, h2⟩ := ha
    have el : l0 = pre ++ a :: ownA rs r := el
    have e0 : l0[k]? = some a := by rw [el, List.getElem?_append_right (by omega), ← ek]; simp
    cases i with
    | zero =>
      have hi : some (SV.par k o) = some s := hi
      cases hi
      refine ⟨.ref a, rfl, ?_, fun _ => ⟨k, a, rfl, Nat.le_refl _, e0, o, rfl⟩⟩
      have := hPA k a e0
      exact ⟨by rw [this], by rw [this]; exact oa, by rw [this]; exact qa⟩
    | succ i =>
      have hi : get ρ' i = some s := hi
      obtain ⟨v, h3, h4, h5⟩ := env_slots hPA (pre := pre ++ [a]) h' h2 (by rw [el]; simp) (by simp [ek]) i s hi
      refine ⟨v, h3, h4, fun z => ?_⟩
      obtain ⟨j, b, e1, e2, e3⟩ := h5 z
      exact ⟨j, b, e1, by omega, e3⟩
  | false :: io, .val d :: rs, _, k, ρ, pre, h, ha, el, ek, i, s, hi => by
    obtain ⟨ρ', h', rfl⟩ := Option.map_eq_some_iff.mp h
    obtain ⟨v, r, rfl, rep, h2⟩ := ha
    cases i with
    | zero =>
      have hi : some (SV.val d) = some s := hi
      cases hi
      exact ⟨v, rfl, rep, fun z => z.elim⟩
    | succ i =>
      have hi : get ρ' i = some s := hi
      have el : l0 = pre ++ ownA rs r := by
        rw [el]
        cases v <;> rfl
      obtain ⟨v', h3, h4, h5⟩ := env_slots hPA (pre := pre) h' h2 el ek i s hi
      exact ⟨v', h3, h4, h5⟩
  | [], _ :: _, _, _, _, _, h, _, _, _, _, _, _ => by cases h
  | true :: _, [], _, _, _, _, h, _, _, _, _, _, _ => by cases h
  | false :: _, [], _, _, _, _, h, _, _, _, _, _, _ => by cases h
  | true :: _, .val _ :: _, _, _, _, _, h, _, _, _, _, _, _ => by cases h
  | false :: _, .own _ :: _, _, _, _, _, h, _, _, _, _, _, _ => by cases h
/-- the in-out things at the end -/
theorem outs_at {σ : L2.St} {H : Hp} {O : AP1} {l0 : List Addr} (hPA : ∀ k a, l0[k]? = some a → F.PA k = a) {ρ0 : Env} (R : Rel F ρ0 σ H O) : ∀ {io : List Bool} {ρ : Env} {k : Nat} {os : List Ow} {n : Nat}, (∀ i s, get ρ i = some s → get ρ0 (n + i) = some s) → outsOf io ρ k = some os →
    ∀ {l : List Addr}, l.length = os.length → (∀ j a, l[j]? = some a → l0[k + j]? = some a) → OutsAt F.toFk H O l os
  | [], ρ, k, os, n, hg, h, l, hl, hj => by
    cases h
    cases l with
    | nil => rfl
    | cons a l => simp at hl
  | true :: io, some (.par k' o) :: ρ, k, os, n, hg, h, l, hl, hj => by
    have h : (if k' = k then (outsOf io ρ (k + 1)).map (fun os => o :: os) else none) = some os := h
    by_cases e : k' = k
    · rw [if_pos e] at h
      obtain ⟨os', h', rfl⟩ := Option.map_eq_some_iff.mp h
      cases l with
      | nil => simp at hl
      | cons a l =>
        obtain ⟨v, ev, q⟩ := R.sl n (.par k' o) (hg 0 _ rfl)
        obtain ⟨_, oa, qa⟩ := q
        subst e
        have ea : F.PA k' = a := hPA k' a (by have := hj 0 a rfl; simpa using this)
        rw [ea] at oa qa
        refine ⟨o, os', rfl, oa, qa, outs_at hPA R (n := n + 1) (fun i s hi => ?_) h' (by simpa using hl) fun j b hb => ?_⟩
        · have := hg (i + 1) s hi
          rw [show n + 1 + i = n + (i + 1) from by omega]
          exact this
        · have := hj (j + 1) b hb
          rw [show k' + 1 + j = k' + (j + 1) from by omega]
          exact this
    · rw [if_neg e] at h; cases h
  | false :: io, s0 :: ρ, k, os, n, hg, h, l, hl, hj => by
    have h : outsOf io ρ k = some os := by cases s0 <;> exact h
    refine outs_at hPA R (n := n + 1) (fun i s hi => ?_) h hl hj
    have := hg (i + 1) s hi
    rw [show n + 1 + i = n + (i + 1) from by omega]
    exact this
  | true :: _, [], _, _, _, _, h, _, _, _ => by cases h
  | true :: _, none :: _, _, _, _, _, h, _, _, _ => by cases h
  | true :: _, some (.val _) :: _, _, _, _, _, h, _, _, _ => by cases h
  | true :: _, some (.own _) :: _, _, _, _, _, h, _, _, _ => by cases h
  | false :: _, [], _, _, _, _, h, _, _, _ => by cases h
theorem outsOf_len : ∀ {io : List Bool} {ρ : Env} {k : Nat} {os : List Ow}, outsOf io ρ k = some os → os.length = (io.filter id).length
  | [], _, _, _, h => by cases h; rfl
  | true :: io, some (.par k' o) :: ρ, k, os, h => by
    have h : (if k' = k then (outsOf io ρ (k + 1)).map (fun os => o :: os) else none) = some os := h
    by_cases e : k' = k
    · rw [if_pos e] at h
      obtain ⟨os', h', rfl⟩ := Option.map_eq_some_iff.mp h
      simp [outsOf_len h']
    · rw [if_neg e] at h; cases h
  | false :: io, s0 :: ρ, k, os, h => by
    have h : outsOf io ρ k = some os := by cases s0 <;> exact h
    simp [outsOf_len h]
  | true :: _, [], _, _, h => by cases h
  | true :: _, none :: _, _, _, h => by cases h
  | true :: _, some (.val _) :: _, _, _, h => by cases h
  | true :: _, some (.own _) :: _, _, _, h => by cases h
  | false :: _, [], _, _, h => by cases h
theorem ownA_len {F : Fk} {H : Hp} {O : AP1} : ∀ {io : List Bool} {rs : List RV} {vs : List V} {k : Nat} {ρ : Env}, envOf io rs k = some ρ → ArgsAt F H O rs vs → (ownA rs vs).length = (io.filter id).length
  | [], [], _, _, _, h, ha => by cases (show _ = [] from ha); rfl
  | true :: io, .own o :: rs, _, k, ρ, h, ha => by
    obtain ⟨ρ', h', rfl⟩ := Option.map_eq_some_iff.mp h
    obtain ⟨a, r, rfl, _, _, h2⟩ := ha
    show (ownA rs r).length + 1 = _
    rw [ownA_len h' h2]
    simp
  | false :: io, .val d :: rs, _, k, ρ, h, ha => by
    obtain ⟨ρ', h', rfl⟩ := Option.map_eq_some_iff.mp h
    obtain ⟨v, r, rfl, _, h2⟩ := ha
    have : ownA (.val d :: rs) (v :: r) = ownA rs r := by cases v <;> rfl
    rw [this, ownA_len h' h2]
    simp
  | [], _ :: _, _, _, _, h, _ => by cases h
  | true :: _, [], _, _, _, h, _ => by cases h
  | false :: _, [], _, _, _, h, _ => by cases h
  | true :: _, .val _ :: _, _, _, _, h, _ => by cases h
  | false :: _, .own _ :: _, _, _, _, h, _ => by cases h
theorem nodup_ixA {l : List Addr} {i j : Nat} {a : Addr} (nd : l.Nodup) (h1 : l[i]? = some a) (h2 : l[j]? = some a) : i = j := by
  obtain ⟨l1, e1⟩ := List.getElem?_eq_some_iff.mp h1
  obtain ⟨l2, e2⟩ := List.getElem?_eq_some_iff.mp h2
  rcases Nat.lt_trichotomy i j with h | h | h
  · exact absurd (e1.trans e2.symm) (List.pairwise_iff_getElem.mp nd i j l1 l2 h)
  · exact h
  · exact absurd (e2.trans e1.symm) (List.pairwise_iff_getElem.mp nd j i l2 l1 h)
theorem par_ge : ∀ {io : List Bool} {rs : List RV} {k : Nat} {ρ : Env}, envOf io rs k = some ρ → ∀ i j o, get ρ i = some (.par j o) → k ≤ j
  | [], [], _, ρ, h, i, j, o, hi => by cases h; simp [get] at hi
  | true :: io, .own o :: rs, k, ρ, h, i, j, o', hi => by
    obtain ⟨ρ', h', rfl⟩ := Option.map_eq_some_iff.mp h
    cases i with
    | zero => have hi : some (SV.par k o) = some (.par j o') := hi; cases hi; exact Nat.le_refl _
    | succ i => have := par_ge h' i j o' hi; omega
  | false :: io, .val d :: rs, k, ρ, h, i, j, o', hi => by
    obtain ⟨ρ', h', rfl⟩ := Option.map_eq_some_iff.mp h
    cases i with
    | zero => have hi : some (SV.val d) = some (.par j o') := hi; cases hi
    | succ i => exact par_ge h' i j o' hi
  | [], _ :: _, _, _, h, _, _, _, _ => by cases h
  | true :: _, [], _, _, h, _, _, _, _ => by cases h
  | false :: _, [], _, _, h, _, _, _, _ => by cases h
  | true :: _, .val _ :: _, _, _, h, _, _, _, _ => by cases h
  | false :: _, .own _ :: _, _, _, h, _, _, _, _ => by cases h
theorem par_inj : ∀ {io : List Bool} {rs : List RV} {k : Nat} {ρ : Env}, envOf io rs k = some ρ → ∀ {i i' j : Nat} {o o' : Ow}, get ρ i = some (.par j o) → get ρ i' = some (.par j o') → i = i'
  | [], [], _, ρ, h, i, _, _, _, _, hi, _ => by cases h; simp [get] at hi
  | true :: io, .own o0 :: rs, k, ρ, h, i, i', j, o, o', hi, hi' => by
    obtain ⟨ρ', h', rfl⟩ := Option.map_eq_some_iff.mp h
    cases i with
    | zero =>
      have hi : some (SV.par k o0) = some (.par j o) := hi
      cases hi
      cases i' with
      | zero => rfl
      | succ i' => have := par_ge h' i' _ _ hi'; omega
    | succ i =>
      cases i' with
      | zero =>
        have hi' : some (SV.par k o0) = some (.par j o') := hi'
        cases hi'
        have := par_ge h' i _ _ hi; omega
      | succ i' => rw [par_inj h' (i := i) (i' := i') hi hi']
  | false :: io, .val d :: rs, k, ρ, h, i, i', j, o, o', hi, hi' => by
    obtain ⟨ρ', h', rfl⟩ := Option.map_eq_some_iff.mp h
    cases i with
    | zero => have hi : some (SV.val d) = some (.par j o) := hi; cases hi
    | succ i =>
      cases i' with
      | zero => have hi' : some (SV.val d) = some (.par j o') := hi'; cases hi'
      | succ i' => rw [par_inj h' (i := i) (i' := i') hi hi']
  | [], _ :: _, _, _, h, _, _, _, _, _, _, _ => by cases h
  | true :: _, [], _, _, h, _, _, _, _, _, _, _ => by cases h
  | false :: _, [], _, _, h, _, _, _, _, _, _, _ => by cases h
  | true :: _, .val _ :: _, _, _, h, _, _, _, _, _, _, _ => by cases h
  | false :: _, .own _ :: _, _, _, h, _, _, _, _, _, _, _ => by cases h
/-- a def, once its callees keep their promises -/
theorem def_ok {P : Program} {w : World} {K : PySem.W.Frag} {mg : Str → Option Value} {base : Heap} {k i : Nat} {x qual : Str} {st : Stmt} {f : Addr} {fd : FuncData} {N ps : List Str} {io : List Bool} {ss : Ss} {Fk0 : Fk} {S' : SPX} (hF : Fun K x qual st f fd) (hS : FnScope N ps (defScope st)) (hio : io.length = ps.length)
    (hck : chkSs FN XN CN N (defScope st) ss (defBody st) = true) (glo : Glo T Fk0 FN P w K mg base k)
    (xf : ∀ (X : Cx), X.prog = P → X.w = w → X.K = K → X.mg = mg → X.base = base → Room k X.A → X.calm = true → XFacts T XN CN X)
    (obl : ∀ rs R Xc, S' i rs R Xc → ∃ ρ0, env0 io rs N.length = some ρ0 ∧ wSs T.S T.G ss ρ0 (endK io R Xc)) :
    FnG P w K mg base (k + 1) f fd ps (spF { T with S := S' } Fk0 i) := by
  have lens : ∀ vs H Q E, spF { T with S := S' } Fk0 i vs H Q E → vs.length = ps.length := fun vs H Q E ⟨rs, O, R, Xc, aa, nd, tr, hS', _, _⟩ => by
    obtain ⟨ρ0, h0, _⟩ := obl rs R Xc hS'
    obtain ⟨ρ1, h1, _⟩ := Option.map_eq_some_iff.mp h0
    obtain ⟨_, e2⟩ := envOf_len h1
    rw [args_len aa, ← e2, hio]
  refine fnG_of hF hS lens fun cdv A outer s H vs Q E hr hg hfree hl hsp => ?_
  obtain ⟨rs, O, R, Xc, aa, nd, tr, hS', q1, q2⟩ := hsp
  obtain ⟨ρ0, h0, hw⟩ := obl rs R Xc hS'
  obtain ⟨ρ1, h1, rfl⟩ := Option.map_eq_some_iff.mp h0
  let F : Fm := { toFk := Fk0, PA := fun k => ((ownA rs vs)[k]?).getD s.heap.objs.size, H0 := H }
  have hPA : ∀ k a, (ownA rs vs)[k]? = some a → F.PA k = a := fun k a e => by show ((ownA rs vs)[k]?).getD _ = a; rw [e]; rfl
  have hMf : ∀ a, H a ≠ none → Mf F a → a ∈ ownA rs vs := fun a ha ⟨j, e⟩ => by
    cases z : (ownA rs vs)[j]? with
    | none =>
      have : F.PA j = s.heap.objs.size := by show ((ownA rs vs)[j]?).getD _ = _; rw [z]; rfl
      rw [e, this] at ha
      exact absurd hfree ha
    | some b => rw [e, hPA j b z]; exact List.mem_of_getElem? z
  have hroom : Room k (cxOf (L2.CX P w) P w K mg base N qual (defScope st) f cdv A outer s H E).A := hr
  have C : Cxf T F FN N (defScope st) (cxOf (L2.CX P w) P w K mg base N qual (defScope st) f cdv A outer s H E) (fun cls d _ H' => E cls d H') :=
    { eN := rfl, nd := hS.nd, es := rfl, glo := ⟨k, hroom, glo⟩, calm := rfl, gd := hg, tk := L2.takes_of rfl rfl rfl rfl, po := L2.passes_of rfl, st := rfl, fr := rfl, kd := hS.kind, fn := fun _ _ => rfl }
  have XF := xf (cxOf (L2.CX P w) P w K mg base N qual (defScope st) f cdv A outer s H E) rfl rfl rfl rfl rfl hroom rfl
  have slots := env_slots (F := F) (H := H) (O := O) hPA (pre := []) h1 aa rfl rfl
  have pl : ps.length ≤ N.length := by have := congrArg List.length hS.pre; rw [List.length_take] at this; omega
  obtain ⟨el1, el2⟩ := envOf_len h1
  have el3 : vs.length = rs.length := args_len aa
  have stv : ∀ (i : Nat) (v : V), vs[i]? = some v → (L2.start N vs)[i]? = some (some v) := fun i v e => by
    unfold L2.start
    have hlt : i < vs.length := by
      rcases Nat.lt_or_ge i vs.length with z | z
      · exact z
      · rw [List.getElem?_eq_none z] at e; cases e
    rw [List.getElem?_append_left (by simpa using hlt), List.getElem?_map, e]
    rfl
  have R0 : Rel F (ρ1 ++ List.replicate (N.length - rs.length) none) (L2.start N vs) H O := by
    refine ⟨fun i s hi => ?_, fun i j s t a hi hj os ot ei ej => ?_, tr, ?_, fun a h => h⟩
    · obtain ⟨v, hv, sa, _⟩ := slots i s (get_app hi)
      exact ⟨v, stv i v hv, sa⟩
    · obtain ⟨v, hv, _, ow⟩ := slots i s (get_app hi)
      obtain ⟨u, hu, _, ow'⟩ := slots j t (get_app hj)
      rw [stv i v hv] at ei
      rw [stv j u hu] at ej
      cases ei; cases ej
      obtain ⟨j1, a1, e1, _, l1, o1, es⟩ := ow os
      obtain ⟨j2, a2, e2, _, l2, o2, et⟩ := ow' ot
      cases e1; cases e2
      have : j1 = j2 := nodup_ixA nd l1 l2
      subst this
      subst es; subst et
      exact par_inj h1 (get_app hi) (get_app hj)
    · show (ρ1 ++ List.replicate (N.length - rs.length) none).length = (vs.map some ++ List.replicate (N.length - vs.length) none).length
      simp only [List.length_append, List.length_replicate, List.length_map, el1, el3]
  refine ⟨_, sndSs ss C XF tr hck, ρ1 ++ List.replicate (N.length - rs.length) none, O, endK io R Xc, R0, .refl, hw, ?_⟩
  have fin : ∀ {H' : Hp} {O' : AP1}, Stp (Mf F) F.H0 O H' O' → Stp (· ∈ ownA rs vs) H O H' O' := fun {H' O'} st' =>
    ⟨fun a u h n => st'.keep a u h fun z => n (hMf a (by rw [h]; simp) z), st'.low, fun a h n => st'.up a h fun z => n (hMf a (tr a h).ne z), st'.al⟩
  have outs : ∀ {ρ' : Env} {σ' : L2.St} {H' : Hp} {O' : AP1} {os : List Ow}, Rel F ρ' σ' H' O' → outsOf io ρ' 0 = some os → OutsAt Fk0 H' O' (ownA rs vs) os := fun {ρ' σ' H' O' os} R' h => by
    refine outs_at (F := F) hPA R' (n := 0) (fun i s hi => by rw [Nat.zero_add]; exact hi) h ?_ fun j a e => by rw [Nat.zero_add]; exact e
    rw [outsOf_len h, ownA_len h1 aa]
  have res : ∀ {r : RV} {v : V} {H' : Hp} {O' : AP1}, RF F r v H' O' → ResAt Fk0 H r v H' O' := fun {r v H' O'} h => by
    cases r with
    | val d => exact h
    | own o => exact h
  refine ⟨fun ρ' σ' H' O' hk m => ?_, fun r ρ' v σ' H' O' hk m rf => ?_, fun _ _ _ _ hk _ => hk.elim, fun _ _ _ _ hk _ => hk.elim, fun c pv ρ' cls d σ' H' O' hk m er => ?_⟩
  · obtain ⟨os, ho, hR⟩ := hk
    exact q1 _ os _ H' O' hR (fin m.fr) m.rel.tr (by show Rep _ _ _ _ _; unfold Rep; rfl) (outs m.rel ho)
  · obtain ⟨os, ho, hR⟩ := hk
    exact q1 _ os _ H' O' hR (fin m.fr) m.rel.tr (res rf) (outs m.rel ho)
  · exact q2 c pv cls d H' O' hk (fin m.fr) m.rel.tr er
end
end EV
set_option linter.all false
set_option maxRecDepth 20000
set_option autoImplicit false
/-! All defs of a module, level by level. -/
namespace EV
open PySem PySem.Spec L2

/-- a def's reading -/
structure DefD where
  nm : Str
  ps : List Str
  io : List Bool
  N : List Str
  st : Stmt
  ss : Ss
def DefD.okB (FN XN : List (Str × List Str)) (CN : List (Str × List Nat)) (d : DefD) : Bool := decide (d.io.length = d.ps.length) && chkSs FN XN CN d.N (defScope d.st) d.ss (defBody d.st)
def fnsOf (L : List DefD) : List (Str × List Str) := L.map fun d => (d.nm, d.ps)
/-- the promises up to a level -/
def upTo (lev : Nat → List RV → Nat) (ct : SPX) (k : Nat) : SPX := fun f rs R Xc => lev f rs < k ∧ ct f rs R Xc
section
variable {T : Tb} {Fk0 : Fk} {P : Program} {w : World} {K : PySem.W.Frag} {mg : Str → Option Value} {base : Heap} {L : List DefD} {XN : List (Str × List Str)} {CN : List (Str × List Nat)} {lev : Nat → List RV → Nat} {ct : SPX}
/-- what the head tells of a def -/
structure DefAt (K : PySem.W.Frag) (mg : Str → Option Value) (d : DefD) : Prop where
  «at» : ∃ (f : Addr) (fd : FuncData), mg d.nm = some (.ref f) ∧ PySem.W.keepIn K (.ref f) = true ∧ BindOk fd d.ps ∧ ∃ (x qual : Str), Fun K x qual d.st f fd
  sc : FnScope d.N d.ps (defScope d.st)
theorem levels (eK : Fk0.K = K) (ew : Fk0.w = w) (hg : ∀ g d, T.G g = some d → ∃ u v, mg g = some u ∧ RelV v u ∧ ∀ H O, Rep Fk0 H O d v) (hn : ∀ x ∈ bltN, mg x = none)
    (hd : ∀ (i : Nat) (d : DefD), L[i]? = some d → DefAt K mg d ∧ d.okB (fnsOf L) XN CN = true)
    (hx : ∀ (k : Nat) (X : Cx), X.prog = P → X.w = w → X.K = K → X.mg = mg → X.base = base → Room k X.A → X.calm = true → XFacts { T with S := upTo lev ct k } XN CN X)
    (obl : ∀ (k i : Nat) (d : DefD) (rs : List RV) (R : RV → List Ow → Prop) (Xc : Nat → List D → Prop), L[i]? = some d → lev i rs < k + 1 → ct i rs R Xc → ∃ ρ0, env0 d.io rs d.N.length = some ρ0 ∧ wSs (upTo lev ct k) T.G d.ss ρ0 (endK d.io R Xc)) :
    ∀ k, Glo { T with S := upTo lev ct k } Fk0 (fnsOf L) P w K mg base k := by
  intro k
  induction k with
  | zero =>
    refine ⟨eK, ew, hg, hn, fun i nm ps e => ?_⟩
    unfold fnsOf at e
    rw [List.getElem?_map] at e
    cases hd' : L[i]? with
    | none => rw [hd'] at e; cases e
    | some d =>
      rw [hd'] at e
      cases e
      obtain ⟨⟨⟨f, fd, h1, h2, h3, x, q, hF⟩, hS⟩, h5⟩ := hd i d hd'
      refine ⟨f, fd, h1, h2, h3, ⟨fun vs H Q E ⟨rs, O, R, Xc, aa, nd, tr, ⟨hz, _⟩, _⟩ => absurd hz (Nat.not_lt_zero _), fun A outer s H args us vs Q E hr hg he hb hv ⟨rs, O, R, Xc, aa, nd, tr, ⟨hz, _⟩, _⟩ => absurd hz (Nat.not_lt_zero _)⟩⟩
  | succ k ih =>
    refine ⟨eK, ew, hg, hn, fun i nm ps e => ?_⟩
    unfold fnsOf at e
    rw [List.getElem?_map] at e
    cases hd' : L[i]? with
    | none => rw [hd'] at e; cases e
    | some d =>
      rw [hd'] at e
      cases e
      obtain ⟨⟨⟨f, fd, h1, h2, h3, x, q, hF⟩, hS⟩, h5⟩ := hd i d hd'
      unfold DefD.okB at h5
      rw [Bool.and_eq_true] at h5
      refine ⟨f, fd, h1, h2, h3, ?_⟩
      exact def_ok (T := { T with S := upTo lev ct k }) (S' := upTo lev ct (k + 1)) hF hS (of_decide_eq_true h5.1) h5.2 ih (fun X a b c d e r cl => hx k X a b c d e r cl) fun rs R Xc ⟨hl, hc⟩ => obl k i d rs R Xc hd' hl hc
end
end EV
set_option linter.all false
set_option autoImplicit false
set_option maxRecDepth 20000
/-! the defs' readings, printed by pr.py -/
namespace A72
open PySem EV
def b0 : Ss := -- is_sign(value)
  (.cons (.if_ (.or_ (.not_ (.blt (.isi .str) (.cons (.var 0) .nil))) (.not_ (.chn (.cst (.int 1)) .le (.blt .len (.cons (.var 0) .nil)) .le (.cst (.int 8))))) (.cons (.ret (.cst (.bl false)))
   .nil) .nil)
  (.cons (.ret (.blt .all (.cons (.cm1 [1] (.nm 1) .seq (.cons (.var 0) .nil) .nil (.cmp .in_ (.var 1) (.glb "LETTERS"))) .nil)))
  .nil))
def b1 : Ss := -- is_no_base(value)
  (.cons (.ret (.and_ (.blt (.isi .tup) (.cons (.var 0) .nil)) (.and_ (.cmp .ne (.var 0) (.tup .nil)) (.and_ (.blt (.isi .str) (.cons (.idx (.var 0) (.cst (.int 0))) .nil)) (.cmp .in_ (.idx (.var 0) (.cst (.int 0))) (.glb "NO_BASES"))))))
  .nil)
def b2 : Ss := -- has_form(value)
  (.cons (.if_ (.or_ (.not_ (.blt (.isi .tup) (.cons (.var 0) .nil))) (.or_ (.cmp .eq (.var 0) (.tup .nil)) (.not_ (.blt (.isi .str) (.cons (.idx (.var 0) (.cst (.int 0))) .nil))))) (.cons (.ret (.cst (.bl false)))
   .nil) .nil)
  (.cons (.par [1, 2] (.cons (.idx (.var 0) (.cst (.int 0))) (.cons (.blt .len (.cons (.var 0) .nil)) .nil)))
  (.cons (.if_ (.cmp .eq (.var 1) (.cst (.str "row"))) (.cons (.ret (.cmp .gt (.var 2) (.cst (.int 1))))
   .nil) .nil)
  (.cons (.ret (.or_ (.and_ (.cmp .eq (.var 2) (.cst (.int 2))) (.cmp .in_ (.var 1) (.glb "TWO"))) (.or_ (.and_ (.cmp .eq (.var 2) (.cst (.int 3))) (.cmp .in_ (.var 1) (.glb "THREE"))) (.and_ (.cmp .eq (.var 2) (.cst (.int 4))) (.cmp .in_ (.var 1) (.glb "FOUR"))))))
  .nil))))
def b3 : Ss := -- steps_of_parts(formula)
  (.cons (.set 1 (.idx (.var 0) (.cst (.int 0))))
  (.cons (.if_ (.cmp .eq (.var 1) (.cst (.str "sign"))) (.cons (.ret (.lst .nil))
   .nil) .nil)
  (.cons (.if_ (.cmp .eq (.var 1) (.cst (.str "table"))) (.cons (.ret (.cm2 [2, 3, 4] [4] (.tu [2, 3]) .enm (.cons (.idx (.var 0) (.cst (.int 1))) .nil) (.nm 4) .rng1 (.cons (.blt .len (.cons (.var 3) .nil)) .nil) (.tup (.cons (.tup (.cons (.cst (.int 1)) (.cons (.var 2) (.cons (.var 4) .nil)))) (.cons (.cst (.int 0)) .nil)))))
   .nil) .nil)
  (.cons (.if_ (.cmp .in_ (.var 1) (.tup (.cons (.cst (.str "under")) (.cons (.cst (.str "upper")) (.cons (.cst (.str "limits")) .nil))))) (.cons (.ret (.cm1 [5] (.nm 5) .rng2 (.cons (.cst (.int 2)) (.cons (.blt .len (.cons (.var 0) .nil)) .nil)) .nil (.tup (.cons (.tup (.cons (.var 5) .nil)) (.cons (.cst (.int 1)) .nil)))))
   .nil) .nil)
  (.cons (.if_ (.cmp .in_ (.var 1) (.glb "BASED")) (.cons (.ret (.bin .add (.lst (.cons (.tup (.cons (.tup (.cons (.cst (.int 1)) .nil)) (.cons (.cst (.int 0)) .nil))) .nil)) (.cm1 [5] (.nm 5) .rng2 (.cons (.cst (.int 2)) (.cons (.blt .len (.cons (.var 0) .nil)) .nil)) .nil (.tup (.cons (.tup (.cons (.var 5) .nil)) (.cons (.cst (.int 1)) .nil))))))
   .nil) .nil)
  (.cons (.ret (.cm1 [5] (.nm 5) .rng2 (.cons (.cst (.int 1)) (.cons (.blt .len (.cons (.var 0) .nil)) .nil)) .nil (.tup (.cons (.tup (.cons (.var 5) .nil)) (.cons (.ife (.cmp .eq (.var 1) (.cst (.str "over"))) (.cst (.int 1)) (.cst (.int 0))) .nil)))))
  .nil))))))
def b4 : Ss := -- down(value, path)
  (.cons (.for_ (.nm 2) .seq (.cons (.fvar 1) .nil) (.cons (.set 0 (.idx (.var 0) (.var 2)))
   .nil))
  (.cons (.ret (.var 0))
  .nil))
def b5 : Ss := -- table_fault(rows, path)
  (.cons (.if_ (.or_ (.not_ (.blt (.isi .tup) (.cons (.var 0) .nil))) (.cmp .eq (.var 0) (.tup .nil))) (.cons (.ret (.var 1))
   .nil) .nil)
  (.cons (.for_ (.tu [2, 3]) .enm (.cons (.var 0) .nil) (.cons (.if_ (.or_ (.not_ (.blt (.isi .tup) (.cons (.var 3) .nil))) (.or_ (.cmp .eq (.var 3) (.tup .nil)) (.cmp .ne (.blt .len (.cons (.var 3) .nil)) (.blt .len (.cons (.idx (.var 0) (.cst (.int 0))) .nil))))) (.cons (.ret (.bin .add (.var 1) (.tup (.cons (.var 2) .nil))))
    .nil) .nil)
   (.cons (.for_ (.tu [4, 5]) .enm (.cons (.var 3) .nil) (.cons (.set 6 (.call 6 (.cons (.var 5) (.cons (.bin .add (.var 1) (.tup (.cons (.var 2) (.cons (.var 4) .nil)))) .nil)) [false, false]))
    (.cons (.if_ (.cmp .notN (.var 6) (.cst .non)) (.cons (.ret (.var 6))
     .nil) .nil)
    .nil)))
   .nil)))
  (.cons (.ret (.cst .non))
  .nil)))
def b6 : Ss := -- first_fault(value, path)
  (.cons (.if_ (.not_ (.call 2 (.cons (.var 0) .nil) [false])) (.cons (.ret (.var 1))
   .nil) .nil)
  (.cons (.set 2 (.idx (.var 0) (.cst (.int 0))))
  (.cons (.if_ (.and_ (.cmp .in_ (.var 2) (.glb "SIGNED")) (.not_ (.call 0 (.cons (.idx (.var 0) (.cst (.int 1))) .nil) [false]))) (.cons (.ret (.bin .add (.var 1) (.tup (.cons (.cst (.int 1)) .nil))))
   .nil) .nil)
  (.cons (.if_ (.cmp .eq (.var 2) (.cst (.str "table"))) (.cons (.ret (.call 5 (.cons (.idx (.var 0) (.cst (.int 1))) (.cons (.bin .add (.var 1) (.tup (.cons (.cst (.int 1)) .nil))) .nil)) [false, false]))
   .nil) .nil)
  (.cons (.for_ (.tu [3, 4]) .seq (.cons (.call 3 (.cons (.var 0) .nil) [false]) .nil) (.cons (.set 5 (.call 4 (.cons (.var 0) (.cons (.var 3) .nil)) [false, false]))
   (.cons (.if_ (.and_ (.cmp .in_ (.var 2) (.glb "BASED")) (.and_ (.cmp .eq (.var 3) (.tup (.cons (.cst (.int 1)) .nil))) (.call 1 (.cons (.var 5) .nil) [false]))) (.cons (.ret (.bin .add (.var 1) (.var 3)))
    .nil) .nil)
   (.cons (.set 6 (.call 6 (.cons (.var 5) (.cons (.bin .add (.var 1) (.var 3)) .nil)) [false, false]))
   (.cons (.if_ (.cmp .notN (.var 6) (.cst .non)) (.cons (.ret (.var 6))
    .nil) .nil)
   .nil)))))
  (.cons (.ret (.cst .non))
  .nil))))))
def b7 : Ss := -- walk(formula, path, level)
  (.cons (.set 3 (.lst (.cons (.tup (.cons (.var 1) (.cons (.var 0) (.cons (.var 2) .nil)))) .nil)))
  (.cons (.for_ (.tu [4, 5]) .seq (.cons (.call 3 (.cons (.var 0) .nil) [false]) .nil) (.cons (.set 3 (.bin .add (.var 3) (.call 7 (.cons (.call 4 (.cons (.var 0) (.cons (.var 4) .nil)) [false, false]) (.cons (.bin .add (.var 1) (.var 4)) (.cons (.bin .add (.var 2) (.var 5)) .nil))) [false, false, false])))
   .nil))
  (.cons (.ret (.var 3))
  .nil)))
def b8 : Ss := -- words_of(formula)
  (.cons (.ret (.bin .add (.cst (.int 1)) (.blt .sum (.cons (.cm1 [1, 2] (.tu [1, 2]) .seq (.cons (.call 3 (.cons (.var 0) .nil) [false]) .nil) .nil (.call 8 (.cons (.call 4 (.cons (.var 0) (.cons (.var 1) .nil)) [false, false]) .nil) [false])) .nil))))
  .nil)
def b9 : Ss := -- depth_of(formula)
  (.cons (.ret (.bin .add (.cst (.int 1)) (.blt .max1 (.cons (.bin .add (.lst (.cons (.cst (.int 0)) .nil)) (.cm1 [1, 2] (.tu [1, 2]) .seq (.cons (.call 3 (.cons (.var 0) .nil) [false]) .nil) .nil (.call 9 (.cons (.call 4 (.cons (.var 0) (.cons (.var 1) .nil)) [false, false]) .nil) [false]))) .nil))))
  .nil)
def b10 : Ss := -- need_small(formula)
  (.cons (.if_ (.or_ (.cmp .gt (.call 8 (.cons (.var 0) .nil) [false]) (.glb "MOST_WORDS_formulas")) (.cmp .gt (.call 9 (.cons (.var 0) .nil) [false]) (.glb "MOST_DEPTH"))) (.cons (.raise 0 (.cons (.tup .nil) .nil))
   .nil) .nil)
  .nil)
def b11 : Ss := -- check_formula(value)
  (.cons (.set 1 (.call 6 (.cons (.var 0) (.cons (.tup .nil) .nil)) [false, false]))
  (.cons (.if_ (.cmp .notN (.var 1) (.cst .non)) (.cons (.raise 0 (.cons (.var 1) .nil))
   .nil) .nil)
  (.cons (.exp (.call 10 (.cons (.var 0) .nil) [false]))
  (.cons (.ret (.var 0))
  .nil))))
def b12 : Ss := -- is_integer(value)
  (.cons (.ret (.and_ (.blt (.isi .int) (.cons (.var 0) .nil)) (.not_ (.blt (.isi .bool) (.cons (.var 0) .nil)))))
  .nil)
def b13 : Ss := -- asked(formula, level)
  (.cons (.set 2 (.idx (.var 0) (.cst (.int 0))))
  (.cons (.set 3 (.idx (.glb "ASKED") (.var 2)))
  (.cons (.if_ (.or_ (.and_ (.cmp .eq (.var 2) (.cst (.str "row"))) (.cmp .gt (.blt .len (.cons (.var 0) .nil)) (.cst (.int 2)))) (.and_ (.cmp .eq (.var 2) (.cst (.str "table"))) (.cmp .gt (.blt .len (.cons (.idx (.idx (.var 0) (.cst (.int 1))) (.cst (.int 0))) .nil)) (.cst (.int 1))))) (.cons (.set 3 (.bin .add (.var 3) (.tup (.cons (.cst (.str "space")) .nil))))
   .nil) .nil)
  (.cons (.set 4 (.cm1 [5] (.nm 5) .seq (.cons (.var 3) .nil) .nil (.tup (.cons (.var 5) (.cons (.var 1) .nil)))))
  (.cons (.if_ (.cmp .in_ (.var 2) (.glb "SIGNED")) (.cons (.set 4 (.bin .add (.var 4) (.cm1 [5] (.nm 5) .seq (.cons (.glb "OF_SIGNS") .nil) .nil (.tup (.cons (.var 5) (.cons (.idx (.var 0) (.cst (.int 1))) (.cons (.var 1) .nil)))))))
   .nil) .nil)
  (.cons (.ret (.var 4))
  .nil))))))
def b14 : Ss := -- needed_at(formula, level)
  (.cons (.set 2 (.lst .nil))
  (.cons (.for_ (.tu [3, 4, 5]) .seq (.cons (.call 7 (.cons (.var 0) (.cons (.tup .nil) (.cons (.var 1) .nil))) [false, false, false]) .nil) (.cons (.set 2 (.bin .add (.var 2) (.call 13 (.cons (.var 4) (.cons (.var 5) .nil)) [false, false])))
   .nil))
  (.cons (.ret (.blt .toTup (.cons (.blt .sortSet (.cons (.var 2) .nil)) .nil)))
  .nil)))
def b15 : Ss := -- needed(formula)
  (.cons (.ret (.call 14 (.cons (.var 0) (.cons (.cst (.int 0)) .nil)) [false, false]))
  .nil)
def b16 : Ss := -- is_side(value)
  (.cons (.ret (.and_ (.call 12 (.cons (.var 0) .nil) [false]) (.chn (.cst (.int 1)) .le (.var 0) .le (.glb "MOST_SIDE"))))
  .nil)
def b17 : Ss := -- is_span(low, high, most)
  (.cons (.ret (.and_ (.call 12 (.cons (.var 0) .nil) [false]) (.and_ (.call 12 (.cons (.var 1) .nil) [false]) (.chn3 (.cst (.int 0)) .le (.var 0) .lt (.var 1) .le (.var 2)))))
  .nil)
def b18 : Ss := -- is_cell(value, columns, rows)
  (.cons (.if_ (.or_ (.not_ (.blt (.isi .tup) (.cons (.var 0) .nil))) (.cmp .ne (.blt .len (.cons (.var 0) .nil)) (.cst (.int 5)))) (.cons (.ret (.cst (.bl false)))
   .nil) .nil)
  (.cons (.if_ (.or_ (.not_ (.call 17 (.cons (.idx (.var 0) (.cst (.int 0))) (.cons (.idx (.var 0) (.cst (.int 1))) (.cons (.var 1) .nil))) [false, false, false])) (.not_ (.call 17 (.cons (.idx (.var 0) (.cst (.int 2))) (.cons (.idx (.var 0) (.cst (.int 3))) (.cons (.var 2) .nil))) [false, false, false]))) (.cons (.ret (.cst (.bl false)))
   .nil) .nil)
  (.cons (.tryO (.cons (.exp (.call 11 (.cons (.idx (.var 0) (.cst (.int 4))) .nil) [false]))
   .nil) [0, 1] (.bl false))
  (.cons (.ret (.cst (.bl true)))
  .nil))))
def b19 : Ss := -- share_field(one, other)
  (.cons (.set 2 (.and_ (.cmp .lt (.idx (.var 0) (.cst (.int 0))) (.idx (.var 1) (.cst (.int 1)))) (.cmp .lt (.idx (.var 1) (.cst (.int 0))) (.idx (.var 0) (.cst (.int 1))))))
  (.cons (.ret (.and_ (.var 2) (.and_ (.cmp .lt (.idx (.var 0) (.cst (.int 2))) (.idx (.var 1) (.cst (.int 3)))) (.cmp .lt (.idx (.var 1) (.cst (.int 2))) (.idx (.var 0) (.cst (.int 3)))))))
  .nil))
def b20 : Ss := -- check_grid(value)
  (.cons (.if_ (.or_ (.not_ (.blt (.isi .tup) (.cons (.var 0) .nil))) (.or_ (.cmp .ne (.blt .len (.cons (.var 0) .nil)) (.cst (.int 3))) (.or_ (.not_ (.call 16 (.cons (.idx (.var 0) (.cst (.int 0))) .nil) [false])) (.not_ (.call 16 (.cons (.idx (.var 0) (.cst (.int 1))) .nil) [false]))))) (.cons (.raise 1 (.cons (.cst .non) .nil))
   .nil) .nil)
  (.cons (.unp [1, 2, 3] (.var 0))
  (.cons (.if_ (.or_ (.not_ (.blt (.isi .tup) (.cons (.var 3) .nil))) (.cmp .gt (.blt .len (.cons (.var 3) .nil)) (.glb "MOST_CELLS"))) (.cons (.raise 1 (.cons (.cst .non) .nil))
   .nil) .nil)
  (.cons (.set 4 (.cst (.int 0)))
  (.cons (.for_ (.tu [5, 6]) .enm (.cons (.var 3) .nil) (.cons (.if_ (.or_ (.not_ (.call 18 (.cons (.var 6) (.cons (.var 1) (.cons (.var 2) .nil))) [false, false, false])) (.blt .any (.cons (.cm1 [7] (.nm 7) .seq (.cons (.slc (.var 3) .nil (.cons (.var 5) .nil)) .nil) .nil (.call 19 (.cons (.var 6) (.cons (.var 7) .nil)) [false, false])) .nil))) (.cons (.raise 1 (.cons (.var 5) .nil))
    .nil) .nil)
   (.cons (.aug 4 .add (.call 8 (.cons (.idx (.var 6) (.cst (.int 4))) .nil) [false]))
   (.cons (.if_ (.cmp .gt (.var 4) (.glb "MOST_WORDS_grids")) (.cons (.raise 1 (.cons (.var 5) .nil))
    .nil) .nil)
   .nil))))
  (.cons (.ret (.var 0))
  .nil))))))
def b21 : Ss := -- grid_names(grid)
  (.cons (.set 1 (.lst (.cons (.glb "GAP") .nil)))
  (.cons (.for_ (.nm 2) .seq (.cons (.idx (.var 0) (.cst (.int 2))) .nil) (.cons (.set 1 (.bin .add (.var 1) (.blt .toList (.cons (.call 15 (.cons (.idx (.var 2) (.cst (.int 4))) .nil) [false]) .nil))))
   .nil))
  (.cons (.ret (.blt .toTup (.cons (.blt .sortSet (.cons (.var 1) .nil)) .nil)))
  .nil)))
def b22 : Ss := -- _law_begun(script, k)
  (.cons (.set 2 (.bin .add (.slc (.var 0) (.cons (.var 1) .nil) .nil) (.slc (.var 0) .nil (.cons (.var 1) .nil))))
  (.cons (.set 3 (.cm1 [5] (.nm 5) .seq (.cons (.var 2) .nil) (.cons (.cmp .ge (.var 5) (.bin .pow (.cst (.int 10)) (.cst (.int 18)))) .nil) (.var 5)))
  (.cons (.set 4 (.bin .add (.cst (.int 91)) (.var 1)))
  (.cons (.for_ (.nm 5) .seq (.cons (.fvar 2) .nil) (.cons (.set 4 (.bin .mod (.blt .toInt (.cons (.bin .add (.bin .mul (.var 4) (.cst (.int 48271))) (.var 5)) .nil)) (.cst (.int 2147483647))))
   .nil))
  (.cons (.ret (.dspK [(.inr "left"), (.inr "seed"), (.inr "cells"), (.inr "spot")] (.cons (.ife (.cmp .ne (.var 3) (.lst .nil)) (.idx (.var 3) (.cst (.int 0))) (.cst (.int 0))) (.cons (.var 4) (.cons (.bin .add (.var 2) (.lst (.cons (.bin .add (.bin .mul (.cst (.int 61)) (.var 1)) (.cst (.int 17))) .nil))) (.cons (.cst (.int 0)) .nil))))))
  .nil)))))
def b23 : Ss := -- _law_draw(m, bound)
  (.cons (.if_ (.cmp .gt (.idx (.var 0) (.cst (.str "left"))) (.cst (.int 0))) (.cons (.set 2 (.bin .mod (.blt .toInt (.cons (.idx (.var 0) (.cst (.str "left"))) .nil)) (.var 1)))
   (.cons (.put 0 (.cst (.str "left")) (.bin .fdiv (.idx (.var 0) (.cst (.str "left"))) (.var 1)))
   (.cons (.ret (.var 2))
   .nil))) .nil)
  (.cons (.set 3 (.idx (.var 0) (.cst (.str "spot"))))
  (.cons (.put 0 (.cst (.str "spot")) (.bin .add (.var 3) (.cst (.int 1))))
  (.cons (.par [4, 5] (.cons (.idx (.var 0) (.cst (.str "cells"))) (.cons (.bin .add (.idx (.var 0) (.cst (.str "seed"))) (.bin .mul (.bin .mul (.cst (.int 40503)) (.var 3)) (.var 3))) .nil)))
  (.cons (.set 6 (.idx (.var 4) (.bin .mod (.blt .toInt (.cons (.var 3) .nil)) (.blt .len (.cons (.var 4) .nil)))))
  (.cons (.set 7 (.bin .mod (.blt .toInt (.cons (.bin .add (.bin .mul (.var 6) (.bin .add (.bin .mul (.cst (.int 2)) (.var 3)) (.cst (.int 3)))) (.var 5)) .nil)) (.cst (.int 2147483647))))
  (.cons (.set 7 (.bin .mod (.blt .toInt (.cons (.bin .add (.bin .add (.bin .mul (.var 7) (.var 7)) (.bin .mul (.cst (.int 69621)) (.var 3))) (.idx (.var 0) (.cst (.str "seed")))) .nil)) (.cst (.int 2147483629))))
  (.cons (.ret (.bin .mod (.bin .fdiv (.bin .mod (.blt .toInt (.cons (.bin .add (.bin .mul (.var 7) (.cst (.int 48271))) (.var 3)) .nil)) (.cst (.int 2147483647))) (.cst (.int 11))) (.var 1)))
  .nil))))))))
def b24 : Ss := -- _law_of(m, some)
  (.cons (.ret (.idx (.var 1) (.call 23 (.cons (.var 0) (.cons (.blt .len (.cons (.var 1) .nil)) .nil)) [true, false])))
  .nil)
def b25 : Ss := -- _law_like(told, due)
  (.cons (.ret (.cmp .eq (.blt .repr (.cons (.var 0) .nil)) (.blt .repr (.cons (.var 1) .nil))))
  .nil)
def b26 : Ss := -- _law_is_int(value)
  (.cons (.ret (.and_ (.blt (.isi .int) (.cons (.var 0) .nil)) (.not_ (.blt (.isi .bool) (.cons (.var 0) .nil)))))
  .nil)
def b27 : Ss := -- _law_flat_list(lots)
  (.cons (.set 1 (.lst .nil))
  (.cons (.for_ (.nm 2) .seq (.cons (.fvar 0) .nil) (.cons (.set 1 (.bin .add (.var 1) (.var 2)))
   .nil))
  (.cons (.ret (.var 1))
  .nil)))
def b28 : Ss := -- _law_formula(m, deep)
  (.cons (.if_ (.or_ (.cmp .lt (.var 1) (.cst (.int 2))) (.cmp .eq (.call 23 (.cons (.var 0) (.cons (.cst (.int 5)) .nil)) [true, false]) (.cst (.int 0)))) (.cons (.ret (.tup (.cons (.cst (.str "sign")) (.cons (.call 24 (.cons (.var 0) (.cons (.lst (.cons (.cst (.str "a")) (.cons (.cst (.str "b")) (.cons (.cst (.str "sum")) .nil)))) .nil)) [true, false]) .nil))))
   .nil) .nil)
  (.cons (.set 2 (.call 24 (.cons (.var 0) (.cons (.lst (.cons (.cst (.str "row")) (.cons (.cst (.str "row")) (.cons (.cst (.str "over")) (.cons (.cst (.str "over")) (.cons (.cst (.str "root")) (.cons (.cst (.str "high")) (.cons (.cst (.str "low")) (.cons (.cst (.str "both")) (.cons (.cst (.str "stack")) (.cons (.cst (.str "fence")) (.cons (.cst (.str "bar")) (.cons (.cst (.str "table")) .nil))))))))))))) .nil)) [true, false]))
  (.cons (.if_ (.cmp .eq (.var 2) (.cst (.str "row"))) (.cons (.ret (.bin .add (.tup (.cons (.cst (.str "row")) .nil)) (.blt .toTup (.cons (.cm1 [7] (.nm 7) .rng1 (.cons (.bin .add (.cst (.int 1)) (.call 23 (.cons (.var 0) (.cons (.cst (.int 3)) .nil)) [true, false])) .nil) .nil (.call 28 (.cons (.var 0) (.cons (.bin .sub (.var 1) (.cst (.int 1))) .nil)) [true, false])) .nil))))
   .nil) .nil)
  (.cons (.if_ (.cmp .eq (.var 2) (.cst (.str "stack"))) (.cons (.set 2 (.call 24 (.cons (.var 0) (.cons (.lst (.cons (.cst (.str "under")) (.cons (.cst (.str "upper")) (.cons (.cst (.str "limits")) .nil)))) .nil)) [true, false]))
   (.cons (.set 3 (.cm1 [7] (.nm 7) .rng1 (.cons (.ife (.cmp .eq (.var 2) (.cst (.str "limits"))) (.cst (.int 2)) (.cst (.int 1))) .nil) .nil (.call 28 (.cons (.var 0) (.cons (.bin .sub (.var 1) (.cst (.int 1))) .nil)) [true, false])))
   (.cons (.ret (.bin .add (.tup (.cons (.var 2) (.cons (.call 24 (.cons (.var 0) (.cons (.lst (.cons (.cst (.str "sum")) (.cons (.cst (.str "a")) .nil))) .nil)) [true, false]) .nil))) (.blt .toTup (.cons (.var 3) .nil))))
   .nil))) .nil)
  (.cons (.if_ (.cmp .eq (.var 2) (.cst (.str "table"))) (.cons (.par [4, 5] (.cons (.bin .add (.cst (.int 1)) (.call 23 (.cons (.var 0) (.cons (.cst (.int 3)) .nil)) [true, false])) (.cons (.bin .add (.cst (.int 1)) (.call 23 (.cons (.var 0) (.cons (.cst (.int 3)) .nil)) [true, false])) .nil)))
   (.cons (.ret (.tup (.cons (.var 2) (.cons (.blt .toTup (.cons (.cm1 [8] (.nm 8) .rng1 (.cons (.var 4) .nil) .nil (.blt .toTup (.cons (.cm1 [9] (.nm 9) .rng1 (.cons (.var 5) .nil) .nil (.call 28 (.cons (.var 0) (.cons (.bin .sub (.var 1) (.cst (.int 2))) .nil)) [true, false])) .nil))) .nil)) .nil))))
   .nil)) .nil)
  (.cons (.if_ (.cmp .in_ (.var 2) (.tup (.cons (.cst (.str "high")) (.cons (.cst (.str "low")) (.cons (.cst (.str "both")) .nil))))) (.cons (.set 6 (.call 28 (.cons (.var 0) (.cons (.bin .sub (.var 1) (.cst (.int 1))) .nil)) [true, false]))
   (.cons (.set 6 (.ife (.cmp .in_ (.idx (.var 6) (.cst (.int 0))) (.tup (.cons (.cst (.str "row")) (.cons (.cst (.str "high")) (.cons (.cst (.str "low")) (.cons (.cst (.str "both")) .nil)))))) (.tup (.cons (.cst (.str "sign")) (.cons (.cst (.str "b")) .nil))) (.var 6)))
   (.cons (.ret (.bin .add (.tup (.cons (.var 2) (.cons (.var 6) .nil))) (.blt .toTup (.cons (.cm1 [7] (.nm 7) .rng1 (.cons (.ife (.cmp .eq (.var 2) (.cst (.str "both"))) (.cst (.int 2)) (.cst (.int 1))) .nil) .nil (.call 28 (.cons (.var 0) (.cons (.bin .sub (.var 1) (.cst (.int 1))) .nil)) [true, false])) .nil))))
   .nil))) .nil)
  (.cons (.ret (.bin .add (.tup (.cons (.var 2) .nil)) (.blt .toTup (.cons (.cm1 [7] (.nm 7) .rng1 (.cons (.ife (.cmp .eq (.var 2) (.cst (.str "over"))) (.cst (.int 2)) (.cst (.int 1))) .nil) .nil (.call 28 (.cons (.var 0) (.cons (.bin .sub (.var 1) (.cst (.int 1))) .nil)) [true, false])) .nil))))
  .nil)))))))
def b29 : Ss := -- _law_parts(formula)
  (.cons (.set 1 (.idx (.var 0) (.cst (.int 0))))
  (.cons (.if_ (.cmp .eq (.var 1) (.cst (.str "sign"))) (.cons (.ret (.lst .nil))
   .nil) .nil)
  (.cons (.if_ (.cmp .eq (.var 1) (.cst (.str "table"))) (.cons (.set 2 (.lst .nil))
   (.cons (.for_ (.tu [3, 4]) .enm (.cons (.idx (.var 0) (.cst (.int 1))) .nil) (.cons (.set 2 (.bin .add (.var 2) (.cm1 [9, 10] (.tu [9, 10]) .enm (.cons (.var 4) .nil) .nil (.tup (.cons (.tup (.cons (.cst (.int 1)) (.cons (.var 3) (.cons (.var 9) .nil)))) (.cons (.var 10) (.cons (.cst (.int 0)) .nil)))))))
    .nil))
   (.cons (.ret (.var 2))
   .nil))) .nil)
  (.cons (.set 5 (.ife (.cmp .in_ (.var 1) (.tup (.cons (.cst (.str "under")) (.cons (.cst (.str "upper")) (.cons (.cst (.str "limits")) .nil))))) (.cst (.int 2)) (.cst (.int 1))))
  (.cons (.set 6 (.cmp .in_ (.var 1) (.tup (.cons (.cst (.str "over")) (.cons (.cst (.str "under")) (.cons (.cst (.str "upper")) (.cons (.cst (.str "limits")) .nil)))))))
  (.cons (.set 7 (.cmp .in_ (.var 1) (.tup (.cons (.cst (.str "high")) (.cons (.cst (.str "low")) (.cons (.cst (.str "both")) .nil))))))
  (.cons (.set 8 (.blt .lrng2 (.cons (.var 5) (.cons (.blt .len (.cons (.var 0) .nil)) .nil))))
  (.cons (.ret (.cm1 [11] (.nm 11) .seq (.cons (.var 8) .nil) .nil (.tup (.cons (.tup (.cons (.var 11) .nil)) (.cons (.idx (.var 0) (.var 11)) (.cons (.blt .toInt (.cons (.or_ (.var 6) (.and_ (.var 7) (.cmp .gt (.var 11) (.cst (.int 1))))) .nil)) .nil))))))
  .nil))))))))
def b30 : Ss := -- _law_levels(formula, level, path)
  (.cons (.set 3 (.lst (.cons (.tup (.cons (.var 2) (.cons (.var 0) (.cons (.var 1) .nil)))) .nil)))
  (.cons (.for_ (.tu [4, 5, 6]) .seq (.cons (.call 29 (.cons (.var 0) .nil) [false]) .nil) (.cons (.set 3 (.bin .add (.var 3) (.call 30 (.cons (.var 5) (.cons (.bin .add (.var 1) (.var 6)) (.cons (.bin .add (.var 2) (.var 4)) .nil))) [false, false, false])))
   .nil))
  (.cons (.ret (.var 3))
  .nil)))
def b31 : Ss := -- _law_needed(formula)
  (.cons (.par [1, 2] (.cons (.dspT [] .nil) (.cons (.dspK [(.inr "over"), (.inr "root"), (.inr "fence"), (.inr "bar")] (.cons (.cst (.str "axis rule gap rise fall")) (.cons (.cst (.str "rule gap")) (.cons (.cst (.str "rule gap")) (.cons (.cst (.str "rule gap")) .nil))))) .nil)))
  (.cons (.set 2 (.blt .toDictK (.cons (.bin .add (.blt .items (.cons (.var 2) .nil)) (.lst (.cons (.tup (.cons (.cst (.str "high")) (.cons (.cst (.str "rise")) .nil))) (.cons (.tup (.cons (.cst (.str "low")) (.cons (.cst (.str "fall")) .nil))) (.cons (.tup (.cons (.cst (.str "both")) (.cons (.cst (.str "rise fall")) .nil))) (.cons (.tup (.cons (.cst (.str "under")) (.cons (.cst (.str "fall gap")) .nil))) .nil)))))) .nil)))
  (.cons (.set 2 (.blt .toDictK (.cons (.bin .add (.blt .items (.cons (.var 2) .nil)) (.lst (.cons (.tup (.cons (.cst (.str "upper")) (.cons (.cst (.str "rise gap")) .nil))) (.cons (.tup (.cons (.cst (.str "limits")) (.cons (.cst (.str "rise fall gap")) .nil))) (.cons (.tup (.cons (.cst (.str "table")) (.cons (.cst (.str "axis rule gap")) .nil))) .nil))))) .nil)))
  (.cons (.for_ (.tu [3, 4, 5]) .seq (.cons (.call 30 (.cons (.var 0) (.cons (.cst (.int 0)) (.cons (.tup .nil) .nil))) [false, false, false]) .nil) (.cons (.for_ (.nm 6) .seq (.cons (.ife (.cmp .in_ (.idx (.var 4) (.cst (.int 0))) (.var 2)) (.blt .words (.cons (.idx (.var 2) (.idx (.var 4) (.cst (.int 0)))) .nil)) (.lst .nil)) .nil) (.cons (.put 1 (.tup (.cons (.var 6) (.cons (.var 5) .nil))) (.cst (.bl true)))
    .nil))
   (.cons (.if_ (.cmp .in_ (.idx (.var 4) (.cst (.int 0))) (.tup (.cons (.cst (.str "sign")) (.cons (.cst (.str "under")) (.cons (.cst (.str "upper")) (.cons (.cst (.str "limits")) .nil)))))) (.cons (.for_ (.nm 6) .seq (.cons (.tup (.cons (.cst (.str "wide")) (.cons (.cst (.str "high")) (.cons (.cst (.str "deep")) .nil)))) .nil) (.cons (.put 1 (.tup (.cons (.var 6) (.cons (.idx (.var 4) (.cst (.int 1))) (.cons (.var 5) .nil)))) (.cst (.bl true)))
     .nil))
    .nil) .nil)
   (.cons (.if_ (.or_ (.and_ (.cmp .eq (.idx (.var 4) (.cst (.int 0))) (.cst (.str "row"))) (.cmp .gt (.blt .len (.cons (.var 4) .nil)) (.cst (.int 2)))) (.and_ (.cmp .eq (.idx (.var 4) (.cst (.int 0))) (.cst (.str "table"))) (.cmp .gt (.blt .len (.cons (.idx (.idx (.var 4) (.cst (.int 1))) (.cst (.int 0))) .nil)) (.cst (.int 1))))) (.cons (.put 1 (.tup (.cons (.cst (.str "space")) (.cons (.var 5) .nil))) (.cst (.bl true)))
    .nil) .nil)
   .nil))))
  (.cons (.ret (.blt .toTup (.cons (.blt .sortKeys (.cons (.var 1) .nil)) .nil)))
  .nil)))))
def b32 : Ss := -- _law_grid(m, deep)
  (.cons (.par [2, 3, 4, 5] (.cons (.bin .add (.cst (.int 1)) (.call 23 (.cons (.var 0) (.cons (.cst (.int 4)) .nil)) [true, false])) (.cons (.bin .add (.cst (.int 1)) (.call 23 (.cons (.var 0) (.cons (.cst (.int 3)) .nil)) [true, false])) (.cons (.lst .nil) (.cons (.dspT [] .nil) .nil)))))
  (.cons (.for_ (.nm 6) .rng1 (.cons (.cst (.int 6)) .nil) (.cons (.par [7, 8] (.cons (.call 23 (.cons (.var 0) (.cons (.var 2) .nil)) [true, false]) (.cons (.call 23 (.cons (.var 0) (.cons (.var 3) .nil)) [true, false]) .nil)))
   (.cons (.set 9 (.bin .add (.bin .add (.var 7) (.cst (.int 1))) (.bin .fdiv (.call 23 (.cons (.var 0) (.cons (.bin .sub (.var 2) (.var 7)) .nil)) [true, false]) (.bin .add (.cst (.int 1)) (.call 23 (.cons (.var 0) (.cons (.cst (.int 2)) .nil)) [true, false])))))
   (.cons (.set 10 (.bin .add (.bin .add (.var 8) (.cst (.int 1))) (.bin .fdiv (.call 23 (.cons (.var 0) (.cons (.bin .sub (.var 3) (.var 8)) .nil)) [true, false]) (.bin .add (.cst (.int 1)) (.call 23 (.cons (.var 0) (.cons (.cst (.int 2)) .nil)) [true, false])))))
   (.cons (.set 11 (.call 27 (.cons (.cm1 [14] (.nm 14) .rng2 (.cons (.var 8) (.cons (.var 10) .nil)) .nil (.cm1 [15] (.nm 15) .rng2 (.cons (.var 7) (.cons (.var 9) .nil)) .nil (.tup (.cons (.var 15) (.cons (.var 14) .nil))))) .nil) [false]))
   (.cons (.set 12 (.call 28 (.cons (.var 0) (.cons (.var 1) .nil)) [true, false]))
   (.cons (.set 13 (.bin .add (.blt .sum (.cons (.cm1 [16] (.nm 16) .seq (.cons (.var 4) .nil) .nil (.blt .len (.cons (.call 30 (.cons (.idx (.var 16) (.cst (.int 4))) (.cons (.cst (.int 0)) (.cons (.tup .nil) .nil))) [false, false, false]) .nil))) .nil)) (.blt .len (.cons (.call 30 (.cons (.var 12) (.cons (.cst (.int 0)) (.cons (.tup .nil) .nil))) [false, false, false]) .nil))))
   (.cons (.if_ (.and_ (.cmp .lt (.blt .len (.cons (.var 4) .nil)) (.cst (.int 5))) (.and_ (.cmp .lt (.var 13) (.cst (.int 61))) (.cmp .eq (.cm1 [17] (.nm 17) .seq (.cons (.var 11) .nil) (.cons (.cmp .in_ (.var 17) (.var 5)) .nil) (.var 17)) (.lst .nil)))) (.cons (.app 4 (.tup (.cons (.var 7) (.cons (.var 9) (.cons (.var 8) (.cons (.var 10) (.cons (.var 12) .nil)))))))
    (.cons (.upd 5 (.blt .toDictT (.cons (.cm1 [17] (.nm 17) .seq (.cons (.var 11) .nil) .nil (.tup (.cons (.var 17) (.cons (.cst (.bl true)) .nil)))) .nil)))
    .nil)) .nil)
   .nil))))))))
  (.cons (.ret (.tup (.cons (.var 2) (.cons (.var 3) (.cons (.blt .toTup (.cons (.var 4) .nil)) .nil)))))
  .nil)))
def b33 : Ss := -- _law_grid_names(grid_so)
  (.cons (.set 1 (.dspT [[(.inr "gap"), (.inl 0)]] (.cons (.cst (.bl true)) .nil)))
  (.cons (.for_ (.nm 2) .seq (.cons (.idx (.var 0) (.cst (.int 2))) .nil) (.cons (.upd 1 (.blt .toDictT (.cons (.cm1 [3] (.nm 3) .seq (.cons (.call 31 (.cons (.idx (.var 2) (.cst (.int 4))) .nil) [false]) .nil) .nil (.tup (.cons (.var 3) (.cons (.cst (.bl true)) .nil)))) .nil)))
   .nil))
  (.cons (.ret (.blt .toTup (.cons (.blt .sortKeys (.cons (.var 1) .nil)) .nil)))
  .nil)))
def b34 : Ss := -- _law_told(value)
  (.cons (.tryF (.cons (.set 1 (.lst (.cons (.call 20 (.cons (.var 0) .nil) [false]) .nil)))
   .nil) 1 0 2 1)
  (.cons (.ret (.var 1))
  .nil))
def b35 : Ss := -- _law_is_span(low, high, most)
  (.cons (.ret (.and_ (.call 26 (.cons (.var 0) .nil) [false]) (.and_ (.call 26 (.cons (.var 1) .nil) [false]) (.chn3 (.cst (.int 0)) .le (.var 0) .lt (.var 1) .le (.var 2)))))
  .nil)
def b36 : Ss := -- _law_due(value, bad)
  (.cons (.if_ (.or_ (.not_ (.blt (.isi .tup) (.cons (.var 0) .nil))) (.or_ (.cmp .ne (.blt .len (.cons (.var 0) .nil)) (.cst (.int 3))) (.cmp .ne (.cm1 [8] (.nm 8) .seq (.cons (.slc (.var 0) .nil (.cons (.cst (.int 2)) .nil)) .nil) (.cons (.not_ (.call 26 (.cons (.var 8) .nil) [false])) .nil) (.cst (.int 1))) (.lst .nil)))) (.cons (.ret (.cst .non))
   .nil) .nil)
  (.cons (.if_ (.or_ (.not_ (.chn (.cst (.int 0)) .lt (.idx (.var 0) (.cst (.int 0))) .lt (.cst (.int 13)))) (.or_ (.not_ (.chn (.cst (.int 0)) .lt (.idx (.var 0) (.cst (.int 1))) .lt (.cst (.int 13)))) (.or_ (.not_ (.blt (.isi .tup) (.cons (.idx (.var 0) (.cst (.int 2))) .nil))) (.cmp .gt (.blt .len (.cons (.idx (.var 0) (.cst (.int 2))) .nil)) (.cst (.int 24)))))) (.cons (.ret (.cst .non))
   .nil) .nil)
  (.cons (.par [2, 3] (.cons (.cst (.int 0)) (.cons (.dspT [] .nil) .nil)))
  (.cons (.for_ (.tu [4, 5]) .enm (.cons (.idx (.var 0) (.cst (.int 2))) .nil) (.cons (.if_ (.or_ (.not_ (.blt (.isi .tup) (.cons (.var 5) .nil))) (.or_ (.cmp .ne (.blt .len (.cons (.var 5) .nil)) (.cst (.int 5))) (.not_ (.call 35 (.cons (.idx (.var 5) (.cst (.int 0))) (.cons (.idx (.var 5) (.cst (.int 1))) (.cons (.idx (.var 0) (.cst (.int 0))) .nil))) [false, false, false])))) (.cons (.ret (.var 4))
    .nil) .nil)
   (.cons (.if_ (.or_ (.not_ (.call 35 (.cons (.idx (.var 5) (.cst (.int 2))) (.cons (.idx (.var 5) (.cst (.int 3))) (.cons (.idx (.var 0) (.cst (.int 1))) .nil))) [false, false, false])) (.cmp .in_ (.blt .repr (.cons (.idx (.var 5) (.cst (.int 4))) .nil)) (.var 1))) (.cons (.ret (.var 4))
    .nil) .nil)
   (.cons (.set 2 (.bin .add (.var 2) (.blt .len (.cons (.call 30 (.cons (.idx (.var 5) (.cst (.int 4))) (.cons (.cst (.int 0)) (.cons (.tup .nil) .nil))) [false, false, false]) .nil))))
   (.cons (.for_ (.nm 6) .rng2 (.cons (.idx (.var 5) (.cst (.int 0))) (.cons (.idx (.var 5) (.cst (.int 1))) .nil)) (.cons (.for_ (.nm 7) .rng2 (.cons (.idx (.var 5) (.cst (.int 2))) (.cons (.idx (.var 5) (.cst (.int 3))) .nil)) (.cons (.if_ (.cmp .in_ (.tup (.cons (.var 6) (.cons (.var 7) .nil))) (.var 3)) (.cons (.ret (.var 4))
      .nil) .nil)
     (.cons (.put 3 (.tup (.cons (.var 6) (.cons (.var 7) .nil))) (.cst (.bl true)))
     .nil)))
    .nil))
   (.cons (.if_ (.cmp .gt (.var 2) (.cst (.int 60))) (.cons (.ret (.var 4))
    .nil) .nil)
   .nil))))))
  (.cons (.ret (.lst (.cons (.var 0) .nil)))
  .nil)))))
def b37 : Ss := -- _law_bent(m, grid_so, bad)
  (.cons (.unp [3, 4, 5] (.var 1))
  (.cons (.par [6, 7] (.cons (.call 23 (.cons (.var 0) (.cons (.cst (.int 8)) .nil)) [true, false]) (.cons (.tup (.cons (.cst (.int 0)) (.cons (.cst (.int 1)) (.cons (.cst (.int 0)) (.cons (.cst (.int 1)) (.cons (.tup (.cons (.cst (.str "sign")) (.cons (.cst (.str "a")) .nil))) .nil)))))) .nil)))
  (.cons (.if_ (.cmp .eq (.var 6) (.cst (.int 0))) (.cons (.ret (.call 24 (.cons (.var 0) (.cons (.lst (.cons (.tup (.cons (.cst (.int 0)) (.cons (.var 4) (.cons (.var 5) .nil)))) (.cons (.tup (.cons (.cst (.int 13)) (.cons (.var 4) (.cons (.var 5) .nil)))) (.cons (.tup (.cons (.var 3) (.cons (.cst (.int 13)) (.cons (.var 5) .nil)))) (.cons (.tup (.cons (.cst (.bl true)) (.cons (.var 4) (.cons (.var 5) .nil)))) (.cons (.tup (.cons (.var 3) (.cons (.cst .non) (.cons (.var 5) .nil)))) .nil)))))) .nil)) [true, false]))
   .nil) .nil)
  (.cons (.if_ (.cmp .eq (.var 6) (.cst (.int 1))) (.cons (.ret (.call 24 (.cons (.var 0) (.cons (.lst (.cons (.cst .non) (.cons (.tup .nil) (.cons (.lst (.cons (.var 3) (.cons (.var 4) (.cons (.var 5) .nil)))) (.cons (.tup (.cons (.var 3) (.cons (.var 4) .nil))) (.cons (.tup (.cons (.var 3) (.cons (.var 4) (.cons (.blt .toList (.cons (.var 5) .nil)) .nil)))) (.cons (.bin .add (.var 1) (.tup (.cons (.cst (.int 1)) .nil))) .nil))))))) .nil)) [true, false]))
   .nil) .nil)
  (.cons (.if_ (.cmp .eq (.var 6) (.cst (.int 2))) (.cons (.ret (.tup (.cons (.var 3) (.cons (.var 4) (.cons (.bin .add (.var 5) (.tup (.cons (.var 7) .nil))) .nil)))))
   .nil) .nil)
  (.cons (.if_ (.cmp .eq (.var 6) (.cst (.int 3))) (.cons (.ret (.tup (.cons (.var 3) (.cons (.var 4) (.cons (.bin .add (.tup (.cons (.var 7) .nil)) (.var 5)) .nil)))))
   .nil) .nil)
  (.cons (.if_ (.cmp .eq (.var 6) (.cst (.int 4))) (.cons (.ret (.tup (.cons (.var 3) (.cons (.var 4) (.cons (.bin .add (.bin .add (.slc (.var 5) .nil (.cons (.cst (.int 1)) .nil)) (.tup (.cons (.tup (.cons (.cst (.int 0)) (.cons (.bin .add (.var 3) (.cst (.int 1))) (.cons (.cst (.int 0)) (.cons (.cst (.int 1)) (.cons (.tup (.cons (.cst (.str "sign")) (.cons (.cst (.str "a")) .nil))) .nil)))))) .nil))) (.slc (.var 5) (.cons (.cst (.int 1)) .nil) .nil)) .nil)))))
   .nil) .nil)
  (.cons (.if_ (.cmp .eq (.var 6) (.cst (.int 5))) (.cons (.set 8 (.lst (.cons (.cst .non) (.cons (.tup .nil) (.cons (.tup (.cons (.cst (.int 0)) (.cons (.cst (.int 1)) (.cons (.cst (.int 0)) (.cons (.cst (.int 1)) .nil))))) (.cons (.blt .toList (.cons (.var 7) .nil)) (.cons (.tup (.cons (.cst (.int 0)) (.cons (.cst (.int 0)) (.cons (.cst (.int 0)) (.cons (.cst (.int 1)) (.cons (.tup (.cons (.cst (.str "sign")) (.cons (.cst (.str "a")) .nil))) .nil)))))) (.cons (.tup (.cons (.cst (.int 0)) (.cons (.cst (.bl true)) (.cons (.cst (.int 0)) (.cons (.cst (.int 1)) (.cons (.tup (.cons (.cst (.str "sign")) (.cons (.cst (.str "a")) .nil))) .nil)))))) .nil))))))))
   (.cons (.set 8 (.bin .add (.var 8) (.lst (.cons (.tup (.cons (.neg (.cst (.int 1))) (.cons (.cst (.int 1)) (.cons (.cst (.int 0)) (.cons (.cst (.int 1)) (.cons (.tup (.cons (.cst (.str "sign")) (.cons (.cst (.str "a")) .nil))) .nil)))))) (.cons (.tup (.cons (.cst (.int 0)) (.cons (.cst (.int 1)) (.cons (.cst (.int 0)) (.cons (.cst (.str "1")) (.cons (.tup (.cons (.cst (.str "sign")) (.cons (.cst (.str "a")) .nil))) .nil)))))) .nil)))))
   (.cons (.ret (.tup (.cons (.var 3) (.cons (.var 4) (.cons (.bin .add (.var 5) (.tup (.cons (.call 24 (.cons (.var 0) (.cons (.var 8) .nil)) [true, false]) .nil))) .nil)))))
   .nil))) .nil)
  (.cons (.if_ (.cmp .eq (.var 6) (.cst (.int 6))) (.cons (.ret (.tup (.cons (.var 3) (.cons (.var 4) (.cons (.bin .add (.tup (.cons (.tup (.cons (.cst (.int 0)) (.cons (.cst (.int 1)) (.cons (.cst (.int 0)) (.cons (.cst (.int 1)) (.cons (.call 24 (.cons (.var 0) (.cons (.var 2) .nil)) [true, false]) .nil)))))) .nil)) (.var 5)) .nil)))))
   .nil) .nil)
  (.cons (.set 9 (.bin .add (.tup (.cons (.cst (.str "row")) .nil)) (.bin .mul (.tup (.cons (.tup (.cons (.cst (.str "sign")) (.cons (.cst (.str "a")) .nil))) .nil)) (.call 24 (.cons (.var 0) (.cons (.lst (.cons (.cst (.int 28)) (.cons (.cst (.int 29)) (.cons (.cst (.int 30)) .nil)))) .nil)) [true, false]))))
  (.cons (.ret (.tup (.cons (.cst (.int 12)) (.cons (.cst (.int 12)) (.cons (.bin .add (.tup (.cons (.tup (.cons (.cst (.int 0)) (.cons (.cst (.int 1)) (.cons (.cst (.int 0)) (.cons (.cst (.int 1)) (.cons (.var 9) .nil)))))) (.cons (.tup (.cons (.cst (.int 1)) (.cons (.cst (.int 2)) (.cons (.cst (.int 0)) (.cons (.cst (.int 1)) (.cons (.var 9) .nil)))))) .nil))) (.tup (.cons (.tup (.cons (.cst (.int 2)) (.cons (.cst (.int 3)) (.cons (.cst (.int 0)) (.cons (.cst (.int 1)) (.cons (.tup (.cons (.cst (.str "sign")) (.cons (.cst (.str "b")) .nil))) .nil)))))) .nil))) .nil)))))
  .nil)))))))))))
def b38 : Ss := -- law(script)
  (.cons (.set 1 (.lst (.cons (.cst .non) (.cons (.tup .nil) (.cons (.tup (.cons (.cst (.str "sign")) (.cons (.cst (.str "A")) .nil))) (.cons (.tup (.cons (.cst (.str "row")) .nil)) (.cons (.tup (.cons (.cst (.str "high")) (.cons (.tup (.cons (.cst (.str "row")) (.cons (.tup (.cons (.cst (.str "sign")) (.cons (.cst (.str "a")) .nil))) .nil))) (.cons (.tup (.cons (.cst (.str "sign")) (.cons (.cst (.str "a")) .nil))) .nil)))) (.cons (.lst (.cons (.cst (.str "sign")) (.cons (.cst (.str "a")) .nil))) (.cons (.tup (.cons (.cst (.str "rule")) (.cons (.cst (.int 1)) .nil))) .nil)))))))))
  (.cons (.set 2 (.cm1 [9] (.nm 9) .seq (.cons (.var 1) .nil) .nil (.blt .repr (.cons (.var 9) .nil))))
  (.cons (.for_ (.nm 3) .rng1 (.cons (.bin .add (.cst (.int 2)) (.blt .min2 (.cons (.cst (.int 2)) (.cons (.blt .len (.cons (.var 0) .nil)) .nil)))) .nil) (.cons (.set 4 (.call 22 (.cons (.var 0) (.cons (.var 3) .nil)) [false, false]))
   (.cons (.set 5 (.call 32 (.cons (.var 4) (.cons (.cst (.int 3)) .nil)) [true, false]))
   (.cons (.if_ (.not_ (.call 25 (.cons (.call 21 (.cons (.var 5) .nil) [false]) (.cons (.call 33 (.cons (.var 5) .nil) [false]) .nil)) [false, false])) (.cons (.ret (.cst (.bl false)))
    .nil) .nil)
   (.cons (.for_ (.nm 6) .seq (.cons (.bin .add (.lst (.cons (.var 5) .nil)) (.cm1 [10] (.nm 10) .rng1 (.cons (.cst (.int 8)) .nil) .nil (.call 37 (.cons (.var 4) (.cons (.var 5) (.cons (.var 1) .nil))) [true, false, false]))) .nil) (.cons (.if_ (.not_ (.call 25 (.cons (.call 34 (.cons (.var 6) .nil) [false]) (.cons (.call 36 (.cons (.var 6) (.cons (.var 2) .nil)) [false, false]) .nil)) [false, false])) (.cons (.ret (.cst (.bl false)))
     .nil) .nil)
    .nil))
   .nil)))))
  (.cons (.set 7 (.blt .toTup (.cons (.cm1 [3, 11] (.tu [3, 11]) .seq (.cons (.bin .add (.cm1 [12] (.nm 12) .rng1 (.cons (.cst (.int 12)) .nil) .nil (.tup (.cons (.var 12) (.cons (.cst (.int 0)) .nil)))) (.cm1 [12] (.nm 12) .rng1 (.cons (.cst (.int 12)) .nil) .nil (.tup (.cons (.var 12) (.cons (.cst (.int 1)) .nil))))) .nil) .nil (.tup (.cons (.var 3) (.cons (.bin .add (.var 3) (.cst (.int 1))) (.cons (.var 11) (.cons (.bin .add (.var 11) (.cst (.int 1))) (.cons (.tup (.cons (.cst (.str "sign")) (.cons (.cst (.str "a")) .nil))) .nil))))))) .nil)))
  (.cons (.set 8 (.lst (.cons (.call 34 (.cons (.tup (.cons (.cst (.int 12)) (.cons (.cst (.int 12)) (.cons (.var 7) .nil)))) .nil) [false]) (.cons (.call 34 (.cons (.tup (.cons (.cst (.int 12)) (.cons (.cst (.int 12)) (.cons (.bin .add (.var 7) (.tup (.cons (.tup (.cons (.cst (.int 0)) (.cons (.cst (.int 1)) (.cons (.cst (.int 2)) (.cons (.cst (.int 3)) (.cons (.tup (.cons (.cst (.str "sign")) (.cons (.cst (.str "a")) .nil))) .nil)))))) .nil))) .nil)))) .nil) [false]) (.cons (.call 34 (.cons (.tup (.cons (.cst (.int 1)) (.cons (.cst (.int 1)) (.cons (.tup .nil) .nil)))) .nil) [false]) .nil)))))
  (.cons (.ret (.call 25 (.cons (.var 8) (.cons (.lst (.cons (.lst (.cons (.tup (.cons (.cst (.int 12)) (.cons (.cst (.int 12)) (.cons (.var 7) .nil)))) .nil)) (.cons (.cst .non) (.cons (.lst (.cons (.tup (.cons (.cst (.int 1)) (.cons (.cst (.int 1)) (.cons (.tup .nil) .nil)))) .nil)) .nil)))) .nil)) [false, false]))
  .nil))))))
def FN : List (Str × List Str) := ((("is_sign" : Str), (["value"] : List Str)) :: ((("is_no_base" : Str), (["value"] : List Str)) :: ((("has_form" : Str), (["value"] : List Str)) :: ((("steps_of_parts" : Str), (["formula"] : List Str)) :: ((("down" : Str), (["value", "path"] : List Str)) :: ((("table_fault" : Str), (["rows", "path"] : List Str)) :: ((("first_fault" : Str), (["value", "path"] : List Str)) :: ((("walk" : Str), (["formula", "path", "level"] : List Str)) :: ((("words_of" : Str), (["formula"] : List Str)) :: ((("depth_of" : Str), (["formula"] : List Str)) :: ((("need_small" : Str), (["formula"] : List Str)) :: ((("check_formula" : Str), (["value"] : List Str)) :: ((("is_integer" : Str), (["value"] : List Str)) :: ((("asked" : Str), (["formula", "level"] : List Str)) :: ((("needed_at" : Str), (["formula", "level"] : List Str)) :: ((("needed" : Str), (["formula"] : List Str)) :: ((("is_side" : Str), (["value"] : List Str)) :: ((("is_span" : Str), (["low", "high", "most"] : List Str)) :: ((("is_cell" : Str), (["value", "columns", "rows"] : List Str)) :: ((("share_field" : Str), (["one", "other"] : List Str)) :: ((("check_grid" : Str), (["value"] : List Str)) :: ((("grid_names" : Str), (["grid"] : List Str)) :: ((("_law_begun" : Str), (["script", "k"] : List Str)) :: ((("_law_draw" : Str), (["m", "bound"] : List Str)) :: ((("_law_of" : Str), (["m", "some"] : List Str)) :: ((("_law_like" : Str), (["told", "due"] : List Str)) :: ((("_law_is_int" : Str), (["value"] : List Str)) :: ((("_law_flat_list" : Str), (["lots"] : List Str)) :: ((("_law_formula" : Str), (["m", "deep"] : List Str)) :: ((("_law_parts" : Str), (["formula"] : List Str)) :: ((("_law_levels" : Str), (["formula", "level", "path"] : List Str)) :: ((("_law_needed" : Str), (["formula"] : List Str)) :: ((("_law_grid" : Str), (["m", "deep"] : List Str)) :: ((("_law_grid_names" : Str), (["grid_so"] : List Str)) :: ((("_law_told" : Str), (["value"] : List Str)) :: ((("_law_is_span" : Str), (["low", "high", "most"] : List Str)) :: ((("_law_due" : Str), (["value", "bad"] : List Str)) :: ((("_law_bent" : Str), (["m", "grid_so", "bad"] : List Str)) :: ((("law" : Str), (["script"] : List Str)) :: [])))))))))))))))))))))))))))))))))))))))
abbrev iis_sign : Nat := 0
def N0 : List Str := ["value", "letter"]
def io0 : List Bool := [false]
abbrev iis_no_base : Nat := 1
def N1 : List Str := ["value"]
def io1 : List Bool := [false]
abbrev ihas_form : Nat := 2
def N2 : List Str := ["value", "word", "size"]
def io2 : List Bool := [false]
abbrev isteps_of_parts : Nat := 3
def N3 : List Str := ["formula", "word", "row", "cells", "cell", "place"]
def io3 : List Bool := [false]
abbrev idown : Nat := 4
def N4 : List Str := ["value", "path", "place"]
def io4 : List Bool := [false, false]
abbrev itable_fault : Nat := 5
def N5 : List Str := ["rows", "path", "number", "cells", "place", "cell", "fault"]
def io5 : List Bool := [false, false]
abbrev ifirst_fault : Nat := 6
def N6 : List Str := ["value", "path", "word", "place", "step", "part", "fault"]
def io6 : List Bool := [false, false]
abbrev iwalk : Nat := 7
def N7 : List Str := ["formula", "path", "level", "found", "place", "step"]
def io7 : List Bool := [false, false, false]
abbrev iwords_of : Nat := 8
def N8 : List Str := ["formula", "place", "step"]
def io8 : List Bool := [false]
abbrev idepth_of : Nat := 9
def N9 : List Str := ["formula", "place", "step"]
def io9 : List Bool := [false]
abbrev ineed_small : Nat := 10
def N10 : List Str := ["formula"]
def io10 : List Bool := [false]
abbrev icheck_formula : Nat := 11
def N11 : List Str := ["value", "fault"]
def io11 : List Bool := [false]
abbrev iis_integer : Nat := 12
def N12 : List Str := ["value"]
def io12 : List Bool := [false]
abbrev iasked : Nat := 13
def N13 : List Str := ["formula", "level", "word", "words", "found", "one"]
def io13 : List Bool := [false, false]
abbrev ineeded_at : Nat := 14
def N14 : List Str := ["formula", "level", "found", "path", "part", "own"]
def io14 : List Bool := [false, false]
abbrev ineeded : Nat := 15
def N15 : List Str := ["formula"]
def io15 : List Bool := [false]
abbrev iis_side : Nat := 16
def N16 : List Str := ["value"]
def io16 : List Bool := [false]
abbrev iis_span : Nat := 17
def N17 : List Str := ["low", "high", "most"]
def io17 : List Bool := [false, false, false]
abbrev iis_cell : Nat := 18
def N18 : List Str := ["value", "columns", "rows"]
def io18 : List Bool := [false, false, false]
abbrev ishare_field : Nat := 19
def N19 : List Str := ["one", "other", "across"]
def io19 : List Bool := [false, false]
abbrev icheck_grid : Nat := 20
def N20 : List Str := ["value", "columns", "rows", "cells", "words", "number", "cell", "other"]
def io20 : List Bool := [false]
abbrev igrid_names : Nat := 21
def N21 : List Str := ["grid", "found", "cell"]
def io21 : List Bool := [false]
abbrev i_law_begun : Nat := 22
def N22 : List Str := ["script", "k", "cells", "great", "seed", "cell"]
def io22 : List Bool := [false, false]
abbrev i_law_draw : Nat := 23
def N23 : List Str := ["m", "bound", "found", "spot", "cells", "extra", "cell", "blend"]
def io23 : List Bool := [true, false]
abbrev i_law_of : Nat := 24
def N24 : List Str := ["m", "some"]
def io24 : List Bool := [true, false]
abbrev i_law_like : Nat := 25
def N25 : List Str := ["told", "due"]
def io25 : List Bool := [false, false]
abbrev i_law_is_int : Nat := 26
def N26 : List Str := ["value"]
def io26 : List Bool := [false]
abbrev i_law_flat_list : Nat := 27
def N27 : List Str := ["lots", "found", "lot"]
def io27 : List Bool := [false]
abbrev i_law_formula : Nat := 28
def N28 : List Str := ["m", "deep", "word", "parts", "rows", "columns", "first", "k", "r", "c"]
def io28 : List Bool := [true, false]
abbrev i_law_parts : Nat := 29
def N29 : List Str := ["formula", "word", "found", "row", "line", "first", "deeper", "scripts", "places", "column", "cell", "place"]
def io29 : List Bool := [false]
abbrev i_law_levels : Nat := 30
def N30 : List Str := ["formula", "level", "path", "found", "step", "part", "deeper"]
def io30 : List Bool := [false, false, false]
abbrev i_law_needed : Nat := 31
def N31 : List Str := ["formula", "found", "asks", "path", "part", "level", "word"]
def io31 : List Bool := [false]
abbrev i_law_grid : Nat := 32
def N32 : List Str := ["m", "deep", "columns", "rows", "cells", "taken", "turn", "left", "top", "right", "foot", "inner", "formula", "words", "row", "column", "cell", "field"]
def io32 : List Bool := [true, false]
abbrev i_law_grid_names : Nat := 33
def N33 : List Str := ["grid_so", "found", "cell", "name"]
def io33 : List Bool := [false]
abbrev i_law_told : Nat := 34
def N34 : List Str := ["value", "found", "error"]
def io34 : List Bool := [false]
abbrev i_law_is_span : Nat := 35
def N35 : List Str := ["low", "high", "most"]
def io35 : List Bool := [false, false, false]
abbrev i_law_due : Nat := 36
def N36 : List Str := ["value", "bad", "words", "taken", "number", "cell", "column", "row", "side"]
def io36 : List Bool := [false, false]
abbrev i_law_bent : Nat := 37
def N37 : List Str := ["m", "grid_so", "bad", "columns", "rows", "cells", "way", "extra", "odd", "signs"]
def io37 : List Bool := [true, false, false]
abbrev ilaw : Nat := 38
def N38 : List Str := ["script", "bad", "texts", "k", "m", "grid_so", "value", "many", "told", "one", "turn", "row", "n"]
def io38 : List Bool := [false]
def XN : List (Str × List Str) := [("NotFormula", ["path"]), ("NotGrid", ["number"])]
def CN : List (Str × List Nat) := [("FontError", [0, 1]), ("NotFormula", [0]), ("NotGrid", [1])]
end A72
set_option linter.all false
set_option autoImplicit false
set_option maxRecDepth 100000
set_option Elab.async false
namespace A72
open PySem EV L2
def tops : List Stmt := PySem.Challenge.pw_everyfont_k72_grids_judged.main.body
instance : Inhabited Stmt := ⟨.Pass ⟨0, 0, 0, 0⟩⟩
def st0 : Stmt := tops.getD 14 (.Pass ⟨0, 0, 0, 0⟩)
def st1 : Stmt := tops.getD 15 (.Pass ⟨0, 0, 0, 0⟩)
def st2 : Stmt := tops.getD 16 (.Pass ⟨0, 0, 0, 0⟩)
def st3 : Stmt := tops.getD 17 (.Pass ⟨0, 0, 0, 0⟩)
def st4 : Stmt := tops.getD 18 (.Pass ⟨0, 0, 0, 0⟩)
def st5 : Stmt := tops.getD 19 (.Pass ⟨0, 0, 0, 0⟩)
def st6 : Stmt := tops.getD 20 (.Pass ⟨0, 0, 0, 0⟩)
def st7 : Stmt := tops.getD 21 (.Pass ⟨0, 0, 0, 0⟩)
def st8 : Stmt := tops.getD 22 (.Pass ⟨0, 0, 0, 0⟩)
def st9 : Stmt := tops.getD 23 (.Pass ⟨0, 0, 0, 0⟩)
def st10 : Stmt := tops.getD 24 (.Pass ⟨0, 0, 0, 0⟩)
def st11 : Stmt := tops.getD 25 (.Pass ⟨0, 0, 0, 0⟩)
def st12 : Stmt := tops.getD 27 (.Pass ⟨0, 0, 0, 0⟩)
def st13 : Stmt := tops.getD 31 (.Pass ⟨0, 0, 0, 0⟩)
def st14 : Stmt := tops.getD 32 (.Pass ⟨0, 0, 0, 0⟩)
def st15 : Stmt := tops.getD 33 (.Pass ⟨0, 0, 0, 0⟩)
def st16 : Stmt := tops.getD 39 (.Pass ⟨0, 0, 0, 0⟩)
def st17 : Stmt := tops.getD 40 (.Pass ⟨0, 0, 0, 0⟩)
def st18 : Stmt := tops.getD 41 (.Pass ⟨0, 0, 0, 0⟩)
def st19 : Stmt := tops.getD 42 (.Pass ⟨0, 0, 0, 0⟩)
def st20 : Stmt := tops.getD 43 (.Pass ⟨0, 0, 0, 0⟩)
def st21 : Stmt := tops.getD 44 (.Pass ⟨0, 0, 0, 0⟩)
def st22 : Stmt := tops.getD 46 (.Pass ⟨0, 0, 0, 0⟩)
def st23 : Stmt := tops.getD 47 (.Pass ⟨0, 0, 0, 0⟩)
def st24 : Stmt := tops.getD 48 (.Pass ⟨0, 0, 0, 0⟩)
def st25 : Stmt := tops.getD 49 (.Pass ⟨0, 0, 0, 0⟩)
def st26 : Stmt := tops.getD 50 (.Pass ⟨0, 0, 0, 0⟩)
def st27 : Stmt := tops.getD 51 (.Pass ⟨0, 0, 0, 0⟩)
def st28 : Stmt := tops.getD 52 (.Pass ⟨0, 0, 0, 0⟩)
def st29 : Stmt := tops.getD 53 (.Pass ⟨0, 0, 0, 0⟩)
def st30 : Stmt := tops.getD 54 (.Pass ⟨0, 0, 0, 0⟩)
def st31 : Stmt := tops.getD 55 (.Pass ⟨0, 0, 0, 0⟩)
def st32 : Stmt := tops.getD 56 (.Pass ⟨0, 0, 0, 0⟩)
def st33 : Stmt := tops.getD 57 (.Pass ⟨0, 0, 0, 0⟩)
def st34 : Stmt := tops.getD 58 (.Pass ⟨0, 0, 0, 0⟩)
def st35 : Stmt := tops.getD 59 (.Pass ⟨0, 0, 0, 0⟩)
def st36 : Stmt := tops.getD 60 (.Pass ⟨0, 0, 0, 0⟩)
def st37 : Stmt := tops.getD 61 (.Pass ⟨0, 0, 0, 0⟩)
def st38 : Stmt := tops.getD 62 (.Pass ⟨0, 0, 0, 0⟩)
def dd (i : Nat) (io : List Bool) (N : List Str) (st : Stmt) (ss : Ss) : DefD := { nm := ((FN[i]?).getD ("", [])).1, ps := ((FN[i]?).getD ("", [])).2, io := io, N := N, st := st, ss := ss }
def d0 : DefD := dd 0 io0 N0 st0 b0
def d1 : DefD := dd 1 io1 N1 st1 b1
def d2 : DefD := dd 2 io2 N2 st2 b2
def d3 : DefD := dd 3 io3 N3 st3 b3
def d4 : DefD := dd 4 io4 N4 st4 b4
def d5 : DefD := dd 5 io5 N5 st5 b5
def d6 : DefD := dd 6 io6 N6 st6 b6
def d7 : DefD := dd 7 io7 N7 st7 b7
def d8 : DefD := dd 8 io8 N8 st8 b8
def d9 : DefD := dd 9 io9 N9 st9 b9
def d10 : DefD := dd 10 io10 N10 st10 b10
def d11 : DefD := dd 11 io11 N11 st11 b11
def d12 : DefD := dd 12 io12 N12 st12 b12
def d13 : DefD := dd 13 io13 N13 st13 b13
def d14 : DefD := dd 14 io14 N14 st14 b14
def d15 : DefD := dd 15 io15 N15 st15 b15
def d16 : DefD := dd 16 io16 N16 st16 b16
def d17 : DefD := dd 17 io17 N17 st17 b17
def d18 : DefD := dd 18 io18 N18 st18 b18
def d19 : DefD := dd 19 io19 N19 st19 b19
def d20 : DefD := dd 20 io20 N20 st20 b20
def d21 : DefD := dd 21 io21 N21 st21 b21
def d22 : DefD := dd 22 io22 N22 st22 b22
def d23 : DefD := dd 23 io23 N23 st23 b23
def d24 : DefD := dd 24 io24 N24 st24 b24
def d25 : DefD := dd 25 io25 N25 st25 b25
def d26 : DefD := dd 26 io26 N26 st26 b26
def d27 : DefD := dd 27 io27 N27 st27 b27
def d28 : DefD := dd 28 io28 N28 st28 b28
def d29 : DefD := dd 29 io29 N29 st29 b29
def d30 : DefD := dd 30 io30 N30 st30 b30
def d31 : DefD := dd 31 io31 N31 st31 b31
def d32 : DefD := dd 32 io32 N32 st32 b32
def d33 : DefD := dd 33 io33 N33 st33 b33
def d34 : DefD := dd 34 io34 N34 st34 b34
def d35 : DefD := dd 35 io35 N35 st35 b35
def d36 : DefD := dd 36 io36 N36 st36 b36
def d37 : DefD := dd 37 io37 N37 st37 b37
def d38 : DefD := dd 38 io38 N38 st38 b38
def L : List DefD := [d0, d1, d2, d3, d4, d5, d6, d7, d8, d9, d10, d11, d12, d13, d14, d15, d16, d17, d18, d19, d20, d21, d22, d23, d24, d25, d26, d27, d28, d29, d30, d31, d32, d33, d34, d35, d36, d37, d38]
theorem fns : fnsOf L = FN := by decide +kernel
theorem okL : (L.all fun d => d.okB FN XN CN) = true := by decide +kernel
end A72
set_option Elab.async false
set_option linter.all false
set_option autoImplicit false
set_option maxRecDepth 20000
/-! The readings, opened from the outside in: equations for simp, and congruences that leave what comes later alone. -/
namespace EV
open PySem L2

@[simp] theorem ofS_inj (a b : String) : (Str.ofString a = Str.ofString b) = (a = b) := by
  refine propext ⟨fun h => ?_, fun h => by rw [h]⟩
  rw [Str.ofString_eq_toList, Str.ofString_eq_toList] at h
  injection h with h
  have h := congrArg Array.toList h
  simp only [] at h
  have : a.toList = b.toList := (List.map_inj_right fun x y e => Char.toNat_inj.mp e).mp h
  exact String.toList_inj.mp this
@[simp] theorem lim_val : lim = 16777216 := rfl

/-! ### what is looked at -/
/-- what is left alone until it is reached -/
inductive Fz {α : Sort _} (a : α) : Type
  | mk
def binWZ (op : BOp) (a b : D) (P : RV → Prop) (_z : Fz ((op, P)) := .mk) : Prop := binW op a b P
@[simp low] theorem binWZ_o {op : BOp} {a b : D} {P : RV → Prop} : binWZ op a b P = binW op a b P := rfl
def cmpWZ (op : COp) (a b : D) (P : Bool → Prop) (_z : Fz ((op, P)) := .mk) : Prop := cmpW op a b P
@[simp low] theorem cmpWZ_o {op : COp} {a b : D} {P : Bool → Prop} : cmpWZ op a b P = cmpW op a b P := rfl
def inWZ (a b : D) (P : Bool → Prop) (_z : Fz (P) := .mk) : Prop := inW a b P
@[simp low] theorem inWZ_o {a b : D} {P : Bool → Prop} : inWZ a b P = inW a b P := rfl
def idxWZ (a b : D) (P : RV → Prop) (_z : Fz (P) := .mk) : Prop := idxW a b P
@[simp low] theorem idxWZ_o {a b : D} {P : RV → Prop} : idxWZ a b P = idxW a b P := rfl
def slcWZ (a : D) (lo hi : Option Int) (P : RV → Prop) (_z : Fz (P) := .mk) : Prop := slcW a lo hi P
@[simp low] theorem slcWZ_o {a : D} {lo hi : Option Int} {P : RV → Prop} : slcWZ a lo hi P = slcW a lo hi P := rfl
def bltWZ (t : Blt) (as : List D) (P : RV → Prop) (_z : Fz ((t, P)) := .mk) : Prop := bltW t as P
@[simp low] theorem bltWZ_o {t : Blt} {as : List D} {P : RV → Prop} : bltWZ t as P = bltW t as P := rfl
section
variable {ρ : Env} {i : Nat}
def cnd (c : Bool) (A B : Prop) : Prop := if c = true then A else B
def cndZ (c : Bool) (A B : Prop) (_z : Fz (A ∧ B) := .mk) : Prop := cnd c A B
@[simp low] theorem cndZ_o {c : Bool} {A B : Prop} : cndZ c A B = cnd c A B := rfl
@[simp] theorem cnd_t {A B : Prop} : cnd true A B = A := if_pos rfl
@[simp] theorem cnd_t_z {A B : Prop} : cndZ true A B = A := cnd_t
@[simp] theorem cnd_f {A B : Prop} : cnd false A B = B := if_neg (by decide)
@[simp] theorem cnd_f_z {A B : Prop} : cndZ false A B = B := cnd_f
theorem cnd_i {c : Bool} {A B : Prop} (h1 : c = true → A) (h2 : c = false → B) : cnd c A B := by
  cases c with
  | true => rw [cnd_t]; exact h1 rfl
  | false => rw [cnd_f]; exact h2 rfl
def bC (r : RV) (F : Bool → Prop) : Prop := ∃ c, r = .val (.bl c) ∧ F c
def bCZ (r : RV) (F : Bool → Prop) (_z : Fz (F) := .mk) : Prop := bC r F
@[simp low] theorem bCZ_o {r : RV} {F : Bool → Prop} : bCZ r F = bC r F := rfl
@[simp] theorem bC_v {c : Bool} {F : Bool → Prop} : bC (.val (.bl c)) F = F c := propext ⟨fun ⟨_, e, h⟩ => (by cases e; exact h), fun h => ⟨c, rfl, h⟩⟩
@[simp] theorem bC_v_z {c : Bool} {F : Bool → Prop} : bCZ (.val (.bl c)) F = F c := bC_v
def vC (r : RV) (F : D → Prop) : Prop := ∃ d, r = .val d ∧ F d
def vCZ (r : RV) (F : D → Prop) (_z : Fz (F) := .mk) : Prop := vC r F
@[simp low] theorem vCZ_o {r : RV} {F : D → Prop} : vCZ r F = vC r F := rfl
@[simp] theorem vC_v {d : D} {F : D → Prop} : vC (.val d) F = F d := propext ⟨fun ⟨_, e, h⟩ => (by cases e; exact h), fun h => ⟨d, rfl, h⟩⟩
@[simp] theorem vC_v_z {d : D} {F : D → Prop} : vCZ (.val d) F = F d := vC_v
def oC {α : Type} (o : Option α) (F : α → Prop) : Prop := ∃ x, o = some x ∧ F x
def oCZ {α : Type} (o : Option α) (F : α → Prop) (_z : Fz (F) := .mk) : Prop := oC o F
@[simp low] theorem oCZ_o {α : Type} {o : Option α} {F : α → Prop} : oCZ o F = oC o F := rfl
@[simp] theorem oC_s {α : Type} {x : α} {F : α → Prop} : oC (some x) F = F x := propext ⟨fun ⟨_, e, h⟩ => (by cases e; exact h), fun h => ⟨x, rfl, h⟩⟩
@[simp] theorem oC_s_z {α : Type} {x : α} {F : α → Prop} : oCZ (some x) F = F x := oC_s
@[simp] theorem oC_n {α : Type} {F : α → Prop} : oC none F = False := propext ⟨fun ⟨_, e, _⟩ => (by cases e), fun h => h.elim⟩
@[simp] theorem oC_n_z {α : Type} {F : α → Prop} : oCZ none F = False := oC_n
def iC (d : D) (F : Int → Prop) : Prop := ∃ i, d = .int i ∧ F i
def iCZ (d : D) (F : Int → Prop) (_z : Fz (F) := .mk) : Prop := iC d F
@[simp low] theorem iCZ_o {d : D} {F : Int → Prop} : iCZ d F = iC d F := rfl
@[simp] theorem iC_v {c : Int} {F : Int → Prop} : iC (.int c) F = F c := propext ⟨fun ⟨_, e, h⟩ => (by cases e; exact h), fun h => ⟨c, rfl, h⟩⟩
@[simp] theorem iC_v_z {c : Int} {F : Int → Prop} : iCZ (.int c) F = F c := iC_v
def gA (s : Option SV) (i : Nat) (ρ : Env) (P : RP) : Prop := match s with
  | some (.val d) => P (.val d) ρ
  | some (.own o) => P (.val o.d) (put ρ i (some (.val o.d)))
  | _ => False
def gAZ (s : Option SV) (i : Nat) (ρ : Env) (P : RP) (_z : Fz ((i, ρ, P)) := .mk) : Prop := gA s i ρ P
@[simp low] theorem gAZ_o {s : Option SV} {i : Nat} {ρ : Env} {P : RP} : gAZ s i ρ P = gA s i ρ P := rfl
@[simp] theorem gA_v {d : D} {P : RP} : gA (some (.val d)) i ρ P = P (.val d) ρ := rfl
@[simp] theorem gA_v_z {d : D} {P : RP} : gAZ (some (.val d)) i ρ P = P (.val d) ρ := gA_v
@[simp] theorem gA_o {o : Ow} {P : RP} : gA (some (.own o)) i ρ P = P (.val o.d) (put ρ i (some (.val o.d))) := rfl
@[simp] theorem gA_o_z {o : Ow} {P : RP} : gAZ (some (.own o)) i ρ P = P (.val o.d) (put ρ i (some (.val o.d))) := gA_o
def pA (s : Option SV) (i : Nat) (ρ : Env) (P : PV → Env → Prop) : Prop := match s with
  | some (.val d) => P (.rv (.val d)) ρ
  | some (.own o) => P (.at i o.d) ρ
  | some (.par _ o) => P (.at i o.d) ρ
  | none => False
def pAZ (s : Option SV) (i : Nat) (ρ : Env) (P : PV → Env → Prop) (_z : Fz ((i, ρ, P)) := .mk) : Prop := pA s i ρ P
@[simp low] theorem pAZ_o {s : Option SV} {i : Nat} {ρ : Env} {P : PV → Env → Prop} : pAZ s i ρ P = pA s i ρ P := rfl
@[simp] theorem pA_v {d : D} {P : PV → Env → Prop} : pA (some (.val d)) i ρ P = P (.rv (.val d)) ρ := rfl
@[simp] theorem pA_v_z {d : D} {P : PV → Env → Prop} : pAZ (some (.val d)) i ρ P = P (.rv (.val d)) ρ := pA_v
@[simp] theorem pA_o {o : Ow} {P : PV → Env → Prop} : pA (some (.own o)) i ρ P = P (.at i o.d) ρ := rfl
@[simp] theorem pA_o_z {o : Ow} {P : PV → Env → Prop} : pAZ (some (.own o)) i ρ P = P (.at i o.d) ρ := pA_o
@[simp] theorem pA_p {k : Nat} {o : Ow} {P : PV → Env → Prop} : pA (some (.par k o)) i ρ P = P (.at i o.d) ρ := rfl
@[simp] theorem pA_p_z {k : Nat} {o : Ow} {P : PV → Env → Prop} : pAZ (some (.par k o)) i ρ P = P (.at i o.d) ρ := pA_p
def rA (s : Option SV) (i : Nat) (ρ : Env) (P : RP) : Prop := match s with
  | some (.own o) => P (.own o) ρ
  | _ => gA s i ρ P
def rAZ (s : Option SV) (i : Nat) (ρ : Env) (P : RP) (_z : Fz ((i, ρ, P)) := .mk) : Prop := rA s i ρ P
@[simp low] theorem rAZ_o {s : Option SV} {i : Nat} {ρ : Env} {P : RP} : rAZ s i ρ P = rA s i ρ P := rfl
@[simp] theorem rA_v {d : D} {P : RP} : rA (some (.val d)) i ρ P = P (.val d) ρ := rfl
@[simp] theorem rA_v_z {d : D} {P : RP} : rAZ (some (.val d)) i ρ P = P (.val d) ρ := rA_v
@[simp] theorem rA_o {o : Ow} {P : RP} : rA (some (.own o)) i ρ P = P (.own o) ρ := rfl
@[simp] theorem rA_o_z {o : Ow} {P : RP} : rAZ (some (.own o)) i ρ P = P (.own o) ρ := rA_o
end
@[simp] theorem get_0 {s : Option SV} {r : Env} : get (s :: r) 0 = s := rfl
@[simp] theorem get_s {s : Option SV} {r : Env} {i : Nat} : get (s :: r) (i + 1) = get r i := rfl
@[simp] theorem put_0 {s v : Option SV} {r : Env} : put (s :: r) 0 v = v :: r := rfl
@[simp] theorem put_s {s v : Option SV} {r : Env} {i : Nat} : put (s :: r) (i + 1) v = s :: put r i v := rfl
@[simp] theorem wipes_n {ρ : Env} : wipes ρ [] = ρ := rfl
@[simp] theorem wipes_c {ρ : Env} {v : Nat} {vs : List Nat} : wipes ρ (v :: vs) = put (wipes ρ vs) v none := rfl
@[simp] theorem owq_o {o : Ow} : ow? (some (.own o)) = some o := rfl
@[simp] theorem owq_p {k : Nat} {o : Ow} : ow? (some (.par k o)) = some o := rfl
@[simp] theorem setOw_o {o o' : Ow} : setOw (some (.own o)) o' = some (.own o') := rfl
@[simp] theorem setOw_p {k : Nat} {o o' : Ow} : setOw (some (.par k o)) o' = some (.par k o') := rfl
@[simp] theorem still_rv {r : RV} {ρ : Env} : (PV.rv r).still ρ = True := rfl
def stA (s : Option SV) (d : D) : Prop := ∃ t, s = some t ∧ t.d = d
@[simp] theorem still_at {i : Nat} {d : D} {ρ : Env} : (PV.at i d).still ρ = stA (get ρ i) d := rfl
@[simp] theorem stA_s {t : SV} {d : D} : stA (some t) d = (t.d = d) := propext ⟨fun ⟨_, e, h⟩ => (by cases e; exact h), fun h => ⟨t, rfl, h⟩⟩
@[simp] theorem svd_v {d : D} : (SV.val d).d = d := rfl
@[simp] theorem svd_o {o : Ow} : (SV.own o).d = o.d := rfl
@[simp] theorem svd_p {k : Nat} {o : Ow} : (SV.par k o).d = o.d := rfl
@[simp] theorem rvd_v {d : D} : (RV.val d).d = d := rfl
@[simp] theorem rvd_o {o : Ow} : (RV.own o).d = o.d := rfl
@[simp] theorem sv_v {d : D} : (RV.val d).sv = .val d := rfl
@[simp] theorem sv_o {o : Ow} : (RV.own o).sv = .own o := rfl
@[simp] theorem pvd_at {i : Nat} {d : D} : (PV.at i d).d = d := rfl
@[simp] theorem pvd_rv {r : RV} : (PV.rv r).d = r.d := rfl
@[simp] theorem owd_l {ds : List D} : (Ow.lst ds).d = .lst ds := rfl
theorem owd_K {kvs : List (Key × D)} : (Ow.dK kvs).d = .dK (kvs.map (·.1)) (kvs.map (·.2)) := rfl
theorem owd_T {kvs : List (List Key × D)} : (Ow.dT kvs).d = .dT (kvs.map (·.1)) (kvs.map (·.2)) := rfl

/-! ### expressions -/
section
variable (S : SPX) (G : Str → Option D)
def vx (e : E) (ρ : Env) (P : RP) (X : XP) : Prop := (W S G e).v ρ P X
def tx (e : E) (ρ : Env) (P : Bool → Env → Prop) (X : XP) : Prop := (W S G e).t ρ P X
def px (e : E) (ρ : Env) (P : PV → Env → Prop) (X : XP) : Prop := peek (W S G e) ρ P X
def psx (es : Es) (ρ : Env) (P : List PV → Env → Prop) (X : XP) : Prop := peeks (Ws S G es) ρ P X
def vsx (es : Es) (ρ : Env) (P : List D → Env → Prop) (X : XP) : Prop := vals (Ws S G es) ρ P X
def rsx (es : Es) (ρ : Env) (P : List RV → Env → Prop) (X : XP) : Prop := rvals (Ws S G es) ρ P X
def asx (es : Es) (io : List Bool) (ρ : Env) (P : List AV → Env → Prop) (X : XP) : Prop := argsW (Ws S G es) io ρ P X
def itx (ik : IK) (es : Es) (ρ : Env) (P : Src → Env → Prop) (X : XP) : Prop := iterW ik (Ws S G es) ρ P X
def cdx (es : Es) (ρ : Env) (P : Bool → Env → Prop) : Prop := condW (Ws S G es) ρ P
def opx (es : Es) (ρ : Env) (P : Option Int → Env → Prop) (X : XP) : Prop := optW (Ws S G es) ρ P X
def sx (s : EV.S) (ρ : Env) (K : EK) : Prop := wS S G s ρ K
def ssx (s : Ss) (ρ : Env) (K : EK) : Prop := wSs S G s ρ K
end
def cl (S : SPX) (f : Nat) (rs : List RV) (R : RV → List Ow → Prop) (Xc : Nat → List D → Prop) : Prop := S f rs R Xc
section
variable {S : SPX} {G : Str → Option D} {ρ : Env} {P : RP} {X : XP} {B : Bool → Env → Prop} {V : PV → Env → Prop}
def clZ (S : SPX) (f : Nat) (rs : List RV) (R : RV → List Ow → Prop) (Xc : Nat → List D → Prop) (_z : Fz ((S, f, R, Xc)) := .mk) : Prop := cl S f rs R Xc
@[simp low] theorem clZ_o {S : SPX} {f : Nat} {rs : List RV} {R : RV → List Ow → Prop} {Xc : Nat → List D → Prop} : clZ S f rs R Xc = cl S f rs R Xc := rfl
@[simp ↓] theorem vx_var {i : Nat} : vx S G (.var i) ρ P X = gAZ (get ρ i) i ρ P := by unfold vx W varV gAZ gA; rfl
@[simp ↓] theorem tx_var {i : Nat} : tx S G (.var i) ρ B X = gAZ (get ρ i) i ρ (fun r ρ' => bCZ r fun c => B c ρ') := by unfold tx W varV gAZ gA bCZ bC; rfl
@[simp ↓] theorem px_var {i : Nat} : px S G (.var i) ρ V X = pAZ (get ρ i) i ρ V := by unfold px peek W peekV pAZ pA; rfl
@[simp ↓] theorem vx_cst {d : D} : vx S G (.cst d) ρ P X = P (.val d) ρ := by unfold vx W ofV; rfl
@[simp ↓] theorem vx_glb {g : Str} : vx S G (.glb g) ρ P X = oCZ (G g) fun d => P (.val d) ρ := by unfold vx W ofV oCZ oC; rfl
@[simp ↓] theorem px_cst {d : D} : px S G (.cst d) ρ V X = V (.rv (.val d)) ρ := by unfold px peek W ofV; rfl
@[simp ↓] theorem px_glb {g : Str} : px S G (.glb g) ρ V X = oCZ (G g) fun d => V (.rv (.val d)) ρ := by unfold px peek W ofV oCZ oC; rfl
@[simp ↓] theorem vx_tup {es : Es} : vx S G (.tup es) ρ P X = vsx S G es ρ (fun ds ρ' => ds.length ≤ lim ∧ P (.val (.tup ds)) ρ') X := by unfold vx W ofV vsx; rfl
@[simp ↓] theorem px_tup {es : Es} : px S G (.tup es) ρ V X = vsx S G es ρ (fun ds ρ' => ds.length ≤ lim ∧ V (.rv (.val (.tup ds))) ρ') X := by unfold px peek W ofV vsx; rfl
@[simp ↓] theorem vx_lst {es : Es} : vx S G (.lst es) ρ P X = vsx S G es ρ (fun ds ρ' => ds.length ≤ lim ∧ P (.own (.lst ds)) ρ') X := by unfold vx W ofV vsx; rfl
@[simp ↓] theorem px_lst {es : Es} : px S G (.lst es) ρ V X = vsx S G es ρ (fun ds ρ' => ds.length ≤ lim ∧ V (.rv (.own (.lst ds))) ρ') X := by unfold px peek W ofV vsx; rfl
@[simp ↓] theorem vx_dspK {ks : List Key} {es : Es} : vx S G (.dspK ks es) ρ P X = vsx S G es ρ (fun ds ρ' => ds.length = ks.length ∧ ks.length ≤ 15 ∧ ks.Nodup ∧ P (.own (.dK (ks.zip ds))) ρ') X := by unfold vx W ofV vsx; rfl
@[simp ↓] theorem vx_dspT {ks : List (List Key)} {es : Es} : vx S G (.dspT ks es) ρ P X = vsx S G es ρ (fun ds ρ' => ds.length = ks.length ∧ ks.length ≤ 15 ∧ ks.Nodup ∧ P (.own (.dT (ks.zip ds))) ρ') X := by unfold vx W ofV vsx; rfl
@[simp ↓] theorem vx_bin {op : BOp} {a b : E} : vx S G (.bin op a b) ρ P X = px S G a ρ (fun p ρ1 => px S G b ρ1 (fun q ρ2 => p.still ρ2 ∧ binWZ op p.d q.d fun r => P r ρ2) X) X := by unfold vx W ofV px; rfl
@[simp ↓] theorem px_bin {op : BOp} {a b : E} : px S G (.bin op a b) ρ V X = px S G a ρ (fun p ρ1 => px S G b ρ1 (fun q ρ2 => p.still ρ2 ∧ binWZ op p.d q.d fun r => V (.rv r) ρ2) X) X := by
  show peek (W S G (.bin op a b)) ρ V X = _
  unfold W ofV peek px; rfl
@[simp ↓] theorem vx_neg {a : E} : vx S G (.neg a) ρ P X = px S G a ρ (fun p ρ1 => iCZ p.d fun i => P (.val (.int (-i))) ρ1) X := by unfold vx W ofV px iCZ iC; rfl
@[simp ↓] theorem px_neg {a : E} : px S G (.neg a) ρ V X = px S G a ρ (fun p ρ1 => iCZ p.d fun i => V (.rv (.val (.int (-i)))) ρ1) X := by
  show peek (W S G (.neg a)) ρ V X = _
  unfold W ofV peek px iCZ iC; rfl
@[simp ↓] theorem tx_cmp {op : COp} {a b : E} : tx S G (.cmp op a b) ρ B X = px S G a ρ (fun p ρ1 => px S G b ρ1 (fun q ρ2 => p.still ρ2 ∧ cmpWZ op p.d q.d fun c => B c ρ2) X) X := by unfold tx W px; rfl
@[simp ↓] theorem vx_cmp {op : COp} {a b : E} : vx S G (.cmp op a b) ρ P X = px S G a ρ (fun p ρ1 => px S G b ρ1 (fun q ρ2 => p.still ρ2 ∧ cmpWZ op p.d q.d fun c => P (.val (.bl c)) ρ2) X) X := by unfold vx W px; rfl
@[simp ↓] theorem px_cmp {op : COp} {a b : E} : px S G (.cmp op a b) ρ V X = px S G a ρ (fun p ρ1 => px S G b ρ1 (fun q ρ2 => p.still ρ2 ∧ cmpWZ op p.d q.d fun c => V (.rv (.val (.bl c))) ρ2) X) X := by
  show peek (W S G (.cmp op a b)) ρ V X = _
  unfold W peek px; rfl
@[simp ↓] theorem tx_chn {op op' : COp} {a b c : E} : tx S G (.chn a op b op' c) ρ B X = vx S G a ρ (fun p ρ1 => vx S G b ρ1 (fun q ρ2 => cmpWZ op p.d q.d fun k =>
      cndZ k (vx S G c ρ2 (fun r ρ3 => cmpWZ op' q.d r.d fun c' => B c' ρ3) X) (B false ρ2)) X) X := by unfold tx W vx cndZ cnd; rfl
@[simp ↓] theorem vx_chn {op op' : COp} {a b c : E} : vx S G (.chn a op b op' c) ρ P X = vx S G a ρ (fun p ρ1 => vx S G b ρ1 (fun q ρ2 => cmpWZ op p.d q.d fun k =>
      cndZ k (vx S G c ρ2 (fun r ρ3 => cmpWZ op' q.d r.d fun c' => P (.val (.bl c')) ρ3) X) (P (.val (.bl false)) ρ2)) X) X := by unfold vx; (conv => lhs; unfold W); rfl
@[simp ↓] theorem tx_chn3 {op op' op'' : COp} {a b c d : E} : tx S G (.chn3 a op b op' c op'' d) ρ B X = vx S G a ρ (fun p ρ1 => vx S G b ρ1 (fun q ρ2 => cmpWZ op p.d q.d fun k =>
      cndZ k (vx S G c ρ2 (fun r ρ3 => cmpWZ op' q.d r.d fun c' => cndZ c' (vx S G d ρ3 (fun u ρ4 => cmpWZ op'' r.d u.d fun c'' => B c'' ρ4) X) (B false ρ3)) X) (B false ρ2)) X) X := by unfold tx W vx cndZ cnd; rfl
@[simp ↓] theorem vx_chn3 {op op' op'' : COp} {a b c d : E} : vx S G (.chn3 a op b op' c op'' d) ρ P X = vx S G a ρ (fun p ρ1 => vx S G b ρ1 (fun q ρ2 => cmpWZ op p.d q.d fun k =>
      cndZ k (vx S G c ρ2 (fun r ρ3 => cmpWZ op' q.d r.d fun c' => cndZ c' (vx S G d ρ3 (fun u ρ4 => cmpWZ op'' r.d u.d fun c'' => P (.val (.bl c'')) ρ4) X) (P (.val (.bl false)) ρ3)) X) (P (.val (.bl false)) ρ2)) X) X := by unfold vx; (conv => lhs; unfold W); rfl
@[simp ↓] theorem tx_and {a b : E} : tx S G (.and_ a b) ρ B X = tx S G a ρ (fun c ρ1 => cndZ c (tx S G b ρ1 B X) (B false ρ1)) X := by unfold tx; (conv => lhs; unfold W); rfl
@[simp ↓] theorem vx_and {a b : E} : vx S G (.and_ a b) ρ P X = vx S G a ρ (fun r ρ1 => bCZ r fun c => cndZ c (vx S G b ρ1 P X) (P (.val (.bl false)) ρ1)) X := by unfold vx; (conv => lhs; unfold W); rfl
@[simp ↓] theorem tx_or {a b : E} : tx S G (.or_ a b) ρ B X = tx S G a ρ (fun c ρ1 => cndZ c (B true ρ1) (tx S G b ρ1 B X)) X := by unfold tx; (conv => lhs; unfold W); rfl
@[simp ↓] theorem vx_or {a b : E} : vx S G (.or_ a b) ρ P X = vx S G a ρ (fun r ρ1 => bCZ r fun c => cndZ c (P (.val (.bl true)) ρ1) (vx S G b ρ1 P X)) X := by unfold vx; (conv => lhs; unfold W); rfl
@[simp ↓] theorem tx_not {a : E} : tx S G (.not_ a) ρ B X = tx S G a ρ (fun c ρ1 => B (!c) ρ1) X := by unfold tx; (conv => lhs; unfold W)
@[simp ↓] theorem vx_not {a : E} : vx S G (.not_ a) ρ P X = vx S G a ρ (fun r ρ1 => bCZ r fun c => P (.val (.bl (!c))) ρ1) X := by unfold vx; (conv => lhs; unfold W); rfl
@[simp ↓] theorem tx_ife {t a b : E} : tx S G (.ife t a b) ρ B X = tx S G t ρ (fun c ρ1 => cndZ c (tx S G a ρ1 B X) (tx S G b ρ1 B X)) X := by unfold tx; (conv => lhs; unfold W); rfl
@[simp ↓] theorem vx_ife {t a b : E} : vx S G (.ife t a b) ρ P X = tx S G t ρ (fun c ρ1 => cndZ c (vx S G a ρ1 P X) (vx S G b ρ1 P X)) X := by unfold vx tx; (conv => lhs; unfold W); rfl
@[simp ↓] theorem vx_idx {a i : E} : vx S G (.idx a i) ρ P X = px S G a ρ (fun p ρ1 => px S G i ρ1 (fun q ρ2 => p.still ρ2 ∧ idxWZ p.d q.d fun r => P r ρ2) X) X := by unfold vx W ofV px; rfl
@[simp ↓] theorem px_idx {a i : E} : px S G (.idx a i) ρ V X = px S G a ρ (fun p ρ1 => px S G i ρ1 (fun q ρ2 => p.still ρ2 ∧ idxWZ p.d q.d fun r => V (.rv r) ρ2) X) X := by
  show peek (W S G (.idx a i)) ρ V X = _
  unfold W ofV peek px; rfl
@[simp ↓] theorem vx_slc {a : E} {lo hi : Es} : vx S G (.slc a lo hi) ρ P X = px S G a ρ (fun p ρ1 => opx S G lo ρ1 (fun l ρ2 => opx S G hi ρ2 (fun h ρ3 => p.still ρ3 ∧ slcWZ p.d l h fun r => P r ρ3) X) X) X := by unfold vx W ofV px opx; rfl
@[simp ↓] theorem px_slc {a : E} {lo hi : Es} : px S G (.slc a lo hi) ρ V X = px S G a ρ (fun p ρ1 => opx S G lo ρ1 (fun l ρ2 => opx S G hi ρ2 (fun h ρ3 => p.still ρ3 ∧ slcWZ p.d l h fun r => V (.rv r) ρ3) X) X) X := by
  show peek (W S G (.slc a lo hi)) ρ V X = _
  unfold W ofV peek px opx; rfl
@[simp ↓] theorem opx_n {Q : Option Int → Env → Prop} : opx S G .nil ρ Q X = Q none ρ := by unfold opx Ws; rfl
@[simp ↓] theorem opx_c {e : E} {Q : Option Int → Env → Prop} : opx S G (.cons e .nil) ρ Q X = px S G e ρ (fun p ρ' => iCZ p.d fun i => Q (some i) ρ') X := by unfold opx Ws Ws; rfl
@[simp ↓] theorem psx_n {Q : List PV → Env → Prop} : psx S G .nil ρ Q X = Q [] ρ := by unfold psx Ws; rfl
@[simp ↓] theorem psx_c {e : E} {r : Es} {Q : List PV → Env → Prop} : psx S G (.cons e r) ρ Q X = px S G e ρ (fun p ρ1 => psx S G r ρ1 (fun ps ρ2 => p.still ρ2 ∧ Q (p :: ps) ρ2) X) X := by unfold psx; (conv => lhs; unfold Ws); rfl
@[simp ↓] theorem vsx_n {Q : List D → Env → Prop} : vsx S G .nil ρ Q X = Q [] ρ := by unfold vsx Ws; rfl
@[simp ↓] theorem vsx_c {e : E} {r : Es} {Q : List D → Env → Prop} : vsx S G (.cons e r) ρ Q X = vx S G e ρ (fun v ρ1 => vsx S G r ρ1 (fun ds ρ2 => Q (v.d :: ds) ρ2) X) X := by unfold vsx; (conv => lhs; unfold Ws); rfl
@[simp ↓] theorem rsx_n {Q : List RV → Env → Prop} : rsx S G .nil ρ Q X = Q [] ρ := by unfold rsx Ws; rfl
@[simp ↓] theorem rsx_c {e : E} {r : Es} {Q : List RV → Env → Prop} : rsx S G (.cons e r) ρ Q X = vx S G e ρ (fun v ρ1 => rsx S G r ρ1 (fun ds ρ2 => Q (v :: ds) ρ2) X) X := by unfold rsx; (conv => lhs; unfold Ws); rfl
@[simp ↓] theorem asx_n {io : List Bool} {Q : List AV → Env → Prop} : asx S G .nil io ρ Q X = Q [] ρ := by unfold asx Ws; cases io <;> rfl
@[simp ↓] theorem asx_io {i : Nat} {r : Es} {io : List Bool} {Q : List AV → Env → Prop} : asx S G (.cons (.var i) r) (true :: io) ρ Q X = (ow? (get ρ i) ≠ none ∧ asx S G r io ρ (fun as ρ2 => Q (.io i :: as) ρ2) X) := by unfold asx; (conv => lhs; unfold Ws W); rfl
@[simp ↓] theorem asx_v {e : E} {r : Es} {io : List Bool} {Q : List AV → Env → Prop} : asx S G (.cons e r) (false :: io) ρ Q X = vx S G e ρ (fun v ρ1 => asx S G r io ρ1 (fun as ρ2 => Q (.v v.d :: as) ρ2) X) X := by unfold asx; (conv => lhs; unfold Ws); rfl
@[simp ↓] theorem vx_call {f : Nat} {as : Es} {io : List Bool} : vx S G (.call f as io) ρ P X = asx S G as io ρ (fun as ρ' => (ios as).Nodup ∧ oCZ (resolve ρ' as) fun rs =>
      clZ S f rs (fun r outs => outs.length = (ios as).length → P r (setOuts ρ' (ios as) outs)) (fun c p => X c p (wipes ρ' (ios as)))) X := by unfold vx W ofV asx oCZ oC clZ cl; rfl
@[simp ↓] theorem tx_call {f : Nat} {as : Es} {io : List Bool} : tx S G (.call f as io) ρ B X = asx S G as io ρ (fun as ρ' => (ios as).Nodup ∧ oCZ (resolve ρ' as) fun rs =>
      clZ S f rs (fun r outs => outs.length = (ios as).length → bCZ r fun c => B c (setOuts ρ' (ios as) outs)) (fun c p => X c p (wipes ρ' (ios as)))) X := by unfold tx W ofV asx oCZ oC clZ cl bCZ bC; rfl
@[simp ↓] theorem px_call {f : Nat} {as : Es} {io : List Bool} : px S G (.call f as io) ρ V X = vx S G (.call f as io) ρ (fun r ρ' => V (.rv r) ρ') X := by
  show peek (W S G (.call f as io)) ρ V X = _
  unfold vx; unfold W ofV peek; rfl
@[simp ↓] theorem vx_blt {b : Blt} {as : Es} : vx S G (.blt b as) ρ P X = psx S G as ρ (fun ps ρ' => bltWZ b (pvD ps) fun r => P r ρ') X := by unfold vx W ofV psx; rfl
@[simp ↓] theorem tx_blt {b : Blt} {as : Es} : tx S G (.blt b as) ρ B X = psx S G as ρ (fun ps ρ' => bltWZ b (pvD ps) fun r => bCZ r fun c => B c ρ') X := by unfold tx W ofV psx bCZ bC; rfl
@[simp ↓] theorem px_blt {b : Blt} {as : Es} : px S G (.blt b as) ρ V X = psx S G as ρ (fun ps ρ' => bltWZ b (pvD ps) fun r => V (.rv r) ρ') X := by
  show peek (W S G (.blt b as)) ρ V X = _
  unfold W ofV peek psx; rfl
@[simp ↓] theorem tx_idx {a i : E} : tx S G (.idx a i) ρ B X = vx S G (.idx a i) ρ (fun r ρ' => bCZ r fun c => B c ρ') X := by unfold tx vx; unfold W ofV bCZ bC; rfl
@[simp ↓] theorem px_cm1 {vs : List Nat} {tg : Tg} {ik : IK} {ia cond : Es} {elt : E} : px S G (.cm1 vs tg ik ia cond elt) ρ V X = vx S G (.cm1 vs tg ik ia cond elt) ρ (fun r ρ' => V (.rv r) ρ') X := by
  show peek (W S G (.cm1 vs tg ik ia cond elt)) ρ V X = _
  unfold vx; unfold W ofV peek; rfl
@[simp ↓] theorem px_cm2 {vs vs1 : List Nat} {tg tg1 : Tg} {ik ik1 : IK} {ia ia1 : Es} {elt : E} : px S G (.cm2 vs vs1 tg ik ia tg1 ik1 ia1 elt) ρ V X = vx S G (.cm2 vs vs1 tg ik ia tg1 ik1 ia1 elt) ρ (fun r ρ' => V (.rv r) ρ') X := by
  show peek (W S G (.cm2 vs vs1 tg ik ia tg1 ik1 ia1 elt)) ρ V X = _
  unfold vx; unfold W ofV peek; rfl
@[simp ↓] theorem px_dspK {ks : List Key} {es : Es} : px S G (.dspK ks es) ρ V X = vx S G (.dspK ks es) ρ (fun r ρ' => V (.rv r) ρ') X := by
  show peek (W S G (.dspK ks es)) ρ V X = _
  unfold vx; unfold W ofV peek; rfl
@[simp ↓] theorem px_ife {t a b : E} : px S G (.ife t a b) ρ V X = vx S G (.ife t a b) ρ (fun r ρ' => V (.rv r) ρ') X := by
  show peek (W S G (.ife t a b)) ρ V X = _
  unfold vx; unfold W peek; rfl
@[simp ↓] theorem px_or {a b : E} : px S G (.or_ a b) ρ V X = vx S G (.or_ a b) ρ (fun r ρ' => V (.rv r) ρ') X := by
  show peek (W S G (.or_ a b)) ρ V X = _
  unfold vx; unfold W peek; rfl
@[simp ↓] theorem px_and {a b : E} : px S G (.and_ a b) ρ V X = vx S G (.and_ a b) ρ (fun r ρ' => V (.rv r) ρ') X := by
  show peek (W S G (.and_ a b)) ρ V X = _
  unfold vx; unfold W peek; rfl
/-! ### statements -/
variable {K : EK}
@[simp ↓] theorem ssx_n : ssx S G .nil ρ K = K.nx ρ := by unfold ssx wSs; rfl
@[simp ↓] theorem ssx_c {s : EV.S} {r : Ss} : ssx S G (.cons s r) ρ K = sx S G s ρ { K with nx := fun ρ1 => ssx S G r ρ1 K } := by unfold ssx; (conv => lhs; unfold wSs); rfl
@[simp ↓] theorem sx_set {i : Nat} {e : E} : sx S G (.set i e) ρ K = vx S G e ρ (fun r ρ1 => K.nx (put ρ1 i (some r.sv))) K.ex := by unfold sx wS setW vx; rfl
@[simp ↓] theorem sx_unp {is : List Nat} {e : E} : sx S G (.unp is e) ρ K = vx S G e ρ (fun r ρ1 => vCZ r fun d => oCZ (bindT (.tu is) d ρ1) fun ρ2 => K.nx ρ2) K.ex := by
  unfold sx wS vx
  congr 1
  funext r ρ1
  refine propext ⟨fun ⟨d, ρ2, e1, e2, h⟩ => ⟨d, e1, ρ2, e2, h⟩, fun ⟨d, e1, ρ2, e2, h⟩ => ⟨d, ρ2, e1, e2, h⟩⟩
@[simp ↓] theorem sx_par {is : List Nat} {es : Es} : sx S G (.par is es) ρ K = rsx S G es ρ (fun rs ρ1 => rs.length = is.length ∧ K.nx (putsR ρ1 is rs)) K.ex := by unfold sx wS parW rsx; rfl
def putA2 (o : Option Ow) (d v : D) (F : Ow → Prop) : Prop := match o with
  | some (.dK kvs) => oC d.key fun k => kvs.length < lim ∧ F (.dK (putA kvs k v))
  | some (.dT kvs) => oC d.tkey fun k => kvs.length < lim ∧ F (.dT (putA kvs k v))
  | _ => False
def putA2Z (o : Option Ow) (d v : D) (F : Ow → Prop) (_z : Fz (F) := .mk) : Prop := putA2 o d v F
@[simp low] theorem putA2Z_o {o : Option Ow} {d v : D} {F : Ow → Prop} : putA2Z o d v F = putA2 o d v F := rfl
@[simp] theorem putA2_K {kvs : List (Key × D)} {d v : D} {F : Ow → Prop} : putA2 (some (.dK kvs)) d v F = oCZ d.key fun k => kvs.length < lim ∧ F (.dK (putA kvs k v)) := rfl
@[simp] theorem putA2_K_z {kvs : List (Key × D)} {d v : D} {F : Ow → Prop} : putA2Z (some (.dK kvs)) d v F = oCZ d.key fun k => kvs.length < lim ∧ F (.dK (putA kvs k v)) := putA2_K
@[simp] theorem putA2_T {kvs : List (List Key × D)} {d v : D} {F : Ow → Prop} : putA2 (some (.dT kvs)) d v F = oCZ d.tkey fun k => kvs.length < lim ∧ F (.dT (putA kvs k v)) := rfl
@[simp] theorem putA2_T_z {kvs : List (List Key × D)} {d v : D} {F : Ow → Prop} : putA2Z (some (.dT kvs)) d v F = oCZ d.tkey fun k => kvs.length < lim ∧ F (.dT (putA kvs k v)) := putA2_T
@[simp ↓] theorem sx_put {i : Nat} {k v : E} : sx S G (.put i k v) ρ K = vx S G v ρ (fun r ρ1 => (∃ o, ow? (get ρ1 i) = some o) ∧ vx S G k ρ1 (fun q ρ2 => putA2Z (ow? (get ρ2 i)) q.d r.d fun o => K.nx (put ρ2 i (setOw (get ρ2 i) o))) K.ex) K.ex := by
  unfold sx wS putW vx putA2Z putA2 oC
  rfl
@[simp ↓] theorem sx_aug {i : Nat} {op : BOp} {e : E} : sx S G (.aug i op e) ρ K = ∃ a, get ρ i = some (.val (.int a)) ∧ vx S G e ρ (fun r ρ1 => vCZ r fun d => iCZ d fun b => oCZ (augO op a b) fun c => K.nx (put ρ1 i (some (.val (.int c))))) K.ex := by
  unfold sx wS augW vx
  congr 1
  funext a
  congr 1
  congr 1
  funext r ρ1
  refine propext ⟨fun ⟨b, c, e1, e2, h⟩ => ⟨_, e1, _, rfl, _, e2, h⟩, fun ⟨d, e1, b, e2, c, e3, h⟩ => ⟨b, c, by rw [e1, e2], e3, h⟩⟩
def lC (o : Option Ow) (F : List D → Prop) : Prop := ∃ ds, o = some (.lst ds) ∧ F ds
def lCZ (o : Option Ow) (F : List D → Prop) (_z : Fz (F) := .mk) : Prop := lC o F
@[simp low] theorem lCZ_o {o : Option Ow} {F : List D → Prop} : lCZ o F = lC o F := rfl
@[simp] theorem lC_l {ds : List D} {F : List D → Prop} : lC (some (.lst ds)) F = F ds := propext ⟨fun ⟨_, e, h⟩ => (by cases e; exact h), fun h => ⟨ds, rfl, h⟩⟩
@[simp] theorem lC_l_z {ds : List D} {F : List D → Prop} : lCZ (some (.lst ds)) F = F ds := lC_l
@[simp ↓] theorem sx_app {i : Nat} {e : E} : sx S G (.app i e) ρ K = ((∃ ds0, ow? (get ρ i) = some (.lst ds0)) ∧ vx S G e ρ (fun r ρ1 => lCZ (ow? (get ρ1 i)) fun ds => ds.length < lim ∧ K.nx (put ρ1 i (setOw (get ρ1 i) (.lst (ds ++ [r.d]))))) K.ex) := by
  unfold sx wS appW vx lCZ lC; rfl
@[simp ↓] theorem sx_ret_v {i : Nat} : sx S G (.ret (.var i)) ρ K = rAZ (get ρ i) i ρ K.rt := by
  unfold sx wS retW W varV rAZ rA
  dsimp only
  split <;> first | rfl | (split <;> simp_all [gA])
theorem sx_ret {e : E} (h : vi? e = none) : sx S G (.ret e) ρ K = vx S G e ρ K.rt K.ex := by
  have : (W S G e).vi = none := by cases e <;> first | rfl | cases h | (unfold W; rfl)
  unfold sx wS retW vx
  rw [this]
@[simp ↓] theorem sx_retN : sx S G .retN ρ K = K.rt (.val .non) ρ := by unfold sx wS; rfl
@[simp ↓] theorem sx_if {t : E} {a b : Ss} : sx S G (.if_ t a b) ρ K = tx S G t ρ (fun c ρ1 => cndZ c (ssx S G a ρ1 K) (ssx S G b ρ1 K)) K.ex := by unfold sx tx ssx; (conv => lhs; unfold wS); rfl
@[simp ↓] theorem sx_raise {c : Nat} {es : Es} : sx S G (.raise c es) ρ K = vsx S G es ρ (fun ds ρ1 => K.ex c ds ρ1) K.ex := by unfold sx vsx; (conv => lhs; unfold wS)
@[simp ↓] theorem sx_tryO {a : Ss} {cs : List Nat} {d : D} : sx S G (.tryO a cs d) ρ K = ssx S G a ρ { K with ex := fun c ps ρ1 => if c ∈ cs then K.rt (.val d) ρ1 else K.ex c ps ρ1 } := by unfold sx ssx; (conv => lhs; unfold wS)
@[simp ↓] theorem sx_tryF {a : Ss} {c j n i : Nat} : sx S G (.tryF a c j n i) ρ K = ssx S G a ρ { K with ex := fun c' ps ρ1 => if c' = c then n < ρ1.length ∧ ∃ d, ps[j]? = some d ∧ K.nx (put (put ρ1 n none) i (some (.val d))) else K.ex c' ps ρ1 } := by unfold sx ssx; (conv => lhs; unfold wS)
@[simp ↓] theorem sx_exp {e : E} : sx S G (.exp e) ρ K = vx S G e ρ (fun _ ρ1 => K.nx ρ1) K.ex := by unfold sx vx; (conv => lhs; unfold wS)
end
end EV
set_option linter.all false
set_option autoImplicit false
set_option maxRecDepth 20000
set_option Elab.async false
/-! Operators and built-ins for simp; comprehensions and loops by their work. -/
namespace EV
open PySem L2

@[simp] theorem n_int {i : Int} : (D.int i).n = .int i := rfl
@[simp] theorem n_str {i : Str} : (D.str i).n = .str i := rfl
@[simp] theorem n_bl {i : Bool} : (D.bl i).n = .bl i := rfl
@[simp] theorem n_non : D.non.n = .non := rfl
@[simp] theorem n_tp {ds : List D} : (D.tup ds).n = .tup ds := rfl
@[simp] theorem n_tC {ds : List D} : (D.tC ds).n = .tup ds := rfl
@[simp] theorem n_lst {ds : List D} : (D.lst ds).n = .lst ds := rfl
section
variable {P : RV → Prop} {B : Bool → Prop} {a a' b b' : D}
@[simp] theorem add_ii {i j : Int} : binW .add (.int i) (.int j) P = P (.val (.int (i + j))) := rfl
@[simp] theorem add_ii_z {i j : Int} : binWZ .add (.int i) (.int j) P = P (.val (.int (i + j))) := add_ii
@[simp] theorem sub_ii {i j : Int} : binW .sub (.int i) (.int j) P = P (.val (.int (i - j))) := rfl
@[simp] theorem sub_ii_z {i j : Int} : binWZ .sub (.int i) (.int j) P = P (.val (.int (i - j))) := sub_ii
@[simp] theorem mul_ii {i j : Int} : binW .mul (.int i) (.int j) P = (MulOk i j ∧ P (.val (.int (i * j)))) := rfl
@[simp] theorem mul_ii_z {i j : Int} : binWZ .mul (.int i) (.int j) P = (MulOk i j ∧ P (.val (.int (i * j)))) := mul_ii
@[simp] theorem mod_ii {i j : Int} : binW .mod (.int i) (.int j) P = (0 < j ∧ P (.val (.int (i % j)))) := rfl
@[simp] theorem mod_ii_z {i j : Int} : binWZ .mod (.int i) (.int j) P = (0 < j ∧ P (.val (.int (i % j)))) := mod_ii
@[simp] theorem fdiv_ii {i j : Int} : binW .fdiv (.int i) (.int j) P = ((0 < j ∧ j.natAbs.log2 < 9000) ∧ P (.val (.int (i / j)))) := rfl
@[simp] theorem fdiv_ii_z {i j : Int} : binWZ .fdiv (.int i) (.int j) P = ((0 < j ∧ j.natAbs.log2 < 9000) ∧ P (.val (.int (i / j)))) := fdiv_ii
@[simp] theorem pow_ii {i j : Int} : binW .pow (.int i) (.int j) P = ((0 ≤ j ∧ j ≤ 1000000 ∧ i.natAbs < 2 ^ 64) ∧ P (.val (.int (i ^ j.toNat)))) := rfl
@[simp] theorem pow_ii_z {i j : Int} : binWZ .pow (.int i) (.int j) P = ((0 ≤ j ∧ j ≤ 1000000 ∧ i.natAbs < 2 ^ 64) ∧ P (.val (.int (i ^ j.toNat)))) := pow_ii
@[simp] theorem add_ss {i j : Str} : binW .add (.str i) (.str j) P = (i.length + j.length ≤ lim ∧ P (.val (.str (i ++ j)))) := rfl
@[simp] theorem add_ss_z {i j : Str} : binWZ .add (.str i) (.str j) P = (i.length + j.length ≤ lim ∧ P (.val (.str (i ++ j)))) := add_ss
@[simp] theorem add_ll {i j : List D} : binW .add (.lst i) (.lst j) P = (i.length + j.length ≤ lim ∧ P (.own (.lst (i ++ j)))) := rfl
@[simp] theorem add_ll_z {i j : List D} : binWZ .add (.lst i) (.lst j) P = (i.length + j.length ≤ lim ∧ P (.own (.lst (i ++ j)))) := add_ll
/-- tuples put together -/
def cat2 (a b : D) (xs ys : List D) : D := catD a b xs ys
@[simp] theorem cat_tt {xs ys : List D} : catD (.tup xs) (.tup ys) xs ys = .tup (xs ++ ys) := by
  unfold catD
  cases xs with
  | nil => rfl
  | cons x xs => cases ys with
    | nil => simp
    | cons y ys => rfl
@[simp] theorem add_tt {i j : List D} : binW .add (.tup i) (.tup j) P = (i.length + j.length ≤ lim ∧ P (.val (.tup (i ++ j)))) := by rw [← cat_tt]; rfl
@[simp] theorem add_tt_z {i j : List D} : binWZ .add (.tup i) (.tup j) P = (i.length + j.length ≤ lim ∧ P (.val (.tup (i ++ j)))) := add_tt
@[simp] theorem add_tC {i j : List D} : binW .add (.tC i) (.tup j) P = (i.length + j.length ≤ lim ∧ P (.val (catD (.tC i) (.tup j) i j))) := rfl
@[simp] theorem add_tC_z {i j : List D} : binWZ .add (.tC i) (.tup j) P = (i.length + j.length ≤ lim ∧ P (.val (catD (.tC i) (.tup j) i j))) := add_tC
@[simp] theorem mul_ti {i : List D} {j : Int} : binW .mul (.tup i) (.int j) P = ((i ≠ [] ∧ 2 ≤ j ∧ j ≤ 1000 ∧ i.length ≤ 1000) ∧ P (.val (.tup (List.replicate j.toNat i).flatten))) := rfl
@[simp] theorem mul_ti_z {i : List D} {j : Int} : binWZ .mul (.tup i) (.int j) P = ((i ≠ [] ∧ 2 ≤ j ∧ j ≤ 1000 ∧ i.length ≤ 1000) ∧ P (.val (.tup (List.replicate j.toNat i).flatten))) := mul_ti
@[simp] theorem eq_ss {x y : Str} : cmpW .eq (.str x) (.str y) B = B (decide (x = y)) := rfl
@[simp] theorem eq_ss_z {x y : Str} : cmpWZ .eq (.str x) (.str y) B = B (decide (x = y)) := eq_ss
@[simp] theorem eq_ii {x y : Int} : cmpW .eq (.int x) (.int y) B = B (decide (x = y)) := rfl
@[simp] theorem eq_ii_z {x y : Int} : cmpWZ .eq (.int x) (.int y) B = B (decide (x = y)) := eq_ii
@[simp] theorem eq_bb {x y : Bool} : cmpW .eq (.bl x) (.bl y) B = B (decide (x = y)) := rfl
@[simp] theorem eq_bb_z {x y : Bool} : cmpWZ .eq (.bl x) (.bl y) B = B (decide (x = y)) := eq_bb
@[simp] theorem ne_ss {x y : Str} : cmpW .ne (.str x) (.str y) B = B (!decide (x = y)) := rfl
@[simp] theorem ne_ss_z {x y : Str} : cmpWZ .ne (.str x) (.str y) B = B (!decide (x = y)) := ne_ss
@[simp] theorem ne_ii {x y : Int} : cmpW .ne (.int x) (.int y) B = B (!decide (x = y)) := rfl
@[simp] theorem ne_ii_z {x y : Int} : cmpWZ .ne (.int x) (.int y) B = B (!decide (x = y)) := ne_ii
def Sh (d : D) : Prop := d.okEq
def eqX (a b : D) (B : Bool → Prop) : Prop := a.okEq ∧ b.okEq ∧ B (D.eqv a b)
def eqXZ (a b : D) (B : Bool → Prop) (_z : Fz (B) := .mk) : Prop := eqX a b B
@[simp low] theorem eqXZ_o {a b : D} {B : Bool → Prop} : eqXZ a b B = eqX a b B := rfl
@[simp] theorem eq_tt {x y : List D} : cmpW .eq (.tup x) (.tup y) B = eqXZ (.tup x) (.tup y) B := rfl
@[simp] theorem eq_tt_z {x y : List D} : cmpWZ .eq (.tup x) (.tup y) B = eqXZ (.tup x) (.tup y) B := eq_tt
@[simp] theorem ne_tt {x y : List D} : cmpW .ne (.tup x) (.tup y) B = eqXZ (.tup x) (.tup y) fun c => B (!c) := rfl
@[simp] theorem ne_tt_z {x y : List D} : cmpWZ .ne (.tup x) (.tup y) B = eqXZ (.tup x) (.tup y) fun c => B (!c) := ne_tt
@[simp] theorem eq_ll {x y : List D} : cmpW .eq (.lst x) (.lst y) B = eqXZ (.lst x) (.lst y) B := rfl
@[simp] theorem eq_ll_z {x y : List D} : cmpWZ .eq (.lst x) (.lst y) B = eqXZ (.lst x) (.lst y) B := eq_ll
@[simp] theorem ne_ll {x y : List D} : cmpW .ne (.lst x) (.lst y) B = eqXZ (.lst x) (.lst y) fun c => B (!c) := rfl
@[simp] theorem ne_ll_z {x y : List D} : cmpWZ .ne (.lst x) (.lst y) B = eqXZ (.lst x) (.lst y) fun c => B (!c) := ne_ll
@[simp] theorem lt_ii {x y : Int} : cmpW .lt (.int x) (.int y) B = B (decide (x < y)) := rfl
@[simp] theorem lt_ii_z {x y : Int} : cmpWZ .lt (.int x) (.int y) B = B (decide (x < y)) := lt_ii
@[simp] theorem le_ii {x y : Int} : cmpW .le (.int x) (.int y) B = B (decide (x ≤ y)) := rfl
@[simp] theorem le_ii_z {x y : Int} : cmpWZ .le (.int x) (.int y) B = B (decide (x ≤ y)) := le_ii
@[simp] theorem gt_ii {x y : Int} : cmpW .gt (.int x) (.int y) B = B (decide (y < x)) := rfl
@[simp] theorem gt_ii_z {x y : Int} : cmpWZ .gt (.int x) (.int y) B = B (decide (y < x)) := gt_ii
@[simp] theorem ge_ii {x y : Int} : cmpW .ge (.int x) (.int y) B = B (decide (y ≤ x)) := rfl
@[simp] theorem ge_ii_z {x y : Int} : cmpWZ .ge (.int x) (.int y) B = B (decide (y ≤ x)) := ge_ii
@[simp] theorem isN_n : cmpW .isN a .non B = B (isNonD a) := by show (isNonD .non = true ∧ _) = _; simp [isNonD]
@[simp] theorem isN_n_z : cmpWZ .isN a .non B = B (isNonD a) := isN_n
@[simp] theorem notN_n : cmpW .notN a .non B = B (!isNonD a) := by show (isNonD .non = true ∧ _) = _; simp [isNonD]
@[simp] theorem notN_n_z : cmpWZ .notN a .non B = B (!isNonD a) := notN_n
@[simp] theorem isNonD_n : isNonD .non = true := rfl
@[simp] theorem isNonD_t {x : List D} : isNonD (.tup x) = false := rfl
@[simp] theorem isNonD_i {x : Int} : isNonD (.int x) = false := rfl
@[simp] theorem in_ {x : D} : cmpW .in_ x b B = inWZ x b B := rfl
@[simp] theorem in__z {x : D} : cmpWZ .in_ x b B = inWZ x b B := in_
@[simp] theorem notin_ {x : D} : cmpW .notin x b B = inWZ x b fun c => B (!c) := rfl
@[simp] theorem notin__z {x : D} : cmpWZ .notin x b B = inWZ x b fun c => B (!c) := notin_
@[simp] theorem flat_s {x : Str} : flat1 (.str x) = true := rfl
@[simp] theorem flat_i {x : Int} : flat1 (.int x) = true := rfl
@[simp] theorem flat_n : flat1 .non = true := rfl
@[simp] theorem flat_b {x : Bool} : flat1 (.bl x) = true := rfl
@[simp] theorem eqF_ss {x y : Str} : eqF (.str x) (.str y) = decide (x = y) := by by_cases h : x = y <;> simp [eqF, h]
@[simp] theorem eqF_ii {x y : Int} : eqF (.int x) (.int y) = decide (x = y) := by by_cases h : x = y <;> simp [eqF, h]
@[simp] theorem in_t {x : D} {ds : List D} : inW x (.tup ds) B = (flat1 x = true ∧ ds.all flat1 = true ∧ B (ds.any fun d => eqF d x)) := rfl
@[simp] theorem in_t_z {x : D} {ds : List D} : inWZ x (.tup ds) B = (flat1 x = true ∧ ds.all flat1 = true ∧ B (ds.any fun d => eqF d x)) := in_t
@[simp] theorem in_C {x : D} {ds : List D} : inW x (.tC ds) B = (flat1 x = true ∧ ds.all flat1 = true ∧ B (ds.any fun d => eqF d x)) := rfl
@[simp] theorem in_C_z {x : D} {ds : List D} : inWZ x (.tC ds) B = (flat1 x = true ∧ ds.all flat1 = true ∧ B (ds.any fun d => eqF d x)) := in_C
@[simp] theorem in_l {x : D} {ds : List D} : inW x (.lst ds) B = (flat1 x = true ∧ ds.all flat1 = true ∧ B (ds.any fun d => eqF d x)) := rfl
@[simp] theorem in_l_z {x : D} {ds : List D} : inWZ x (.lst ds) B = (flat1 x = true ∧ ds.all flat1 = true ∧ B (ds.any fun d => eqF d x)) := in_l
@[simp] theorem in_K {x : D} {ks : List Key} {vs : List D} : inW x (.dK ks vs) B = oCZ x.key fun k => B (lookA k ks vs).isSome := rfl
@[simp] theorem in_K_z {x : D} {ks : List Key} {vs : List D} : inWZ x (.dK ks vs) B = oCZ x.key fun k => B (lookA k ks vs).isSome := in_K
@[simp] theorem in_T {x : D} {ks : List (List Key)} {vs : List D} : inW x (.dT ks vs) B = oCZ x.n.tkey fun k => B (lookA k ks vs).isSome := rfl
@[simp] theorem in_T_z {x : D} {ks : List (List Key)} {vs : List D} : inWZ x (.dT ks vs) B = oCZ x.n.tkey fun k => B (lookA k ks vs).isSome := in_T
@[simp] theorem key_i {i : Int} : (D.int i).key = some (.inl i) := rfl
@[simp] theorem key_s {i : Str} : (D.str i).key = some (.inr i) := rfl
@[simp] theorem keys_n : D.keys [] = some [] := rfl
@[simp] theorem keys_i {i : Int} {r : List D} : D.keys (.int i :: r) = (D.keys r).map (Sum.inl i :: ·) := by
  (conv => lhs; unfold D.keys)
  cases D.keys r <;> rfl
@[simp] theorem keys_s {i : Str} {r : List D} : D.keys (.str i :: r) = (D.keys r).map (Sum.inr i :: ·) := by
  (conv => lhs; unfold D.keys)
  cases D.keys r <;> rfl
@[simp] theorem tkey_t {r : List D} : (D.tup r).tkey = D.keys r := rfl
theorem atD_nat {xs : List D} {n : Nat} : atD xs (n : Int) = xs[n]? := by
  unfold atD atI ixN
  by_cases h : n < xs.length
  · rw [if_pos (by omega), if_pos (by omega)]; simp
  · rw [if_pos (by omega), if_neg (by omega)]; simp; omega
@[simp] theorem atD_0 {xs : List D} : atD xs 0 = xs[0]? := atD_nat (n := 0)
@[simp] theorem atD_2 {xs : List D} : atD xs 2 = xs[2]? := atD_nat (n := 2)
@[simp] theorem atD_3 {xs : List D} : atD xs 3 = xs[3]? := atD_nat (n := 3)
@[simp] theorem atD_4 {xs : List D} : atD xs 4 = xs[4]? := atD_nat (n := 4)
@[simp] theorem atD_5 {xs : List D} : atD xs 5 = xs[5]? := atD_nat (n := 5)
@[simp] theorem atD_6 {xs : List D} : atD xs 6 = xs[6]? := atD_nat (n := 6)
@[simp] theorem atD_1 {xs : List D} : atD xs 1 = xs[1]? := atD_nat (n := 1)
@[simp] theorem atD_cast {xs : List D} {n : Nat} : atD xs (n : Int) = xs[n]? := atD_nat
@[simp] theorem ix_t {xs : List D} {i : Int} : idxW (.tup xs) (.int i) P = oCZ (atD xs i) fun d => P (.val d) := rfl
@[simp] theorem ix_t_z {xs : List D} {i : Int} : idxWZ (.tup xs) (.int i) P = oCZ (atD xs i) fun d => P (.val d) := ix_t
@[simp] theorem ix_C {xs : List D} {i : Int} : idxW (.tC xs) (.int i) P = oCZ (atD xs i) fun d => P (.val d) := rfl
@[simp] theorem ix_C_z {xs : List D} {i : Int} : idxWZ (.tC xs) (.int i) P = oCZ (atD xs i) fun d => P (.val d) := ix_C
@[simp] theorem ix_l {xs : List D} {i : Int} : idxW (.lst xs) (.int i) P = oCZ (atD xs i) fun d => P (.val d) := rfl
@[simp] theorem ix_l_z {xs : List D} {i : Int} : idxWZ (.lst xs) (.int i) P = oCZ (atD xs i) fun d => P (.val d) := ix_l
@[simp] theorem ix_K {ks : List Key} {vs : List D} {i : D} : idxW (.dK ks vs) i P = oCZ i.key fun k => oCZ (lookA k ks vs) fun d => P (.val d) := propext ⟨fun ⟨k, d, h1, h2, h3⟩ => ⟨k, h1, d, h2, h3⟩, fun ⟨k, h1, d, h2, h3⟩ => ⟨k, d, h1, h2, h3⟩⟩
@[simp] theorem ix_K_z {ks : List Key} {vs : List D} {i : D} : idxWZ (.dK ks vs) i P = oCZ i.key fun k => oCZ (lookA k ks vs) fun d => P (.val d) := ix_K
@[simp] theorem ix_dC {ks : List Key} {vs : List D} {i : D} : idxW (.dC ks vs) i P = oCZ i.key fun k => oCZ (lookA k ks vs) fun d => P (.val d) := propext ⟨fun ⟨k, d, h1, h2, h3⟩ => ⟨k, h1, d, h2, h3⟩, fun ⟨k, h1, d, h2, h3⟩ => ⟨k, d, h1, h2, h3⟩⟩
@[simp] theorem ix_dC_z {ks : List Key} {vs : List D} {i : D} : idxWZ (.dC ks vs) i P = oCZ i.key fun k => oCZ (lookA k ks vs) fun d => P (.val d) := ix_dC
@[simp] theorem look_n {α : Type} [DecidableEq α] {k : α} : lookA k [] [] = none := rfl
@[simp] theorem look_c {α : Type} [DecidableEq α] {k a : α} {ks : List α} {v : D} {vs : List D} : lookA k (a :: ks) (v :: vs) = if a = k then some v else lookA k ks vs := rfl
@[simp] theorem slc_l {xs : List D} {lo hi : Option Int} : slcW (.lst xs) lo hi P = P (.own (.lst (cutD xs lo hi))) := rfl
@[simp] theorem slc_l_z {xs : List D} {lo hi : Option Int} : slcWZ (.lst xs) lo hi P = P (.own (.lst (cutD xs lo hi))) := slc_l
/-- a tuple's part, as far as it is looked at -/
@[simp] theorem cutR_t {xs : List D} {lo hi : Option Int} : cutR (.tup xs) xs lo hi = .tup (cutD xs lo hi) := by
  unfold cutR
  split
  · rename_i h
    unfold cutD
    rw [h.1, h.2]
    simp
  · rfl
@[simp] theorem slc_t {xs : List D} {lo hi : Option Int} : slcW (.tup xs) lo hi P = P (.val (.tup (cutD xs lo hi))) := by rw [← cutR_t]; rfl
@[simp] theorem slc_t_z {xs : List D} {lo hi : Option Int} : slcWZ (.tup xs) lo hi P = P (.val (.tup (cutD xs lo hi))) := slc_t
@[simp] theorem pvD_n : pvD [] = [] := rfl
@[simp] theorem pvD_c {p : PV} {ps : List PV} : pvD (p :: ps) = p.d :: pvD ps := rfl
@[simp] theorem len_t {xs : List D} : bltW .len [.tup xs] P = P (.val (.int xs.length)) := rfl
@[simp] theorem len_t_z {xs : List D} : bltWZ .len [.tup xs] P = P (.val (.int xs.length)) := len_t
@[simp] theorem len_C {xs : List D} : bltW .len [.tC xs] P = P (.val (.int xs.length)) := rfl
@[simp] theorem len_C_z {xs : List D} : bltWZ .len [.tC xs] P = P (.val (.int xs.length)) := len_C
@[simp] theorem len_l {xs : List D} : bltW .len [.lst xs] P = P (.val (.int xs.length)) := rfl
@[simp] theorem len_l_z {xs : List D} : bltWZ .len [.lst xs] P = P (.val (.int xs.length)) := len_l
@[simp] theorem len_s {x : Str} : bltW .len [.str x] P = (x.length ≤ lim ∧ P (.val (.int x.length))) := rfl
@[simp] theorem len_s_z {x : Str} : bltWZ .len [.str x] P = (x.length ≤ lim ∧ P (.val (.int x.length))) := len_s
def isiOk : D → Prop
  | .dC _ _ => False
  | .ins _ _ => False
  | _ => True
@[simp] theorem isi_ {t : Ty} {d : D} : bltW (.isi t) [d] P = (isiOk d ∧ P (.val (.bl (isTy t d)))) := by
  unfold isiOk
  cases d <;> rfl
@[simp] theorem isi__z {t : Ty} {d : D} : bltWZ (.isi t) [d] P = (isiOk d ∧ P (.val (.bl (isTy t d)))) := isi_
@[simp] theorem isiOk_i {i : Int} : isiOk (.int i) = True := rfl
@[simp] theorem isiOk_s {i : Str} : isiOk (.str i) = True := rfl
@[simp] theorem isiOk_b {i : Bool} : isiOk (.bl i) = True := rfl
@[simp] theorem isiOk_n : isiOk .non = True := rfl
@[simp] theorem isiOk_t {xs : List D} : isiOk (.tup xs) = True := rfl
@[simp] theorem isiOk_l {xs : List D} : isiOk (.lst xs) = True := rfl
@[simp] theorem int_i {i : Int} : bltW .toInt [.int i] P = P (.val (.int i)) := rfl
@[simp] theorem int_i_z {i : Int} : bltWZ .toInt [.int i] P = P (.val (.int i)) := int_i
@[simp] theorem int_b {c : Bool} : bltW .toInt [.bl c] P = P (.val (.int (if c then 1 else 0))) := rfl
@[simp] theorem int_b_z {c : Bool} : bltWZ .toInt [.bl c] P = P (.val (.int (if c then 1 else 0))) := int_b
@[simp] theorem tup_l {xs : List D} : bltW .toTup [.lst xs] P = P (.val (.tup xs)) := rfl
@[simp] theorem tup_l_z {xs : List D} : bltWZ .toTup [.lst xs] P = P (.val (.tup xs)) := tup_l
@[simp] theorem tup_t {xs : List D} : bltW .toTup [.tup xs] P = P (.val (.tup xs)) := rfl
@[simp] theorem tup_t_z {xs : List D} : bltWZ .toTup [.tup xs] P = P (.val (.tup xs)) := tup_t
@[simp] theorem lst_l {xs : List D} : bltW .toList [.lst xs] P = P (.own (.lst xs)) := rfl
@[simp] theorem lst_l_z {xs : List D} : bltWZ .toList [.lst xs] P = P (.own (.lst xs)) := lst_l
@[simp] theorem lst_t {xs : List D} : bltW .toList [.tup xs] P = P (.own (.lst xs)) := rfl
@[simp] theorem lst_t_z {xs : List D} : bltWZ .toList [.tup xs] P = P (.own (.lst xs)) := lst_t
@[simp] theorem lst_C {xs : List D} : bltW .toList [.tC xs] P = P (.own (.lst xs)) := rfl
@[simp] theorem lst_C_z {xs : List D} : bltWZ .toList [.tC xs] P = P (.own (.lst xs)) := lst_C
@[simp] theorem sum_l {xs : List D} : bltW .sum [.lst xs] P = oCZ (intsD xs) fun is => P (.val (.int is.sum)) := rfl
@[simp] theorem sum_l_z {xs : List D} : bltWZ .sum [.lst xs] P = oCZ (intsD xs) fun is => P (.val (.int is.sum)) := sum_l
@[simp] theorem min_ii {i j : Int} : bltW .min2 [.int i, .int j] P = P (.val (.int (if j < i then j else i))) := rfl
@[simp] theorem min_ii_z {i j : Int} : bltWZ .min2 [.int i, .int j] P = P (.val (.int (if j < i then j else i))) := min_ii
@[simp] theorem all_l {xs : List D} : bltW .all [.lst xs] P = oCZ (boolsD xs) fun bs => P (.val (.bl (bs.all id))) := rfl
@[simp] theorem all_l_z {xs : List D} : bltWZ .all [.lst xs] P = oCZ (boolsD xs) fun bs => P (.val (.bl (bs.all id))) := all_l
@[simp] theorem any_l {xs : List D} : bltW .any [.lst xs] P = oCZ (boolsD xs) fun bs => P (.val (.bl (bs.any id))) := rfl
@[simp] theorem any_l_z {xs : List D} : bltWZ .any [.lst xs] P = oCZ (boolsD xs) fun bs => P (.val (.bl (bs.any id))) := any_l
@[simp] theorem repr_ {d : D} : bltW .repr [d] P = ((d.plain = true ∧ d.py.showable = true ∧ d.py.depth ≤ 60 ∧ d.py.shown.length ≤ lim) ∧ P (.val (.str d.py.shown))) := by cases d <;> rfl
@[simp] theorem repr__z {d : D} : bltWZ .repr [d] P = ((d.plain = true ∧ d.py.showable = true ∧ d.py.depth ≤ 60 ∧ d.py.shown.length ≤ lim) ∧ P (.val (.str d.py.shown))) := repr_
@[simp] theorem dictK_l {xs : List D} : bltW .toDictK [.lst xs] P = oCZ (pairsK xs) fun kvs => P (.own (.dK (mergeA [] kvs))) := rfl
@[simp] theorem dictK_l_z {xs : List D} : bltWZ .toDictK [.lst xs] P = oCZ (pairsK xs) fun kvs => P (.own (.dK (mergeA [] kvs))) := dictK_l
@[simp] theorem dictT_l {xs : List D} : bltW .toDictT [.lst xs] P = oCZ (pairsT xs) fun kvs => P (.own (.dT (mergeA [] kvs))) := rfl
@[simp] theorem dictT_l_z {xs : List D} : bltWZ .toDictT [.lst xs] P = oCZ (pairsT xs) fun kvs => P (.own (.dT (mergeA [] kvs))) := dictT_l
@[simp] theorem items_K {ks : List Key} {vs : List D} : bltW .items [.dK ks vs] P = P (.own (.lst ((ks.zip vs).map fun p => .tup [kD p.1, p.2]))) := rfl
@[simp] theorem items_K_z {ks : List Key} {vs : List D} : bltWZ .items [.dK ks vs] P = P (.own (.lst ((ks.zip vs).map fun p => .tup [kD p.1, p.2]))) := items_K
@[simp] theorem words_s {x : Str} : bltW .words [.str x] P = (x.length + 2 ≤ lim ∧ P (.own (.lst ((Txt.words x).map .str)))) := rfl
@[simp] theorem words_s_z {x : Str} : bltWZ .words [.str x] P = (x.length + 2 ≤ lim ∧ P (.own (.lst ((Txt.words x).map .str)))) := words_s
@[simp] theorem lrng1_ {n : Int} : bltW .lrng1 [.int n] P = ((0 ≤ n ∧ n ≤ 16777216) ∧ P (.own (.lst (rngD 0 n.toNat)))) := rfl
@[simp] theorem lrng1__z {n : Int} : bltWZ .lrng1 [.int n] P = ((0 ≤ n ∧ n ≤ 16777216) ∧ P (.own (.lst (rngD 0 n.toNat)))) := lrng1_
@[simp] theorem lrng2_ {m n : Int} : bltW .lrng2 [.int m, .int n] P = ((0 ≤ m ∧ m ≤ 16777216 ∧ 0 ≤ n ∧ n ≤ 16777216) ∧ P (.own (.lst (rngD m (n - m).toNat)))) := rfl
@[simp] theorem lrng2__z {m n : Int} : bltWZ .lrng2 [.int m, .int n] P = ((0 ≤ m ∧ m ≤ 16777216 ∧ 0 ≤ n ∧ n ≤ 16777216) ∧ P (.own (.lst (rngD m (n - m).toNat)))) := lrng2_
end
@[simp] theorem ty_ii {i : Int} : isTy .int (.int i) = true := rfl
@[simp] theorem ty_ib {i : Bool} : isTy .int (.bl i) = true := rfl
@[simp] theorem ty_bb {i : Bool} : isTy .bool (.bl i) = true := rfl
@[simp] theorem ty_bi {i : Int} : isTy .bool (.int i) = false := rfl
@[simp] theorem ty_ss {i : Str} : isTy .str (.str i) = true := rfl
@[simp] theorem ty_tt {i : List D} : isTy .tup (.tup i) = true := rfl
@[simp] theorem ty_tC {i : List D} : isTy .tup (.tC i) = true := rfl
@[simp] theorem ty_tl {i : List D} : isTy .tup (.lst i) = false := rfl
@[simp] theorem ty_tn : isTy .tup .non = false := rfl
@[simp] theorem ty_in : isTy .int .non = false := rfl
@[simp] theorem ty_is {i : Str} : isTy .int (.str i) = false := rfl
@[simp] theorem ty_st {i : List D} : isTy .str (.tup i) = false := rfl
@[simp] theorem ty_si {i : Int} : isTy .str (.int i) = false := rfl
/-! calls' bookkeeping -/
@[simp] theorem ios_n : ios [] = [] := rfl
@[simp] theorem ios_v {d : D} {r : List AV} : ios (.v d :: r) = ios r := rfl
@[simp] theorem ios_i {i : Nat} {r : List AV} : ios (.io i :: r) = i :: ios r := rfl
@[simp] theorem res_n {ρ : Env} : resolve ρ [] = some [] := rfl
@[simp] theorem res_v {ρ : Env} {d : D} {r : List AV} : resolve ρ (.v d :: r) = (resolve ρ r).map (RV.val d :: ·) := by
  (conv => lhs; unfold resolve)
  cases resolve ρ r <;> rfl
@[simp] theorem res_i {ρ : Env} {i : Nat} {r : List AV} : resolve ρ (.io i :: r) = (ow? (get ρ i)).bind fun o => (resolve ρ r).map (RV.own o :: ·) := by
  conv => lhs; unfold resolve
  cases ow? (get ρ i) with
  | none => rfl
  | some o => cases resolve ρ r <;> rfl
@[simp] theorem souts_n {ρ : Env} {os : List Ow} : setOuts ρ [] os = ρ := by cases os <;> rfl
@[simp] theorem souts_c {ρ : Env} {i : Nat} {is : List Nat} {o : Ow} {os : List Ow} : setOuts ρ (i :: is) (o :: os) = setOuts (put ρ i (setOw (get ρ i) o)) is os := rfl
@[simp] theorem putsR_n {ρ : Env} : putsR ρ [] [] = ρ := rfl
@[simp] theorem putsR_c {ρ : Env} {i : Nat} {is : List Nat} {o : RV} {os : List RV} : putsR ρ (i :: is) (o :: os) = putsR (put ρ i (some o.sv)) is os := rfl
@[simp] theorem bindT_nm {i : Nat} {d : D} {ρ : Env} : bindT (.nm i) d ρ = some (put ρ i (some (.val d))) := rfl
@[simp] theorem bindT_t2 {i j : Nat} {a b : D} {ρ : Env} : bindT (.tu [i, j]) (.tup [a, b]) ρ = some (put (put ρ i (some (.val a))) j (some (.val b))) := rfl
@[simp] theorem bindT_t3 {i j k : Nat} {a b c : D} {ρ : Env} : bindT (.tu [i, j, k]) (.tup [a, b, c]) ρ = some (put (put (put ρ i (some (.val a))) j (some (.val b))) k (some (.val c))) := rfl
end EV
set_option linter.all false
set_option autoImplicit false
set_option maxRecDepth 20000
set_option Elab.async false
/-! Returns, sources, comprehensions, loops, calls by levels. -/
namespace EV
open PySem L2
section
variable {S : SPX} {G : Str → Option D} {ρ : Env} {P : RP} {X : XP} {K : EK}
@[simp ↓] theorem sr_fvar {i : Nat} : sx S G (.ret (.fvar i)) ρ K = vx S G (.fvar i) ρ K.rt K.ex := sx_ret rfl
@[simp ↓] theorem sr_cst {d : D} : sx S G (.ret (.cst d)) ρ K = vx S G (.cst d) ρ K.rt K.ex := sx_ret rfl
@[simp ↓] theorem sr_glb {g : Str} : sx S G (.ret (.glb g)) ρ K = vx S G (.glb g) ρ K.rt K.ex := sx_ret rfl
@[simp ↓] theorem sr_tup {es : Es} : sx S G (.ret (.tup es)) ρ K = vx S G (.tup es) ρ K.rt K.ex := sx_ret rfl
@[simp ↓] theorem sr_lst {es : Es} : sx S G (.ret (.lst es)) ρ K = vx S G (.lst es) ρ K.rt K.ex := sx_ret rfl
@[simp ↓] theorem sr_dspK {ks : List Key} {es : Es} : sx S G (.ret (.dspK ks es)) ρ K = vx S G (.dspK ks es) ρ K.rt K.ex := sx_ret rfl
@[simp ↓] theorem sr_dspT {ks : List (List Key)} {es : Es} : sx S G (.ret (.dspT ks es)) ρ K = vx S G (.dspT ks es) ρ K.rt K.ex := sx_ret rfl
@[simp ↓] theorem sr_bin {op : BOp} {a b : E} : sx S G (.ret (.bin op a b)) ρ K = vx S G (.bin op a b) ρ K.rt K.ex := sx_ret rfl
@[simp ↓] theorem sr_neg {a : E} : sx S G (.ret (.neg a)) ρ K = vx S G (.neg a) ρ K.rt K.ex := sx_ret rfl
@[simp ↓] theorem sr_repL {a b : E} : sx S G (.ret (.repL a b)) ρ K = vx S G (.repL a b) ρ K.rt K.ex := sx_ret rfl
@[simp ↓] theorem sr_cmp {op : COp} {a b : E} : sx S G (.ret (.cmp op a b)) ρ K = vx S G (.cmp op a b) ρ K.rt K.ex := sx_ret rfl
@[simp ↓] theorem sr_chn {a b c : E} {op op' : COp} : sx S G (.ret (.chn a op b op' c)) ρ K = vx S G (.chn a op b op' c) ρ K.rt K.ex := sx_ret rfl
@[simp ↓] theorem sr_chn3 {a b c d : E} {op op' op'' : COp} : sx S G (.ret (.chn3 a op b op' c op'' d)) ρ K = vx S G (.chn3 a op b op' c op'' d) ρ K.rt K.ex := sx_ret rfl
@[simp ↓] theorem sr_and_ {a b : E} : sx S G (.ret (.and_ a b)) ρ K = vx S G (.and_ a b) ρ K.rt K.ex := sx_ret rfl
@[simp ↓] theorem sr_or_ {a b : E} : sx S G (.ret (.or_ a b)) ρ K = vx S G (.or_ a b) ρ K.rt K.ex := sx_ret rfl
@[simp ↓] theorem sr_not_ {a : E} : sx S G (.ret (.not_ a)) ρ K = vx S G (.not_ a) ρ K.rt K.ex := sx_ret rfl
@[simp ↓] theorem sr_ife {t a b : E} : sx S G (.ret (.ife t a b)) ρ K = vx S G (.ife t a b) ρ K.rt K.ex := sx_ret rfl
@[simp ↓] theorem sr_idx {a i : E} : sx S G (.ret (.idx a i)) ρ K = vx S G (.idx a i) ρ K.rt K.ex := sx_ret rfl
@[simp ↓] theorem sr_slc {a : E} {lo hi : Es} : sx S G (.ret (.slc a lo hi)) ρ K = vx S G (.slc a lo hi) ρ K.rt K.ex := sx_ret rfl
@[simp ↓] theorem sr_cm1 {vs : List Nat} {tg : Tg} {ik : IK} {ia cond : Es} {elt : E} : sx S G (.ret (.cm1 vs tg ik ia cond elt)) ρ K = vx S G (.cm1 vs tg ik ia cond elt) ρ K.rt K.ex := sx_ret rfl
@[simp ↓] theorem sr_cm2 {vs vs1 : List Nat} {tg tg1 : Tg} {ik ik1 : IK} {ia ia1 : Es} {elt : E} : sx S G (.ret (.cm2 vs vs1 tg ik ia tg1 ik1 ia1 elt)) ρ K = vx S G (.cm2 vs vs1 tg ik ia tg1 ik1 ia1 elt) ρ K.rt K.ex := sx_ret rfl
@[simp ↓] theorem sr_call {f : Nat} {as : Es} {io : List Bool} : sx S G (.ret (.call f as io)) ρ K = vx S G (.call f as io) ρ K.rt K.ex := sx_ret rfl
@[simp ↓] theorem sr_blt {b : Blt} {as : Es} : sx S G (.ret (.blt b as)) ρ K = vx S G (.blt b as) ρ K.rt K.ex := sx_ret rfl
@[simp ↓] theorem vx_fvar {i : Nat} : vx S G (.fvar i) ρ P X = gAZ (get ρ i) i ρ P := by unfold vx W ofV varV gAZ gA; rfl
@[simp ↓] theorem px_fvar {i : Nat} {V : PV → Env → Prop} : px S G (.fvar i) ρ V X = gAZ (get ρ i) i ρ (fun r ρ' => V (.rv r) ρ') := by
  show peek (W S G (.fvar i)) ρ V X = _
  unfold W ofV peek varV gAZ gA; rfl
/-! ### sources -/
variable {Q : Src → Env → Prop}
@[simp] theorem seqD_t {xs : List D} : seqD (.tup xs) = some xs := rfl
@[simp] theorem seqD_C {xs : List D} : seqD (.tC xs) = some xs := rfl
@[simp] theorem seqD_l {xs : List D} : seqD (.lst xs) = some xs := rfl
@[simp] theorem seqD_s {x : Str} : seqD (.str x) = some (letters x) := rfl
@[simp ↓] theorem it_seq {e : E} : itx S G .seq (.cons e .nil) ρ Q X = px S G e ρ (fun p ρ1 => p.still ρ1 ∧ oCZ (seqD p.d) fun ds => Q ⟨ds, p.still, p.fx⟩ ρ1) X := by unfold itx iterW Ws Ws px peeks peeks oCZ oC; rfl
@[simp ↓] theorem it_rng1 {e : E} : itx S G .rng1 (.cons e .nil) ρ Q X = px S G e ρ (fun p ρ1 => p.still ρ1 ∧ iCZ p.d fun n => -big ≤ n ∧ n < big ∧ Q ⟨rngD 0 n.toNat, fun _ => True, true⟩ ρ1) X := by unfold itx iterW Ws Ws px peeks peeks iCZ iC; rfl
@[simp ↓] theorem it_rng2 {e e2 : E} : itx S G .rng2 (.cons e (.cons e2 .nil)) ρ Q X = px S G e ρ (fun p ρ1 => px S G e2 ρ1 (fun q ρ2 => q.still ρ2 ∧ p.still ρ2 ∧ iCZ p.d fun m => iCZ q.d fun n => -big ≤ m ∧ m < big ∧ -big ≤ n ∧ n < big ∧ Q ⟨rngD m (n - m).toNat, fun _ => True, true⟩ ρ2) X) X := by
  unfold itx iterW Ws Ws Ws px peeks peeks peeks iCZ iC
  congr 1
  funext p ρ1
  congr 1
  funext q ρ2
  refine propext ⟨fun ⟨h1, h2, m, n, h3, h4, h5⟩ => ⟨h1, h2, m, h3, n, h4, h5⟩, fun ⟨h1, h2, m, h3, n, h4, h5⟩ => ⟨h1, h2, m, n, h3, h4, h5⟩⟩
def lstOrTup (d : D) (F : List D → Prop) : Prop := ∃ ds, (d = .lst ds ∨ d.n = .tup ds) ∧ F ds
def lstOrTupZ (d : D) (F : List D → Prop) (_z : Fz (F) := .mk) : Prop := lstOrTup d F
@[simp low] theorem lstOrTupZ_o {d : D} {F : List D → Prop} : lstOrTupZ d F = lstOrTup d F := rfl
@[simp] theorem lot_l {xs : List D} {F : List D → Prop} : lstOrTup (.lst xs) F = F xs := by
  refine propext ⟨fun ⟨_, h, f⟩ => ?_, fun f => ⟨xs, .inl rfl, f⟩⟩
  rcases h with h | h
  · cases h; exact f
  · cases h
@[simp] theorem lot_l_z {xs : List D} {F : List D → Prop} : lstOrTupZ (.lst xs) F = F xs := lot_l
@[simp] theorem lot_t {xs : List D} {F : List D → Prop} : lstOrTup (.tup xs) F = F xs := by
  refine propext ⟨fun ⟨_, h, f⟩ => ?_, fun f => ⟨xs, .inr rfl, f⟩⟩
  rcases h with h | h
  · cases h
  · cases h; exact f
@[simp] theorem lot_t_z {xs : List D} {F : List D → Prop} : lstOrTupZ (.tup xs) F = F xs := lot_t
@[simp ↓] theorem it_enm {e : E} : itx S G .enm (.cons e .nil) ρ Q X = px S G e ρ (fun p ρ1 => p.still ρ1 ∧ lstOrTupZ p.d fun ds => Q ⟨enumD ds 0, p.still, p.fx⟩ ρ1) X := by unfold itx iterW Ws Ws px peeks peeks lstOrTupZ lstOrTup; rfl
@[simp] theorem fx_at {i : Nat} {d : D} : (PV.at i d).fx = false := rfl
@[simp] theorem fx_rv {r : RV} : (PV.rv r).fx = true := rfl
/-! ### comprehensions -/
def cmB (S : SPX) (G : Str → Option D) (vs : List Nat) (tg : Tg) (cond : Es) (elt : E) (src : Src) (ρ1 : Env) (P : RP) : Prop := ∃ I : Nat → List D → Env → Prop, I 0 [] (wipes ρ1 vs) ∧
    (∀ j acc ρ2, I j acc ρ2 → src.still ρ2) ∧
    (∀ j acc ρ2 d, I j acc ρ2 → src.items[j]? = some d → oCZ (bindT tg d ρ2) fun ρ3 =>
      cdx S G cond ρ3 fun b ρ4 => cndZ b (vx S G elt ρ4 (fun r ρ5 => acc.length < lim ∧ I (j + 1) (acc ++ [r.d]) (wipes ρ5 vs)) XF) (I (j + 1) acc (wipes ρ4 vs))) ∧
    (∀ acc ρ2, I src.items.length acc ρ2 → P (.own (.lst acc)) ρ2)
def cmBZ (S : SPX) (G : Str → Option D) (vs : List Nat) (tg : Tg) (cond : Es) (elt : E) (src : Src) (ρ : Env) (P : RP) (_z : Fz ((S, G, vs, tg, cond, elt, P)) := .mk) : Prop := cmB S G vs tg cond elt src ρ P
@[simp low] theorem cmBZ_o {S : SPX} {G : Str → Option D} {vs : List Nat} {tg : Tg} {cond : Es} {elt : E} {src : Src} {ρ : Env} {P : RP} : cmBZ S G vs tg cond elt src ρ P = cmB S G vs tg cond elt src ρ P := rfl
@[simp ↓] theorem vx_cm1 {vs : List Nat} {tg : Tg} {ik : IK} {ia cond : Es} {elt : E} : vx S G (.cm1 vs tg ik ia cond elt) ρ P X = itx S G ik ia ρ (fun src ρ1 => cmBZ S G vs tg cond elt src ρ1 P) X := by
  unfold vx W ofV cm1W itx cmBZ cmB oCZ oC cdx cndZ cnd vx
  rfl
@[simp ↓] theorem cdx_n {B : Bool → Env → Prop} : cdx S G .nil ρ B = B true ρ := by unfold cdx Ws; rfl
@[simp ↓] theorem cdx_c {e : E} {B : Bool → Env → Prop} : cdx S G (.cons e .nil) ρ B = tx S G e ρ B XF := by unfold cdx Ws Ws tx; rfl
/-- each item on its own, nothing else changes -/
theorem cm_pure {vs : List Nat} {tg : Tg} {cond : Es} {elt : E} {src : Src} (f : D → Option D) (hl : src.items.length ≤ lim) (hs : src.still (wipes ρ vs))
    (h : ∀ d, d ∈ src.items → ∀ A : Option D → Env → Prop, A (f d) (wipes ρ vs) → oCZ (bindT tg d (wipes ρ vs)) fun ρ3 => cdx S G cond ρ3 fun b ρ4 => cndZ b (vx S G elt ρ4 (fun r ρ5 => A (some r.d) (wipes ρ5 vs)) XF) (A none (wipes ρ4 vs)))
    (hP : P (.own (.lst (src.items.filterMap f))) (wipes ρ vs)) : cmB S G vs tg cond elt src ρ P := by
  refine ⟨fun j acc ρ2 => ρ2 = wipes ρ vs ∧ acc = (src.items.take j).filterMap f, ⟨rfl, by simp⟩, fun j acc ρ2 ⟨e, _⟩ => by rw [e]; exact hs, fun j acc ρ2 d ⟨e1, e2⟩ hd => ?_, fun acc ρ2 ⟨e1, e2⟩ => ?_⟩
  · subst e1
    have hm := List.mem_of_getElem? hd
    have hj : j < src.items.length := (List.getElem?_eq_some_iff.mp hd).1
    have la : acc.length ≤ j := by
      rw [e2]
      exact Nat.le_trans (List.length_filterMap_le ..) (by rw [List.length_take]; omega)
    have et : (src.items.take (j + 1)).filterMap f = acc ++ (match f d with | some x => [x] | none => []) := by
      rw [List.take_succ, hd, List.filterMap_append, ← e2]
      cases z : f d <;> simp [z]
    refine h d hm (fun o ρ' => match o with
      | some x => acc.length < lim ∧ (ρ' = wipes ρ vs ∧ acc ++ [x] = (src.items.take (j + 1)).filterMap f)
      | none => ρ' = wipes ρ vs ∧ acc = (src.items.take (j + 1)).filterMap f) ?_
    rw [et]
    cases z : f d with
    | some x => exact ⟨by omega, rfl, rfl⟩
    | none => exact ⟨rfl, by simp⟩
  · subst e1
    rw [e2, List.take_length]
    exact hP
/-- .. each gives one -/
theorem cm_map {vs : List Nat} {tg : Tg} {elt : E} {src : Src} (f : D → D) (hl : src.items.length ≤ lim) (hs : src.still (wipes ρ vs))
    (h : ∀ d, d ∈ src.items → ∀ A : D → Env → Prop, A (f d) (wipes ρ vs) → oCZ (bindT tg d (wipes ρ vs)) fun ρ3 => vx S G elt ρ3 (fun r ρ5 => A r.d (wipes ρ5 vs)) XF)
    (hP : P (.own (.lst (src.items.map f))) (wipes ρ vs)) : cmB S G vs tg .nil elt src ρ P := by
  refine cm_pure (fun d => some (f d)) hl hs (fun d hd A hA => ?_) ?_
  · obtain ⟨ρ3, e, h3⟩ := h d hd (fun x ρ' => A (some x) ρ') hA
    exact ⟨ρ3, e, by show cdx S G Es.nil ρ3 _; rw [cdx_n, cnd_t_z]; exact h3⟩
  · have : src.items.filterMap (fun d => some (f d)) = src.items.map f := by
      induction src.items with
      | nil => rfl
      | cons a l ih => simp
    rw [this]
    exact hP
/-! ### loops -/
def frB (S : SPX) (G : Str → Option D) (tg : Tg) (b : Ss) (src : Src) (ρ1 : Env) (K : EK) : Prop := src.fix = true ∧ ∃ I : Nat → Env → Prop, I 0 ρ1 ∧ (∀ j ρ2, I j ρ2 → src.still ρ2) ∧
    (∀ j ρ2 d, I j ρ2 → src.items[j]? = some d → oCZ (bindT tg d ρ2) fun ρ3 => ssx S G b ρ3 { K with nx := I (j + 1), ct := I (j + 1), bk := K.nx }) ∧
    (∀ ρ2, I src.items.length ρ2 → K.nx ρ2)
def frBZ (S : SPX) (G : Str → Option D) (tg : Tg) (b : Ss) (src : Src) (ρ : Env) (K : EK) (_z : Fz ((S, G, tg, b, K)) := .mk) : Prop := frB S G tg b src ρ K
@[simp low] theorem frBZ_o {S : SPX} {G : Str → Option D} {tg : Tg} {b : Ss} {src : Src} {ρ : Env} {K : EK} : frBZ S G tg b src ρ K = frB S G tg b src ρ K := rfl
@[simp ↓] theorem sx_for {tg : Tg} {ik : IK} {ia : Es} {b : Ss} : sx S G (.for_ tg ik ia b) ρ K = itx S G ik ia ρ (fun src ρ1 => frBZ S G tg b src ρ1 K) K.ex := by
  unfold sx itx frBZ frB ssx oCZ oC
  (conv => lhs; unfold wS)
  rfl
end
/-! ### calls -/
@[simp] theorem cl_up {lev : Nat → List RV → Nat} {ct : SPX} {k f : Nat} {rs : List RV} {R : RV → List Ow → Prop} {Xc : Nat → List D → Prop} : cl (upTo lev ct k) f rs R Xc = (lev f rs < k ∧ ct f rs R Xc) := rfl
@[simp] theorem cl_up_z {lev : Nat → List RV → Nat} {ct : SPX} {k f : Nat} {rs : List RV} {R : RV → List Ow → Prop} {Xc : Nat → List D → Prop} : clZ (upTo lev ct k) f rs R Xc = (lev f rs < k ∧ ct f rs R Xc) := cl_up
/-- what a def's body owes -/
def owes (S : SPX) (G : Str → Option D) (io : List Bool) (n : Nat) (ss : Ss) (rs : List RV) (R : RV → List Ow → Prop) (Xc : Nat → List D → Prop) : Prop := oCZ (env0 io rs n) fun ρ0 => ssx S G ss ρ0 (endK io R Xc)
theorem owes_ok {S : SPX} {G : Str → Option D} {io : List Bool} {n : Nat} {ss : Ss} {rs : List RV} {R : RV → List Ow → Prop} {Xc : Nat → List D → Prop} (h : owes S G io n ss rs R Xc) : ∃ ρ0, env0 io rs n = some ρ0 ∧ wSs S G ss ρ0 (endK io R Xc) := h
section
variable {io : List Bool} {R : RV → List Ow → Prop} {Xc : Nat → List D → Prop}
@[simp] theorem endK_rt {r : RV} {ρ : Env} : (endK io R Xc).rt r ρ = oCZ (outsOf io ρ 0) fun os => R r os := rfl
@[simp] theorem endK_nx {ρ : Env} : (endK io R Xc).nx ρ = oCZ (outsOf io ρ 0) fun os => R (.val .non) os := rfl
@[simp] theorem endK_ex {c : Nat} {ps : List D} {ρ : Env} : (endK io R Xc).ex c ps ρ = Xc c ps := rfl
@[simp] theorem outs_n {ρ : Env} {k : Nat} : outsOf [] ρ k = some [] := by cases ρ <;> rfl
@[simp] theorem outs_f {s : Option SV} {ρ : Env} {k : Nat} : outsOf (false :: io) (s :: ρ) k = outsOf io ρ k := by cases s <;> first | rfl | (rename_i s; cases s <;> rfl)
@[simp] theorem outs_t {o : Ow} {ρ : Env} {k : Nat} : outsOf (true :: io) (some (.par k o) :: ρ) k = (outsOf io ρ (k + 1)).map fun os => o :: os := by
  show (if k = k then (outsOf io ρ (k + 1)).map (fun os => o :: os) else none) = _
  rw [if_pos rfl]
@[simp] theorem envOf_n {k : Nat} : envOf [] [] k = some [] := rfl
@[simp] theorem envOf_f {d : D} {rs : List RV} {k : Nat} : envOf (false :: io) (.val d :: rs) k = (envOf io rs k).map fun ρ => some (.val d) :: ρ := rfl
@[simp] theorem envOf_t {o : Ow} {rs : List RV} {k : Nat} : envOf (true :: io) (.own o :: rs) k = (envOf io rs (k + 1)).map fun ρ => some (.par k o) :: ρ := rfl
@[simp] theorem env0_ {rs : List RV} {n : Nat} : env0 io rs n = (envOf io rs 0).map fun ρ => ρ ++ List.replicate (n - rs.length) none := rfl
end
end EV
set_option linter.all false
set_option autoImplicit false
set_option maxRecDepth 20000
set_option Elab.async false
/-! k72: the data, plainly. -/
namespace P72
open PySem EV L2 A72

/-! ### the module's constants -/
def G72 : Str → Option D := fun g =>
  if g = "MOST_WORDS_formulas" then some (.int 60) else if g = "MOST_DEPTH" then some (.int 8)
  else if g = "TWO" then some (.tC [.str "sign", .str "root", .str "fence", .str "bar", .str "table"])
  else if g = "THREE" then some (.tC [.str "over", .str "high", .str "low", .str "under", .str "upper"])
  else if g = "FOUR" then some (.tC [.str "both", .str "limits"])
  else if g = "SIGNED" then some (.tC [.str "sign", .str "under", .str "upper", .str "limits"])
  else if g = "BASED" then some (.tC [.str "high", .str "low", .str "both"])
  else if g = "NO_BASES" then some (.tC [.str "row", .str "high", .str "low", .str "both"])
  else if g = "LETTERS" then some (.str "abcdefghijklmnopqrstuvwxyz")
  else if g = "OF_SIGNS" then some (.tC [.str "wide", .str "high", .str "deep"])
  else if g = "ASKED" then some (.dC [.inr "sign", .inr "row", .inr "over", .inr "root", .inr "high", .inr "low", .inr "both", .inr "under", .inr "upper", .inr "limits", .inr "fence", .inr "bar", .inr "table"]
    [.tC [], .tC [], .tC [.str "axis", .str "rule", .str "gap", .str "rise", .str "fall"], .tC [.str "rule", .str "gap"], .tC [.str "rise"], .tC [.str "fall"], .tC [.str "rise", .str "fall"],
     .tC [.str "fall", .str "gap"], .tC [.str "rise", .str "gap"], .tC [.str "rise", .str "fall", .str "gap"], .tC [.str "rule", .str "gap"], .tC [.str "rule", .str "gap"], .tC [.str "axis", .str "rule", .str "gap"]])
  else if g = "MOST_SIDE" then some (.int 12) else if g = "MOST_CELLS" then some (.int 24) else if g = "MOST_WORDS_grids" then some (.int 60)
  else if g = "GAP" then some (.tC [.str "gap", .int 0]) else none

/-! ### formulas -/
def Sgn (x : Str) : Prop := x = "a" ∨ x = "b" ∨ x = "sum"
/-- the first word -/
def head : D → Option Str
  | .tup (.str w :: _) => some w
  | _ => none
/-- nothing is raised behind it -/
def noB (d : D) : Bool := match head d with
  | some w => decide (w = "row") || decide (w = "high") || decide (w = "low") || decide (w = "both")
  | none => false
inductive Fo : Nat → D → Prop
  | sign {n : Nat} {x : Str} : Sgn x → Fo (n + 1) (.tup [.str "sign", .str x])
  | row {n : Nat} {ps : List D} : ps ≠ [] → (∀ p, p ∈ ps → Fo n p) → Fo (n + 1) (.tup (.str "row" :: ps))
  | over {n : Nat} {a b : D} : Fo n a → Fo n b → Fo (n + 1) (.tup [.str "over", a, b])
  | one {n : Nat} {w : Str} {a : D} : w = "root" ∨ w = "fence" ∨ w = "bar" → Fo n a → Fo (n + 1) (.tup [.str w, a])
  | two {n : Nat} {w : Str} {a b : D} : w = "high" ∨ w = "low" → noB a = false → Fo n a → Fo n b → Fo (n + 1) (.tup [.str w, a, b])
  | both {n : Nat} {a b c : D} : noB a = false → Fo n a → Fo n b → Fo n c → Fo (n + 1) (.tup [.str "both", a, b, c])
  | stk {n : Nat} {w x : Str} {a : D} : w = "under" ∨ w = "upper" → Sgn x → Fo n a → Fo (n + 1) (.tup [.str w, .str x, a])
  | lim {n : Nat} {x : Str} {a b : D} : Sgn x → Fo n a → Fo n b → Fo (n + 1) (.tup [.str "limits", .str x, a, b])
  | tab {n c : Nat} {rows : List (List D)} : rows ≠ [] → 0 < c → (∀ r, r ∈ rows → r.length = c) → (∀ r, r ∈ rows → ∀ p, p ∈ r → Fo n p) → Fo (n + 1) (.tup [.str "table", .tup (rows.map .tup)])
theorem Fo.up {n : Nat} {f : D} (h : Fo n f) : Fo (n + 1) f := by
  induction h with
  | sign h => exact .sign h
  | row h1 _ h2 => exact .row h1 h2
  | over _ _ h1 h2 => exact .over h1 h2
  | one h _ h1 => exact .one h h1
  | two h h0 _ _ h1 h2 => exact .two h h0 h1 h2
  | both h0 _ _ _ h1 h2 h3 => exact .both h0 h1 h2 h3
  | stk h h0 _ h1 => exact .stk h h0 h1
  | lim h0 _ _ h1 h2 => exact .lim h0 h1 h2
  | tab h0 h1 h2 _ h3 => exact .tab h0 h1 h2 h3
theorem Fo.le {n m : Nat} {f : D} (h : Fo n f) (l : n ≤ m) : Fo m f := by
  induction l with
  | refl => exact h
  | step _ ih => exact ih.up
/-! how deep data is -/
mutual
def dp : D → Nat
  | .tup xs => dps xs + 1
  | .lst xs => dps xs + 1
  | _ => 0
def dps : List D → Nat
  | [] => 0
  | x :: xs => max (dp x) (dps xs)
end
theorem dps_mem {x : D} : ∀ {xs : List D}, x ∈ xs → dp x ≤ dps xs
  | y :: ys, h => by
    unfold dps
    rcases List.mem_cons.mp h with e | h
    · subst e; exact Nat.le_max_left _ _
    · exact Nat.le_trans (dps_mem h) (Nat.le_max_right _ _)
theorem dps_le {n : Nat} : ∀ {xs : List D}, (∀ x, x ∈ xs → dp x ≤ n) → dps xs ≤ n
  | [], _ => Nat.zero_le _
  | y :: ys, h => by
    unfold dps
    exact Nat.max_le.mpr ⟨h y List.mem_cons_self, dps_le fun x hx => h x (List.mem_cons_of_mem _ hx)⟩
@[simp] theorem dp_t {xs : List D} : dp (.tup xs) = dps xs + 1 := by unfold dp; rfl
@[simp] theorem dp_s {x : Str} : dp (.str x) = 0 := by unfold dp; rfl
@[simp] theorem dp_i {x : Int} : dp (.int x) = 0 := by unfold dp; rfl
@[simp] theorem dp_n : dp .non = 0 := by unfold dp; rfl
@[simp] theorem dps_n : dps [] = 0 := by unfold dps; rfl
@[simp] theorem dps_c {x : D} {xs : List D} : dps (x :: xs) = max (dp x) (dps xs) := by rw [dps]
theorem Fo.dp {n : Nat} {f : D} (h : Fo n f) : dp f ≤ 3 * n := by
  induction h with
  | sign h => simp; omega
  | row h1 _ h2 =>
    have := dps_le h2
    simp; omega
  | over _ _ h1 h2 => simp; omega
  | one h _ h1 => simp; omega
  | two h h0 _ _ h1 h2 => simp; omega
  | both h0 _ _ _ h1 h2 h3 => simp; omega
  | stk h h0 _ h1 => simp; omega
  | lim h0 _ _ h1 h2 => simp; omega
  | @tab n c rows h0 h1 h2 _ h3 =>
    have : dps (rows.map .tup) ≤ 3 * n + 1 := dps_le fun x hx => by
      obtain ⟨r, hr, rfl⟩ := List.mem_map.mp hx
      have := dps_le (h3 r hr)
      simp; omega
    simp; omega
/-! ### the parts: the steps to it, it, by how much its level goes up -/
abbrev Part := List D × D × Int
def plc (ps : List D) (k : Nat) (u : Nat → Int) : List Part := match ps with
  | [] => []
  | p :: r => ([.int (k : Nat)], p, u k) :: plc r (k + 1) u
def rowP (r : Nat) (cs : List D) (c : Nat) : List Part := match cs with
  | [] => []
  | p :: q => ([.int 1, .int (r : Nat), .int (c : Nat)], p, 0) :: rowP r q (c + 1)
def cellsOf : D → List D
  | .tup cs => cs
  | _ => []
def tabP (rows : List D) (r : Nat) : List Part := match rows with
  | [] => []
  | x :: q => rowP r (cellsOf x) 0 ++ tabP q (r + 1)
def partsOf (f : D) : List Part := match f with
  | .tup (.str w :: ps) => if w = "sign" then [] else if w = "table" then (match ps with
      | [.tup rows] => tabP rows 0
      | _ => []) else if w = "under" ∨ w = "upper" ∨ w = "limits" then plc (ps.drop 1) 2 (fun _ => 1)
    else if w = "high" ∨ w = "low" ∨ w = "both" then plc ps 1 (fun k => if 1 < k then 1 else 0) else plc ps 1 (fun _ => if w = "over" then 1 else 0)
  | _ => []
theorem plc_mem {x : Part} : ∀ {ps : List D} {k : Nat} {u : Nat → Int}, x ∈ plc ps k u → x.2.1 ∈ ps
  | p :: r, k, u, h => by
    unfold plc at h
    rcases List.mem_cons.mp h with e | h
    · subst e; exact List.mem_cons_self
    · exact List.mem_cons_of_mem _ (plc_mem h)
theorem rowP_mem {x : Part} : ∀ {cs : List D} {r c : Nat}, x ∈ rowP r cs c → x.2.1 ∈ cs
  | p :: q, r, c, h => by
    unfold rowP at h
    rcases List.mem_cons.mp h with e | h
    · subst e; exact List.mem_cons_self
    · exact List.mem_cons_of_mem _ (rowP_mem h)
theorem tabP_mem {x : Part} : ∀ {rows : List D} {r : Nat}, x ∈ tabP rows r → ∃ q, q ∈ rows ∧ x.2.1 ∈ cellsOf q
  | y :: q, r, h => by
    unfold tabP at h
    rcases List.mem_append.mp h with h | h
    · exact ⟨y, List.mem_cons_self, rowP_mem h⟩
    · obtain ⟨z, h1, h2⟩ := tabP_mem h
      exact ⟨z, List.mem_cons_of_mem _ h1, h2⟩
theorem Fo.parts {n : Nat} {f : D} (h : Fo (n + 1) f) : ∀ x, x ∈ partsOf f → Fo n x.2.1 ∧ P72.dp x.2.1 < P72.dp f := by
  intro x hx
  have fin : ∀ {ps : List D} {w : Str}, (∀ p, p ∈ ps → Fo n p) → x.2.1 ∈ ps → Fo n x.2.1 ∧ P72.dp x.2.1 < P72.dp (.tup (.str w :: ps)) := fun {ps w} hp hm => ⟨hp _ hm, by
    have := dps_mem hm
    simp; omega⟩
  cases h with
  | sign h => simp [partsOf] at hx
  | row h1 h2 =>
    simp [partsOf] at hx
    exact fin h2 (plc_mem hx)
  | over h1 h2 =>
    simp [partsOf] at hx
    exact fin (by simp; exact ⟨h1, h2⟩) (plc_mem hx)
  | one h h1 =>
    rcases h with rfl | rfl | rfl <;> simp [partsOf] at hx <;> exact fin (by simp; exact h1) (plc_mem hx)
  | two h h0 h1 h2 =>
    rcases h with rfl | rfl <;> simp [partsOf] at hx <;> exact fin (by simp; exact ⟨h1, h2⟩) (plc_mem hx)
  | both h0 h1 h2 h3 =>
    simp [partsOf] at hx
    exact fin (by simp; exact ⟨h1, h2, h3⟩) (plc_mem hx)
  | @stk _ w y a h h0 h1 =>
    have hm : x.2.1 = a := by rcases h with rfl | rfl <;> (simp [partsOf] at hx; have := plc_mem hx; simpa using this)
    rw [hm]
    exact ⟨h1, by simp <;> omega⟩
  | @lim _ y a b h0 h1 h2 =>
    simp [partsOf] at hx
    have := plc_mem hx
    simp only [List.mem_cons, List.not_mem_nil, or_false] at this
    rcases this with e | e <;> rw [e]
    · exact ⟨h1, by simp <;> omega⟩
    · exact ⟨h2, by simp <;> omega⟩
  | @tab _ c rows h0 h1 h2 h3 =>
    simp [partsOf] at hx
    obtain ⟨q, hq, hm⟩ := tabP_mem hx
    obtain ⟨r, hr, rfl⟩ := List.mem_map.mp hq
    have hm : x.2.1 ∈ r := hm
    refine ⟨h3 r hr _ hm, ?_⟩
    have a1 := dps_mem hm
    have a2 := dps_mem hq
    simp at a2 ⊢
    omega
/-! ### the walk: triples of the path, the part, its level -/
def tri (p : List D) (f : D) (l : Int) : D := .tup [.tup p, f, .int l]
def lvn : Nat → D → List D → Int → List D
  | 0, _, _, _ => []
  | n + 1, f, p, l => tri p f l :: (partsOf f).flatMap fun x => lvn n x.2.1 (p ++ x.1) (l + x.2.2)
def wdn : Nat → D → Nat
  | 0, _ => 0
  | n + 1, f => 1 + ((partsOf f).map fun x => wdn n x.2.1).sum
theorem flatMap_ext {α β : Type} {f g : α → List β} : ∀ {l : List α}, (∀ x, x ∈ l → f x = g x) → l.flatMap f = l.flatMap g
  | [], _ => rfl
  | a :: l, h => by rw [List.flatMap_cons, List.flatMap_cons, h a List.mem_cons_self, flatMap_ext fun x hx => h x (List.mem_cons_of_mem _ hx)]
theorem lvn_st {n : Nat} : ∀ {m : Nat} {f : D} {p : List D} {l : Int}, Fo n f → n ≤ m → lvn m f p l = lvn n f p l := by
  induction n with
  | zero => intro m f p l h _; cases h
  | succ n ih =>
    intro m f p l h hm
    cases m with
    | zero => omega
    | succ m =>
      unfold lvn
      congr 1
      exact flatMap_ext fun x hx => ih (h.parts x hx).1 (by omega)
theorem wdn_st {n : Nat} : ∀ {m : Nat} {f : D}, Fo n f → n ≤ m → wdn m f = wdn n f := by
  induction n with
  | zero => intro m f h _; cases h
  | succ n ih =>
    intro m f h hm
    cases m with
    | zero => omega
    | succ m =>
      unfold wdn
      congr 2
      exact List.map_congr_left fun x hx => ih (h.parts x hx).1 (by omega)
theorem lvn_len : ∀ {n : Nat} {f : D} {p : List D} {l : Int}, (lvn n f p l).length = wdn n f
  | 0, _, _, _ => rfl
  | n + 1, f, p, l => by
    unfold lvn wdn
    rw [List.length_cons, List.length_flatMap, Nat.add_comm]
    congr 2
    exact List.map_congr_left fun x _ => lvn_len
/-- the walk, the words -/
def lv (f : D) (p : List D) (l : Int) : List D := lvn 4 f p l
def wd (f : D) : Nat := wdn 4 f
theorem lv_eq {n : Nat} {f : D} {p : List D} {l : Int} (h : Fo n f) (hn : n ≤ 4) : lv f p l = tri p f l :: (partsOf f).flatMap fun x => lv x.2.1 (p ++ x.1) (l + x.2.2) := by
  have e : lv f p l = lvn 5 f p l := (lvn_st (h.le hn) (by omega)).symm
  rw [e]
  rfl
theorem wd_eq {n : Nat} {f : D} (h : Fo n f) (hn : n ≤ 4) : wd f = 1 + ((partsOf f).map fun x => wd x.2.1).sum := by
  have e : wd f = wdn 5 f := (wdn_st (h.le hn) (by omega)).symm
  rw [e]
  rfl
theorem lv_len {f : D} {p : List D} {l : Int} : (lv f p l).length = wd f := lvn_len
end P72
set_option linter.all false
set_option autoImplicit false
set_option maxRecDepth 20000
set_option Elab.async false
/-! k72: what each def promises. -/
namespace P72
open PySem EV L2 A72

/-! ### things that are no formulas -/
def bHigh : D := .tup [.str "high", .tup [.str "row", .tup [.str "sign", .str "a"]], .tup [.str "sign", .str "a"]]
def BAD : List D := [.non, .tup [], .tup [.str "sign", .str "A"], .tup [.str "row"], bHigh, .lst [.str "sign", .str "a"], .tup [.str "rule", .int 1]]
def BADT : List Str := BAD.map fun d => d.py.shown
def bad (f : D) : Bool := BADT.any fun t => decide (t = f.py.shown)
/-! ### values -/
def Shw (d : D) : Prop := d.plain = true ∧ d.py.showable = true ∧ d.py.depth ≤ 60 ∧ d.py.shown.length ≤ lim
def Vh (v : D) : Prop := v = .non ∨ v = .tup [] ∨ (∃ xs, v = .lst xs) ∨ ∃ w ps, v = .tup (.str w :: ps) ∧ v.okEq
def hasForm (v : D) : Bool := match v with
  | .tup (.str w :: ps) => if w = "row" then decide (0 < ps.length)
    else (decide (ps.length = 1) && (decide ("sign" = w) || decide ("root" = w) || decide ("fence" = w) || decide ("bar" = w) || decide ("table" = w)))
      || ((decide (ps.length = 2) && (decide ("over" = w) || decide ("high" = w) || decide ("low" = w) || decide ("under" = w) || decide ("upper" = w)))
      || (decide (ps.length = 3) && (decide ("both" = w) || decide ("limits" = w))))
  | _ => false
def stp (x : Part) : D := .tup [.tup x.1, .int x.2.2]
def prt (x : Part) : D := .tup [.tup x.1, x.2.1, .int x.2.2]
def downD (v : D) (p : List D) : Option D := match p with
  | [] => some v
  | .int i :: r => (match v with
    | .tup xs => if 0 ≤ i then (xs[i.toNat]?).bind fun x => downD x r else none
    | _ => none)
  | _ => none
def isI (v : D) : Bool := isTy .int v && !isTy .bool v
def inR (a b : Int) (v : D) : Bool := match v with
  | .int i => decide (a ≤ i) && decide (i ≤ b)
  | _ => false
def spanB (a b : D) (m : Int) : Bool := match a, b with
  | .int i, .int j => decide (0 ≤ i) && (decide (i < j) && decide (j ≤ m))
  | _, _ => false
/-! ### names -/
def nm2 (w : Str) (l : Int) : List Key := [.inr w, .inl l]
def nm3 (w x : Str) (l : Int) : List Key := [.inr w, .inr x, .inl l]
def signed (f : D) : Option Str := match f with
  | .tup (.str w :: r) => if w = "sign" ∨ w = "under" ∨ w = "upper" ∨ w = "limits" then (match r with
    | .str x :: _ => some x
    | _ => none) else none
  | _ => none
def wds (f : D) : List Str := match f with
  | .tup (.str w :: ps) => (if w = "over" then (["axis", "rule", "gap", "rise", "fall"] : List Str) else if w = "root" ∨ w = "fence" ∨ w = "bar" then (["rule", "gap"] : List Str) else if w = "high" then (["rise"] : List Str) else if w = "low" then (["fall"] : List Str)
      else if w = "both" then (["rise", "fall"] : List Str) else if w = "under" then (["fall", "gap"] : List Str) else if w = "upper" then (["rise", "gap"] : List Str) else if w = "limits" then (["rise", "fall", "gap"] : List Str) else if w = "table" then (["axis", "rule", "gap"] : List Str) else [])
      ++ (if w = "row" ∧ 1 < ps.length then (["space"] : List Str) else if w = "table" then (match ps with
        | [.tup (.tup (_ :: _ :: _) :: _)] => (["space"] : List Str)
        | _ => []) else [])
  | _ => []
def askN (f : D) (l : Int) : List (List Key) := (wds f).map (fun w => nm2 w l) ++ (match signed f with
  | some x => [nm3 "wide" x l, nm3 "high" x l, nm3 "deep" x l]
  | none => [])
/-- the names of the parts of a walk -/
def nmT (t : D) : List (List Key) := match t with
  | .tup [_, f, .int l] => askN f l
  | _ => []
def nms (f : D) : List (List Key) := (lv f [] 0).flatMap nmT
def SortedOf (ns K : List (List Key)) : Prop := ns.Nodup ∧ (∀ k, k ∈ ns ↔ k ∈ K) ∧ ns.Pairwise fun a b => tkLt b a = false
/-! ### grids -/
def Sc (d : D) : Prop := (∃ i : Int, d = .int i ∧ -20 ≤ i ∧ i ≤ 20) ∨ (∃ b, d = .bl b) ∨ d = .non ∨ d = .str "1"
def Fm (f : D) : Prop := (Fo 3 f ∧ wd f ≤ 31) ∨ f ∈ BAD
def CV (c : D) : Prop := c = .non ∨ (∃ xs, c = .lst xs) ∨ (∃ xs, c = .tup xs ∧ xs.length ≠ 5) ∨ ∃ a b t u f, c = .tup [a, b, t, u, f] ∧ Sc a ∧ Sc b ∧ Sc t ∧ Sc u ∧ Fm f
def GV (v : D) : Prop := v = .non ∨ (∃ xs, v = .lst xs) ∨ (∃ xs, v = .tup xs ∧ xs.length ≠ 3) ∨ ∃ a b cs, v = .tup [a, b, cs] ∧ Sc a ∧ Sc b ∧ ((∃ xs, cs = .lst xs) ∨ ∃ xs, cs = .tup xs ∧ xs.length ≤ 30 ∧ ∀ c, c ∈ xs → CV c)
abbrev Rect := Int × Int × Int × Int
def cellR (c : D) (C R : Int) : Option (Rect × D) := match c with
  | .tup [.int a, .int b, .int t, .int u, f] => if (0 ≤ a ∧ a < b ∧ b ≤ C) ∧ (0 ≤ t ∧ t < u ∧ u ≤ R) ∧ bad f = false then some ((a, b, t, u), f) else none
  | _ => none
def shr (x y : Rect) : Bool := decide (x.1 < y.2.1) && (decide (y.1 < x.2.1) && (decide (x.2.2.1 < y.2.2.2) && decide (y.2.2.1 < x.2.2.2)))
def judgeC (C R : Int) : List D → Nat → Nat → List Rect → Option D
  | [], _, _, _ => none
  | c :: q, k, w, es => match cellR c C R with
    | none => some (.int k)
    | some (x, f) => if es.any (shr x) = true then some (.int k) else if 60 < w + wd f then some (.int k) else judgeC C R q (k + 1) (w + wd f) (es ++ [x])
def judge (v : D) : Option D := match v with
  | .tup [.int a, .int b, .tup cs] => if (1 ≤ a ∧ a ≤ 12) ∧ (1 ≤ b ∧ b ≤ 12) ∧ cs.length ≤ 24 then judgeC a b cs 0 0 [] else some .non
  | _ => some .non
/-- a drawn grid -/
def GCell (c : D) : Prop := ∃ a b t u f, c = .tup [.int a, .int b, .int t, .int u, f] ∧ (0 ≤ a ∧ a ≤ 12) ∧ (0 ≤ b ∧ b ≤ 12) ∧ (0 ≤ t ∧ t ≤ 12) ∧ (0 ≤ u ∧ u ≤ 12) ∧ Fo 3 f ∧ wd f ≤ 31
def GOk (g : D) : Prop := ∃ a b cs, g = .tup [.int a, .int b, .tup cs] ∧ (1 ≤ a ∧ a ≤ 12) ∧ (1 ≤ b ∧ b ≤ 12) ∧ cs.length ≤ 5 ∧ ∀ c, c ∈ cs → GCell c
def fmOf (c : D) : D := match c with
  | .tup [_, _, _, _, f] => f
  | _ => .non
def gnms (cs : List D) : List (List Key) := nm2 "gap" 0 :: cs.flatMap fun c => nms (fmOf c)
/-! ### draws -/
def MOk (B : Nat) (kvs : List (Key × D)) : Prop := ∃ (l s p : Int) (cs : List Int), kvs = [(.inr "left", .int l), (.inr "seed", .int s), (.inr "cells", .lst (cs.map .int)), (.inr "spot", .int p)] ∧ 0 ≤ p ∧ p ≤ B ∧ cs ≠ [] ∧ 0 ≤ s ∧ s < 2147483647 ∧ cs.length ≤ 100
def Bd (d : Int) : Nat := if d < 2 then 1 else if d = 2 then 20 else 70
def Bw (d : Int) : Nat := if d < 2 then 1 else if d = 2 then 10 else 31

/-! ### the promises -/
abbrev Ct := List RV → (RV → List Ow → Prop) → (Nat → List D → Prop) → Prop
def c0 : Ct | [.val (.str x)], R, _ => (Sgn x ∧ R (.val (.bl true)) []) ∨ (x = "A" ∧ R (.val (.bl false)) []) | _, _, _ => False
def c1 : Ct | [.val v], R, _ => (∃ w ps, v = .tup (.str w :: ps) ∧ v.okEq) ∧ R (.val (.bl (noB v))) [] | _, _, _ => False
def c2 : Ct | [.val v], R, _ => Vh v ∧ R (.val (.bl (hasForm v))) [] | _, _, _ => False
def c3 : Ct | [.val f], R, _ => ((∃ n, Fo (n + 1) f) ∨ f = bHigh) ∧ (partsOf f).length ≤ 1000 ∧ R (.own (.lst ((partsOf f).map stp))) [] | _, _, _ => False
def c4 : Ct | [.val v, .val (.tup p)], R, _ => oC (downD v p) fun d => R (.val d) [] | _, _, _ => False
def c5 : Ct | [.val v, .val (.tup p)], R, _ => (∃ n c rows, v = .tup (rows.map .tup) ∧ rows ≠ [] ∧ 0 < c ∧ (∀ r, r ∈ rows → r.length = c) ∧ (∀ r, r ∈ rows → ∀ q, q ∈ r → Fo n q) ∧ n ≤ 3 ∧ p.length + 3 * n ≤ 98 ∧ ∀ r, r ∈ rows → ∀ q, q ∈ r → wd q ≤ 1000) ∧ v.okEq ∧ R (.val .non) [] | _, _, _ => False
def c6 : Ct | [.val v, .val (.tup p)], R, _ => p.length ≤ 900 ∧ (((∃ n, Fo n v ∧ n ≤ 4 ∧ p.length + 3 * n ≤ 100) ∧ wd v ≤ 1000 ∧ R (.val .non) []) ∨ (v ∈ BAD ∧ ∀ q, R (.val (.tup q)) [])) | _, _, _ => False
def c7 : Ct | [.val f, .val (.tup p), .val (.int l)], R, _ => (∃ n, Fo n f ∧ n ≤ 4 ∧ p.length + 3 * n ≤ 100) ∧ wd f ≤ 1000 ∧ R (.own (.lst (lv f p l))) [] | _, _, _ => False
def c8 : Ct | [.val f], R, _ => (∃ n, Fo n f ∧ n ≤ 4) ∧ wd f ≤ 1000 ∧ R (.val (.int (wd f))) [] | _, _, _ => False
def c9 : Ct | [.val f], R, _ => wd f ≤ 1000 ∧ ∃ n, Fo n f ∧ n ≤ 4 ∧ ∀ d : Int, 1 ≤ d → d ≤ n → R (.val (.int d)) [] | _, _, _ => False
def c10 : Ct | [.val f], R, _ => (∃ n, Fo n f ∧ n ≤ 4) ∧ wd f ≤ 60 ∧ R (.val .non) [] | _, _, _ => False
def c11 : Ct | [.val v], R, X => ((∃ n, Fo n v ∧ n ≤ 4) ∧ wd v ≤ 60 ∧ R (.val v) []) ∨ (v ∈ BAD ∧ ∀ q, X 0 [.tup q]) | _, _, _ => False
def c12 : Ct | [.val v], R, _ => isiOk v ∧ R (.val (.bl (isI v))) [] | _, _, _ => False
def c13 : Ct | [.val f, .val (.int l)], R, _ => (∃ n, Fo (n + 1) f) ∧ R (.own (.lst ((askN f l).map tkD))) [] | _, _, _ => False
def c15 : Ct | [.val f], R, _ => (Fo 3 f ∧ wd f ≤ 1000) ∧ ∀ ds ns, ds.map tkn = ns.map some → SortedOf ns (nms f) → R (.val (.tup ds)) [] | _, _, _ => False
def c14 : Ct | [.val f, .val (.int l)], R, X => l = 0 ∧ c15 [.val f] R X | _, _, _ => False
def c16 : Ct | [.val v], R, _ => Sc v ∧ R (.val (.bl (inR 1 12 v))) [] | _, _, _ => False
def c17 : Ct | [.val a, .val b, .val (.int m)], R, _ => (Sc a ∧ Sc b) ∧ R (.val (.bl (spanB a b m))) [] | _, _, _ => False
def c18 : Ct | [.val c, .val (.int C), .val (.int N)], R, _ => CV c ∧ R (.val (.bl (cellR c C N).isSome)) [] | _, _, _ => False
def c19 : Ct | [.val (.tup [.int a, .int b, .int t, .int u, _]), .val (.tup [.int a', .int b', .int t', .int u', _])], R, _ => R (.val (.bl (shr (a, b, t, u) (a', b', t', u')))) [] | _, _, _ => False
def c20 : Ct | [.val v], R, X => GV v ∧ (match judge v with | none => R (.val v) [] | some q => X 1 [q]) | _, _, _ => False
def c21 : Ct | [.val g], R, _ => ∃ a b cs, g = .tup [a, b, .tup cs] ∧ cs.length ≤ 5 ∧ (∀ c, c ∈ cs → GCell c) ∧ ∀ ds ns, ds.map tkn = ns.map some → SortedOf ns (gnms cs) → R (.val (.tup ds)) [] | _, _, _ => False
def c22 : Ct | [.val (.lst s), .val (.int k)], R, _ => (∃ ns : List Int, s = ns.map .int ∧ ns.length ≤ 63) ∧ (0 ≤ k ∧ k ≤ 10) ∧ ∀ kvs, MOk 0 kvs → R (.own (.dK kvs)) [] | _, _, _ => False
def c23 : Ct | [.own (.dK kvs), .val (.int b)], R, _ => ∃ B, MOk B kvs ∧ B ≤ 1000000 ∧ (0 < b ∧ b ≤ 1000) ∧ ∀ r kvs', 0 ≤ r → r < b → MOk (B + 1) kvs' → R (.val (.int r)) [.dK kvs'] | _, _, _ => False
def c24 : Ct | [.own (.dK kvs), .val (.lst xs)], R, _ => ∃ B, MOk B kvs ∧ B ≤ 1000000 ∧ (xs ≠ [] ∧ xs.length ≤ 1000) ∧ ∀ x kvs', x ∈ xs → MOk (B + 1) kvs' → R (.val x) [.dK kvs'] | _, _, _ => False
def c25 : Ct | [.val a, .val b], R, _ => (Shw a ∧ Shw b) ∧ R (.val (.bl (decide (a.py.shown = b.py.shown)))) [] | _, _, _ => False
def c27 : Ct | [.val (.lst lots)], R, _ => ∃ ls : List (List D), lots = ls.map .lst ∧ ls.flatten.length ≤ 1000 ∧ R (.own (.lst ls.flatten)) [] | _, _, _ => False
def c28 : Ct | [.own (.dK kvs), .val (.int d)], R, _ => ∃ B, MOk B kvs ∧ B + 100 * (d.toNat + 1) ≤ 100000 ∧ (0 ≤ d ∧ d ≤ 3) ∧ ∀ f kvs', Fo (max 1 d.toNat) f → wd f ≤ Bw d → MOk (B + Bd d) kvs' → R (.val f) [.dK kvs'] | _, _, _ => False
def c29 : Ct | [.val f], R, _ => (∃ n, Fo (n + 1) f) ∧ (partsOf f).length ≤ 1000 ∧ R (.own (.lst ((partsOf f).map prt))) [] | _, _, _ => False
def c30 : Ct | [.val f, .val (.int l), .val (.tup p)], R, _ => (∃ n, Fo n f ∧ n ≤ 4 ∧ p.length + 3 * n ≤ 100) ∧ wd f ≤ 1000 ∧ R (.own (.lst (lv f p l))) [] | _, _, _ => False
def c31 : Ct | [.val f], R, _ => (Fo 3 f ∧ wd f ≤ 1000) ∧ ∀ ns, SortedOf ns (nms f) → R (.val (.tup (ns.map tkD))) [] | _, _, _ => False
def c32 : Ct | [.own (.dK kvs), .val (.int d)], R, _ => ∃ B, MOk B kvs ∧ B ≤ 10000 ∧ d = 3 ∧ ∀ g kvs', GOk g → MOk (B + 1000) kvs' → R (.val g) [.dK kvs'] | _, _, _ => False
def c33 : Ct | [.val g], R, _ => ∃ a b cs, g = .tup [a, b, .tup cs] ∧ cs.length ≤ 5 ∧ (∀ c, c ∈ cs → GCell c) ∧ ∀ ns, SortedOf ns (gnms cs) → R (.val (.tup (ns.map tkD))) [] | _, _, _ => False
def c34 : Ct | [.val v], R, _ => GV v ∧ (match judge v with | none => R (.own (.lst [v])) [] | some q => R (.val q) []) | _, _, _ => False
def c36 : Ct | [.val v, .val (.lst ts)], R, _ => ts = BADT.map .str ∧ GV v ∧ (match judge v with | none => R (.own (.lst [v])) [] | some q => R (.val q) []) | _, _, _ => False
def c37 : Ct | [.own (.dK kvs), .val g, .val (.lst bs)], R, _ => ∃ B, MOk B kvs ∧ B ≤ 100000 ∧ GOk g ∧ bs = BAD ∧ ∀ v kvs', GV v → Shw (.lst [v]) → MOk (B + 2) kvs' → R (.val v) [.dK kvs'] | _, _, _ => False
def c38 : Ct | [.val (.lst s)], R, _ => (∃ ns : List Int, s = ns.map .int ∧ ns.length ≤ 63) ∧ R (.val (.bl true)) [] | _, _, _ => False
def ct : SPX := fun i => match i with
  | 0 => c0 | 1 => c1 | 2 => c2 | 3 => c3 | 4 => c4 | 5 => c5 | 6 => c6 | 7 => c7 | 8 => c8 | 9 => c9 | 10 => c10 | 11 => c11 | 12 => c12 | 13 => c13 | 14 => c14 | 15 => c15 | 16 => c16 | 17 => c17 | 18 => c18 | 19 => c19 | 20 => c20 | 21 => c21 | 22 => c22 | 23 => c23 | 24 => c24 | 25 => c25 | 26 => c12 | 27 => c27 | 28 => c28 | 29 => c29 | 30 => c30 | 31 => c31 | 32 => c32 | 33 => c33 | 34 => c34 | 35 => c17 | 36 => c36 | 37 => c37 | 38 => c38
  | _ => fun _ _ _ => False
def lev : Nat → List RV → Nat := fun i rs => match i, rs with
  | 5, .val f :: _ => 5 + dp f | 6, .val f :: _ => 5 + dp f | 7, .val f :: _ => 5 + dp f | 8, .val f :: _ => 5 + dp f | 9, .val f :: _ => 5 + dp f | 30, .val f :: _ => 5 + dp f
  | 28, _ :: .val (.int d) :: _ => 3 + d.toNat
  | i, _ => ([0, 0, 0, 0, 0, 0, 0, 0, 0, 0, 30, 31, 0, 0, 30, 31, 1, 1, 32, 0, 33, 33, 0, 0, 1, 0, 0, 0, 0, 0, 0, 30, 33, 33, 34, 1, 33, 10, 40] : List Nat).getD i 0
end P72
set_option linter.all false
set_option autoImplicit false
set_option maxRecDepth 20000
set_option Elab.async false
namespace EV
open PySem L2
section
variable {S : SPX} {G : Str → Option D} {ρ : Env} {P : RP} {X : XP} {K : EK} {B : Bool → Prop}
@[simp] theorem in_s1 {c : Nat} {z : Str} : inW (.str ⟨#[c]⟩) (.str z) B = B (decide (c ∈ z.cps.toList)) := by
  refine propext ⟨fun ⟨c', e, h⟩ => ?_, fun h => ⟨c, rfl, h⟩⟩
  injection e with e; injection e with e; injection e with e; injection e with e
  rw [e]; exact h
@[simp] theorem in_s1_z {c : Nat} {z : Str} : inWZ (.str ⟨#[c]⟩) (.str z) B = B (decide (c ∈ z.cps.toList)) := in_s1
def cm2B (S : SPX) (G : Str → Option D) (vs vs1 : List Nat) (tg : Tg) (tg1 : Tg) (ik1 : IK) (ia1 : Es) (elt : E) (src : Src) (ρ1 : Env) (P : RP) : Prop := ∃ I : Nat → List D → Env → Prop, I 0 [] (wipes ρ1 vs) ∧
    (∀ j acc ρ2, I j acc ρ2 → src.still ρ2) ∧
    (∀ j acc ρ2 d, I j acc ρ2 → src.items[j]? = some d → oCZ (bindT tg d ρ2) fun ρ3 =>
      itx S G ik1 ia1 ρ3 (fun src1 ρ4 => ∃ I1 : Nat → List D → Env → Prop, I1 0 acc (wipes ρ4 vs1) ∧
        (∀ k acc ρ5, I1 k acc ρ5 → src1.still ρ5) ∧
        (∀ k acc ρ5 d, I1 k acc ρ5 → src1.items[k]? = some d → oCZ (bindT tg1 d ρ5) fun ρ6 =>
          vx S G elt ρ6 (fun r ρ7 => acc.length < lim ∧ I1 (k + 1) (acc ++ [r.d]) (wipes ρ7 vs1)) XF) ∧
        (∀ acc ρ5, I1 src1.items.length acc ρ5 → I (j + 1) acc (wipes ρ5 vs))) XF) ∧
    (∀ acc ρ2, I src.items.length acc ρ2 → P (.own (.lst acc)) ρ2)
def cm2BZ (S : SPX) (G : Str → Option D) (vs vs1 : List Nat) (tg : Tg) (tg1 : Tg) (ik1 : IK) (ia1 : Es) (elt : E) (src : Src) (ρ : Env) (P : RP) (_z : Fz ((S, G, vs, vs1, tg, tg1, ik1, ia1, elt, P)) := .mk) : Prop := cm2B S G vs vs1 tg tg1 ik1 ia1 elt src ρ P
@[simp low] theorem cm2BZ_o {S : SPX} {G : Str → Option D} {vs vs1 : List Nat} {tg : Tg} {tg1 : Tg} {ik1 : IK} {ia1 : Es} {elt : E} {src : Src} {ρ : Env} {P : RP} : cm2BZ S G vs vs1 tg tg1 ik1 ia1 elt src ρ P = cm2B S G vs vs1 tg tg1 ik1 ia1 elt src ρ P := rfl
@[simp ↓] theorem vx_cm2 {vs vs1 : List Nat} {tg tg1 : Tg} {ik ik1 : IK} {ia ia1 : Es} {elt : E} : vx S G (.cm2 vs vs1 tg ik ia tg1 ik1 ia1 elt) ρ P X = itx S G ik ia ρ (fun src ρ1 => cm2BZ S G vs vs1 tg tg1 ik1 ia1 elt src ρ1 P) X := by
  unfold vx W ofV cm2W itx cm2BZ cm2B oCZ oC vx itx
  rfl
end
end EV
namespace P72
open PySem EV L2 A72
theorem bl_eq {R : RV → List Ow → Prop} {os : List Ow} {a b : Bool} (h : R (.val (.bl a)) os) (e : a = b) : R (.val (.bl b)) os := e ▸ h
theorem v_eq {R : RV → List Ow → Prop} {os : List Ow} {a b : D} (h : R (.val a) os) (e : a = b) : R (.val b) os := e ▸ h
theorem l_eq {R : RV → List Ow → Prop} {os : List Ow} {a b : List D} (h : R (.own (.lst a)) os) (e : a = b) : R (.own (.lst b)) os := e ▸ h
section
variable {k : Nat} {rs : List RV} {R : RV → List Ow → Prop} {X : Nat → List D → Prop}
abbrev Owe (k : Nat) (io : List Bool) (N : List Str) (b : Ss) (rs : List RV) (R : RV → List Ow → Prop) (X : Nat → List D → Prop) : Prop := owes (upTo lev ct k) G72 io N.length b rs R X
theorem okEq_nil : (D.tup []).okEq := by unfold D.okEq; decide
theorem eqv_nil {x : D} {xs : List D} : D.eqv (.tup (x :: xs)) (.tup []) = false := rfl
theorem eqv_nn : D.eqv (.tup []) (.tup []) = true := rfl
end
end P72
set_option linter.all false
set_option autoImplicit false
set_option maxRecDepth 20000
set_option maxHeartbeats 8000000
set_option Elab.async false
namespace P72
open PySem EV L2 A72
section
variable {k : Nat} {rs : List RV} {R : RV → List Ow → Prop} {X : Nat → List D → Prop}
theorem ob12 (hl : lev 12 rs < k + 1) (h : c12 rs R X) : Owe k io12 N12 b12 rs R X := by
  unfold c12 at h; split at h
  · obtain ⟨h1, h2⟩ := h
    simp [owes, io12, N12, b12]
    refine ⟨h1, cnd_i (fun e => ?_) fun e => ?_⟩
    · simp [h1]; simpa [isI, e] using h2
    · simpa [isI, e] using h2
  · exact h.elim
theorem ob26 (hl : lev 26 rs < k + 1) (h : c12 rs R X) : Owe k io26 N26 b26 rs R X := by
  unfold c12 at h; split at h
  · obtain ⟨h1, h2⟩ := h
    simp [owes, io26, N26, b26]
    refine ⟨h1, cnd_i (fun e => ?_) fun e => ?_⟩
    · simp [h1]; simpa [isI, e] using h2
    · simpa [isI, e] using h2
  · exact h.elim
def inL (d : D) : Bool := match d with
  | .str z => (match z.cps.toList with
    | [c] => decide (c ∈ ("abcdefghijklmnopqrstuvwxyz" : Str).cps.toList)
    | _ => false)
  | _ => false
theorem ob0 (hl : lev 0 rs < k + 1) (h : c0 rs R X) : Owe k io0 N0 b0 rs R X := by
  have main : ∀ (x : Str) (t : Bool), R (.val (.bl t)) [] → (1 ≤ x.length ∧ x.length ≤ 8) → (∀ d, d ∈ letters x → ∃ c, d = .str ⟨#[c]⟩) → ((letters x).map inL).all id = t → Owe k io0 N0 b0 [.val (.str x)] R X := by
    intro x t hR hx hd ht
    have h1 : x.length ≤ 16777216 := by omega
    have h2 : (1 : Int) ≤ x.length := by omega
    have h3 : (x.length : Int) ≤ 8 := by omega
    simp [owes, io0, N0, b0, h1, h2, h3, hx.1, hx.2]
    have hll : (letters x).length = x.length := by unfold letters; simp; rfl
    refine cm_map (fun d => .bl (inL d)) (by rw [hll]; exact h1) (by simp) (fun d hd' A hA => ?_) ?_
    · obtain ⟨c, rfl⟩ := hd d hd'
      simp [G72]
      simpa [inL] using hA
    · simp
      refine ⟨_, ?_, bl_eq hR ht.symm⟩
      clear ht
      clear hll
      generalize letters x = l at hd ⊢
      induction l with
      | nil => rfl
      | cons a l ih =>
        obtain ⟨c, rfl⟩ := hd a List.mem_cons_self
        simp [boolsD, ih (fun d hd' => hd d (List.mem_cons_of_mem _ hd'))]
  unfold c0 at h; split at h
  · have hdd : ∀ x : Str, ∀ d, d ∈ letters x → ∃ c, d = .str ⟨#[c]⟩ := fun x d hd => by
      unfold letters at hd
      obtain ⟨c, _, rfl⟩ := List.mem_map.mp hd
      exact ⟨c, rfl⟩
    rcases h with ⟨h1, h2⟩ | ⟨rfl, h2⟩
    · rcases h1 with rfl | rfl | rfl <;> exact main _ _ h2 (by decide) (hdd _) (by decide)
    · exact main _ _ h2 (by decide) (hdd _) (by decide)
  · exact h.elim
theorem ob1 (hl : lev 1 rs < k + 1) (h : c1 rs R X) : Owe k io1 N1 b1 rs R X := by
  unfold c1 at h; split at h
  · obtain ⟨⟨w, ps, rfl, h1⟩, h2⟩ := h
    simp [owes, io1, N1, b1, eqX, h1, okEq_nil, eqv_nil, G72]
    simp [noB, head] at h2
    exact bl_eq h2 (by simp [eq_comm, Bool.or_assoc])
  · exact h.elim
theorem ob2 (hl : lev 2 rs < k + 1) (h : c2 rs R X) : Owe k io2 N2 b2 rs R X := by
  unfold c2 at h; split at h
  · obtain ⟨h1, h2⟩ := h
    rcases h1 with rfl | rfl | ⟨xs, rfl⟩ | ⟨w, ps, rfl, h1⟩
    · simp [owes, io2, N2, b2]
      exact h2
    · simp [owes, io2, N2, b2, eqX, okEq_nil, eqv_nn]
      exact h2
    · simp [owes, io2, N2, b2]
      exact h2
    · simp [owes, io2, N2, b2, eqX, h1, okEq_nil, eqv_nil, G72]
      simp [hasForm] at h2
      refine cnd_i (fun e => ?_) fun e => ?_
      · simp at e; simp [e] at h2; exact bl_eq h2 (by simp <;> omega)
      · simp at e
        simp [e] at h2
        have z1 : ((ps.length : Int) + 1 = 2) = (ps.length = 1) := by refine propext ⟨fun _ => ?_, fun _ => ?_⟩ <;> omega
        have z2 : ((ps.length : Int) + 1 = 3) = (ps.length = 2) := by refine propext ⟨fun _ => ?_, fun _ => ?_⟩ <;> omega
        have z3 : ((ps.length : Int) + 1 = 4) = (ps.length = 3) := by refine propext ⟨fun _ => ?_, fun _ => ?_⟩ <;> omega
        simp [z1, z2, z3]
        have fin : ∀ {a b : Bool}, (a = b) → R (.val (.bl a)) [] = R (.val (.bl b)) [] := fun e => by rw [e]
        by_cases y1 : ps.length = 1
        · simp [y1] at h2 ⊢
          refine cnd_i (fun e => ?_) fun e => ?_
          · exact bl_eq h2 (by simpa [Bool.or_assoc, or_assoc, and_assoc] using e)
          · exact bl_eq h2 (by simpa [Bool.or_assoc, or_assoc, and_assoc] using e)
        · by_cases y2 : ps.length = 2
          · simp [y2] at h2 ⊢
            refine cnd_i (fun e => ?_) fun e => ?_
            · exact bl_eq h2 (by simpa [Bool.or_assoc, or_assoc, and_assoc] using e)
            · exact bl_eq h2 (by simpa [Bool.or_assoc, or_assoc, and_assoc] using e)
          · by_cases y3 : ps.length = 3
            · simp [y3] at h2 ⊢
              exact bl_eq h2 (by simp)
            · simp [y1, y2, y3] at h2 ⊢
              exact h2
  · exact h.elim
theorem ob19 (hl : lev 19 rs < k + 1) (h : c19 rs R X) : Owe k io19 N19 b19 rs R X := by
  unfold c19 at h; split at h
  · rename_i a b t u f a' b' t' u' f'
    simp [owes, io19, N19, b19]
    simp [shr] at h
    by_cases e1 : a < b' <;> simp [e1] at h ⊢
    · by_cases e2 : a' < b <;> simp [e2] at h ⊢
      · by_cases e3 : t < u' <;> simp [e3] at h ⊢ <;> exact h
      · exact h
    · exact h
  · exact h.elim
theorem ob16 (hl : lev 16 rs < k + 1) (h : c16 rs R X) : Owe k io16 N16 b16 rs R X := by
  have lk : (0 : Nat) < k := by simp [lev] at hl; omega
  unfold c16 at h; split at h
  · obtain ⟨h1, h2⟩ := h
    rcases h1 with ⟨i, rfl, a1, a2⟩ | ⟨b, rfl⟩ | rfl | rfl
    · simp [owes, io16, N16, b16, ct, c12, lev, lk, isI, G72]
      simp [inR] at h2
      by_cases e1 : 1 ≤ i <;> simp [e1] at h2 ⊢ <;> exact h2
    · simp [owes, io16, N16, b16, ct, c12, lev, lk, isI, G72]
      exact h2
    · simp [owes, io16, N16, b16, ct, c12, lev, lk, isI, G72]
      exact h2
    · simp [owes, io16, N16, b16, ct, c12, lev, lk, isI, G72]
      exact h2
  · exact h.elim
theorem ob17 (hl : lev 17 rs < k + 1) (h : c17 rs R X) : Owe k io17 N17 b17 rs R X := by
  have lk : (0 : Nat) < k := by simp [lev] at hl; omega
  unfold c17 at h; split at h
  · rename_i a b m
    obtain ⟨⟨h1, h1'⟩, h2⟩ := h
    rcases h1 with ⟨i, rfl, a1, a2⟩ | ⟨b, rfl⟩ | rfl | rfl
    · rcases h1' with ⟨j, rfl, a3, a4⟩ | ⟨b, rfl⟩ | rfl | rfl
      · simp [owes, io17, N17, b17, ct, c12, lev, lk, isI, G72]
        simp [spanB] at h2
        by_cases e1 : 0 ≤ i <;> simp [e1] at h2 ⊢
        · by_cases e2 : i < j <;> simp [e2] at h2 ⊢ <;> exact h2
        · exact h2
      all_goals simp [owes, io17, N17, b17, ct, c12, lev, lk, isI, G72]; exact h2
    all_goals simp [owes, io17, N17, b17, ct, c12, lev, lk, isI, G72]; exact h2
  · exact h.elim
theorem ob35 (hl : lev 35 rs < k + 1) (h : c17 rs R X) : Owe k io35 N35 b35 rs R X := by
  have lk : (0 : Nat) < k := by simp [lev] at hl; omega
  unfold c17 at h; split at h
  · rename_i a b m
    obtain ⟨⟨h1, h1'⟩, h2⟩ := h
    rcases h1 with ⟨i, rfl, a1, a2⟩ | ⟨b, rfl⟩ | rfl | rfl
    · rcases h1' with ⟨j, rfl, a3, a4⟩ | ⟨b, rfl⟩ | rfl | rfl
      · simp [owes, io35, N35, b35, ct, c12, lev, lk, isI, G72]
        simp [spanB] at h2
        by_cases e1 : 0 ≤ i <;> simp [e1] at h2 ⊢
        · by_cases e2 : i < j <;> simp [e2] at h2 ⊢ <;> exact h2
        · exact h2
      all_goals simp [owes, io35, N35, b35, ct, c12, lev, lk, isI, G72]; exact h2
    all_goals simp [owes, io35, N35, b35, ct, c12, lev, lk, isI, G72]; exact h2
  · exact h.elim
end
end P72
set_option linter.all false
set_option autoImplicit false
set_option maxRecDepth 20000
set_option maxHeartbeats 8000000
set_option Elab.async false
/-! k72: data is shown, shaped, plain. -/
namespace P72
open PySem EV L2 A72
def WORDS : List Str := ["sign", "a", "b", "sum", "A", "1", "row", "over", "root", "fence", "bar", "high", "low", "both", "under", "upper", "limits", "table", "axis", "rule", "gap", "rise", "fall", "space", "wide", "deep"]
mutual
def nice : D → Bool
  | .non => true
  | .bl _ => true
  | .int i => decide (-40 ≤ i) && decide (i ≤ 40)
  | .str x => decide (x ∈ WORDS)
  | .tup xs => nices xs
  | .lst xs => nices xs
  | _ => false
def nices : List D → Bool
  | [] => true
  | x :: xs => nice x && nices xs
end
mutual
def szD : D → Nat
  | .tup xs => szs xs + 3
  | .lst xs => szs xs + 3
  | _ => 8
def szs : List D → Nat
  | [] => 0
  | x :: xs => szD x + 2 + szs xs
end
theorem nices_i {xs : List D} : nices xs = true ↔ ∀ x, x ∈ xs → nice x = true := by
  induction xs with
  | nil => simp [nices]
  | cons a l ih => simp [nices, ih]
@[simp] theorem nice_t {xs : List D} : nice (.tup xs) = nices xs := by unfold nice; rfl
@[simp] theorem nice_l {xs : List D} : nice (.lst xs) = nices xs := by unfold nice; rfl
@[simp] theorem nice_n : nice .non = true := by unfold nice; rfl
@[simp] theorem nice_b {b : Bool} : nice (.bl b) = true := by unfold nice; rfl
@[simp] theorem nice_i {i : Int} : nice (.int i) = (decide (-40 ≤ i) && decide (i ≤ 40)) := by unfold nice; rfl
@[simp] theorem nice_s {x : Str} : nice (.str x) = decide (x ∈ WORDS) := by unfold nice; rfl
@[simp] theorem nices_n : nices [] = true := by unfold nices; rfl
@[simp] theorem nices_c {x : D} {xs : List D} : nices (x :: xs) = (nice x && nices xs) := by rw [nices]
@[simp] theorem szD_t {xs : List D} : szD (.tup xs) = szs xs + 3 := by unfold szD; rfl
@[simp] theorem szD_l {xs : List D} : szD (.lst xs) = szs xs + 3 := by unfold szD; rfl
@[simp] theorem szD_s {x : Str} : szD (.str x) = 8 := by unfold szD; rfl
@[simp] theorem szD_i {x : Int} : szD (.int x) = 8 := by unfold szD; rfl
@[simp] theorem szD_n : szD .non = 8 := by unfold szD; rfl
@[simp] theorem szD_b {b : Bool} : szD (.bl b) = 8 := by unfold szD; rfl
@[simp] theorem szs_n : szs [] = 0 := by unfold szs; rfl
@[simp] theorem szs_c {x : D} {xs : List D} : szs (x :: xs) = szD x + 2 + szs xs := by rw [szs]
theorem szs_a {xs ys : List D} : szs (xs ++ ys) = szs xs + szs ys := by
  induction xs with
  | nil => simp
  | cons a l ih => simp [ih]; omega
theorem word_ok : ∀ x : Str, x ∈ WORDS → (PyData.shown (.str x)).length ≤ 8 ∧ PyData.canLay0 (.str x) = true := by decide +kernel
theorem int_ok0 : ∀ j : Fin 81, (PyData.shown (.int ((j.val : Int) - 40))).length ≤ 8 ∧ PyData.showable (.int ((j.val : Int) - 40)) = true := by decide +kernel
theorem int_ok {i : Int} (h : -40 ≤ i) (h2 : i ≤ 40) : (PyData.shown (.int i)).length ≤ 8 ∧ PyData.showable (.int i) = true := by
  have := int_ok0 ⟨(i + 40).toNat, by omega⟩
  have e : (((i + 40).toNat : Nat) : Int) - 40 = i := by omega
  simp only [e] at this
  exact this
theorem join_le : ∀ {ts : List Str}, (Str.join ", " ts).length ≤ piled ts
  | [] => Nat.zero_le _
  | t :: ts => by have := join_length_add (t :: ts) (by simp); omega
theorem tt_le {ts : List Str} : (tupleText ts).length ≤ piled ts + 3 := by
  unfold tupleText
  rw [strLen_append, strLen_append]
  have e1 : ((("(" : String) : Str)).length = 1 := rfl
  have e3 : (((if ts.length == 1 then ",)" else ")" : String) : Str)).length ≤ 2 := by split <;> decide
  have := join_le (ts := ts)
  omega
theorem tf_le : ∀ {ts : List Str} {k : Nat} {acc : Str}, (textFrom k acc ts).length ≤ acc.length + piled ts
  | [], k, acc => by show acc.length ≤ _; omega
  | t :: r, k, acc => by
    have h1 := tf_le (ts := r) (k := k + 1) (acc := acc ++ (if k > 0 then ", " else "" : String) ++ t)
    have e : (acc ++ (if k > 0 then ", " else "" : String) ++ t).length = acc.length + (if k > 0 then 2 else 0) + t.length := by
      rw [strLen_append, strLen_append]
      split <;> rfl
    rw [e] at h1
    rw [piled_cons]
    show (textFrom (k + 1) (acc ++ (if k > 0 then ", " else "" : String) ++ t) r).length ≤ _
    have : (if k > 0 then 2 else 0) ≤ 2 := by split <;> omega
    omega
theorem lt_le {ts : List Str} : (listText ts).length ≤ piled ts + 3 := by
  unfold listText
  rw [strLen_append]
  have := tf_le (ts := ts) (k := 0) (acc := "[")
  have e1 : ((("[" : String) : Str)).length = 1 := rfl
  have e2 : ((("]" : String) : Str)).length = 1 := rfl
  omega
/-- what nice data gives -/
def NOk (d : D) : Prop := d.plain = true ∧ d.py.showable = true ∧ d.py.canLay0 = true ∧ d.py.depth ≤ dp d ∧ d.py.shown.length ≤ szD d
def NOks (xs : List D) : Prop := D.plains xs = true ∧ PyData.showableAll (D.pys xs) = true ∧ PyData.canLayAll0 (D.pys xs) = true ∧ PyData.depthAll (D.pys xs) ≤ dps xs ∧ piled (PyData.shownAll (D.pys xs)) ≤ szs xs
mutual
theorem nice_ok : ∀ {d : D}, nice d = true → NOk d
  | .non, _ => by unfold NOk; refine ⟨rfl, rfl, rfl, ?_, ?_⟩ <;> simp [D.py, PyData.depth]; decide
  | .bl b, _ => by
    unfold NOk; refine ⟨rfl, rfl, rfl, ?_, ?_⟩
    · simp [D.py, PyData.depth]
    · cases b <;> decide
  | .int i, h => by
    simp at h
    obtain ⟨h1, h2⟩ := int_ok h.1 h.2
    unfold NOk
    refine ⟨rfl, h2, rfl, ?_, ?_⟩
    · simp [D.py, PyData.depth]
    · simpa [D.py] using h1
  | .str x, h => by
    simp at h
    obtain ⟨h1, h2⟩ := word_ok x h
    unfold NOk
    refine ⟨rfl, rfl, h2, ?_, ?_⟩
    · simp [D.py, PyData.depth]
    · simpa [D.py] using h1
  | .tup xs, h => by
    simp at h
    obtain ⟨h1, h2, h3, h4, h5⟩ := nices_ok h
    unfold NOk
    refine ⟨?_, ?_, ?_, ?_, ?_⟩
    · simpa [D.plain] using h1
    · simpa [D.py, PyData.showable] using h2
    · simpa [D.py, PyData.canLay0] using h3
    · simp [D.py, PyData.depth]; exact h4
    · simp [D.py, PyData.shown]; exact Nat.le_trans tt_le (by omega)
  | .lst xs, h => by
    simp at h
    obtain ⟨h1, h2, h3, h4, h5⟩ := nices_ok h
    unfold NOk
    refine ⟨?_, ?_, ?_, ?_, ?_⟩
    · simpa [D.plain] using h1
    · simpa [D.py, PyData.showable] using h2
    · simpa [D.py, PyData.canLay0] using h3
    · simp [D.py, PyData.depth]; unfold dp; omega
    · simp [D.py, PyData.shown]; exact Nat.le_trans lt_le (by omega)
  | .tC _, h => by simp [nice] at h
  | .dK _ _, h => by simp [nice] at h
  | .dT _ _, h => by simp [nice] at h
  | .dC _ _, h => by simp [nice] at h
  | .ins _ _, h => by simp [nice] at h
theorem nices_ok : ∀ {xs : List D}, nices xs = true → NOks xs
  | [], _ => by unfold NOks; simp [D.plains, D.pys, PyData.showableAll, PyData.canLayAll0, PyData.depthAll, PyData.shownAll, piled]
  | x :: xs, h => by
    simp at h
    obtain ⟨h1, h2, h3, h4, h5⟩ := nices_ok h.2
    obtain ⟨g1, g2, g3, g4, g5⟩ := nice_ok h.1
    unfold NOks
    refine ⟨?_, ?_, ?_, ?_, ?_⟩
    · simp [D.plains, g1, h1]
    · simp [D.pys, PyData.showableAll, g2, h2]
    · simp [D.pys, PyData.canLayAll0, g3, h3]
    · simp [D.pys, PyData.depthAll]; omega
    · simp [D.pys, PyData.shownAll, piled_cons]; omega
end
theorem nice_eq {d : D} (h : nice d = true) (hd : dp d ≤ 64) : d.okEq := by
  obtain ⟨h1, h2, h3, h4, h5⟩ := nice_ok h
  refine ⟨h1, ?_⟩
  unfold SeqAt.shaped
  rw [h3, Bool.true_and, decide_eq_true_eq]
  omega
theorem nice_sh {d : D} (h : nice d = true) (hd : dp d ≤ 60) (hs : szD d ≤ lim) : Shw d := by
  obtain ⟨h1, h2, h3, h4, h5⟩ := nice_ok h
  exact ⟨h1, h2, by omega, by omega⟩
theorem Fo.nice {n : Nat} {f : D} (h : Fo n f) : P72.nice f = true := by
  induction h with
  | sign h => rcases h with rfl | rfl | rfl <;> simp [WORDS]
  | row h1 _ h2 => simp [nices_i]; exact ⟨by simp [WORDS], h2⟩
  | over _ _ h1 h2 => simp [h1, h2, WORDS]
  | one h _ h1 => rcases h with rfl | rfl | rfl <;> simp [h1, WORDS]
  | two h h0 _ _ h1 h2 => rcases h with rfl | rfl <;> simp [h1, h2, WORDS]
  | both h0 _ _ _ h1 h2 h3 => simp [h1, h2, h3, WORDS]
  | stk h h0 _ h1 => rcases h with rfl | rfl <;> rcases h0 with rfl | rfl | rfl <;> simp [h1, WORDS]
  | lim h0 _ _ h1 h2 => rcases h0 with rfl | rfl | rfl <;> simp [h1, h2, WORDS]
  | tab h0 h1 h2 _ h3 =>
    simp [nices_i]
    exact ⟨by simp [WORDS], h3⟩
/-! ### words and size -/
def sumW (ps : List D) : Nat := (ps.map wd).sum
@[simp] theorem sumW_n : sumW [] = 0 := rfl
@[simp] theorem sumW_c {p : D} {ps : List D} : sumW (p :: ps) = wd p + sumW ps := by simp [sumW]
theorem sumW_a {p ps : List D} : sumW (p ++ ps) = sumW p + sumW ps := by simp [sumW]
theorem plc_w : ∀ {ps : List D} {k : Nat} {u : Nat → Int}, ((plc ps k u).map fun x => wd x.2.1).sum = sumW ps
  | [], _, _ => rfl
  | p :: r, k, u => by simp [plc, plc_w]
theorem rowP_w : ∀ {ps : List D} {r c : Nat}, ((rowP r ps c).map fun x => wd x.2.1).sum = sumW ps
  | [], _, _ => rfl
  | p :: q, r, c => by simp [rowP, rowP_w]
theorem tabP_w : ∀ {rows : List D} {r : Nat}, ((tabP rows r).map fun x => wd x.2.1).sum = sumW (rows.flatMap cellsOf)
  | [], _ => rfl
  | p :: q, r => by simp [tabP, tabP_w, rowP_w, sumW_a]
theorem szs_le {ps : List D} (h : ∀ p, p ∈ ps → szD p + 10 ≤ 60 * wd p) : szs ps + 8 * ps.length ≤ 60 * sumW ps := by
  induction ps with
  | nil => simp
  | cons p ps ih =>
    have h1 := h p List.mem_cons_self
    have h2 := ih fun q hq => h q (List.mem_cons_of_mem _ hq)
    simp
    omega
theorem wd_pos {n : Nat} {f : D} (h : Fo n f) (hn : n ≤ 4) : 0 < wd f := by rw [wd_eq h hn]; omega
theorem Fo.sz {n : Nat} {f : D} (h : Fo n f) (hn : n ≤ 4) : szD f + 10 ≤ 60 * wd f := by
  have key := wd_eq h hn
  induction h with
  | sign h => rw [key]; simp; omega
  | @row n ps h1 hp h2 =>
    have := szs_le fun p hp' => h2 p hp' (by omega) (wd_eq (hp p hp') (by omega))
    rw [key]; simp [partsOf, plc_w]; omega
  | over ha hb h1 h2 =>
    have := h1 (by omega) (wd_eq ha (by omega))
    have := h2 (by omega) (wd_eq hb (by omega))
    rw [key]; simp [partsOf, plc_w]; omega
  | one h ha h1 =>
    have := h1 (by omega) (wd_eq ha (by omega))
    rw [key]
    rcases h with rfl | rfl | rfl <;> (simp [partsOf, plc_w]; omega)
  | two h h0 ha hb h1 h2 =>
    have := h1 (by omega) (wd_eq ha (by omega))
    have := h2 (by omega) (wd_eq hb (by omega))
    rw [key]
    rcases h with rfl | rfl <;> (simp [partsOf, plc_w]; omega)
  | both h0 ha hb hc h1 h2 h3 =>
    have := h1 (by omega) (wd_eq ha (by omega))
    have := h2 (by omega) (wd_eq hb (by omega))
    have := h3 (by omega) (wd_eq hc (by omega))
    rw [key]; simp [partsOf, plc_w]; omega
  | stk h h0 ha h1 =>
    have := h1 (by omega) (wd_eq ha (by omega))
    rw [key]
    rcases h with rfl | rfl <;> (simp [partsOf, plc_w]; omega)
  | lim h0 ha hb h1 h2 =>
    have := h1 (by omega) (wd_eq ha (by omega))
    have := h2 (by omega) (wd_eq hb (by omega))
    rw [key]; simp [partsOf, plc_w]; omega
  | @tab n c rows h0 h1 h2 hp h3 =>
    rw [key]
    simp [partsOf, tabP_w]
    have e : szs (rows.map D.tup) ≤ 60 * sumW ((rows.map D.tup).flatMap cellsOf) := by
      clear key h0
      induction rows with
      | nil => simp
      | cons r q ih =>
        have a1 := szs_le fun p hp' => h3 r List.mem_cons_self p hp' (by omega) (wd_eq (hp r List.mem_cons_self p hp') (by omega))
        have a2 := ih (fun r hr => h2 r (List.mem_cons_of_mem _ hr)) (fun r hr => hp r (List.mem_cons_of_mem _ hr)) (fun r hr => h3 r (List.mem_cons_of_mem _ hr))
        have a3 := h2 r List.mem_cons_self
        simp [cellsOf, sumW_a]
        omega
    simp at e ⊢
    omega
end P72
set_option linter.all false
set_option autoImplicit false
set_option maxRecDepth 20000
set_option maxHeartbeats 8000000
set_option Elab.async false
namespace P72
open PySem EV L2 A72
theorem Fo.eq {n : Nat} {f : D} (h : Fo n f) (hn : n ≤ 20) : f.okEq := nice_eq h.nice (by have := h.dp; omega)
theorem Fo.wrd {n : Nat} {f : D} (h : Fo n f) : ∃ w p ps, f = .tup (.str w :: p :: ps) := by
  cases h with
  | sign h => exact ⟨_, _, _, rfl⟩
  | @row _ ps h1 h2 => cases ps with
    | nil => exact absurd rfl h1
    | cons a l => exact ⟨_, _, _, rfl⟩
  | over _ _ => exact ⟨_, _, _, rfl⟩
  | one h _ => exact ⟨_, _, _, rfl⟩
  | two h h0 _ _ => exact ⟨_, _, _, rfl⟩
  | both h0 _ _ _ => exact ⟨_, _, _, rfl⟩
  | stk h h0 _ => exact ⟨_, _, _, rfl⟩
  | lim h0 _ _ => exact ⟨_, _, _, rfl⟩
  | tab h0 h1 h2 _ => exact ⟨_, _, _, rfl⟩
/-! going down -/
theorem plc_x {x : Part} : ∀ {ps : List D} {k : Nat} {u : Nat → Int} {xs : List D}, (∀ i, xs[k + i]? = ps[i]?) → x ∈ plc ps k u → ∃ j : Nat, k ≤ j ∧ x.1 = [.int (j : Nat)] ∧ x.2.2 = u j ∧ xs[j]? = some x.2.1
  | p :: r, k, u, xs, hx, h => by
    unfold plc at h
    rcases List.mem_cons.mp h with e | h
    · subst e; exact ⟨k, Nat.le_refl _, rfl, rfl, by simpa using hx 0⟩
    · obtain ⟨j, h1, h2⟩ := plc_x (xs := xs) (fun i => by have := hx (i + 1); rw [show k + 1 + i = k + (i + 1) by omega, this]; rfl) h
      exact ⟨j, by omega, h2⟩
theorem rowP_x {x : Part} : ∀ {cs : List D} {r c : Nat} {xs : List D}, (∀ i, xs[c + i]? = cs[i]?) → x ∈ rowP r cs c → ∃ j : Nat, x.1 = [.int 1, .int (r : Nat), .int (j : Nat)] ∧ x.2.2 = 0 ∧ xs[j]? = some x.2.1
  | p :: q, r, c, xs, hx, h => by
    unfold rowP at h
    rcases List.mem_cons.mp h with e | h
    · subst e; exact ⟨c, rfl, rfl, by simpa using hx 0⟩
    · exact rowP_x (xs := xs) (fun i => by have := hx (i + 1); rw [show c + 1 + i = c + (i + 1) by omega, this]; rfl) h
theorem tabP_x {x : Part} : ∀ {rows : List (List D)} {r : Nat} {xs : List D}, (∀ i, xs[r + i]? = (rows.map D.tup)[i]?) → x ∈ tabP (rows.map D.tup) r → ∃ (j c : Nat) (cs : List D), x.1 = [.int 1, .int (j : Nat), .int (c : Nat)] ∧ x.2.2 = 0 ∧ xs[j]? = some (.tup cs) ∧ cs[c]? = some x.2.1
  | p :: q, r, xs, hx, h => by
    unfold tabP at h
    rcases List.mem_append.mp h with h | h
    · obtain ⟨c, h1, h2, h3⟩ := rowP_x (xs := p) (fun i => by simp [cellsOf]) h
      exact ⟨r, c, p, h1, h2, by simpa using hx 0, h3⟩
    · exact tabP_x (xs := xs) (fun i => by have := hx (i + 1); rw [show r + 1 + i = r + (i + 1) by omega, this]; rfl) h
theorem downD_1 {xs : List D} {j : Nat} : downD (.tup xs) [.int (j : Nat)] = xs[j]? := by
  simp [downD]
theorem downD_3 {xs rs cs : List D} {i j : Nat} (h1 : xs[1]? = some (.tup rs)) (h2 : rs[i]? = some (.tup cs)) : downD (.tup xs) [.int 1, .int (i : Nat), .int (j : Nat)] = cs[j]? := by
  simp [downD, h1, h2]
theorem Fo.dn {n : Nat} {f : D} (h : Fo n f) : ∀ x, x ∈ partsOf f → downD f x.1 = some x.2.1 ∧ x.1.length ≤ 3 := by
  intro x hx
  have fin : ∀ {ps xs : List D} {k : Nat} {u : Nat → Int}, (∀ i, xs[k + i]? = ps[i]?) → x ∈ plc ps k u → downD (.tup xs) x.1 = some x.2.1 ∧ x.1.length ≤ 3 := fun {ps xs k u} h1 h2 => by
    obtain ⟨j, _, e1, _, e2⟩ := plc_x h1 h2
    rw [e1, downD_1]
    exact ⟨e2, by simp⟩
  have i1 : ∀ {a : D} {l : List D} (i : Nat), (a :: l)[1 + i]? = l[i]? := fun {a l} i => by rw [Nat.add_comm]; rfl
  have i2 : ∀ {a b : D} {l : List D} (i : Nat), (a :: b :: l)[2 + i]? = l[i]? := fun {a b l} i => by rw [Nat.add_comm]; rfl
  cases h with
  | sign h => simp [partsOf] at hx
  | row h1 h2 => simp [partsOf] at hx; exact fin i1 hx
  | over h1 h2 => simp [partsOf] at hx; exact fin i1 hx
  | one h h1 => rcases h with rfl | rfl | rfl <;> simp [partsOf] at hx <;> exact fin i1 hx
  | two h h0 h1 h2 => rcases h with rfl | rfl <;> simp [partsOf] at hx <;> exact fin i1 hx
  | both h0 h1 h2 h3 => simp [partsOf] at hx; exact fin i1 hx
  | stk h h0 h1 => rcases h with rfl | rfl <;> simp [partsOf] at hx <;> exact fin i2 hx
  | lim h0 h1 h2 => simp [partsOf] at hx; exact fin i2 hx
  | @tab n c rows h0 h1 h2 h3 =>
    simp [partsOf] at hx
    obtain ⟨j, c, cs, e1, _, e2, e3⟩ := tabP_x (xs := rows.map .tup) (fun i => by simp) hx
    rw [e1, downD_3 rfl e2]
    exact ⟨e3, by simp⟩
section
variable {k : Nat} {rs : List RV} {R : RV → List Ow → Prop} {X : Nat → List D → Prop}
theorem ob4 (hl : lev 4 rs < k + 1) (h : c4 rs R X) : Owe k io4 N4 b4 rs R X := by
  unfold c4 at h; split at h
  · rename_i v p
    obtain ⟨d, h1, h2⟩ := h
    simp [owes, io4, N4, b4]
    refine ⟨rfl, fun j ρ => ∃ v' o, ρ = [some (.val v'), some (.val (.tup p)), o] ∧ downD v' (p.drop j) = some d, ⟨v, none, rfl, by simpa using h1⟩, fun _ _ _ => trivial, ?_, ?_⟩
    · rintro j ρ x ⟨v', o, rfl, hv⟩ hx
      have hx : p[j]? = some x := hx
      have hj := (List.getElem?_eq_some_iff.mp hx).1
      have e : p.drop j = x :: p.drop (j + 1) := by
        rw [List.drop_eq_getElem_cons hj]
        congr 1
        exact (List.getElem?_eq_some_iff.mp hx).2
      rw [e] at hv
      simp
      unfold downD at hv
      split at hv
      · rename_i heq; cases heq
      · rename_i i r heq
        injection heq with e1 e2
        subst e1; subst e2
        split at hv
        · rename_i xs
          by_cases hi : 0 ≤ i
          · rw [if_pos hi] at hv
            obtain ⟨i', rfl⟩ : ∃ i' : Nat, i = i' := ⟨i.toNat, by omega⟩
            cases hq : xs[i']? with
            | none => simp [hq] at hv
            | some y => simp [hq] at hv; simp [hq]; exact hv
          · rw [if_neg hi] at hv; cases hv
        · cases hv
      · cases hv
    · rintro ρ ⟨v', o, rfl, hv⟩
      simp [downD] at hv
      subst hv
      simpa using h2
  · exact h.elim
end
end P72
set_option linter.all false
set_option autoImplicit false
set_option maxRecDepth 20000
set_option maxHeartbeats 8000000
set_option Elab.async false
namespace P72
open PySem EV L2 A72
def toI : D → Int
  | .int i => i
  | _ => 0
theorem plc_stp : ∀ {ps : List D} {k : Nat} {u : Nat → Int}, (plc ps k u).map stp = (rngD k ps.length).map fun d => .tup [.tup [d], .int (u (toI d).toNat)]
  | [], _, _ => rfl
  | p :: r, k, u => by
    have := plc_stp (ps := r) (k := k + 1) (u := u)
    simp only [Int.natCast_add, Int.cast_ofNat_Int] at this
    simp [plc, rngD, stp, this, toI]
theorem plc_prt : ∀ {ps : List D} {k : Nat} {u : Nat → Int} {xs : List D}, (∀ i, xs[k + i]? = ps[i]?) → (plc ps k u).map prt = (rngD k ps.length).map fun d => .tup [.tup [d], (xs[(toI d).toNat]?).getD .non, .int (u (toI d).toNat)]
  | [], _, _, _, _ => rfl
  | p :: r, k, u, xs, hx => by
    have := plc_prt (ps := r) (k := k + 1) (u := u) (xs := xs) (fun i => by have := hx (i + 1); rw [show k + 1 + i = k + (i + 1) by omega, this]; rfl)
    simp only [Int.natCast_add, Int.cast_ofNat_Int] at this
    have h0 := hx 0
    simp at h0
    simp [plc, rngD, prt, this, toI, h0]
theorem plc_len : ∀ {ps : List D} {k : Nat} {u : Nat → Int}, (plc ps k u).length = ps.length
  | [], _, _ => rfl
  | p :: r, k, u => by simp [plc, plc_len]
theorem plc_u {u u' : Nat → Int} : ∀ {ps : List D} {k : Nat}, (∀ j, k ≤ j → u j = u' j) → plc ps k u = plc ps k u'
  | [], _, _ => rfl
  | p :: r, k, h => by
    unfold plc
    rw [h k (Nat.le_refl _), plc_u fun j hj => h j (by omega)]
section
variable {k : Nat} {rs : List RV} {R : RV → List Ow → Prop} {X : Nat → List D → Prop}
theorem s3a {w : Str} {ps : List D} (hw : w = "row" ∨ w = "over" ∨ w = "root" ∨ w = "fence" ∨ w = "bar") (hp : ps.length ≤ 1000) (hR : R (.own (.lst ((partsOf (.tup (.str w :: ps))).map stp))) []) : Owe k io3 N3 b3 [.val (.tup (.str w :: ps))] R X := by
  have hb : (ps.length : Int) + 1 < big := by unfold big; omega
  have hb2 : -big ≤ (ps.length : Int) + 1 := by unfold big; omega
  have hb3 : -big ≤ 1 := by decide
  have hb4 : 1 < big := by decide
  rcases hw with rfl | rfl | rfl | rfl | rfl
  all_goals
    simp [owes, io3, N3, b3, G72, hb, hb2, hb3, hb4]
    refine cm_map (fun d => .tup [.tup [d], .int (_)]) (by simp [rngD_len]; omega) (by simp) (fun d hd A hA => by simp; exact hA) ?_
    simp
    simp [partsOf, plc_stp] at hR
    exact hR
theorem s3b {w : Str} {ps : List D} {p : D} (hw : w = "under" ∨ w = "upper" ∨ w = "limits") (hp : ps.length ≤ 1000) (hR : R (.own (.lst ((partsOf (.tup (.str w :: p :: ps))).map stp))) []) : Owe k io3 N3 b3 [.val (.tup (.str w :: p :: ps))] R X := by
  have hb : (ps.length : Int) + 1 + 1 < big := by unfold big; omega
  have hb2 : -big ≤ (ps.length : Int) + 1 + 1 := by unfold big; omega
  have hb3 : -big ≤ 2 := by decide
  have hb4 : 2 < big := by decide
  have e : ((ps.length : Int) + 1 + 1 - 2).toNat = ps.length := by omega
  rcases hw with rfl | rfl | rfl
  all_goals
    simp [owes, io3, N3, b3, G72, hb, hb2, hb3, hb4, e]
    refine cm_map (fun d => .tup [.tup [d], .int 1]) (by simp [rngD_len]; omega) (by simp) (fun d hd A hA => by simp; exact hA) ?_
    simp
    simp [partsOf, plc_stp] at hR
    exact hR
theorem s3c {w : Str} {ps : List D} {p : D} (hw : w = "high" ∨ w = "low" ∨ w = "both") (hp : ps.length ≤ 1000) (hR : R (.own (.lst ((partsOf (.tup (.str w :: p :: ps))).map stp))) []) : Owe k io3 N3 b3 [.val (.tup (.str w :: p :: ps))] R X := by
  have hb : (ps.length : Int) + 1 + 1 < big := by unfold big; omega
  have hb2 : -big ≤ (ps.length : Int) + 1 + 1 := by unfold big; omega
  have hb3 : -big ≤ 2 := by decide
  have hb4 : 2 < big := by decide
  have e : ((ps.length : Int) + 1 + 1 - 2).toNat = ps.length := by omega
  have e2 : plc ps 2 (fun k => if 1 < k then 1 else 0) = plc ps 2 (fun _ => 1) := plc_u fun j hj => if_pos (by omega)
  rcases hw with rfl | rfl | rfl
  all_goals
    simp [owes, io3, N3, b3, G72, hb, hb2, hb3, hb4, e]
    refine cm_map (fun d => .tup [.tup [d], .int 1]) (by simp [rngD_len]; omega) (by simp) (fun d hd A hA => by simp; exact hA) ?_
    simp [rngD_len]
    simp [partsOf, plc, plc_stp, e2] at hR
    simp [stp] at hR
    exact ⟨by omega, hR⟩
theorem enum_get {n i : Nat} {ds : List D} {d : D} (h : (enumD ds n)[i]? = some d) : ∃ x, ds[i]? = some x ∧ d = .tup [.int ((n + i : Nat) : Int), x] := by
  induction ds generalizing n i with
  | nil => simp [enumD] at h
  | cons a l ih =>
    cases i with
    | zero => simp [enumD] at h ⊢; exact h.symm
    | succ i =>
      have h' : (enumD l (n + 1))[i]? = some d := by simpa [enumD] using h
      obtain ⟨x, h1, h2⟩ := ih h'
      refine ⟨x, by simpa using h1, ?_⟩
      rw [h2]
      congr 3
      omega
theorem enum_len {n : Nat} {ds : List D} : (enumD ds n).length = ds.length := by
  induction ds generalizing n with
  | nil => rfl
  | cons a l ih => simp [enumD, ih]
theorem rowP_a {r : Nat} : ∀ {a b : List D} {c : Nat}, rowP r (a ++ b) c = rowP r a c ++ rowP r b (c + a.length)
  | [], b, c => by simp [rowP]
  | x :: a, b, c => by simp [rowP, rowP_a]; congr 1; omega
theorem tabP_a : ∀ {a b : List D} {c : Nat}, tabP (a ++ b) c = tabP a c ++ tabP b (c + a.length)
  | [], b, c => by simp [tabP]
  | x :: a, b, c => by simp [tabP, tabP_a]; congr 1; omega
theorem take_s {α : Type} {l : List α} {i : Nat} {x : α} (h : l[i]? = some x) : l.take (i + 1) = l.take i ++ [x] := by rw [List.take_succ, h]; rfl
theorem tabP_s {rows : List D} {j : Nat} {cs : List D} (h : rows[j]? = some (.tup cs)) : tabP (rows.take (j + 1)) 0 = tabP (rows.take j) 0 ++ rowP j cs 0 := by
  have hj := (List.getElem?_eq_some_iff.mp h).1
  rw [take_s h, tabP_a]
  congr 1
  simp [tabP, cellsOf, Nat.min_eq_left (Nat.le_of_lt hj)]
theorem rowP_s {cs : List D} {r c : Nat} {x : D} (h : cs[c]? = some x) : rowP r (cs.take (c + 1)) 0 = rowP r (cs.take c) 0 ++ [([.int 1, .int (r : Nat), .int (c : Nat)], x, 0)] := by
  have hj := (List.getElem?_eq_some_iff.mp h).1
  rw [take_s h, rowP_a]
  congr 1
  simp [rowP, Nat.min_eq_left (Nat.le_of_lt hj)]
theorem tabP_pre {rows : List D} {j : Nat} : (tabP (rows.take j) 0).length ≤ (tabP rows 0).length := by
  conv => rhs; rw [← List.take_append_drop j rows, tabP_a]
  simp
theorem rowP_len {r : Nat} : ∀ {cs : List D} {c : Nat}, (rowP r cs c).length = cs.length
  | [], _ => rfl
  | x :: q, c => by simp [rowP, rowP_len]
theorem s3t {rows : List (List D)} (hp : (tabP (rows.map .tup) 0).length ≤ 1000) (hR : R (.own (.lst ((partsOf (.tup [.str "table", .tup (rows.map .tup)])).map stp))) []) : Owe k io3 N3 b3 [.val (.tup [.str "table", .tup (rows.map .tup)])] R X := by
  simp [owes, io3, N3, b3, G72]
  simp [partsOf] at hR
  refine ⟨fun j acc ρ => ρ = [some (SV.val (D.tup [D.str "table", D.tup (List.map D.tup rows)])), some (SV.val (D.str "table")), none, none, none, none] ∧ acc = (tabP ((rows.map .tup).take j) 0).map stp, ⟨rfl, rfl⟩, fun _ _ _ _ => trivial, ?_, ?_⟩
  · rintro j acc ρ d ⟨rfl, rfl⟩ hd
    obtain ⟨x, h1, rfl⟩ := enum_get hd
    obtain ⟨cs, h2, rfl⟩ : ∃ cs, rows[j]? = some cs ∧ D.tup cs = x := by simpa using h1
    have hs := tabP_s h1
    have hlc : (tabP ((rows.map .tup).take (j + 1)) 0).length ≤ 1000 := Nat.le_trans tabP_pre hp
    rw [hs, List.length_append, rowP_len] at hlc
    simp
    have hb : (cs.length : Int) < big := by unfold big; omega
    have hb2 : -big ≤ (cs.length : Int) := by unfold big; omega
    refine ⟨hb2, hb, fun c acc ρ => ρ = [some (SV.val (D.tup [D.str "table", D.tup (List.map D.tup rows)])), some (SV.val (D.str "table")), some (SV.val (D.int (j : Nat))), some (SV.val (D.tup cs)), none, none] ∧ acc = (tabP ((rows.map .tup).take j) 0).map stp ++ (rowP j (cs.take c) 0).map stp, ⟨rfl, by simp [rowP]⟩, ?_, ?_⟩
    · rintro c acc ρ d ⟨rfl, rfl⟩ hd
      obtain ⟨h3, rfl⟩ := rngD_get hd
      have hx : cs[c]? = some cs[c] := by simp [h3]
      simp
      refine ⟨?_, ?_⟩
      · rw [rowP_len]
        simp at hlc ⊢
        omega
      · rw [rowP_s hx]
        simp [stp]
    · rintro acc ρ ⟨rfl, rfl⟩
      refine ⟨rfl, ?_⟩
      rw [hs, rngD_len, List.take_length]
      simp
  · rintro acc ρ ⟨rfl, rfl⟩
    rw [enum_len]
    simp
    have e : List.take rows.length (rows.map D.tup) = rows.map D.tup := List.take_of_length_le (by simp)
    rw [e]
    exact hR
theorem ob3 (hl : lev 3 rs < k + 1) (h : c3 rs R X) : Owe k io3 N3 b3 rs R X := by
  unfold c3 at h; split at h
  · obtain ⟨h1, hp, hR⟩ := h
    rcases h1 with ⟨n, h1⟩ | rfl
    · cases h1 with
      | sign h =>
        simp [owes, io3, N3, b3, G72]
        simpa [partsOf] using hR
      | row h1 h2 => exact s3a (by simp) (by simpa [partsOf, plc_len] using hp) hR
      | over h1 h2 => exact s3a (by simp) (by simp) hR
      | one h h1 => rcases h with rfl | rfl | rfl <;> exact s3a (by simp) (by simp) hR
      | two h h0 h1 h2 => rcases h with rfl | rfl <;> exact s3c (by simp) (by simp) hR
      | both h0 h1 h2 h3 => exact s3c (by simp) (by simp) hR
      | stk h h0 h1 => rcases h with rfl | rfl <;> exact s3b (by simp) (by simp) hR
      | lim h0 h1 h2 => exact s3b (by simp) (by simp) hR
      | tab h0 h1 h2 h3 => exact s3t (by simpa [partsOf] using hp) hR
    · exact s3c (by simp) (by simp) hR
  · exact h.elim
theorem cmP {S : SPX} {st n : Nat} {xs : List D} {w : SV} {q6 q7 : Bool} {q : Option SV} (hn : n ≤ 1000) (hx : st + n ≤ xs.length)
    (hR : R (.own (.lst ((rngD st n).map fun d => .tup [.tup [d], (xs[(toI d).toNat]?).getD .non, .int (if (q6 || (q7 && decide (1 < toI d))) = true then 1 else 0)]))) []) :
    cmB S G72 [11] (Tg.nm 11) Es.nil
    (E.tup (Es.cons (E.tup (Es.cons (E.var 11) Es.nil)) (Es.cons ((E.var 0).idx (E.var 11)) (Es.cons (E.blt Blt.toInt (Es.cons ((E.var 6).or_ ((E.var 7).and_ (E.cmp COp.gt (E.var 11) (E.cst (D.int 1))))) Es.nil)) Es.nil))))
    { items := rngD st n, still := (PV.at 8 (D.lst (rngD st n))).still, fix := false }
    [some (SV.val (D.tup xs)), some w, none, none, none, q, some (SV.val (D.bl q6)), some (SV.val (D.bl q7)), some (SV.own (Ow.lst (rngD st n))), none, none, none]
    (endK [false] R X).rt := by
  refine cm_map (fun d => .tup [.tup [d], (xs[(toI d).toNat]?).getD .non, .int (if (q6 || (q7 && decide (1 < toI d))) = true then 1 else 0)]) (by simp [rngD_len]; omega) (by simp) (fun d hd A hA => ?_) ?_
  · obtain ⟨i, hi⟩ := List.getElem?_of_mem hd
    obtain ⟨h3, rfl⟩ := rngD_get hi
    have hx : xs[st + i]? = some xs[st + i] := by simp
    have ha : atD xs ((st : Int) + (i : Int)) = some xs[st + i] := by rw [← hx, ← atD_nat]; congr 1
    have e : ((st : Int) + (i : Int)).toNat = st + i := by omega
    simp only [toI, e, hx, Option.getD_some] at hA
    simp [ha]
    by_cases hd1 : 1 < (st : Int) + (i : Int) <;> cases q6 <;> cases q7 <;> simp [hd1] at hA ⊢ <;> simpa using hA
  · simp
    simpa using hR
theorem s29 {w : Str} {ps : List D} (hw : w = "row" ∨ w = "over" ∨ w = "root" ∨ w = "fence" ∨ w = "bar" ∨ w = "high" ∨ w = "low" ∨ w = "both") (hp : ps.length ≤ 1000) (hR : R (.own (.lst ((partsOf (.tup (.str w :: ps))).map prt))) []) : Owe k io29 N29 b29 [.val (.tup (.str w :: ps))] R X := by
  have hn : ∀ x : D, ∀ i : Nat, ((x :: ps)[1 + i]? : Option D) = ps[i]? := fun x i => by rw [Nat.add_comm]; rfl
  have hb : (ps.length : Int) + 1 ≤ 16777216 := by omega
  have hb2 : (0 : Int) ≤ (ps.length : Int) + 1 := by omega
  rcases hw with rfl | rfl | rfl | rfl | rfl | rfl | rfl | rfl
  all_goals
    simp [owes, io29, N29, b29, G72, hb, hb2]
    refine cmP (st := 1) hp (by simp; omega) ?_
    simp [partsOf] at hR
    rw [plc_prt (hn _)] at hR
    simpa using hR
theorem s29b {w : Str} {ps : List D} {p : D} (hw : w = "under" ∨ w = "upper" ∨ w = "limits") (hp : ps.length ≤ 1000) (hR : R (.own (.lst ((partsOf (.tup (.str w :: p :: ps))).map prt))) []) : Owe k io29 N29 b29 [.val (.tup (.str w :: p :: ps))] R X := by
  have hn : ∀ x : D, ∀ i : Nat, ((x :: p :: ps)[2 + i]? : Option D) = ps[i]? := fun x i => by rw [Nat.add_comm]; rfl
  have hb : (ps.length : Int) + 1 + 1 ≤ 16777216 := by omega
  have hb2 : (0 : Int) ≤ (ps.length : Int) + 1 + 1 := by omega
  have e : ((ps.length : Int) + 1 + 1 - 2).toNat = ps.length := by omega
  rcases hw with rfl | rfl | rfl
  all_goals
    simp [owes, io29, N29, b29, G72, hb, hb2, e]
    refine cmP (st := 2) hp (by simp; omega) ?_
    simp [partsOf] at hR
    rw [plc_prt (hn _)] at hR
    simpa using hR
theorem s29t {rows : List (List D)} (hp : (tabP (rows.map .tup) 0).length ≤ 1000) (hR : R (.own (.lst ((partsOf (.tup [.str "table", .tup (rows.map .tup)])).map prt))) []) : Owe k io29 N29 b29 [.val (.tup [.str "table", .tup (rows.map .tup)])] R X := by
  simp [owes, io29, N29, b29, G72]
  simp [partsOf] at hR
  refine ⟨rfl, fun j ρ => ∃ o3 o4, ρ = [some (SV.val (D.tup [D.str "table", D.tup (List.map D.tup rows)])), some (SV.val (D.str "table")), some (SV.own (Ow.lst ((tabP ((rows.map .tup).take j) 0).map prt))), o3, o4, none, none, none, none, none, none, none], ⟨none, none, by simp [tabP]⟩, fun _ _ _ => trivial, ?_, ?_⟩
  · rintro j ρ d ⟨o3, o4, rfl⟩ hd
    obtain ⟨x, h1, rfl⟩ := enum_get hd
    obtain ⟨cs, h2, rfl⟩ : ∃ cs, rows[j]? = some cs ∧ D.tup cs = x := by simpa using h1
    have hs := tabP_s h1
    have hlc : (tabP ((rows.map .tup).take (j + 1)) 0).length ≤ 1000 := Nat.le_trans tabP_pre hp
    rw [hs, List.length_append, rowP_len] at hlc
    simp
    have he : (enumD cs 0).map (fun d => match d with | .tup [i, x] => .tup [.tup [.int 1, .int (j : Nat), i], x, .int 0] | _ => D.non) = (rowP j cs 0).map prt := by
      have : ∀ (l : List D) (n : Nat), (enumD l n).map (fun d => match d with | .tup [i, x] => .tup [.tup [.int 1, .int (j : Nat), i], x, .int 0] | _ => D.non) = (rowP j l n).map prt := by
        intro l
        induction l with
        | nil => intro n; rfl
        | cons a l ih => intro n; simp [enumD, rowP, prt, ih]
      exact this cs 0
    refine cm_map (fun d => match d with | .tup [i, x] => .tup [.tup [.int 1, .int (j : Nat), i], x, .int 0] | _ => D.non) (by rw [enum_len]; simp; omega) (by simp) (fun d hd A hA => ?_) ?_
    · obtain ⟨i, hi⟩ := List.getElem?_of_mem hd
      obtain ⟨x, h3, rfl⟩ := enum_get hi
      simp
      simpa using hA
    · rw [he]
      simp [rowP_len]
      refine ⟨by omega, ?_⟩
      rw [hs]
      simp
  · rintro ρ ⟨o3, o4, rfl⟩
    rw [enum_len]
    have e : List.take (List.map D.tup rows).length (rows.map D.tup) = rows.map D.tup := List.take_length
    rw [e]
    simpa using hR
theorem ob29 (hl : lev 29 rs < k + 1) (h : c29 rs R X) : Owe k io29 N29 b29 rs R X := by
  unfold c29 at h; split at h
  · obtain ⟨⟨n, h1⟩, hp, hR⟩ := h
    cases h1 with
      | sign h =>
        simp [owes, io29, N29, b29, G72]
        simpa [partsOf] using hR
      | row h1 h2 => exact s29 (by simp) (by simpa [partsOf, plc_len] using hp) hR
      | over h1 h2 => exact s29 (by simp) (by simp) hR
      | one h h1 => rcases h with rfl | rfl | rfl <;> exact s29 (by simp) (by simp) hR
      | two h h0 h1 h2 => rcases h with rfl | rfl <;> exact s29 (by simp) (by simp) hR
      | both h0 h1 h2 h3 => exact s29 (by simp) (by simp) hR
      | stk h h0 h1 => rcases h with rfl | rfl <;> exact s29b (by simp) (by simp) hR
      | lim h0 h1 h2 => exact s29b (by simp) (by simp) hR
      | tab h0 h1 h2 h3 => exact s29t (by simpa [partsOf] using hp) hR
  · exact h.elim
end
end P72
set_option linter.all false
set_option autoImplicit false
set_option maxRecDepth 20000
set_option maxHeartbeats 8000000
set_option Elab.async false
namespace P72
open PySem EV L2 A72
theorem sum_mem {a : Nat} : ∀ {l : List Nat}, a ∈ l → a ≤ l.sum
  | b :: l, h => by
    rcases List.mem_cons.mp h with rfl | h
    · simp
    · have := sum_mem h; simp; omega
theorem len_sum {α : Type} {g : α → Nat} : ∀ {l : List α}, (∀ x, x ∈ l → 0 < g x) → l.length ≤ (l.map g).sum
  | [], _ => Nat.zero_le _
  | a :: l, h => by
    have := len_sum fun x hx => h x (List.mem_cons_of_mem _ hx)
    have := h a List.mem_cons_self
    simp; omega
theorem Fo.ps {n : Nat} {f : D} (h : Fo n f) : ∃ m, n = m + 1 := by cases h <;> exact ⟨_, rfl⟩
/-- what is known of a part -/
theorem Fo.sub {n : Nat} {f : D} (h : Fo n f) (hn : n ≤ 4) {p : List D} (hp : p.length + 3 * n ≤ 100) (hw : wd f ≤ 1000) : (partsOf f).length ≤ 1000 ∧ ∀ x, x ∈ partsOf f → downD f x.1 = some x.2.1 ∧ x.1.length ≤ 3 ∧ P72.dp x.2.1 < P72.dp f ∧ wd x.2.1 ≤ 1000 ∧ ∃ m, Fo m x.2.1 ∧ m ≤ 4 ∧ m < n ∧ (p ++ x.1).length + 3 * m ≤ 100 := by
  obtain ⟨m, rfl⟩ := h.ps
  have e := wd_eq h hn
  refine ⟨?_, fun x hx => ?_⟩
  · have := len_sum (g := fun x : Part => wd x.2.1) (l := partsOf f) fun x hx => wd_pos (h.parts x hx).1 (by omega)
    omega
  · obtain ⟨h1, h2⟩ := h.dn x hx
    obtain ⟨h3, h4⟩ := h.parts x hx
    refine ⟨h1, h2, h4, ?_, m, h3, by omega, by omega, by simp; omega⟩
    have := sum_mem (List.mem_map.mpr ⟨x, hx, rfl⟩ : wd x.2.1 ∈ (partsOf f).map fun x => wd x.2.1)
    omega
theorem flat_take {α β : Type} {g : α → List β} {l : List α} {j : Nat} : ((l.take j).flatMap g).length ≤ (l.flatMap g).length := by
  conv => rhs; rw [← List.take_append_drop j l, List.flatMap_append]
  simp
theorem flat_s {α β : Type} {g : α → List β} {l : List α} {j : Nat} {x : α} (h : l[j]? = some x) : (l.take (j + 1)).flatMap g = (l.take j).flatMap g ++ g x := by
  rw [take_s h, List.flatMap_append]
  simp
section
variable {k : Nat} {rs : List RV} {R : RV → List Ow → Prop} {X : Nat → List D → Prop}
theorem ob7 (hl : lev 7 rs < k + 1) (h : c7 rs R X) : Owe k io7 N7 b7 rs R X := by
  unfold c7 at h; split at h
  · rename_i f p l
    obtain ⟨⟨n, hf, hn, hp⟩, hw, hR⟩ := h
    obtain ⟨s1, s2⟩ := hf.sub hn hp hw
    have hk : 5 + dp f < k + 1 := hl
    have lk : 0 < k := by omega
    have hlv := lv_eq (p := p) (l := l) hf hn
    have hlen : (lv f p l).length ≤ 1000 := by rw [lv_len]; exact hw
    rw [hlv] at hR hlen
    simp at hlen
    simp [owes, io7, N7, b7, ct, c3, lev, lk]
    refine ⟨.inl (by obtain ⟨m, rfl⟩ := hf.ps; exact ⟨m, hf⟩), s1, rfl, fun j ρ => ∃ o4 o5, ρ = [some (SV.val f), some (SV.val (D.tup p)), some (SV.val (D.int l)), some (SV.own (Ow.lst (tri p f l :: ((partsOf f).take j).flatMap fun x => lv x.2.1 (p ++ x.1) (l + x.2.2)))), o4, o5], ⟨none, none, by simp [tri]⟩, fun _ _ _ => trivial, ?_, ?_⟩
    · rintro j ρ d ⟨o4, o5, rfl⟩ hd
      obtain ⟨x, h1, rfl⟩ : ∃ x, (partsOf f)[j]? = some x ∧ stp x = d := by simpa using hd
      obtain ⟨a1, a2, a3, a4, m, a5, a6, a7, a8⟩ := s2 x (List.mem_of_getElem? h1)
      have hk2 : 5 + dp x.2.1 < k := by omega
      have hc := flat_take (g := fun x : Part => lv x.2.1 (p ++ x.1) (l + x.2.2)) (l := partsOf f) (j := j + 1)
      rw [flat_s h1] at hc
      simp only [List.length_append, List.length_flatMap, List.map_take] at hc
      simp [stp, ct, c4, a1, lk, lev, c7, hk2]
      refine ⟨by simp at a8; omega, ⟨m, a5, a6, by simp at a8; omega⟩, a4, by omega, ?_⟩
      simp [flat_s h1]
    · rintro ρ ⟨o4, o5, rfl⟩
      simp
      exact hR
  · exact h.elim
theorem ob30 (hl : lev 30 rs < k + 1) (h : c30 rs R X) : Owe k io30 N30 b30 rs R X := by
  unfold c30 at h; split at h
  · rename_i f l p
    obtain ⟨⟨n, hf, hn, hp⟩, hw, hR⟩ := h
    obtain ⟨s1, s2⟩ := hf.sub hn hp hw
    have hk : 5 + dp f < k + 1 := hl
    have lk : 0 < k := by omega
    have hlv := lv_eq (p := p) (l := l) hf hn
    have hlen : (lv f p l).length ≤ 1000 := by rw [lv_len]; exact hw
    rw [hlv] at hR hlen
    simp at hlen
    simp [owes, io30, N30, b30, ct, c29, lev, lk]
    refine ⟨(by obtain ⟨m, rfl⟩ := hf.ps; exact ⟨m, hf⟩), s1, rfl, fun j ρ => ∃ o4 o5 o6, ρ = [some (SV.val f), some (SV.val (D.int l)), some (SV.val (D.tup p)), some (SV.own (Ow.lst (tri p f l :: ((partsOf f).take j).flatMap fun x => lv x.2.1 (p ++ x.1) (l + x.2.2)))), o4, o5, o6], ⟨none, none, none, by simp [tri]⟩, fun _ _ _ => trivial, ?_, ?_⟩
    · rintro j ρ d ⟨o4, o5, o6, rfl⟩ hd
      obtain ⟨x, h1, rfl⟩ : ∃ x, (partsOf f)[j]? = some x ∧ prt x = d := by simpa using hd
      obtain ⟨a1, a2, a3, a4, m, a5, a6, a7, a8⟩ := s2 x (List.mem_of_getElem? h1)
      have hk2 : 5 + dp x.2.1 < k := by omega
      have hc := flat_take (g := fun x : Part => lv x.2.1 (p ++ x.1) (l + x.2.2)) (l := partsOf f) (j := j + 1)
      rw [flat_s h1] at hc
      simp only [List.length_append, List.length_flatMap, List.map_take] at hc
      simp [prt, ct, lev, c30, hk2]
      refine ⟨by simp at a8; omega, ⟨m, a5, a6, by simp at a8; omega⟩, a4, by omega, ?_⟩
      simp [flat_s h1]
    · rintro ρ ⟨o4, o5, o6, rfl⟩
      simp
      exact hR
  · exact h.elim
theorem intsD_m {α : Type} {g : α → Int} : ∀ {l : List α}, intsD (l.map fun x => .int (g x)) = some (l.map g)
  | [] => rfl
  | a :: l => by simp [intsD, intsD_m]
theorem ob8 (hl : lev 8 rs < k + 1) (h : c8 rs R X) : Owe k io8 N8 b8 rs R X := by
  unfold c8 at h; split at h
  · rename_i f
    obtain ⟨⟨n, hf, hn⟩, hw, hR⟩ := h
    obtain ⟨s1, s2⟩ := hf.sub hn (p := []) (by simp; omega) hw
    have hk : 5 + dp f < k + 1 := hl
    have lk : 0 < k := by omega
    have hwd := wd_eq hf hn
    simp [owes, io8, N8, b8, ct, c3, lev, lk]
    refine ⟨.inl (by obtain ⟨m, rfl⟩ := hf.ps; exact ⟨m, hf⟩), s1, ?_⟩
    refine cm_map (fun d => match d with | .tup [.tup p, _] => (match downD f p with | some g => D.int (wd g : Nat) | none => D.non) | _ => D.non) (by simp; omega) (by simp) (fun d hd A hA => ?_) ?_
    · obtain ⟨x, h1, rfl⟩ : ∃ x, x ∈ partsOf f ∧ stp x = d := by simpa using hd
      obtain ⟨a1, a2, a3, a4, m, a5, a6, a7, a8⟩ := s2 x h1
      have hk2 : 5 + dp x.2.1 < k := by omega
      simp [stp, a1] at hA
      simp [stp, ct, c4, a1, lk, lev, c8, hk2]
      exact ⟨⟨m, a5, a6⟩, a4, hA⟩
    · have e : (((partsOf f).map stp).map fun d => match d with | .tup [.tup p, _] => (match downD f p with | some g => D.int (wd g : Nat) | none => D.non) | _ => D.non) = (partsOf f).map fun x => .int (wd x.2.1 : Nat) := by
        rw [List.map_map]
        exact List.map_congr_left fun x hx => by simp [stp, (s2 x hx).1]
      rw [e]
      simp [intsD_m]
      rw [hwd] at hR
      have e2 : ((partsOf f).map fun x => ((wd x.2.1 : Nat) : Int)).sum = (((partsOf f).map fun x => wd x.2.1).sum : Nat) := by
        generalize partsOf f = l
        induction l with
        | nil => rfl
        | cons a l ih => simp [ih]
      rw [e2]
      simpa using hR
  · exact h.elim
end
end P72
set_option linter.all false
set_option autoImplicit false
set_option maxRecDepth 20000
set_option maxHeartbeats 8000000
set_option Elab.async false
namespace P72
open PySem EV L2 A72
section
variable {k : Nat} {rs : List RV} {R : RV → List Ow → Prop} {X : Nat → List D → Prop}
theorem ob9 (hl : lev 9 rs < k + 1) (h : c9 rs R X) : Owe k io9 N9 b9 rs R X := by
  unfold c9 at h; split at h
  · rename_i f
    obtain ⟨hw, n, hf, hn, hR⟩ := h
    obtain ⟨s1, s2⟩ := hf.sub hn (p := []) (by simp; omega) hw
    have hk : 5 + dp f < k + 1 := hl
    have lk : 0 < k := by omega
    have hn0 : 0 < n := by obtain ⟨m, rfl⟩ := hf.ps; omega
    simp [owes, io9, N9, b9, ct, c3, lev, lk]
    refine ⟨.inl (by obtain ⟨m, rfl⟩ := hf.ps; exact ⟨m, hf⟩), s1, ?_⟩
    refine ⟨fun j acc ρ => ρ = [some (SV.val f), none, none] ∧ ∃ is : List Int, acc = is.map .int ∧ is.length ≤ j ∧ ∀ i, i ∈ is → 1 ≤ i ∧ i ≤ n - 1, ⟨rfl, [], rfl, by simp, by simp⟩, fun _ _ _ _ => trivial, ?_, ?_⟩
    · rintro j acc ρ d ⟨rfl, is, rfl, h1, h2⟩ hd
      obtain ⟨x, h3, rfl⟩ : ∃ x, (partsOf f)[j]? = some x ∧ stp x = d := by simpa using hd
      obtain ⟨a1, a2, a3, a4, m, a5, a6, a7, a8⟩ := s2 x (List.mem_of_getElem? h3)
      have hj := (List.getElem?_eq_some_iff.mp h3).1
      have hk2 : 5 + dp x.2.1 < k := by omega
      simp [stp, ct, c4, a1, lk, lev, c9, hk2]
      refine ⟨a4, m, a5, a6, fun d h5 h6 => ⟨by omega, is ++ [d], by simp, by simp; omega, fun i hi => ?_⟩⟩
      rcases List.mem_append.mp hi with hi | hi
      · exact h2 i hi
      · simp at hi; subst hi; omega
    · rintro acc ρ ⟨rfl, is, rfl, h1, h2⟩
      simp at h1
      simp
      refine ⟨by omega, ?_⟩
      refine ⟨0 :: is, ?_, by simp, fun m hm _ => ?_⟩
      · have := intsD_m (g := fun i : Int => i) (l := is)
        simp [intsD, this]
      · simp
        refine hR _ ?_ ?_
        · rcases List.mem_cons.mp hm with rfl | hm
          · omega
          · have := h2 m hm; omega
        · rcases List.mem_cons.mp hm with rfl | hm
          · omega
          · have := h2 m hm; omega
  · exact h.elim
theorem ob10 (hl : lev 10 rs < k + 1) (h : c10 rs R X) : Owe k io10 N10 b10 rs R X := by
  unfold c10 at h; split at h
  · rename_i f
    obtain ⟨⟨n, hf, hn⟩, hw, hR⟩ := h
    have hk : 30 < k + 1 := hl
    have hd := hf.dp
    have hk2 : 5 + dp f < k := by omega
    have hw1 : wd f ≤ 1000 := by omega
    have e : ¬ (60 : Int) < (wd f : Int) := by omega
    have hn0 : 0 < n := by obtain ⟨m, rfl⟩ := hf.ps; omega
    simp [owes, io10, N10, b10, ct, c8, c9, lev, hk2, hw1, G72, e]
    refine ⟨⟨n, hf, hn⟩, n, hf, hn, fun d h1 h2 => ?_⟩
    have e2 : ¬ (8 : Int) < d := by omega
    simp [e2]
    exact hR
  · exact h.elim
theorem ob11 (hl : lev 11 rs < k + 1) (h : c11 rs R X) : Owe k io11 N11 b11 rs R X := by
  unfold c11 at h; split at h
  · rename_i v
    have hk : 31 < k + 1 := hl
    have hk30 : 30 < k := by omega
    rcases h with ⟨⟨n, hf, hn⟩, hw, hR⟩ | ⟨hb, hX⟩
    · have hd := hf.dp
      have hk2 : 5 + dp v < k := by omega
      simp [owes, io11, N11, b11, ct, c6, c10, lev, hk2, hk30]
      exact .inl ⟨⟨n, hf, hn, by omega⟩, by omega, ⟨n, hf, hn⟩, hw, hR⟩
    · have hd : dp v ≤ 10 := by
        simp [BAD, bHigh] at hb
        rcases hb with rfl | rfl | rfl | rfl | rfl | rfl | rfl <;> simp [dp]
      have hk2 : 5 + dp v < k := by omega
      simp [owes, io11, N11, b11, ct, c6, c10, lev, hk2, hk30]
      exact .inr ⟨hb, hX⟩
  · exact h.elim
theorem dps_row {rows : List (List D)} {r : List D} {q : D} (h1 : r ∈ rows) (h2 : q ∈ r) : dp q + 2 ≤ dp (.tup (rows.map .tup)) := by
  have a1 := dps_mem h2
  have a2 := dps_mem (List.mem_map_of_mem (f := D.tup) h1)
  simp at a2 ⊢
  omega
theorem ob5 (hl : lev 5 rs < k + 1) (h : c5 rs R X) : Owe k io5 N5 b5 rs R X := by
  unfold c5 at h; split at h
  · rename_i v p
    obtain ⟨⟨n, c, rows, rfl, h1, h2, h3, h4, h5, h6, hwq⟩, he, hR⟩ := h
    have hk : 5 + dp (.tup (rows.map .tup)) < k + 1 := hl
    obtain ⟨r0, rows', rfl⟩ : ∃ r q, rows = r :: q := by cases rows with
      | nil => exact absurd rfl h1
      | cons r q => exact ⟨_, _, rfl⟩
    simp at he
    simp [owes, io5, N5, b5, eqX, he, okEq_nil, eqv_nil]
    refine ⟨rfl, fun j ρ => ∃ o2 o3 o4 o5 o6, ρ = [some (SV.val (D.tup ((r0 :: rows').map .tup))), some (SV.val (D.tup p)), o2, o3, o4, o5, o6], ⟨none, none, none, none, none, rfl⟩, fun _ _ _ => trivial, ?_, ?_⟩
    · rintro j ρ d ⟨o2, o3, o4, o5, o6, rfl⟩ hd
      obtain ⟨x, h7, rfl⟩ := enum_get hd
      obtain ⟨r, h8, rfl⟩ : ∃ r, (r0 :: rows')[j]? = some r ∧ D.tup r = x := by
        have : ((r0 :: rows').map D.tup)[j]? = some x := h7
        rw [List.getElem?_map] at this
        simpa [Option.map_eq_some_iff] using this
      have hm := List.mem_of_getElem? h8
      have hrl := h3 r hm
      have hr0 := h3 r0 List.mem_cons_self
      obtain ⟨y, r', rfl⟩ : ∃ y q, r = y :: q := by cases r with
        | nil => simp at hrl; omega
        | cons y q => exact ⟨_, _, rfl⟩
      have her : (D.tup (y :: r')).okEq := by
        refine nice_eq ?_ ?_
        · simp only [nice_t]
          exact nices_i.mpr fun q hq => (h4 _ hm q hq).nice
        · have : dps (y :: r') ≤ 3 * n := dps_le fun q hq => (h4 _ hm q hq).dp
          simp only [dp_t]; omega
      simp [eqX, her, okEq_nil, eqv_nil]
      have ei : ((r'.length : Int) + 1 = (r0.length : Int)) := by simp at hrl; omega
      simp [ei]
      refine ⟨rfl, fun i ρ => ∃ o4 o5 o6, ρ = [some (SV.val (D.tup ((r0 :: rows').map .tup))), some (SV.val (D.tup p)), some (SV.val (.int (j : Nat))), some (SV.val (.tup (y :: r'))), o4, o5, o6], ⟨o4, o5, o6, rfl⟩, fun _ _ _ => trivial, ?_, ?_⟩
      · rintro i ρ d ⟨o4, o5, o6, rfl⟩ hd
        obtain ⟨q, h9, rfl⟩ := enum_get hd
        have hq := List.mem_of_getElem? h9
        have hf := h4 _ hm q hq
        have hdq := dps_row hm hq
        have hk2 : 5 + dp q < k := by omega
        simp [ct, c6, lev, hk2]
        exact ⟨by omega, by omega, .inl ⟨⟨n, hf, by omega, by omega⟩, hwq _ hm q hq⟩⟩
      · rintro ρ ⟨o4, o5, o6, rfl⟩
        exact ⟨_, _, _, _, _, rfl⟩
    · rintro ρ ⟨o2, o3, o4, o5, o6, rfl⟩
      simp
      exact hR
  · exact h.elim
def nf (v : D) : Prop := v = .non ∨ v = .tup [] ∨ v = .tup [.str "row"] ∨ v = .lst [.str "sign", .str "a"] ∨ v = .tup [.str "rule", .int 1]
theorem okEq_i {j : Nat} : (D.tup [.int (j : Nat)]).okEq := by
  unfold D.okEq SeqAt.shaped
  refine ⟨by simp [D.plain, D.plains], ?_⟩
  simp [D.py, D.pys, PyData.canLay0, PyData.canLayAll0, PyData.depth, PyData.depthAll]
/-- a formula that is no sign and no table: its parts are looked at one by one -/
theorem ob6P {n : Nat} {w : Str} {ps p : List D} (hf : Fo (n + 1) (.tup (.str w :: ps))) (hk : 5 + dp (.tup (.str w :: ps)) < k + 1) (hn : n + 1 ≤ 4) (hp : p.length + 3 * (n + 1) ≤ 100) (hR : R (.val .non) [])
    (hw : w = "row" ∨ w = "over" ∨ w = "root" ∨ w = "fence" ∨ w = "bar" ∨ w = "high" ∨ w = "low" ∨ w = "both" ∨ w = "under" ∨ w = "upper" ∨ w = "limits") (hq : ∀ x, x ∈ partsOf (.tup (.str w :: ps)) → ∃ j : Nat, x.1 = [.int (j : Nat)] ∧ (w = "high" ∨ w = "low" ∨ w = "both" → j = 1 → noB x.2.1 = false))
    (hs : w = "under" ∨ w = "upper" ∨ w = "limits" → ∃ x q, ps = .str x :: q ∧ Sgn x) (hh : hasForm (.tup (.str w :: ps)) = true) (hwd : wd (.tup (.str w :: ps)) ≤ 1000) : Owe k io6 N6 b6 [.val (.tup (.str w :: ps)), .val (.tup p)] R X := by
  have lk : 0 < k := by omega
  have he := hf.eq (by omega)
  have hV : Vh (.tup (.str w :: ps)) := .inr (.inr (.inr ⟨w, ps, rfl, he⟩))
  have hc3 : (∃ m, Fo (m + 1) (.tup (.str w :: ps))) ∨ .tup (.str w :: ps) = bHigh := .inl ⟨n, hf⟩
  obtain ⟨h1000, hsub⟩ := hf.sub hn hp hwd
  have hpt := hf.parts
  have hdn := hf.dn
  have okEq_1 : (D.tup [.int 1]).okEq := okEq_i (j := 1)
  have eqv1 : ∀ j : Nat, D.eqv (.tup [.int (j : Nat)]) (.tup [.int 1]) = decide (j = 1) := fun j => by
    by_cases h : j = 1
    · subst h; rfl
    · have : ¬ (j : Int) = 1 := by omega
      simp [D.eqv, D.py, D.pys, PyData.eqv, PyData.eqvAll, h, this]
  rcases hw with rfl | rfl | rfl | rfl | rfl | rfl | rfl | rfl | rfl | rfl | rfl
  case' inr.inr.inr.inr.inr.inr.inr.inr.inl => obtain ⟨y, q, rfl, hy⟩ := hs (by simp); have hc0 := hy
  case' inr.inr.inr.inr.inr.inr.inr.inr.inr.inl => obtain ⟨y, q, rfl, hy⟩ := hs (by simp); have hc0 := hy
  case' inr.inr.inr.inr.inr.inr.inr.inr.inr.inr => obtain ⟨y, q, rfl, hy⟩ := hs (by simp); have hc0 := hy
  all_goals
    simp [owes, io6, N6, b6, G72, ct, c2, c3, c0, lev, lk, hV, hh, hc3, h1000]
    try refine .inl ⟨hc0, ?_⟩
    refine ⟨rfl, fun j ρ => ∃ o3 o4 o5 o6, ρ = [_, some (SV.val (D.tup p)), _, o3, o4, o5, o6], ⟨none, none, none, none, rfl⟩, fun _ _ _ => trivial, ?_, ?_⟩
    · rintro j ρ d ⟨o3, o4, o5, o6, rfl⟩ hd
      obtain ⟨x, h1, rfl⟩ : ∃ x, (partsOf _)[j]? = some x ∧ stp x = d := by simpa using hd
      have hm := List.mem_of_getElem? h1
      obtain ⟨a1, a2⟩ := hdn x hm
      obtain ⟨a3, a4⟩ := hpt x hm
      have a6 := (hsub x hm).2.2.2.1
      obtain ⟨i, e1, e2⟩ := hq x hm
      obtain ⟨w', p', ps', e3⟩ := a3.wrd
      have a5 := a3.eq (by omega)
      have hk2 : 5 + dp x.2.1 < k := by omega
      have c1' : ∃ w ps, x.2.1 = .tup (.str w :: ps) := ⟨w', _, e3⟩
      rw [e1] at a1
      simp at e2
      simp [G72, stp, e1, ct, c4, a1, lk, lev, eqX, okEq_i, okEq_1, eqv1, c1, c6, hk2, a5, c1']
      first
        | exact ⟨by omega, by omega, .inl ⟨⟨n, a3, by omega, by omega⟩, a6⟩⟩
        | (refine cnd_i (fun e => ?_) fun e => ?_
           · have e := e2 (by simpa using e)
             simp [e]
             exact ⟨by omega, by omega, .inl ⟨⟨n, a3, by omega, by omega⟩, a6⟩⟩
           · exact ⟨by omega, by omega, .inl ⟨⟨n, a3, by omega, by omega⟩, a6⟩⟩)
        | trace_state
    · rintro ρ ⟨o3, o4, o5, o6, rfl⟩
      simp
      exact hR
end
end P72
set_option linter.all false
set_option autoImplicit false
set_option maxRecDepth 20000
set_option maxHeartbeats 8000000
set_option Elab.async false
namespace P72
open PySem EV L2 A72
section
variable {k : Nat} {rs : List RV} {R : RV → List Ow → Prop} {X : Nat → List D → Prop}
theorem po_row {ps : List D} : partsOf (.tup (.str "row" :: ps)) = plc ps 1 (fun _ => 0) := by simp [partsOf]
theorem po_over {ps : List D} : partsOf (.tup (.str "over" :: ps)) = plc ps 1 (fun _ => 1) := by simp [partsOf]
theorem po_root {ps : List D} : partsOf (.tup (.str "root" :: ps)) = plc ps 1 (fun _ => 0) := by simp [partsOf]
theorem po_fence {ps : List D} : partsOf (.tup (.str "fence" :: ps)) = plc ps 1 (fun _ => 0) := by simp [partsOf]
theorem po_bar {ps : List D} : partsOf (.tup (.str "bar" :: ps)) = plc ps 1 (fun _ => 0) := by simp [partsOf]
theorem po_high {ps : List D} : partsOf (.tup (.str "high" :: ps)) = plc ps 1 (fun k => if 1 < k then 1 else 0) := by simp [partsOf]
theorem po_low {ps : List D} : partsOf (.tup (.str "low" :: ps)) = plc ps 1 (fun k => if 1 < k then 1 else 0) := by simp [partsOf]
theorem po_both {ps : List D} : partsOf (.tup (.str "both" :: ps)) = plc ps 1 (fun k => if 1 < k then 1 else 0) := by simp [partsOf]
theorem po_under {a : D} {ps : List D} : partsOf (.tup (.str "under" :: a :: ps)) = plc ps 2 (fun _ => 1) := by simp [partsOf]
theorem po_upper {a : D} {ps : List D} : partsOf (.tup (.str "upper" :: a :: ps)) = plc ps 2 (fun _ => 1) := by simp [partsOf]
theorem po_limits {a : D} {ps : List D} : partsOf (.tup (.str "limits" :: a :: ps)) = plc ps 2 (fun _ => 1) := by simp [partsOf]
theorem hq_n {w : Str} {ps : List D} {u : Nat → Int} (h : partsOf (.tup (.str w :: ps)) = plc ps 1 u) (hw : ¬ (w = "high" ∨ w = "low" ∨ w = "both")) : ∀ x, x ∈ partsOf (.tup (.str w :: ps)) → ∃ j : Nat, x.1 = [.int (j : Nat)] ∧ (w = "high" ∨ w = "low" ∨ w = "both" → j = 1 → noB x.2.1 = false) := fun x hx => by
  rw [h] at hx
  obtain ⟨j, h1, h2, h3⟩ := plc_x (xs := .str w :: ps) (fun i => by rw [Nat.add_comm]; rfl) hx
  exact ⟨j, h2, fun h' => absurd h' hw⟩
theorem hq_b {w : Str} {a : D} {ps : List D} {u : Nat → Int} (h : partsOf (.tup (.str w :: a :: ps)) = plc (a :: ps) 1 u) (ha : noB a = false) : ∀ x, x ∈ partsOf (.tup (.str w :: a :: ps)) → ∃ j : Nat, x.1 = [.int (j : Nat)] ∧ (w = "high" ∨ w = "low" ∨ w = "both" → j = 1 → noB x.2.1 = false) := fun x hx => by
  rw [h] at hx
  obtain ⟨j, h1, h2, h3, h4⟩ := plc_x (xs := .str w :: a :: ps) (fun i => by rw [Nat.add_comm]; rfl) hx
  refine ⟨j, h2, fun _ e => ?_⟩
  subst e
  simp at h4
  rw [← h4]; exact ha
theorem hq_2 {w : Str} {a : D} {ps : List D} {u : Nat → Int} (h : partsOf (.tup (.str w :: a :: ps)) = plc ps 2 u) (hw : ¬ (w = "high" ∨ w = "low" ∨ w = "both")) : ∀ x, x ∈ partsOf (.tup (.str w :: a :: ps)) → ∃ j : Nat, x.1 = [.int (j : Nat)] ∧ (w = "high" ∨ w = "low" ∨ w = "both" → j = 1 → noB x.2.1 = false) := fun x hx => by
  rw [h] at hx
  obtain ⟨j, h1, h2, h3⟩ := plc_x (xs := .str w :: a :: ps) (fun i => by rw [Nat.add_comm]; rfl) hx
  exact ⟨j, h2, fun h' => absurd h' hw⟩
theorem bad_dp {v : D} (hb : v ∈ BAD) : dp v ≤ 10 := by
  simp [BAD, bHigh] at hb
  rcases hb with rfl | rfl | rfl | rfl | rfl | rfl | rfl <;> simp [dp]
theorem bHigh_eq : bHigh.okEq := by unfold D.okEq bHigh; decide +kernel
theorem ob6 (hl : lev 6 rs < k + 1) (h : c6 rs R X) : Owe k io6 N6 b6 rs R X := by
  unfold c6 at h; split at h
  · rename_i v p
    obtain ⟨hp, h⟩ := h
    have hk : 5 + dp v < k + 1 := hl
    have lk : 0 < k := by omega
    rcases h with ⟨⟨n, hf, hn, hpn⟩, hwd, hR⟩ | ⟨hb, hR⟩
    · obtain ⟨m, rfl⟩ := hf.ps
      have he := hf.eq (by omega)
      have hf' := hf
      cases hf with
      | sign h =>
        have hV : Vh (.tup [.str "sign", .str _]) := .inr (.inr (.inr ⟨_, _, rfl, he⟩))
        simp [owes, io6, N6, b6, G72, ct, c2, c3, c0, lev, lk, hV, hasForm, partsOf]
        exact .inl ⟨h, .inl ⟨m, hf'⟩, rfl, fun j ρ => ρ = _, rfl, fun _ _ _ => trivial, fun j ρ d _ h => by simp at h, fun ρ e => by subst e; simp; exact hR⟩
      | @row _ ps h1 h2 =>
        exact ob6P hf' hk hn hpn hR (by simp) (hq_n po_row (by simp)) (by simp) (by simp [hasForm]; exact List.length_pos_iff.mpr h1) hwd
      | over h1 h2 => exact ob6P hf' hk hn hpn hR (by simp) (hq_n po_over (by simp)) (by simp) (by simp [hasForm]) hwd
      | one h h1 => rcases h with rfl | rfl | rfl <;> exact ob6P hf' hk hn hpn hR (by simp) (hq_n (by first | exact po_root | exact po_fence | exact po_bar) (by simp)) (by simp) (by simp [hasForm]) hwd
      | two h h0 h1 h2 => rcases h with rfl | rfl <;> exact ob6P hf' hk hn hpn hR (by simp) (hq_b (by first | exact po_high | exact po_low) h0) (by simp) (by simp [hasForm]) hwd
      | both h0 h1 h2 h3 => exact ob6P hf' hk hn hpn hR (by simp) (hq_b po_both h0) (by simp) (by simp [hasForm]) hwd
      | stk h h0 h1 => rcases h with rfl | rfl <;> exact ob6P hf' hk hn hpn hR (by simp) (hq_2 (by first | exact po_under | exact po_upper) (by simp)) (fun _ => ⟨_, _, rfl, h0⟩) (by simp [hasForm]) hwd
      | lim h0 h1 h2 => exact ob6P hf' hk hn hpn hR (by simp) (hq_2 po_limits (by simp)) (fun _ => ⟨_, _, rfl, h0⟩) (by simp [hasForm]) hwd
      | @tab _ c rows h1 h2 h3 h4 =>
        have hV : Vh (.tup [.str "table", .tup (rows.map .tup)]) := .inr (.inr (.inr ⟨_, _, rfl, he⟩))
        have hd := hf'.dp
        simp at hk hd
        have hk2 : 5 + dp (.tup (rows.map .tup)) < k := by simp; omega
        simp [owes, io6, N6, b6, G72, ct, c2, c5, c0, lev, lk, hV, hasForm]
        refine ⟨by omega, by omega, ⟨m, c, rows, rfl, h1, h2, h3, h4, by omega, by omega, fun r hr q hq => ?_⟩, ?_, hR⟩
        · rw [wd_eq hf' (by omega)] at hwd
          simp [partsOf, tabP_w] at hwd
          have : wd q ≤ sumW ((rows.map D.tup).flatMap cellsOf) := sum_mem (List.mem_map.mpr ⟨q, List.mem_flatMap.mpr ⟨_, List.mem_map_of_mem hr, hq⟩, rfl⟩)
          omega
        have hni := hf'.nice
        simp at hni
        exact nice_eq (by simp; exact hni.2) (by simp; omega)
    · have hd := bad_dp hb
      simp only [BAD, List.mem_cons, List.not_mem_nil, or_false] at hb
      have e0 : ∀ v : D, Vh v → hasForm v = false → Owe k io6 N6 b6 [.val v, .val (.tup p)] R X := fun v h1 h2 => by
        simp [owes, io6, N6, b6, G72, ct, c2, lev, lk, h1, h2]
        exact hR p
      rcases hb with rfl | rfl | rfl | rfl | rfl | rfl | rfl
      · exact e0 _ (.inl rfl) rfl
      · exact e0 _ (.inr (.inl rfl)) rfl
      · have hV : Vh (.tup [.str "sign", .str "A"]) := .inr (.inr (.inr ⟨_, _, rfl, by unfold D.okEq; decide +kernel⟩))
        simp [owes, io6, N6, b6, G72, ct, c2, c3, c0, lev, lk, hV, hasForm, Sgn]
        exact ⟨by omega, hR _⟩
      · exact e0 _ (.inr (.inr (.inr ⟨_, _, rfl, by unfold D.okEq; decide +kernel⟩))) (by simp [hasForm])
      · have hV : Vh bHigh := .inr (.inr (.inr ⟨_, _, rfl, bHigh_eq⟩))
        have hrow : (D.tup [.str "row", .tup [.str "sign", .str "a"]]).okEq := by unfold D.okEq; decide +kernel
        have okEq_1 : (D.tup [.int 1]).okEq := okEq_i (j := 1)
        have eqv1 : D.eqv (.tup [.int 1]) (.tup [.int 1]) = true := rfl
        have hc3 : (∃ m, Fo (m + 1) bHigh) ∨ bHigh = bHigh := .inr rfl
        have hh : hasForm bHigh = true := by simp [hasForm, bHigh]
        simp [owes, io6, N6, b6, G72, ct, c2, c3, lev, lk, hV, hh]
        simp [bHigh]
        refine ⟨by simp [partsOf, plc], rfl, fun j ρ => j = 0 ∧ ρ = [some (SV.val bHigh), some (SV.val (D.tup p)), some (SV.val (.str "high")), none, none, none, none], ⟨rfl, rfl⟩, fun _ _ _ => trivial, ?_, ?_⟩
        · rintro j ρ d ⟨rfl, rfl⟩ hd
          obtain ⟨x, h1, rfl⟩ : ∃ x, (partsOf _)[0]? = some x ∧ stp x = d := by simpa using hd
          simp [partsOf, plc] at h1
          subst h1
          simp [G72, stp, ct, c4, lk, lev, eqX, okEq_1, eqv1, c1, bHigh, downD, hrow]
          simp [noB, head]
          exact ⟨by omega, hR _⟩
        · rintro ρ ⟨e, _⟩
          simp [partsOf, plc] at e
      · exact e0 _ (.inr (.inr (.inl ⟨_, rfl⟩))) rfl
      · exact e0 _ (.inr (.inr (.inr ⟨_, _, rfl, by unfold D.okEq; decide +kernel⟩))) (by simp [hasForm])
  · exact h.elim
end
end P72
set_option linter.all false
set_option autoImplicit false
set_option maxRecDepth 20000
set_option maxHeartbeats 8000000
set_option Elab.async false
namespace P72
open PySem EV L2 A72
@[simp] theorem tkD_2 {w : Str} {l : Int} : tkD (nm2 w l) = .tup [.str w, .int l] := rfl
@[simp] theorem tkD_3 {w x : Str} {l : Int} : tkD (nm3 w x l) = .tup [.str w, .str x, .int l] := rfl
section
variable {k : Nat} {rs : List RV} {R : RV → List Ow → Prop} {X : Nat → List D → Prop}
theorem ob13 (hl : lev 13 rs < k + 1) (h : c13 rs R X) : Owe k io13 N13 b13 rs R X := by
  unfold c13 at h; split at h
  · rename_i f l
    obtain ⟨⟨n, hf⟩, hR⟩ := h
    have two : ∀ {S : SPX} {src : Src} {ρ : EV.Env} {P : RP}, src.items.length ≤ lim → (src.still ρ) → wipes ρ [5] = ρ → EV.get ρ 1 = some (SV.val (.int l)) → ρ.length = 6 → P (.own (.lst (src.items.map fun d => .tup [d, .int l]))) ρ →
        cmB S G72 [5] (.nm 5) .nil (.tup (.cons (.var 5) (.cons (.var 1) .nil))) src ρ P := by
      intro S src ρ P h1 h2 h3 h4 h5 h6
      match ρ, h5 with
      | [a, b, c, d, e, g], _ =>
        simp at h3 h4
        subst h3; subst h4
        exact cm_map (fun d => .tup [d, .int l]) h1 h2 (fun d hd A hA => by simp; simpa using hA) h6
    cases hf with
    | @sign _ y h =>
      simp [owes, io13, N13, b13, G72]
      refine two (by simp) (by simp) (by simp) (by simp) (by simp) ?_
      simp
      refine cm_map (fun d => .tup [d, .str y, .int l]) (by simp) (by simp) (fun d hd A hA => by simp; simpa using hA) ?_
      simp
      simpa [askN, wds, signed] using hR
    | @row _ ps h1 h2 =>
      simp [owes, io13, N13, b13, G72]
      simp [askN, wds, signed] at hR
      refine cnd_i (fun e => ?_) fun e => ?_
      · simp at e
        have e' : 1 < ps.length := by omega
        simp [e'] at hR
        simp [catD]
        refine two (by simp) (by simp) (by simp) (by simp) (by simp) ?_
        simp
        exact hR
      · simp at e
        have e' : ¬ 1 < ps.length := by omega
        simp [e'] at hR
        refine two (by simp) (by simp) (by simp) (by simp) (by simp) ?_
        simp
        exact hR
    | over h1 h2 =>
      simp [owes, io13, N13, b13, G72]
      refine two (by simp) (by simp) (by simp) (by simp) (by simp) ?_
      simp
      simpa [askN, wds, signed] using hR
    | one h h1 =>
      rcases h with rfl | rfl | rfl
      all_goals
        simp [owes, io13, N13, b13, G72]
        refine two (by simp) (by simp) (by simp) (by simp) (by simp) ?_
        simp
        simpa [askN, wds, signed] using hR
    | two h h0 h1 h2 =>
      rcases h with rfl | rfl
      all_goals
        simp [owes, io13, N13, b13, G72]
        refine two (by simp) (by simp) (by simp) (by simp) (by simp) ?_
        simp
        simpa [askN, wds, signed] using hR
    | both h0 h1 h2 h3 =>
      simp [owes, io13, N13, b13, G72]
      refine two (by simp) (by simp) (by simp) (by simp) (by simp) ?_
      simp
      simpa [askN, wds, signed] using hR
    | @stk _ w y a h h0 h1 =>
      rcases h with rfl | rfl
      all_goals
        simp [owes, io13, N13, b13, G72]
        refine two (by simp) (by simp) (by simp) (by simp) (by simp) ?_
        simp
        refine cm_map (fun d => .tup [d, .str y, .int l]) (by simp) (by simp) (fun d hd A hA => by simp; simpa using hA) ?_
        simp
        simpa [askN, wds, signed] using hR
    | @lim _ y a b h0 h1 h2 =>
      simp [owes, io13, N13, b13, G72]
      refine two (by simp) (by simp) (by simp) (by simp) (by simp) ?_
      simp
      refine cm_map (fun d => .tup [d, .str y, .int l]) (by simp) (by simp) (fun d hd A hA => by simp; simpa using hA) ?_
      simp
      simpa [askN, wds, signed] using hR
    | @tab _ c rows h0 h1 h2 h3 =>
      obtain ⟨r0, rows', rfl⟩ : ∃ r q, rows = r :: q := by cases rows with
        | nil => exact absurd rfl h0
        | cons r q => exact ⟨_, _, rfl⟩
      simp [owes, io13, N13, b13, G72]
      simp [askN, wds, signed] at hR
      refine cnd_i (fun e => ?_) fun e => ?_
      · simp at e
        obtain ⟨x, y, q, rfl⟩ : ∃ x y q, r0 = x :: y :: q := by match r0, e with
          | x :: y :: q, _ => exact ⟨_, _, _, rfl⟩
        simp at hR
        simp [catD]
        refine two (by simp) (by simp) (by simp) (by simp) (by simp) ?_
        simp
        exact hR
      · simp at e
        have hR : R (RV.own (Ow.lst [D.tup [D.str "axis", D.int l], D.tup [D.str "rule", D.int l], D.tup [D.str "gap", D.int l]])) [] := by
          match r0, e with
          | [], _ => simpa using hR
          | [x], _ => simpa using hR
        refine two (by simp) (by simp) (by simp) (by simp) (by simp) ?_
        simp
        exact hR
  · exact h.elim
end
end P72
set_option linter.all false
set_option autoImplicit false
set_option maxRecDepth 20000
set_option maxHeartbeats 8000000
set_option Elab.async false
namespace P72
open PySem EV L2 A72
/-! ### all names there are -/
def Names : List (List Key) := (([0, 1, 2] : List Int).flatMap fun l => (["axis", "rule", "gap", "rise", "fall", "space"] : List Str).map (fun w => nm2 w l)) ++ (([0, 1, 2] : List Int).flatMap fun l => (["wide", "high", "deep"] : List Str).flatMap fun w => (["a", "b", "sum"] : List Str).map fun x => nm3 w x l)
theorem Names_len : Names.length = 45 := by decide +kernel
theorem Names_can : ∀ a, a ∈ Names → ∀ b, b ∈ Names → tkCan a b = true := by decide +kernel
theorem Names_anti : ∀ a, a ∈ Names → ∀ b, b ∈ Names → tkLt b a = false → tkLt a b = false → a = b := by decide +kernel
def fstOk (k : List Key) : Bool := match k with
  | .inr _ :: _ => true
  | _ => false
theorem Names_fst0 : ∀ k, k ∈ Names → fstOk k = true := by decide +kernel
theorem Names_fst : ∀ k, k ∈ Names → ∃ x r, k = Sum.inr x :: r := fun k h => by
  have := Names_fst0 k h
  match k, this with
  | .inr x :: r, _ => exact ⟨x, r, rfl⟩
theorem Names_nice0 : ∀ k, k ∈ Names → nice (tkD k) = true ∧ szD (tkD k) ≤ 60 := by decide +kernel
theorem Names_dp0 : ∀ k, k ∈ Names → dp (tkD k) = 1 := by decide +kernel
theorem anyM {a : List Key} {l : List (List Key)} (h : (l.any fun z => decide (z = a)) = true) : a ∈ l := by
  obtain ⟨z, h1, h2⟩ := List.any_eq_true.mp h
  rw [← of_decide_eq_true h2]; exact h1
theorem in2' : ((["axis", "rule", "gap", "rise", "fall", "space"] : List Str).all fun w => ([0, 1, 2] : List Int).all fun l => Names.any fun z => decide (z = nm2 w l)) = true := by decide +kernel
theorem in3' : ((["wide", "high", "deep"] : List Str).all fun w => (["a", "b", "sum"] : List Str).all fun x => ([0, 1, 2] : List Int).all fun l => Names.any fun z => decide (z = nm3 w x l)) = true := by decide +kernel
theorem in2 (w : Str) (hw : w ∈ (["axis", "rule", "gap", "rise", "fall", "space"] : List Str)) (l : Int) (hl : l ∈ ([0, 1, 2] : List Int)) : nm2 w l ∈ Names :=
  anyM (List.all_eq_true.mp (List.all_eq_true.mp in2' w hw) l hl)
theorem in3 (w : Str) (hw : w ∈ (["wide", "high", "deep"] : List Str)) (x : Str) (hx : x ∈ (["a", "b", "sum"] : List Str)) (l : Int) (hl : l ∈ ([0, 1, 2] : List Int)) : nm3 w x l ∈ Names :=
  anyM (List.all_eq_true.mp (List.all_eq_true.mp (List.all_eq_true.mp in3' w hw) x hx) l hl)
theorem l012 {l : Int} (h1 : 0 ≤ l) (h2 : l ≤ 2) : l ∈ ([0, 1, 2] : List Int) := by
  have : l = 0 ∨ l = 1 ∨ l = 2 := by omega
  simp; exact this
theorem Sgn.mem {x : Str} (h : Sgn x) : x ∈ (["a", "b", "sum"] : List Str) := by rcases h with rfl | rfl | rfl <;> simp
theorem wds_in {n : Nat} {f : D} (h : Fo n f) : ∀ w, w ∈ wds f → w ∈ (["axis", "rule", "gap", "rise", "fall", "space"] : List Str) := by
  intro w hw
  cases h with
  | sign h => simp [wds] at hw
  | row h1 h2 => simp [wds] at hw; rw [hw.2]; simp
  | over h1 h2 => simp [wds] at hw; rcases hw with rfl | rfl | rfl | rfl | rfl <;> simp
  | one h h1 => rcases h with rfl | rfl | rfl <;> (simp [wds] at hw; rcases hw with rfl | rfl <;> simp)
  | two h h0 h1 h2 => rcases h with rfl | rfl <;> (simp [wds] at hw; rw [hw]; simp)
  | both h0 h1 h2 h3 => simp [wds] at hw; rcases hw with rfl | rfl <;> simp
  | stk h h0 h1 => rcases h with rfl | rfl <;> (simp [wds] at hw; rcases hw with rfl | rfl <;> simp)
  | lim h0 h1 h2 => simp [wds] at hw; rcases hw with rfl | rfl | rfl <;> simp
  | @tab _ c rows h0 h1 h2 h3 =>
    simp [wds] at hw
    rcases hw with rfl | rfl | rfl | hw
    · simp
    · simp
    · simp
    · have : w = "space" := by
        revert hw
        split
        · intro hw; simpa using hw
        · intro hw; simp at hw
      rw [this]; simp
theorem askN_in {n : Nat} {f : D} (h : Fo n f) {l : Int} (h1 : 0 ≤ l) (h2 : l ≤ 2) : ∀ k, k ∈ askN f l → k ∈ Names := by
  intro k hk
  unfold askN at hk
  rcases List.mem_append.mp hk with hk | hk
  · obtain ⟨w, hw, rfl⟩ := List.mem_map.mp hk
    exact in2 w (wds_in h w hw) l (l012 h1 h2)
  · have hs : ∀ x, signed f = some x → Sgn x := by
      intro x hx
      cases h with
      | sign h => simp [signed] at hx; rw [← hx]; exact h
      | row h1 h2 => simp [signed] at hx
      | over h1 h2 => simp [signed] at hx
      | one h h1 => rcases h with rfl | rfl | rfl <;> simp [signed] at hx
      | two h h0 h1 h2 => rcases h with rfl | rfl <;> simp [signed] at hx
      | both h0 h1 h2 h3 => simp [signed] at hx
      | stk h h0 h1 => rcases h with rfl | rfl <;> (simp [signed] at hx; rw [← hx]; exact h0)
      | lim h0 h1 h2 => simp [signed] at hx; rw [← hx]; exact h0
      | tab h0 h1 h2 h3 => simp [signed] at hx
    cases e : signed f with
    | none => rw [e] at hk; simp at hk
    | some x =>
      rw [e] at hk
      simp at hk
      have hm := (hs x e).mem
      rcases hk with rfl | rfl | rfl
      · exact in3 _ (by simp) _ hm _ (l012 h1 h2)
      · exact in3 _ (by simp) _ hm _ (l012 h1 h2)
      · exact in3 _ (by simp) _ hm _ (l012 h1 h2)
theorem up01 {n : Nat} {f : D} (h : Fo n f) : ∀ x, x ∈ partsOf f → 0 ≤ x.2.2 ∧ x.2.2 ≤ 1 := by
  intro x hx
  have fin : ∀ {ps xs : List D} {k : Nat} {u : Nat → Int}, (∀ i, xs[k + i]? = ps[i]?) → (∀ j, 0 ≤ u j ∧ u j ≤ 1) → x ∈ plc ps k u → 0 ≤ x.2.2 ∧ x.2.2 ≤ 1 := fun {ps xs k u} h1 hu h2 => by
    obtain ⟨j, _, _, e, _⟩ := plc_x h1 h2
    rw [e]; exact hu j
  have i1 : ∀ {a : D} {l : List D} (i : Nat), (a :: l)[1 + i]? = l[i]? := fun {a l} i => by rw [Nat.add_comm]; rfl
  have i2 : ∀ {a b : D} {l : List D} (i : Nat), (a :: b :: l)[2 + i]? = l[i]? := fun {a b l} i => by rw [Nat.add_comm]; rfl
  have u1 : ∀ j : Nat, 0 ≤ (if 1 < j then 1 else 0 : Int) ∧ (if 1 < j then 1 else 0 : Int) ≤ 1 := fun j => by split <;> omega
  cases h with
  | sign h => simp [partsOf] at hx
  | row h1 h2 => rw [po_row] at hx; exact fin (xs := .non :: _) i1 (fun _ => by simp) hx
  | over h1 h2 => rw [po_over] at hx; exact fin (xs := .non :: _) i1 (fun _ => by simp) hx
  | one h h1 => rcases h with rfl | rfl | rfl <;> (first | rw [po_root] at hx | rw [po_fence] at hx | rw [po_bar] at hx) <;> exact fin (xs := .non :: _) i1 (fun _ => by simp) hx
  | two h h0 h1 h2 => rcases h with rfl | rfl <;> (first | rw [po_high] at hx | rw [po_low] at hx) <;> exact fin (xs := .non :: _) i1 u1 hx
  | both h0 h1 h2 h3 => rw [po_both] at hx; exact fin (xs := .non :: _) i1 u1 hx
  | stk h h0 h1 => rcases h with rfl | rfl <;> (first | rw [po_under] at hx | rw [po_upper] at hx) <;> exact fin (xs := .non :: .non :: _) i2 (fun _ => by simp) hx
  | lim h0 h1 h2 => rw [po_limits] at hx; exact fin (xs := .non :: .non :: _) i2 (fun _ => by simp) hx
  | @tab n c rows h0 h1 h2 h3 =>
    simp [partsOf] at hx
    obtain ⟨j, c, cs, e1, e, e2, e3⟩ := tabP_x (xs := rows.map .tup) (fun i => by simp) hx
    rw [e]; simp
theorem lv_tri {n : Nat} : ∀ {f : D} {p : List D} {l : Int}, Fo n f → n ≤ 4 → ∀ t, t ∈ lv f p l → ∃ q g l', t = tri q g l' ∧ (∃ m, Fo (m + 1) g) ∧ l ≤ l' ∧ l' + 1 ≤ l + n := by
  induction n with
  | zero => intro f p l h _; cases h
  | succ n ih =>
    intro f p l h hn t ht
    rw [lv_eq h hn] at ht
    rcases List.mem_cons.mp ht with rfl | ht
    · exact ⟨p, f, l, rfl, ⟨n, h⟩, by omega, by omega⟩
    · obtain ⟨x, hx, ht⟩ := List.mem_flatMap.mp ht
      have hu := up01 h x hx
      obtain ⟨q, g, l', e, hm, h1, h2⟩ := ih (h.parts x hx).1 (by omega) t ht
      exact ⟨q, g, l', e, hm, by omega, by omega⟩
theorem nms_in {f : D} (h : Fo 3 f) : ∀ k, k ∈ nms f → k ∈ Names := by
  intro k hk
  unfold nms at hk
  obtain ⟨t, ht, hk⟩ := List.mem_flatMap.mp hk
  obtain ⟨q, g, l', rfl, ⟨m, hm⟩, h1, h2⟩ := lv_tri h (by omega) t ht
  exact askN_in hm h1 (by omega) k hk
theorem askN_len {n : Nat} {f : D} (h : Fo n f) {l : Int} : (askN f l).length ≤ 9 := by
  cases h with
  | sign h => simp [askN, wds, signed]
  | row h1 h2 => simp [askN, wds, signed]; split <;> simp
  | over h1 h2 => simp [askN, wds, signed]
  | one h h1 => rcases h with rfl | rfl | rfl <;> simp [askN, wds, signed]
  | two h h0 h1 h2 => rcases h with rfl | rfl <;> simp [askN, wds, signed]
  | both h0 h1 h2 h3 => simp [askN, wds, signed]
  | stk h h0 h1 => rcases h with rfl | rfl <;> simp [askN, wds, signed]
  | lim h0 h1 h2 => simp [askN, wds, signed]
  | @tab _ c rows h0 h1 h2 h3 => simp [askN, wds, signed]; split <;> simp
theorem keys_kD : ∀ {k : List Key}, D.keys (k.map kD) = some k
  | [] => rfl
  | .inl i :: r => by show D.keys (.int i :: _) = _; simp [keys_kD]
  | .inr i :: r => by show D.keys (.str i :: _) = _; simp [keys_kD]
theorem tkn_tkD {k : List Key} : tkn (tkD k) = some k := by show D.keys (k.map kD) = some k; exact keys_kD
theorem tkns {ns : List (List Key)} : (ns.map tkD).map tkn = ns.map some := by
  rw [List.map_map]
  exact List.map_congr_left fun k _ => tkn_tkD
/-- the sorted unlike names are one list -/
theorem Sorted_one {a b K : List (List Key)} (hK : ∀ k, k ∈ K → k ∈ Names) (ha : SortedOf a K) (hb : SortedOf b K) : a = b := by
  have hp : a.Perm b := (List.perm_ext_iff_of_nodup ha.1 hb.1).mpr fun k => (ha.2.1 k).trans (hb.2.1 k).symm
  exact hp.eq_of_pairwise (le := fun a b => tkLt b a = false) (fun x y hx hy h1 h2 => Names_anti x (hK _ ((ha.2.1 x).mp hx)) y (hK _ ((hb.2.1 y).mp hy)) h1 h2) ha.2.2 hb.2.2
theorem Sorted_len {a K : List (List Key)} (hK : ∀ k, k ∈ K → k ∈ Names) (ha : SortedOf a K) : a.length ≤ 45 := by
  rw [← Names_len]
  exact ha.1.length_le_of_subset fun k hk => hK k ((ha.2.1 k).mp hk)
theorem flat_len {α β : Type} {g : α → List β} {m : Nat} : ∀ {l : List α}, (∀ x, x ∈ l → (g x).length ≤ m) → (l.flatMap g).length ≤ m * l.length
  | [], _ => by simp
  | a :: l, h => by
    have h1 := h a List.mem_cons_self
    have h2 := flat_len fun x hx => h x (List.mem_cons_of_mem _ hx)
    rw [List.flatMap_cons, List.length_append, List.length_cons, Nat.mul_add]
    omega
section
variable {k : Nat} {rs : List RV} {R : RV → List Ow → Prop} {X : Nat → List D → Prop}
theorem ob15 (hl : lev 15 rs < k + 1) (h : c15 rs R X) : Owe k io15 N15 b15 rs R X := by
  unfold c15 at h; split at h
  · have hk : 31 < k + 1 := hl
    have hk2 : 30 < k := by omega
    simp [owes, io15, N15, b15, ct, c14, c15, lev, hk2]
    exact h
  · exact h.elim
theorem ob14 (hl : lev 14 rs < k + 1) (h : c14 rs R X) : Owe k io14 N14 b14 rs R X := by
  unfold c14 at h; split at h
  · rename_i f l
    obtain ⟨rfl, ⟨hf, hw⟩, hR⟩ := h
    have hk : 30 < k + 1 := hl
    have lk : 0 < k := by omega
    have hd := hf.dp
    have hk2 : 5 + dp f < k := by omega
    simp [owes, io14, N14, b14, ct, c7, lev, hk2, hw]
    refine ⟨⟨3, hf, by omega, by omega⟩, rfl, fun j ρ => ∃ o3 o4 o5, ρ = [some (SV.val f), some (SV.val (.int 0)), some (SV.own (.lst ((((lv f [] 0).take j).flatMap nmT).map tkD))), o3, o4, o5], ⟨none, none, none, by simp⟩, fun _ _ _ => trivial, ?_, ?_⟩
    · rintro j ρ d ⟨o3, o4, o5, rfl⟩ hd
      have hd : (lv f [] 0)[j]? = some d := hd
      have hm := List.mem_of_getElem? hd
      obtain ⟨q, g, l', rfl, ⟨m, hm⟩, h1, h2⟩ := lv_tri hf (by omega) d hm
      have hle : ∀ t, t ∈ (lv f [] 0).take (j + 1) → (nmT t).length ≤ 9 := fun t ht => by
        obtain ⟨q, g, l', rfl, ⟨m, hm⟩, h1, h2⟩ := lv_tri hf (by omega) t (List.mem_of_mem_take ht)
        exact askN_len hm
      have hle := flat_len hle
      have h3 : ((lv f [] 0).take (j + 1)).length ≤ 1000 := by
        have := List.length_take_le' (j + 1) (lv f [] 0)
        rw [lv_len] at this
        omega
      rw [flat_s hd, List.length_append] at hle
      have e : nmT (tri q g l') = askN g l' := rfl
      rw [e] at hle
      simp [tri, ct, c13, lk, lev]
      refine ⟨⟨m, hm⟩, ?_, ?_⟩
      · have e2 : (((lv f [] 0).take j).flatMap nmT).length = (List.take j (List.map (fun a => (nmT a).length) (lv f [] 0))).sum := by rw [List.length_flatMap, List.map_take]
        omega
      · rw [flat_s hd, e]; simp
    · rintro ρ ⟨o3, o4, o5, rfl⟩
      simp
      refine ⟨nms f, tkns, ⟨Names, by rw [Names_len]; omega, nms_in hf⟩, ⟨fun k hk => Names_fst k (nms_in hf k hk), fun a ha b hb => Names_can a (nms_in hf a ha) b (nms_in hf b hb)⟩, fun ds ns h1 _ h2 h3 h4 => ?_⟩
      simp
      exact hR ds ns h1 ⟨h2, h3, h4⟩
  · exact h.elim
theorem ob21 (hl : lev 21 rs < k + 1) (h : c21 rs R X) : Owe k io21 N21 b21 rs R X := by
  unfold c21 at h; split at h
  · obtain ⟨a, b, cs, rfl, hc, hg, hR⟩ := h
    have hk : 33 < k + 1 := hl
    have hk2 : 31 < k := by omega
    have gin : ∀ k, k ∈ gnms cs → k ∈ Names := fun k hk => by
      unfold gnms at hk
      rcases List.mem_cons.mp hk with rfl | hk
      · exact in2 _ (by simp) _ (by simp)
      · obtain ⟨c, hcm, hk⟩ := List.mem_flatMap.mp hk
        obtain ⟨a, b, t, u, f, rfl, _, _, _, _, hf, _⟩ := hg c hcm
        exact nms_in hf k hk
    simp [owes, io21, N21, b21, G72]
    refine ⟨rfl, fun j ρ => ∃ xs ks o2, ρ = [some (SV.val (.tup [a, b, .tup cs])), some (SV.own (.lst xs)), o2] ∧ xs.length ≤ 1 + 45 * j ∧ xs.map tkn = ks.map some ∧ ∀ k, k ∈ ks ↔ k ∈ gnms (cs.take j), ⟨[.tC [.str "gap", .int 0]], [nm2 "gap" 0], none, rfl, by simp, rfl, by simp [gnms]⟩, fun _ _ _ => trivial, ?_, ?_⟩
    · rintro j ρ d ⟨xs, ks, o2, rfl, h1, h2, h3⟩ hd
      have hd : cs[j]? = some d := hd
      have hm := List.mem_of_getElem? hd
      have hj := (List.getElem?_eq_some_iff.mp hd).1
      obtain ⟨a', b', t, u, f, rfl, _, _, _, _, hf, hw⟩ := hg d hm
      have hw2 : wd f ≤ 1000 := by omega
      simp [ct, c15, lev, hk2, hw2, hf]
      intro ds ns h4 h5
      have h6 := Sorted_len (nms_in hf) h5
      have h7 : ds.length = ns.length := by have := congrArg List.length h4; simpa using this
      refine ⟨by omega, by omega, ks ++ ns, by simp [h2, h4], fun k => ?_⟩
      have e : gnms (cs.take (j + 1)) = gnms (cs.take j) ++ nms f := by
        unfold gnms
        rw [flat_s hd]
        rfl
      rw [e, List.mem_append, List.mem_append, h3, h5.2.1]
    · rintro ρ ⟨xs, ks, o2, rfl, h1, h2, h3⟩
      have e : List.take cs.length cs = cs := List.take_length
      simp [e] at h3
      simp
      refine ⟨ks, h2, ⟨Names, by rw [Names_len]; omega, fun k hk => gin k ((h3 k).mp hk)⟩, ⟨fun k hk => Names_fst k (gin k ((h3 k).mp hk)), fun a ha b hb => Names_can a (gin a ((h3 a).mp ha)) b (gin b ((h3 b).mp hb))⟩, fun ds ns g1 _ g2 g3 g4 => ?_⟩
      simp
      exact hR ds ns g1 ⟨g2, fun k => (g3 k).trans (h3 k), g4⟩
  · exact h.elim
end
end P72
set_option linter.all false
set_option autoImplicit false
set_option maxRecDepth 20000
set_option maxHeartbeats 8000000
set_option Elab.async false
namespace P72
open PySem EV L2 A72
/-- the keys of a dict -/
def KS (kvs : List (List Key × D)) (Q : List Key → Prop) : Prop := (kvs.map (·.1)).Nodup ∧ ∀ k, k ∈ kvs.map (·.1) ↔ Q k
theorem KS.put {kvs : List (List Key × D)} {Q Q' : List Key → Prop} {k : List Key} {v : D} (h : KS kvs Q) (e : ∀ x, Q' x ↔ (Q x ∨ x = k)) : KS (putA kvs k v) Q' := by
  unfold putA
  split
  · rename_i ha
    obtain ⟨p, hp, hk⟩ := List.any_eq_true.mp ha
    have hk := of_decide_eq_true hk
    have em : (kvs.map fun p => if p.1 = k then (p.1, v) else p).map (·.1) = kvs.map (·.1) := by
      rw [List.map_map]
      refine List.map_congr_left fun p _ => ?_
      simp only [Function.comp]
      split <;> rfl
    refine ⟨by rw [em]; exact h.1, fun x => ?_⟩
    rw [em, h.2, e]
    constructor
    · exact .inl
    · rintro (h1 | h1)
      · exact h1
      · rw [h1, ← hk]; exact (h.2 _).mp (List.mem_map_of_mem hp)
  · rename_i ha
    have hn : k ∉ kvs.map (·.1) := fun hm => by
      obtain ⟨p, hp, hk⟩ := List.mem_map.mp hm
      exact ha (List.any_eq_true.mpr ⟨p, hp, decide_eq_true hk⟩)
    refine ⟨?_, fun x => ?_⟩
    · rw [List.map_append]
      refine List.nodup_append.mpr ⟨h.1, by simp, fun a hm b hb => ?_⟩
      simp at hb
      subst hb
      exact fun e => hn (e ▸ hm)
    · rw [List.map_append, List.mem_append, h.2, e]
      simp
theorem KS.len {kvs : List (List Key × D)} {Q : List Key → Prop} (h : KS kvs Q) (hQ : ∀ k, Q k → k ∈ Names) : kvs.length ≤ 45 := by
  have : (kvs.map (·.1)).length ≤ Names.length := h.1.length_le_of_subset fun k hk => hQ k ((h.2 k).mp hk)
  rw [Names_len, List.length_map] at this
  exact this
theorem KS.iff {kvs : List (List Key × D)} {Q Q' : List Key → Prop} (h : KS kvs Q) (e : ∀ x, Q' x ↔ Q x) : KS kvs Q' := ⟨h.1, fun k => (h.2 k).trans (e k).symm⟩
section
variable {k : Nat} {rs : List RV} {R : RV → List Ow → Prop} {X : Nat → List D → Prop} {S : SPX} {K : EK}
theorem loop2 {W : List Str} {kvs : List (List Key × D)} {Q : List Key → Prop} {l : Int} {a0 a2 a3 a4 a6 : Option SV} {st : EV.Env → Prop} (hst : ∀ ρ, st ρ) (hK : KS kvs Q) (hQ : ∀ k, Q k → k ∈ Names) (hW : ∀ w, w ∈ W → nm2 w l ∈ Names)
    (nx : ∀ kvs' o6, KS kvs' (fun k => Q k ∨ ∃ w, w ∈ W ∧ k = nm2 w l) → K.nx [a0, some (.own (.dT kvs')), a2, a3, a4, some (.val (.int l)), o6]) :
    frB S G72 (.nm 6) (.cons (.put 1 (.tup (.cons (.var 6) (.cons (.var 5) .nil))) (.cst (.bl true))) .nil) ⟨W.map .str, st, true⟩ [a0, some (.own (.dT kvs)), a2, a3, a4, some (.val (.int l)), a6] K := by
  refine ⟨rfl, fun j ρ => ∃ kvs' o6, ρ = [a0, some (.own (.dT kvs')), a2, a3, a4, some (.val (.int l)), o6] ∧ KS kvs' (fun k => Q k ∨ ∃ w, w ∈ W.take j ∧ k = nm2 w l), ⟨kvs, a6, rfl, hK.iff fun x => by simp⟩, fun _ _ _ => hst _, ?_, ?_⟩
  · rintro j ρ d ⟨kvs', o6, rfl, h1⟩ hd
    obtain ⟨w, hw, rfl⟩ : ∃ w, W[j]? = some w ∧ D.str w = d := by simpa using hd
    have hl := h1.len fun k hk => by
      rcases hk with hk | ⟨w, hw, rfl⟩
      · exact hQ k hk
      · exact hW w (List.mem_of_mem_take hw)
    simp
    refine ⟨by omega, h1.put fun x => ?_⟩
    rw [take_s hw]
    constructor
    · rintro (h | ⟨w', h, rfl⟩)
      · exact .inl (.inl h)
      · rcases List.mem_append.mp h with h | h
        · exact .inl (.inr ⟨w', h, rfl⟩)
        · simp at h; subst h; exact .inr rfl
    · rintro ((h | ⟨w', h, rfl⟩) | rfl)
      · exact .inl h
      · exact .inr ⟨w', by simp [h], rfl⟩
      · exact .inr ⟨w, by simp, rfl⟩
  · rintro ρ ⟨kvs', o6, rfl, h1⟩
    have e : List.take (List.map D.str W).length W = W := List.take_of_length_le (by simp)
    simp only [e] at h1
    exact nx _ _ h1
theorem loop3 {W : List Str} {y : Str} {g : List D} {kvs : List (List Key × D)} {Q : List Key → Prop} {l : Int} {a0 a2 a3 a6 : Option SV} {st : EV.Env → Prop} (hst : ∀ ρ, st ρ) (hg : g[1]? = some (.str y)) (hK : KS kvs Q) (hQ : ∀ k, Q k → k ∈ Names) (hW : ∀ w, w ∈ W → nm3 w y l ∈ Names)
    (nx : ∀ kvs' o6, KS kvs' (fun k => Q k ∨ ∃ w, w ∈ W ∧ k = nm3 w y l) → K.nx [a0, some (.own (.dT kvs')), a2, a3, some (.val (.tup g)), some (.val (.int l)), o6]) :
    frB S G72 (.nm 6) (.cons (.put 1 (.tup (.cons (.var 6) (.cons (.idx (.var 4) (.cst (.int 1))) (.cons (.var 5) .nil)))) (.cst (.bl true))) .nil) ⟨W.map .str, st, true⟩ [a0, some (.own (.dT kvs)), a2, a3, some (.val (.tup g)), some (.val (.int l)), a6] K := by
  refine ⟨rfl, fun j ρ => ∃ kvs' o6, ρ = [a0, some (.own (.dT kvs')), a2, a3, some (.val (.tup g)), some (.val (.int l)), o6] ∧ KS kvs' (fun k => Q k ∨ ∃ w, w ∈ W.take j ∧ k = nm3 w y l), ⟨kvs, a6, rfl, hK.iff fun x => by simp⟩, fun _ _ _ => hst _, ?_, ?_⟩
  · rintro j ρ d ⟨kvs', o6, rfl, h1⟩ hd
    obtain ⟨w, hw, rfl⟩ : ∃ w, W[j]? = some w ∧ D.str w = d := by simpa using hd
    have hl := h1.len fun k hk => by
      rcases hk with hk | ⟨w, hw, rfl⟩
      · exact hQ k hk
      · exact hW w (List.mem_of_mem_take hw)
    simp [hg]
    refine ⟨by omega, h1.put fun x => ?_⟩
    rw [take_s hw]
    constructor
    · rintro (h | ⟨w', h, rfl⟩)
      · exact .inl (.inl h)
      · rcases List.mem_append.mp h with h | h
        · exact .inl (.inr ⟨w', h, rfl⟩)
        · simp at h; subst h; exact .inr rfl
    · rintro ((h | ⟨w', h, rfl⟩) | rfl)
      · exact .inl h
      · exact .inr ⟨w', by simp [h], rfl⟩
      · exact .inr ⟨w, by simp, rfl⟩
  · rintro ρ ⟨kvs', o6, rfl, h1⟩
    have e : List.take (List.map D.str W).length W = W := List.take_of_length_le (by simp)
    simp only [e] at h1
    exact nx _ _ h1
theorem w_1 : Txt.words ("axis rule gap rise fall" : Str) = (["axis", "rule", "gap", "rise", "fall"] : List Str) := by decide +kernel
theorem w_2 : Txt.words ("rule gap" : Str) = (["rule", "gap"] : List Str) := by decide +kernel
theorem w_3 : Txt.words ("rise" : Str) = (["rise"] : List Str) := by decide +kernel
theorem w_4 : Txt.words ("fall" : Str) = (["fall"] : List Str) := by decide +kernel
theorem w_5 : Txt.words ("rise fall" : Str) = (["rise", "fall"] : List Str) := by decide +kernel
theorem w_6 : Txt.words ("fall gap" : Str) = (["fall", "gap"] : List Str) := by decide +kernel
theorem w_7 : Txt.words ("rise gap" : Str) = (["rise", "gap"] : List Str) := by decide +kernel
theorem w_8 : Txt.words ("rise fall gap" : Str) = (["rise", "fall", "gap"] : List Str) := by decide +kernel
theorem w_9 : Txt.words ("axis rule gap" : Str) = (["axis", "rule", "gap"] : List Str) := by decide +kernel
theorem ls : ("axis rule gap rise fall" : Str).length = 23 ∧ ("rule gap" : Str).length = 8 ∧ ("rise" : Str).length = 4 ∧ ("fall" : Str).length = 4 ∧ ("rise fall" : Str).length = 9 ∧ ("fall gap" : Str).length = 8 ∧ ("rise gap" : Str).length = 8 ∧ ("rise fall gap" : Str).length = 13 ∧ ("axis rule gap" : Str).length = 13 := by decide +kernel
abbrev AKS : List (Key × D) := [(Sum.inr "over", D.str "axis rule gap rise fall"), (Sum.inr "root", D.str "rule gap"), (Sum.inr "fence", D.str "rule gap"), (Sum.inr "bar", D.str "rule gap"), (Sum.inr "high", D.str "rise"), (Sum.inr "low", D.str "fall"), (Sum.inr "both", D.str "rise fall"), (Sum.inr "under", D.str "fall gap"),
  (Sum.inr "upper", D.str "rise gap"), (Sum.inr "limits", D.str "rise fall gap"), (Sum.inr "table", D.str "axis rule gap")]
theorem ob31 (hl : lev 31 rs < k + 1) (h : c31 rs R X) : Owe k io31 N31 b31 rs R X := by
  unfold c31 at h; split at h
  · rename_i f
    obtain ⟨⟨hf, hw⟩, hR⟩ := h
    have hk : 30 < k + 1 := hl
    have hd := hf.dp
    have hk2 : 5 + dp f < k := by omega
    obtain ⟨l1, l2, l3, l4, l5, l6, l7, l8, l9⟩ := ls
    simp [owes, io31, N31, b31, ct, c30, lev, hk2, hw]
    simp [Ow.d, kD, pairsK, mergeA, putA]
    refine ⟨hk2, ⟨3, hf, by omega, by omega⟩, hw, rfl, fun j ρ => ∃ kvs o3 o4 o5 o6, ρ = [some (SV.val f), some (SV.own (Ow.dT kvs)), some (SV.own (Ow.dK AKS)), o3, o4, o5, o6] ∧ KS kvs (fun k => k ∈ ((lv f [] 0).take j).flatMap nmT), ⟨[], none, none, none, none, rfl, by simp [KS]⟩, fun _ _ _ => trivial, ?_, ?_⟩
    · rintro j ρ d ⟨kvs, o3, o4, o5, o6, rfl, hK⟩ hd
      have hd : (lv f [] 0)[j]? = some d := hd
      have hm := List.mem_of_getElem? hd
      obtain ⟨q, g, l', rfl, ⟨m, hg⟩, h1, h2⟩ := lv_tri hf (by omega) d hm
      have hQ : ∀ k, k ∈ ((lv f [] 0).take j).flatMap nmT → k ∈ Names := fun k hk => by
        obtain ⟨t, ht, hk⟩ := List.mem_flatMap.mp hk
        exact nms_in hf k (List.mem_flatMap.mpr ⟨t, List.mem_of_mem_take ht, hk⟩)
      have hA : ∀ k, k ∈ askN g l' → k ∈ Names := fun k hk => askN_in hg h1 (by omega) k hk
      have fin : ∀ kvs' (o6 : Option SV), KS kvs' (fun k => k ∈ ((lv f [] 0).take j).flatMap nmT ∨ k ∈ askN g l') → KS kvs' (fun k => ∃ a, a ∈ (lv f [] 0).take (j + 1) ∧ k ∈ nmT a) := fun kvs' o6 h => h.iff fun x => by
        rw [← List.mem_flatMap, flat_s hd, List.mem_append]
        exact Iff.rfl
      have sgn : ∀ {w y : Str} {r : List D}, g = .tup (.str w :: .str y :: r) → signed g = some y → ∀ z, z ∈ (["wide", "high", "deep"] : List Str) → nm3 z y l' ∈ Names := fun e1 e2 z hz => hA _ (by
        unfold askN; rw [e2]; simp at hz; rcases hz with rfl | rfl | rfl <;> simp)
      have wdn : ∀ w, w ∈ wds g → nm2 w l' ∈ Names := fun w hw => hA _ (by unfold askN; exact List.mem_append_left _ (List.mem_map_of_mem hw))
      generalize ((lv f [] 0).take j).flatMap nmT = Q0 at hK hQ fin
      have none2 : ∀ kvs', KS kvs' (fun k => k ∈ Q0 ∨ ∃ w, w ∈ ([] : List Str) ∧ k = nm2 w l') → KS kvs' (fun k => k ∈ Q0) := fun kvs' h => h.iff fun x => by simp
      cases hg with
      | @sign _ y h =>
        simp [tri, Ow.d]
        refine loop2 (W := []) (fun _ => trivial) hK hQ (by simp) fun kvs' o6' hK' => ?_
        have hK' := none2 _ hK'
        simp
        refine loop3 (W := ["wide", "high", "deep"]) (fun _ => trivial) rfl hK' hQ (sgn rfl (by simp [signed])) fun kvs' o6' hK' => ?_
        simp
        exact fin kvs' o6' (hK'.iff fun x => by simp [askN, wds, signed])
      | @row _ ps g1 g2 =>
        simp [tri, Ow.d]
        refine loop2 (W := []) (fun _ => trivial) hK hQ (by simp) fun kvs' o6' hK' => ?_
        have hK' := none2 _ hK'
        have hln := hK'.len hQ
        simp
        refine cnd_i (fun e => ?_) fun e => ?_
        · simp at e
          have e' : 1 < ps.length := by omega
          exact ⟨by omega, fin _ o6' (hK'.put fun x => by simp [askN, wds, signed, e', nm2])⟩
        · simp at e
          have e' : ¬ 1 < ps.length := by omega
          exact fin _ o6' (hK'.iff fun x => by simp [askN, wds, signed, e'])
      | over g1 g2 =>
        simp [tri, Ow.d, w_1, w_2, w_3, w_4, w_5, w_6, w_7, w_8, w_9, l1, l2, l3, l4, l5, l6, l7, l8, l9]
        refine loop2 (W := ["axis", "rule", "gap", "rise", "fall"]) (fun _ => trivial) hK hQ (fun w hw => wdn w (by simp [wds]; simpa using hw)) fun kvs' o6' hK' => ?_
        simp
        exact fin kvs' o6' (hK'.iff fun x => by simp [askN, wds, signed])
      | one h g1 =>
        rcases h with rfl | rfl | rfl
        all_goals
          simp [tri, Ow.d, w_1, w_2, w_3, w_4, w_5, w_6, w_7, w_8, w_9, l1, l2, l3, l4, l5, l6, l7, l8, l9]
          refine loop2 (W := ["rule", "gap"]) (fun _ => trivial) hK hQ (fun w hw => wdn w (by simp [wds]; simpa using hw)) fun kvs' o6' hK' => ?_
          simp
          exact fin kvs' o6' (hK'.iff fun x => by simp [askN, wds, signed])
      | two h g0 g1 g2 =>
        rcases h with rfl | rfl
        · simp [tri, Ow.d, w_1, w_2, w_3, w_4, w_5, w_6, w_7, w_8, w_9, l1, l2, l3, l4, l5, l6, l7, l8, l9]
          refine loop2 (W := ["rise"]) (fun _ => trivial) hK hQ (fun w hw => wdn w (by simp [wds]; simpa using hw)) fun kvs' o6' hK' => ?_
          simp
          exact fin kvs' o6' (hK'.iff fun x => by simp [askN, wds, signed])
        · simp [tri, Ow.d, w_1, w_2, w_3, w_4, w_5, w_6, w_7, w_8, w_9, l1, l2, l3, l4, l5, l6, l7, l8, l9]
          refine loop2 (W := ["fall"]) (fun _ => trivial) hK hQ (fun w hw => wdn w (by simp [wds]; simpa using hw)) fun kvs' o6' hK' => ?_
          simp
          exact fin kvs' o6' (hK'.iff fun x => by simp [askN, wds, signed])
      | both g0 g1 g2 g3 =>
        simp [tri, Ow.d, w_1, w_2, w_3, w_4, w_5, w_6, w_7, w_8, w_9, l1, l2, l3, l4, l5, l6, l7, l8, l9]
        refine loop2 (W := ["rise", "fall"]) (fun _ => trivial) hK hQ (fun w hw => wdn w (by simp [wds]; simpa using hw)) fun kvs' o6' hK' => ?_
        simp
        exact fin kvs' o6' (hK'.iff fun x => by simp [askN, wds, signed])
      | @stk _ w y a h g0 g1 =>
        rcases h with rfl | rfl
        · simp [tri, Ow.d, w_1, w_2, w_3, w_4, w_5, w_6, w_7, w_8, w_9, l1, l2, l3, l4, l5, l6, l7, l8, l9]
          refine loop2 (W := ["fall", "gap"]) (fun _ => trivial) hK hQ (fun w hw => wdn w (by simp [wds]; simpa using hw)) fun kvs' o6' hK' => ?_
          simp
          refine loop3 (W := ["wide", "high", "deep"]) (fun _ => trivial) rfl hK' (fun k hk => by
            rcases hk with hk | ⟨w, hw, rfl⟩
            · exact hQ k hk
            · exact wdn w (by simp [wds]; simpa using hw)) (sgn rfl (by simp [signed])) fun kvs' o6' hK' => ?_
          simp
          exact fin kvs' o6' (hK'.iff fun x => by simp [askN, wds, signed, or_assoc])
        · simp [tri, Ow.d, w_1, w_2, w_3, w_4, w_5, w_6, w_7, w_8, w_9, l1, l2, l3, l4, l5, l6, l7, l8, l9]
          refine loop2 (W := ["rise", "gap"]) (fun _ => trivial) hK hQ (fun w hw => wdn w (by simp [wds]; simpa using hw)) fun kvs' o6' hK' => ?_
          simp
          refine loop3 (W := ["wide", "high", "deep"]) (fun _ => trivial) rfl hK' (fun k hk => by
            rcases hk with hk | ⟨w, hw, rfl⟩
            · exact hQ k hk
            · exact wdn w (by simp [wds]; simpa using hw)) (sgn rfl (by simp [signed])) fun kvs' o6' hK' => ?_
          simp
          exact fin kvs' o6' (hK'.iff fun x => by simp [askN, wds, signed, or_assoc])
      | @lim _ y a b g0 g1 g2 =>
        simp [tri, Ow.d, w_1, w_2, w_3, w_4, w_5, w_6, w_7, w_8, w_9, l1, l2, l3, l4, l5, l6, l7, l8, l9]
        refine loop2 (W := ["rise", "fall", "gap"]) (fun _ => trivial) hK hQ (fun w hw => wdn w (by simp [wds]; simpa using hw)) fun kvs' o6' hK' => ?_
        simp
        refine loop3 (W := ["wide", "high", "deep"]) (fun _ => trivial) rfl hK' (fun k hk => by
          rcases hk with hk | ⟨w, hw, rfl⟩
          · exact hQ k hk
          · exact wdn w (by simp [wds]; simpa using hw)) (sgn rfl (by simp [signed])) fun kvs' o6' hK' => ?_
        simp
        exact fin kvs' o6' (hK'.iff fun x => by simp [askN, wds, signed, or_assoc])
      | @tab _ c rows g0 g1 g2 g3 =>
        obtain ⟨r0, rows', rfl⟩ : ∃ r q, rows = r :: q := by cases rows with
          | nil => exact absurd rfl g0
          | cons r q => exact ⟨_, _, rfl⟩
        simp [tri, Ow.d, w_1, w_2, w_3, w_4, w_5, w_6, w_7, w_8, w_9, l1, l2, l3, l4, l5, l6, l7, l8, l9]
        have hw3 : ∀ w : Str, w ∈ (["axis", "rule", "gap"] : List Str) → nm2 w l' ∈ Names := fun w hw => wdn w (by simp [wds]; simp at hw; rcases hw with rfl | rfl | rfl <;> simp)
        refine loop2 (W := ["axis", "rule", "gap"]) (fun _ => trivial) hK hQ hw3 fun kvs' o6' hK' => ?_
        have hln := hK'.len (fun k hk => by
          rcases hk with hk | ⟨w, hw, rfl⟩
          · exact hQ k hk
          · exact hw3 w hw)
        simp
        refine cnd_i (fun e => ?_) fun e => ?_
        · simp at e
          obtain ⟨x, y, q, rfl⟩ : ∃ x y q, r0 = x :: y :: q := by match r0, e with
            | x :: y :: q, _ => exact ⟨_, _, _, rfl⟩
          exact ⟨by omega, fin _ o6' (hK'.put fun x => by simp [askN, wds, signed, nm2, or_assoc])⟩
        · simp at e
          refine fin _ o6' (hK'.iff fun x => ?_)
          match r0, e with
          | [], _ => simp [askN, wds, signed]
          | [x], _ => simp [askN, wds, signed]
    · rintro ρ ⟨kvs, o3, o4, o5, o6, rfl, hK⟩
      have e : List.take (lv f [] 0).length (lv f [] 0) = lv f [] 0 := List.take_length
      simp only [e] at hK
      have hK : KS kvs (fun k => k ∈ nms f) := hK
      simp [Ow.d]
      refine ⟨⟨fun k hk => Names_fst k (nms_in hf k ((hK.2 k).mp hk)), fun a ha b hb => Names_can a (nms_in hf a ((hK.2 a).mp ha)) b (nms_in hf b ((hK.2 b).mp hb))⟩, fun ns g1 g2 => ?_⟩
      simp
      exact hR ns ⟨g1.nodup_iff.mpr hK.1, fun k => (g1.mem_iff).trans (hK.2 k), g2⟩
  · exact h.elim
end
end P72
set_option linter.all false
set_option autoImplicit false
set_option maxRecDepth 20000
set_option maxHeartbeats 8000000
set_option Elab.async false
namespace EV
open PySem L2
def uC (o : Option Ow) (d : D) (F : Ow → Prop) : Prop := ∃ kvs ks vs, o = some (.dT kvs) ∧ d = .dT ks vs ∧ HashOk kvs ks ∧ kvs.length + ks.length ≤ lim ∧ F (.dT (mergeA kvs (ks.zip vs)))
def uCZ (o : Option Ow) (d : D) (F : Ow → Prop) (_z : Fz (F) := .mk) : Prop := uC o d F
@[simp low] theorem uCZ_o {o : Option Ow} {d : D} {F : Ow → Prop} : uCZ o d F = uC o d F := rfl
@[simp] theorem uC_T {kvs : List (List Key × D)} {ks : List (List Key)} {vs : List D} {F : Ow → Prop} : uC (some (.dT kvs)) (.dT ks vs) F = (HashOk kvs ks ∧ kvs.length + ks.length ≤ lim ∧ F (.dT (mergeA kvs (ks.zip vs)))) :=
  propext ⟨fun ⟨_, _, _, e1, e2, h1, h2, h3⟩ => by cases e1; cases e2; exact ⟨h1, h2, h3⟩, fun ⟨h1, h2, h3⟩ => ⟨_, _, _, rfl, rfl, h1, h2, h3⟩⟩
@[simp] theorem uC_T_z {kvs : List (List Key × D)} {ks : List (List Key)} {vs : List D} {F : Ow → Prop} : uCZ (some (.dT kvs)) (.dT ks vs) F = (HashOk kvs ks ∧ kvs.length + ks.length ≤ lim ∧ F (.dT (mergeA kvs (ks.zip vs)))) := uC_T
@[simp ↓] theorem sx_upd {S : SPX} {G : Str → Option D} {ρ : Env} {K : EK} {i : Nat} {e : E} : sx S G (.upd i e) ρ K = ((∃ kvs0, ow? (get ρ i) = some (.dT kvs0)) ∧ vx S G e ρ (fun r ρ1 => uCZ (ow? (get ρ1 i)) r.d fun o => K.nx (put ρ1 i (setOw (get ρ1 i) o))) K.ex) := by
  unfold sx wS updW vx uCZ uC; rfl
end EV
namespace P72
open PySem EV L2 A72
theorem KS.merge {more : List (List Key × D)} : ∀ {kvs : List (List Key × D)} {Q Q' : List Key → Prop}, KS kvs Q → (∀ x, Q' x ↔ (Q x ∨ x ∈ more.map (·.1))) → KS (mergeA kvs more) Q' := by
  induction more with
  | nil => intro kvs Q Q' h e; exact h.iff fun x => by simpa using e x
  | cons p r ih =>
    intro kvs Q Q' h e
    show KS (mergeA (putA kvs p.1 p.2) r) Q'
    refine ih (h.put (Q' := fun x => Q x ∨ x = p.1) fun x => Iff.rfl) fun x => ?_
    rw [e]
    simp [or_assoc]
theorem zip_m {α β : Type} : ∀ {m : List (α × β)}, (m.map (·.1)).zip (m.map (·.2)) = m
  | [] => rfl
  | a :: l => by simp [zip_m]
section
variable {k : Nat} {rs : List RV} {R : RV → List Ow → Prop} {X : Nat → List D → Prop} {S : SPX} {K : EK}
theorem pairsT_m {ns : List (List Key)} {v : D} : pairsT (ns.map fun k => .tup [tkD k, v]) = some (ns.map fun k => (k, v)) := by
  induction ns with
  | nil => rfl
  | cons a l ih =>
    have : (tkD a).tkey = some a := keys_kD
    simp [pairsT, ih, this]
theorem ob33 (hl : lev 33 rs < k + 1) (h : c33 rs R X) : Owe k io33 N33 b33 rs R X := by
  unfold c33 at h; split at h
  · obtain ⟨a, b, cs, rfl, hc, hg, hR⟩ := h
    have hk : 33 < k + 1 := hl
    have hk2 : 30 < k := by omega
    have gin : ∀ k, k ∈ gnms cs → k ∈ Names := fun k hk => by
      unfold gnms at hk
      rcases List.mem_cons.mp hk with rfl | hk
      · exact in2 _ (by simp) _ (by simp)
      · obtain ⟨c, hcm, hk⟩ := List.mem_flatMap.mp hk
        obtain ⟨a, b, t, u, f, rfl, _, _, _, _, hf, _⟩ := hg c hcm
        exact nms_in hf k hk
    simp [owes, io33, N33, b33, G72]
    refine ⟨rfl, fun j ρ => ∃ kvs o2 o3, ρ = [some (SV.val (.tup [a, b, .tup cs])), some (SV.own (.dT kvs)), o2, o3] ∧ kvs ≠ [] ∧ KS kvs (fun k => k ∈ gnms (cs.take j)), ⟨[([.inr "gap", .inl 0], .bl true)], none, none, rfl, by simp, by simp [KS, gnms, nm2]⟩, fun _ _ _ => trivial, ?_, ?_⟩
    · rintro j ρ d ⟨kvs, o2, o3, rfl, h0, h3⟩ hd
      have hd : cs[j]? = some d := hd
      have hm := List.mem_of_getElem? hd
      obtain ⟨a', b', t, u, f, rfl, _, _, _, _, hf, hw⟩ := hg d hm
      have hw2 : wd f ≤ 1000 := by omega
      have hlk := h3.len fun k hk => gin k (by
        unfold gnms at hk ⊢
        rcases List.mem_cons.mp hk with rfl | hk
        · exact List.mem_cons_self
        · obtain ⟨c, h1, h2⟩ := List.mem_flatMap.mp hk
          exact List.mem_cons_of_mem _ (List.mem_flatMap.mpr ⟨c, List.mem_of_mem_take h1, h2⟩))
      simp [ct, c31, lev, hk2, hw2, hf]
      intro ns h5
      have h6 := Sorted_len (nms_in hf) h5
      refine cm_map (fun d => .tup [d, .bl true]) (by simp; omega) (by simp) (fun d hd A hA => ?_) ?_
      · simp
        simpa using hA
      · have e : (ns.map tkD).map (fun d => D.tup [d, .bl true]) = ns.map fun k => .tup [tkD k, .bl true] := by rw [List.map_map]; rfl
        simp only [e]
        simp [pairsT_m, Ow.d]
        have hm : KS (mergeA [] (ns.map fun k => (k, D.bl true))) (fun k => k ∈ ns) := KS.merge (Q := fun _ => False) ⟨by simp, by simp⟩ fun x => by simp
        have hlm := hm.len fun k hk => nms_in hf k ((h5.2.1 k).mp hk)
        rw [zip_m]
        refine ⟨.inl h0, by omega, ?_, h3.merge fun x => ?_⟩
        · intro e
          have hne : ∀ (m kvs : List (List Key × D)), kvs ≠ [] → mergeA kvs m ≠ [] := by
            intro m
            induction m with
            | nil => intro kvs h; exact h
            | cons p r ih =>
              intro kvs h
              refine ih (putA kvs p.1 p.2) ?_
              unfold putA
              split
              · simpa using h
              · simp
          exact hne _ _ h0 e
        · have e : gnms (cs.take (j + 1)) = gnms (cs.take j) ++ nms f := by
            unfold gnms
            rw [flat_s hd]
            rfl
          rw [e, List.mem_append, hm.2]
          show _ ↔ _ ∨ x ∈ ns
          rw [h5.2.1]
    · rintro ρ ⟨kvs, o2, o3, rfl, h0, h3⟩
      have e : List.take cs.length cs = cs := List.take_length
      simp only [e] at h3
      simp [Ow.d]
      refine ⟨⟨fun k hk => Names_fst k (gin k ((h3.2 k).mp hk)), fun a ha b hb => Names_can a (gin a ((h3.2 a).mp ha)) b (gin b ((h3.2 b).mp hb))⟩, fun ns g1 g2 => ?_⟩
      simp
      exact hR ns ⟨g1.nodup_iff.mpr h3.1, fun k => (g1.mem_iff).trans (h3.2 k), g2⟩
  · exact h.elim
end
end P72
set_option linter.all false
set_option autoImplicit false
set_option maxRecDepth 20000
set_option maxHeartbeats 8000000
set_option Elab.async false
set_option exponentiation.threshold 10000
namespace P72
open PySem EV L2 A72
section
variable {k : Nat} {rs : List RV} {R : RV → List Ow → Prop} {X : Nat → List D → Prop} {S : SPX} {K : EK}
theorem mulR {i j : Int} (h : -1000000000000 ≤ j) (h2 : j ≤ 1000000000000) : MulOk i j := .inl (.inr (by
  have : (2 : Nat) ^ 64 = 18446744073709551616 := by decide
  omega))
theorem mulL {i j : Int} (h : -1000000000000 ≤ i) (h2 : i ≤ 1000000000000) : MulOk i j := .inl (.inl (by
  have : (2 : Nat) ^ 64 = 18446744073709551616 := by decide
  omega))
theorem log_ok {b : Int} (h : 0 < b) (h2 : b ≤ 1000000) : b.natAbs.log2 < 9000 := by
  have : b.natAbs < 2 ^ 9000 := Nat.lt_of_lt_of_le (m := 2 ^ 20) (by omega) (Nat.pow_le_pow_right (by decide) (by decide))
  exact (Nat.log2_lt (by omega)).mpr this
theorem at_mod {cs : List Int} {p : Int} (hc : cs ≠ []) (hp : 0 ≤ p) : ∃ c, c ∈ cs ∧ atD (cs.map D.int) (p % cs.length) = some (.int c) := by
  have hcp : 0 < cs.length := List.length_pos_iff.mpr hc
  have h1 := Int.emod_nonneg p (show (cs.length : Int) ≠ 0 by omega)
  have h2 := Int.emod_lt_of_pos p (show (0 : Int) < cs.length by omega)
  obtain ⟨i, hi⟩ : ∃ i : Nat, p % cs.length = i := ⟨(p % cs.length).toNat, by omega⟩
  rw [hi, atD_nat]
  have hl : i < cs.length := by omega
  exact ⟨cs[i], List.getElem_mem _, by simp [hl]⟩
theorem ob23 (hl : lev 23 rs < k + 1) (h : c23 rs R X) : Owe k io23 N23 b23 rs R X := by
  unfold c23 at h; split at h
  · rename_i kvs b
    obtain ⟨B, ⟨l, s, p, cs, rfl, hp0, hp1, hc, hs0, hs1, hcl⟩, hB, ⟨hb0, hb1⟩, hR⟩ := h
    simp [owes, io23, N23, b23, Ow.d, putA]
    refine cnd_i (fun e => ?_) fun e => ?_
    · simp [hb0, log_ok hb0 (by omega)]
      refine hR _ _ (Int.emod_nonneg _ (by omega)) (Int.emod_lt_of_pos _ hb0) ⟨_, s, p, cs, rfl, hp0, by omega, hc, hs0, hs1, hcl⟩
    · obtain ⟨c, hcm, hat⟩ := at_mod (p := p) hc hp0
      have m1 : EV.MulOk 40503 p := mulR (by omega) (by omega)
      have m2 : EV.MulOk (40503 * p) p := mulR (by omega) (by omega)
      have m3 : EV.MulOk 2 p := mulR (by omega) (by omega)
      have m4 : EV.MulOk c (2 * p + 3) := mulR (by omega) (by omega)
      have m5 : ∀ x y : Int, EV.MulOk (x % 2147483647) y := fun x y => by
        have := Int.emod_nonneg x (show (2147483647 : Int) ≠ 0 by omega)
        have := Int.emod_lt_of_pos x (show (0 : Int) < 2147483647 by omega)
        exact mulL (by omega) (by omega)
      have m6 : ∀ x y : Int, EV.MulOk (x % 2147483629) y := fun x y => by
        have := Int.emod_nonneg x (show (2147483629 : Int) ≠ 0 by omega)
        have := Int.emod_lt_of_pos x (show (0 : Int) < 2147483629 by omega)
        exact mulL (by omega) (by omega)
      have m7 : EV.MulOk 69621 p := mulR (by omega) (by omega)
      have lg : (11 : Int).natAbs.log2 < 9000 := log_ok (by omega) (by omega)
      have hcp : 0 < cs.length := List.length_pos_iff.mpr hc
      simp [m1, m2, m3, hat, m4, m5, m6, m7, lg, hb0, hcp, Ow.d]
      refine ⟨lg, hR _ _ (Int.emod_nonneg _ (by omega)) (Int.emod_lt_of_pos _ hb0) ⟨_, s, p + 1, cs, rfl, by omega, by omega, hc, hs0, hs1, hcl⟩⟩
  · exact h.elim
theorem ob24 (hl : lev 24 rs < k + 1) (h : c24 rs R X) : Owe k io24 N24 b24 rs R X := by
  unfold c24 at h; split at h
  · rename_i kvs xs
    obtain ⟨B, hM, hB, ⟨hx, hxl⟩, hR⟩ := h
    have lk : 0 < k := by have : 1 < k + 1 := hl; omega
    have hxp : 0 < xs.length := List.length_pos_iff.mpr hx
    simp [owes, io24, N24, b24, ct, c23, lev, lk]
    refine ⟨B, hM, hB, ⟨hxp, by omega⟩, fun r kvs' h1 h2 hM' => ?_⟩
    obtain ⟨i, rfl⟩ : ∃ i : Nat, r = i := ⟨r.toNat, by omega⟩
    have hi : i < xs.length := by omega
    simp [hi]
    exact hR _ _ (List.getElem_mem _) hM'
  · exact h.elim
theorem ob25 (hl : lev 25 rs < k + 1) (h : c25 rs R X) : Owe k io25 N25 b25 rs R X := by
  unfold c25 at h; split at h
  · obtain ⟨⟨⟨a1, a2, a3, a4⟩, b1, b2, b3, b4⟩, hR⟩ := h
    simp at a4 b4
    simp [owes, io25, N25, b25, a1, a2, a3, a4, b1, b2, b3, b4]
    exact hR
  · exact h.elim
theorem ob27 (hl : lev 27 rs < k + 1) (h : c27 rs R X) : Owe k io27 N27 b27 rs R X := by
  unfold c27 at h; split at h
  · obtain ⟨ls, rfl, hl, hR⟩ := h
    simp [owes, io27, N27, b27]
    refine ⟨rfl, fun j ρ => ∃ o2, ρ = [some (SV.val (.lst (ls.map .lst))), some (SV.own (.lst (ls.take j).flatten)), o2], ⟨none, by simp⟩, fun _ _ _ => trivial, ?_, ?_⟩
    · rintro j ρ d ⟨o2, rfl⟩ hd
      obtain ⟨x, h1, rfl⟩ : ∃ x, ls[j]? = some x ∧ D.lst x = d := by simpa using hd
      have e : (ls.take (j + 1)).flatten = (ls.take j).flatten ++ x := by rw [take_s h1]; simp
      have hle : (ls.take (j + 1)).flatten.length ≤ ls.flatten.length := by
        conv => rhs; rw [← List.take_append_drop (j + 1) ls, List.flatten_append]
        simp
      rw [e, List.length_append] at hle
      simp
      refine ⟨?_, e.symm⟩
      have e2 : ((ls.take j).flatten).length = (List.take j (List.map List.length ls)).sum := by rw [List.length_flatten, List.map_take]
      omega
    · rintro ρ ⟨o2, rfl⟩
      simp
      have e : List.take ls.length ls = ls := List.take_length
      simpa [e] using hR
  · exact h.elim
theorem cut_hi {xs : List D} {k : Int} (h : 0 ≤ k) : cutD xs none (some k) = xs.take k.toNat := by
  obtain ⟨i, rfl⟩ : ∃ i : Nat, k = i := ⟨k.toNat, by omega⟩
  unfold cutD HT.sIx
  have hn : ¬ (i : Int) < 0 := by omega
  simp only [if_neg hn, Int.toNat_natCast, Nat.sub_zero, List.drop_zero]
  by_cases hi : i ≤ xs.length
  · rw [Nat.min_eq_left hi]
  · rw [Nat.min_eq_right (by omega), List.take_length, List.take_of_length_le (by omega)]
theorem cut_lo {xs : List D} {k : Int} (h : 0 ≤ k) : cutD xs (some k) none = xs.drop k.toNat := by
  obtain ⟨i, rfl⟩ : ∃ i : Nat, k = i := ⟨k.toNat, by omega⟩
  unfold cutD HT.sIx
  have hn : ¬ (i : Int) < 0 := by omega
  simp only [if_neg hn, Int.toNat_natCast]
  by_cases hi : i ≤ xs.length
  · rw [Nat.min_eq_left hi, List.take_of_length_le (by simp)]
  · rw [Nat.min_eq_right (by omega)]
    simp
    omega
theorem okEq_ints {is : List Int} : (D.lst (is.map .int)).okEq := by
  have h1 : D.plains (is.map .int) = true := by
    induction is with
    | nil => rfl
    | cons a l ih => simp [D.plains, D.plain, ih]
  have h2 : PyData.canLayAll0 (D.pys (is.map .int)) = true := by
    induction is with
    | nil => simp [D.pys, PyData.canLayAll0]
    | cons a l ih => simp [D.plains, D.plain] at h1; simp [D.pys, D.py, PyData.canLayAll0, PyData.canLay0]; exact ih (by simpa [D.plains, D.plain] using h1)
  have h3 : PyData.depthAll (D.pys (is.map .int)) = 0 := by
    clear h1 h2
    induction is with
    | nil => simp [D.pys, PyData.depthAll]
    | cons a l ih => simp [D.pys, D.py, PyData.depthAll, PyData.depth, ih]
  unfold D.okEq SeqAt.shaped
  refine ⟨by simpa [D.plain] using h1, ?_⟩
  simp [D.py, PyData.canLay0, h2, PyData.depth, h3]
theorem okEq_ln : (D.lst []).okEq := okEq_ints (is := [])
theorem eqv_ln {x : D} {xs : List D} : D.eqv (.lst (x :: xs)) (.lst []) = false := rfl
theorem eqv_lnn : D.eqv (.lst []) (.lst []) = true := rfl
theorem ob22 (hl : lev 22 rs < k + 1) (h : c22 rs R X) : Owe k io22 N22 b22 rs R X := by
  unfold c22 at h; split at h
  · rename_i s q
    obtain ⟨⟨ns, rfl, hn⟩, ⟨hk0, hk1⟩, hR⟩ := h
    have m5 : ∀ x : Int, 0 ≤ x → x < 2147483647 → EV.MulOk x 48271 := fun x h1 h2 => mulL (by omega) (by omega)
    have m6 : EV.MulOk 61 q := mulL (by omega) (by omega)
    have p18 : ((0 : Int) ≤ 18 ∧ (18 : Int) ≤ 1000000 ∧ (10 : Int).natAbs < 2 ^ 64) := by decide
    have e1 : (ns.map D.int).drop q.toNat ++ (ns.map D.int).take q.toNat = (ns.drop q.toNat ++ ns.take q.toNat).map D.int := by simp
    have hlen : (ns.drop q.toNat ++ ns.take q.toNat).length ≤ 63 := by simp; omega
    generalize hcs : ns.drop q.toNat ++ ns.take q.toNat = cs at e1 hlen
    have hln : ns.length - q.toNat + min q.toNat ns.length ≤ 16777216 := by omega
    simp [owes, io22, N22, b22, cut_lo hk0, cut_hi hk0]
    refine ⟨by omega, ?_⟩
    have e1' : List.map D.int (List.drop q.toNat ns) ++ List.map D.int (List.take q.toNat ns) = cs.map D.int := by rw [← hcs]; simp
    simp only [e1]
    refine cm_pure (fun d => if 1000000000000000000 ≤ toI d then some d else none) (by simp; omega) (by simp) (fun d hd A hA => ?_) ?_
    · obtain ⟨c, _, rfl⟩ := List.mem_map.mp hd
      simp [toI] at hA ⊢
      refine cnd_i (fun e => ?_) fun e => ?_
      · simp at e; simp [e] at hA; simpa using hA
      · simp at e
        have e' : ¬ (1000000000000000000 : Int) ≤ c := by omega
        simp [e'] at hA; simpa using hA
    · obtain ⟨g, hg, hgl⟩ : ∃ g : List Int, (cs.map D.int).filterMap (fun d => if 1000000000000000000 ≤ toI d then some d else none) = g.map D.int ∧ g.length ≤ 63 := by
        have : ∀ l : List Int, ∃ g : List Int, (l.map D.int).filterMap (fun d => if 1000000000000000000 ≤ toI d then some d else none) = g.map D.int ∧ g.length ≤ l.length := by
          intro l
          induction l with
          | nil => exact ⟨[], rfl, Nat.le_refl _⟩
          | cons a l ih =>
            obtain ⟨g, h1, h2⟩ := ih
            by_cases h : 1000000000000000000 ≤ a
            · exact ⟨a :: g, by rw [List.map_cons, List.filterMap_cons, if_pos (show 1000000000000000000 ≤ toI (.int a) from h), h1]; rfl, by simp; omega⟩
            · exact ⟨g, by rw [List.map_cons, List.filterMap_cons, if_neg (show ¬ 1000000000000000000 ≤ toI (.int a) from h), h1], by simp; omega⟩
        obtain ⟨g, h1, h2⟩ := this cs
        exact ⟨g, h1, by omega⟩
      simp only [hg]
      simp
      refine ⟨rfl, fun j ρ => ∃ s o5, ρ = [some (SV.val (D.lst (List.map D.int ns))), some (SV.val (D.int q)), some (SV.val (.lst (cs.map .int))), some (SV.own (.lst (g.map .int))), some (SV.val (.int s)), o5] ∧ 0 ≤ s ∧ s < 2147483647, ⟨_, none, rfl, by omega, by omega⟩, fun _ _ _ => trivial, ?_, ?_⟩
      · rintro j ρ d ⟨s, o5, rfl, h1, h2⟩ hd
        obtain ⟨c, _, rfl⟩ : ∃ c, cs[j]? = some c ∧ D.int c = d := by simpa using hd
        simp [m5 s h1 h2]
        exact ⟨Int.emod_nonneg _ (by omega), Int.emod_lt_of_pos _ (by omega)⟩
      · rintro ρ ⟨s, o5, rfl, h1, h2⟩
        simp [eqX, okEq_ints, okEq_ln]
        have mk : ∀ l : Int, MOk 0 [(.inr "left", .int l), (.inr "seed", .int s), (.inr "cells", .lst (cs.map D.int ++ [D.int (61 * q + 17)])), (.inr "spot", .int 0)] := fun l => ⟨l, s, 0, cs ++ [61 * q + 17], by simp, by omega, by omega, by simp, h1, h2, by simp; omega⟩
        cases g with
        | nil =>
          simp [eqv_lnn, m6]
          exact ⟨by omega, hR _ (mk 0)⟩
        | cons x g =>
          simp [eqv_ln, m6]
          exact ⟨by omega, hR _ (mk x)⟩
  · exact h.elim
end
end P72
set_option linter.all false
set_option autoImplicit false
set_option maxRecDepth 20000
set_option maxHeartbeats 8000000
set_option Elab.async false
namespace P72
open PySem EV L2 A72
theorem MOk.le {B C : Nat} {kvs : List (Key × D)} (h : MOk B kvs) (hl : B ≤ C) : MOk C kvs := by
  obtain ⟨l, s, p, cs, e, h1, h2, h3⟩ := h
  exact ⟨l, s, p, cs, e, h1, by omega, h3⟩
/-- what comes of a draw at a depth -/
def Fd (e : Int) (f : D) : Prop := Fo (max 1 e.toNat) f ∧ wd f ≤ Bw e
section
variable {k : Nat} {rs : List RV} {R : RV → List Ow → Prop} {X : Nat → List D → Prop} {S : SPX} {K : EK} {P : RP}
theorem cm28 {B n : Nat} {d : Int} {kvs : List (Key × D)} {a2 a3 a4 a5 a6 : Option SV} (hn : n ≤ 10) (hM : MOk B kvs) (hB : B + n * Bd (d - 1) + 100 * d.toNat ≤ 100000) (hd : 0 ≤ d - 1) (hd3 : d - 1 ≤ 3) (hk : 3 + (d - 1).toNat < k)
    (hP : ∀ fs kvs', fs.length = n → (∀ f, f ∈ fs → Fd (d - 1) f) → MOk (B + n * Bd (d - 1)) kvs' → P (.own (.lst fs)) [some (.par 0 (.dK kvs')), some (.val (.int d)), a2, a3, a4, a5, a6, none, none, none]) :
    cmB (EV.upTo lev ct k) G72 [7] (.nm 7) .nil (.call 28 (.cons (.var 0) (.cons (.bin .sub (.var 1) (.cst (.int 1))) .nil)) [true, false]) ⟨rngD 0 n, fun _ => True, true⟩ [some (.par 0 (.dK kvs)), some (.val (.int d)), a2, a3, a4, a5, a6, none, none, none] P := by
  refine ⟨fun j acc ρ => ∃ kvs', ρ = [some (.par 0 (.dK kvs')), some (.val (.int d)), a2, a3, a4, a5, a6, none, none, none] ∧ MOk (B + j * Bd (d - 1)) kvs' ∧ acc.length = j ∧ ∀ f, f ∈ acc → Fd (d - 1) f, ⟨kvs, rfl, by simpa using hM, rfl, by simp⟩, fun _ _ _ _ => trivial, ?_, ?_⟩
  · rintro j acc ρ x ⟨kvs', rfl, h1, h2, h3⟩ hx
    obtain ⟨hj, rfl⟩ := rngD_get hx
    have hle : j * Bd (d - 1) ≤ n * Bd (d - 1) := Nat.mul_le_mul_right _ (by omega)
    have hk' : 3 + (d.toNat - 1) < k := by omega
    simp [ct, c28, lev, hk, hk']
    refine ⟨B + j * Bd (d - 1), h1, by omega, ⟨by omega, by omega⟩, fun f kvs' g1 g2 g3 => ⟨by omega, by rw [Nat.succ_mul, ← Nat.add_assoc]; exact g3, by omega, fun f' hf' => ?_⟩⟩
    rcases hf' with hf' | rfl
    · exact h3 f' hf'
    · exact ⟨by first | exact g1 | (rw [show (d - 1).toNat = d.toNat - 1 by omega]; exact g1) | (rw [show (d - 2).toNat = d.toNat - 2 by omega]; exact g1), g2⟩
  · rintro acc ρ ⟨kvs', rfl, h1, h2, h3⟩
    simp only [rngD_len] at h1 h2
    exact hP acc kvs' h2 h3 h1
theorem cm28t {B n : Nat} {d : Int} {kvs : List (Key × D)} {a2 a3 a4 a5 a6 a7 a8 : Option SV} (hn : n ≤ 10) (hM : MOk B kvs) (hB : B + n * Bd (d - 2) + 100 * d.toNat ≤ 100000) (hd : 0 ≤ d - 2) (hd3 : d - 2 ≤ 3) (hk : 3 + (d - 2).toNat < k)
    (hP : ∀ fs kvs', fs.length = n → (∀ f, f ∈ fs → Fd (d - 2) f) → MOk (B + n * Bd (d - 2)) kvs' → P (.own (.lst fs)) [some (.par 0 (.dK kvs')), some (.val (.int d)), a2, a3, a4, a5, a6, a7, a8, none]) :
    cmB (EV.upTo lev ct k) G72 [9] (.nm 9) .nil (.call 28 (.cons (.var 0) (.cons (.bin .sub (.var 1) (.cst (.int 2))) .nil)) [true, false]) ⟨rngD 0 n, fun _ => True, true⟩ [some (.par 0 (.dK kvs)), some (.val (.int d)), a2, a3, a4, a5, a6, a7, a8, none] P := by
  refine ⟨fun j acc ρ => ∃ kvs', ρ = [some (.par 0 (.dK kvs')), some (.val (.int d)), a2, a3, a4, a5, a6, a7, a8, none] ∧ MOk (B + j * Bd (d - 2)) kvs' ∧ acc.length = j ∧ ∀ f, f ∈ acc → Fd (d - 2) f, ⟨kvs, rfl, by simpa using hM, rfl, by simp⟩, fun _ _ _ _ => trivial, ?_, ?_⟩
  · rintro j acc ρ x ⟨kvs', rfl, h1, h2, h3⟩ hx
    obtain ⟨hj, rfl⟩ := rngD_get hx
    have hle : j * Bd (d - 2) ≤ n * Bd (d - 2) := Nat.mul_le_mul_right _ (by omega)
    have hk' : 3 + (d.toNat - 2) < k := by omega
    simp [ct, c28, lev, hk, hk']
    refine ⟨B + j * Bd (d - 2), h1, by omega, ⟨by omega, by omega⟩, fun f kvs' g1 g2 g3 => ⟨by omega, by rw [Nat.succ_mul, ← Nat.add_assoc]; exact g3, by omega, fun f' hf' => ?_⟩⟩
    rcases hf' with hf' | rfl
    · exact h3 f' hf'
    · exact ⟨by first | exact g1 | (rw [show (d - 1).toNat = d.toNat - 1 by omega]; exact g1) | (rw [show (d - 2).toNat = d.toNat - 2 by omega]; exact g1), g2⟩
  · rintro acc ρ ⟨kvs', rfl, h1, h2, h3⟩
    simp only [rngD_len] at h1 h2
    exact hP acc kvs' h2 h3 h1
theorem ob28 (hl : lev 28 rs < k + 1) (h : c28 rs R X) : Owe k io28 N28 b28 rs R X := by
  unfold c28 at h; split at h
  · rename_i kvs d
    obtain ⟨B, hM, hB, ⟨hd0, hd3⟩, hR⟩ := h
    have hk : 3 + d.toNat < k + 1 := hl
    have lk : 0 < k := by omega
    have lk1 : 1 < k := by omega
    have sgn : ∀ {x : D} {kvs' : List (Key × D)} {C : Nat}, x ∈ ([.str "a", .str "b", .str "sum"] : List D) → MOk C kvs' → C ≤ B + Bd d → R (.val (.tup [.str "sign", x])) [.dK kvs'] := by
      intro x kvs' C hx hM' hC
      have : ∃ y, x = .str y ∧ Sgn y := by
        simp at hx
        rcases hx with rfl | rfl | rfl
        · exact ⟨_, rfl, .inl rfl⟩
        · exact ⟨_, rfl, .inr (.inl rfl)⟩
        · exact ⟨_, rfl, .inr (.inr rfl)⟩
      obtain ⟨y, rfl, hy⟩ := this
      have hF : Fo 1 (.tup [.str "sign", .str y]) := .sign hy
      refine hR _ _ (hF.le (by omega)) ?_ (hM'.le hC)
      rw [wd_eq hF (by omega)]
      simp [partsOf]
      unfold Bw; split <;> (try split) <;> omega
    simp [owes, io28, N28, b28, G72]
    refine cnd_i (fun e => ?_) fun e => ?_
    · simp at e
      simp [ct, c24, lev, lk1]
      refine ⟨B, hM, by omega, fun x kvs' hx hM' => ?_⟩
      exact sgn (by simpa using hx) hM' (by unfold Bd; rw [if_pos e]; exact Nat.le_refl _)
    · simp at e
      have hd1 : Bd d = if d = 2 then 20 else 70 := by unfold Bd; rw [if_neg (by omega)]
      have h20 : 20 ≤ Bd d := by rw [hd1]; split <;> omega
      simp [ct, c23, lev, lk]
      refine ⟨B, hM, by omega, fun r kvs' h1 h2 hM' => cnd_i (fun e2 => ?_) fun e2 => ?_⟩
      · simp [ct, c24, lev, lk1]
        exact ⟨B + 1, hM', by omega, fun x kvs' hx hM' => sgn (by simpa using hx) hM' (by omega)⟩
      · simp [ct, c24, lev, lk1]
        refine ⟨B + 1, hM', by omega, fun x kvs' hx hM' => ?_⟩
        have hx : x ∈ ([.str "row", .str "over", .str "root", .str "high", .str "low", .str "both", .str "stack", .str "fence", .str "bar", .str "table"] : List D) := by simpa using hx
        have F1 : 3 + 3 * Bd (d - 1) ≤ Bd d ∧ 4 + 9 * Bd (d - 2) ≤ Bd d ∧ 1 + 3 * Bw (d - 1) ≤ Bw d ∧ 1 + 9 * Bw (d - 2) ≤ Bw d ∧ 1 ≤ Bw (d - 1) ∧ Bd (d - 1) ≤ 20 ∧ 1 ≤ Bd (d - 1) := by
          have : d = 2 ∨ d = 3 := by omega
          rcases this with rfl | rfl <;> decide
        obtain ⟨f1, f2, f3, f4, f5, f6, f7⟩ := F1
        have hm1 : max 1 d.toNat = max 1 (d - 1).toNat + 1 := by omega
        have fin : ∀ (w : Str) (ps : List D) (kvs' : List (Key × D)), Fo (max 1 (d - 1).toNat + 1) (.tup (.str w :: ps)) → ((partsOf (.tup (.str w :: ps))).map fun x => wd x.2.1).sum ≤ 3 * Bw (d - 1) → MOk (B + Bd d) kvs' → R (.val (.tup (.str w :: ps))) [.dK kvs'] := fun w ps kvs' g1 g2 g3 => by
          refine hR _ _ (by rw [hm1]; exact g1) ?_ g3
          rw [wd_eq g1 (by omega)]
          omega
        have sum : ∀ fs : List D, (∀ f, f ∈ fs → Fd (d - 1) f) → sumW fs ≤ fs.length * Bw (d - 1) := by
          intro fs
          induction fs with
          | nil => intro _; simp
          | cons a l ih =>
            intro h
            have h1 := (h a List.mem_cons_self).2
            have h2 := ih fun f hf => h f (List.mem_cons_of_mem _ hf)
            simp [Nat.succ_mul]
            omega
        have sgb : Fd (d - 1) (.tup [.str "sign", .str "b"]) := by
          have hF : Fo 1 (.tup [.str "sign", .str "b"]) := .sign (.inr (.inl rfl))
          refine ⟨hF.le (by omega), ?_⟩
          rw [wd_eq hF (by omega)]
          simp [partsOf]
          exact f5
        have lt1 : -big ≤ 1 ∧ (1 : Int) < big ∧ -big ≤ 2 ∧ (2 : Int) < big := by decide
        obtain ⟨g1, g2, g3, g4⟩ := lt1
        have go : ∀ {n : Nat} {kvs2 : List (Key × D)} {a2 a3 a4 a5 a6 : Option SV} {P : RP} {C : Nat}, n ≤ 3 → MOk C kvs2 → C + n * Bd (d - 1) ≤ B + Bd d →
            (∀ fs kvs', fs.length = n → (∀ f, f ∈ fs → Fd (d - 1) f) → MOk (B + Bd d) kvs' → P (.own (.lst fs)) [some (.par 0 (.dK kvs')), some (.val (.int d)), a2, a3, a4, a5, a6, none, none, none]) →
            cmB (EV.upTo lev ct k) G72 [7] (.nm 7) .nil (.call 28 (.cons (.var 0) (.cons (.bin .sub (.var 1) (.cst (.int 1))) .nil)) [true, false]) ⟨rngD 0 n, fun _ => True, true⟩ [some (.par 0 (.dK kvs2)), some (.val (.int d)), a2, a3, a4, a5, a6, none, none, none] P := by
          intro n kvs2 a2 a3 a4 a5 a6 P C hn hM2 hC hP
          have : n * Bd (d - 1) ≤ 60 := Nat.le_trans (Nat.mul_le_mul hn f6) (by omega)
          have hBd : Bd d ≤ 70 := by rw [hd1]; split <;> omega
          exact cm28 (by omega) hM2 (by omega) (by omega) (by omega) (by omega) fun fs kvs' h1 h2 h3 => hP fs kvs' h1 h2 (h3.le (by omega))
        rcases List.mem_cons.mp hx with rfl | hx
        · simp
          refine ⟨B + 1 + 1, hM', by omega, fun r kvs' h1 h2 hM' => ⟨by unfold big; omega, by unfold big; omega, ?_⟩⟩
          have hn1 : 1 ≤ (1 + r).toNat ∧ (1 + r).toNat ≤ 3 := by omega
          have hmm : (1 + r).toNat * Bd (d - 1) ≤ 3 * Bd (d - 1) := Nat.mul_le_mul_right _ hn1.2
          refine go (C := B + 1 + 1 + 1) hn1.2 hM' (by omega) fun fs kvs' h1 h2 h3 => ?_
          simp
          refine ⟨by omega, fin "row" fs kvs' (.row (fun e => by rw [e] at h1; simp at h1; omega) fun p hp => (h2 p hp).1) ?_ h3⟩
          have hs := sum fs h2
          have : fs.length * Bw (d - 1) ≤ 3 * Bw (d - 1) := Nat.mul_le_mul_right _ (by omega)
          rw [po_row, plc_w]
          omega
        rcases List.mem_cons.mp hx with rfl | hx
        · simp [g1, g2, g3, g4]
          refine go (n := 2) (C := B + 1 + 1) (by omega) hM' (by omega) fun fs kvs' h1 h2 h3 => ?_
          simp
          match fs, h1 with
          | [a, b], _ =>
          refine ⟨by simp, fin "over" _ kvs' (.over (h2 a (by simp)).1 (h2 b (by simp)).1) ?_ h3⟩
          have hs := sum _ h2
          rw [po_over, plc_w]
          simp at hs ⊢
          omega
        rcases List.mem_cons.mp hx with rfl | hx
        · simp [g1, g2, g3, g4]
          refine go (n := 1) (C := B + 1 + 1) (by omega) hM' (by omega) fun fs kvs' h1 h2 h3 => ?_
          simp
          match fs, h1 with
          | [a], _ =>
          refine ⟨by simp, fin "root" _ kvs' (.one (by simp) (h2 a (by simp)).1) ?_ h3⟩
          have hs := sum _ h2
          rw [po_root, plc_w]
          simp at hs ⊢
          omega
        rcases List.mem_cons.mp hx with rfl | hx
        · have tail : ∀ (a : D) (kvs2 : List (Key × D)), noB a = false → Fd (d - 1) a → MOk (B + 1 + 1 + Bd (d - 1)) kvs2 → cmB (EV.upTo lev ct k) G72 [7] (.nm 7) .nil (.call 28 (.cons (.var 0) (.cons (.bin .sub (.var 1) (.cst (.int 1))) .nil)) [true, false]) ⟨rngD 0 1, fun _ => True, true⟩ [some (.par 0 (.dK kvs2)), some (.val (.int d)), some (.val (.str "high")), none, none, none, some (.val a), none, none, none] fun r ρ' =>
              bltW Blt.toTup [r.d] fun r => binW BOp.add (D.tup [D.str "high", a]) r.d fun r => oC (outsOf [true, false] ρ' 0) fun os => R r os := by
            intro a kvs2 hna ha hM2
            refine go (n := 1) (C := B + 1 + 1 + Bd (d - 1)) (by omega) hM2 (by omega) fun fs kvs' h1 h2 h3 => ?_
            simp
            match fs, h1 with
            | [b], _ =>
            refine ⟨by simp, fin "high" _ kvs' (.two (by simp) hna ha.1 (h2 b (by simp)).1) ?_ h3⟩
            have hs := sum _ h2
            have := ha.2
            rw [po_high, plc_w]
            simp at hs ⊢
            omega
          simp [g1, g2, g3, g4, ct, c28, lev]
          refine ⟨by omega, B + 1 + 1, hM', by omega, ⟨by omega, by omega⟩, fun f kvs' q1 q2 q3 => ?_⟩
          have q0 : Fd (d - 1) f := ⟨by rw [show (d - 1).toNat = d.toNat - 1 by omega]; exact q1, q2⟩
          obtain ⟨w', p', ps', e3⟩ := q1.wrd
          have hno : ∀ b : Bool, (decide (Str.ofString "row" = w') || (decide (Str.ofString "high" = w') || (decide (Str.ofString "low" = w') || decide (Str.ofString "both" = w')))) = b → noB f = b := fun b hb => by
            rw [← hb, e3]
            simp [noB, head, Bool.or_assoc, eq_comm]
          subst e3
          simp
          refine cnd_i (fun e => ?_) fun e => ?_
          · exact tail _ kvs' (by simp [noB, head]) sgb q3
          · exact tail _ kvs' (hno _ e) q0 q3
        rcases List.mem_cons.mp hx with rfl | hx
        · have tail : ∀ (a : D) (kvs2 : List (Key × D)), noB a = false → Fd (d - 1) a → MOk (B + 1 + 1 + Bd (d - 1)) kvs2 → cmB (EV.upTo lev ct k) G72 [7] (.nm 7) .nil (.call 28 (.cons (.var 0) (.cons (.bin .sub (.var 1) (.cst (.int 1))) .nil)) [true, false]) ⟨rngD 0 1, fun _ => True, true⟩ [some (.par 0 (.dK kvs2)), some (.val (.int d)), some (.val (.str "low")), none, none, none, some (.val a), none, none, none] fun r ρ' =>
              bltW Blt.toTup [r.d] fun r => binW BOp.add (D.tup [D.str "low", a]) r.d fun r => oC (outsOf [true, false] ρ' 0) fun os => R r os := by
            intro a kvs2 hna ha hM2
            refine go (n := 1) (C := B + 1 + 1 + Bd (d - 1)) (by omega) hM2 (by omega) fun fs kvs' h1 h2 h3 => ?_
            simp
            match fs, h1 with
            | [b], _ =>
            refine ⟨by simp, fin "low" _ kvs' (.two (by simp) hna ha.1 (h2 b (by simp)).1) ?_ h3⟩
            have hs := sum _ h2
            have := ha.2
            rw [po_low, plc_w]
            simp at hs ⊢
            omega
          simp [g1, g2, g3, g4, ct, c28, lev]
          refine ⟨by omega, B + 1 + 1, hM', by omega, ⟨by omega, by omega⟩, fun f kvs' q1 q2 q3 => ?_⟩
          have q0 : Fd (d - 1) f := ⟨by rw [show (d - 1).toNat = d.toNat - 1 by omega]; exact q1, q2⟩
          obtain ⟨w', p', ps', e3⟩ := q1.wrd
          have hno : ∀ b : Bool, (decide (Str.ofString "row" = w') || (decide (Str.ofString "high" = w') || (decide (Str.ofString "low" = w') || decide (Str.ofString "both" = w')))) = b → noB f = b := fun b hb => by
            rw [← hb, e3]
            simp [noB, head, Bool.or_assoc, eq_comm]
          subst e3
          simp
          refine cnd_i (fun e => ?_) fun e => ?_
          · exact tail _ kvs' (by simp [noB, head]) sgb q3
          · exact tail _ kvs' (hno _ e) q0 q3
        rcases List.mem_cons.mp hx with rfl | hx
        · have tail : ∀ (a : D) (kvs2 : List (Key × D)), noB a = false → Fd (d - 1) a → MOk (B + 1 + 1 + Bd (d - 1)) kvs2 → cmB (EV.upTo lev ct k) G72 [7] (.nm 7) .nil (.call 28 (.cons (.var 0) (.cons (.bin .sub (.var 1) (.cst (.int 1))) .nil)) [true, false]) ⟨rngD 0 2, fun _ => True, true⟩ [some (.par 0 (.dK kvs2)), some (.val (.int d)), some (.val (.str "both")), none, none, none, some (.val a), none, none, none] fun r ρ' =>
              bltW Blt.toTup [r.d] fun r => binW BOp.add (D.tup [D.str "both", a]) r.d fun r => oC (outsOf [true, false] ρ' 0) fun os => R r os := by
            intro a kvs2 hna ha hM2
            refine go (n := 2) (C := B + 1 + 1 + Bd (d - 1)) (by omega) hM2 (by omega) fun fs kvs' h1 h2 h3 => ?_
            simp
            match fs, h1 with
            | [b, c], _ =>
            refine ⟨by simp, fin "both" _ kvs' (.both hna ha.1 (h2 b (by simp)).1 (h2 c (by simp)).1) ?_ h3⟩
            have hs := sum _ h2
            have := ha.2
            rw [po_both, plc_w]
            simp at hs ⊢
            omega
          simp [g1, g2, g3, g4, ct, c28, lev]
          refine ⟨by omega, B + 1 + 1, hM', by omega, ⟨by omega, by omega⟩, fun f kvs' q1 q2 q3 => ?_⟩
          have q0 : Fd (d - 1) f := ⟨by rw [show (d - 1).toNat = d.toNat - 1 by omega]; exact q1, q2⟩
          obtain ⟨w', p', ps', e3⟩ := q1.wrd
          have hno : ∀ b : Bool, (decide (Str.ofString "row" = w') || (decide (Str.ofString "high" = w') || (decide (Str.ofString "low" = w') || decide (Str.ofString "both" = w')))) = b → noB f = b := fun b hb => by
            rw [← hb, e3]
            simp [noB, head, Bool.or_assoc, eq_comm]
          subst e3
          simp
          refine cnd_i (fun e => ?_) fun e => ?_
          · exact tail _ kvs' (by simp [noB, head]) sgb q3
          · exact tail _ kvs' (hno _ e) q0 q3
        rcases List.mem_cons.mp hx with rfl | hx
        · simp [g1, g2, g3, g4]
          refine ⟨B + 1 + 1, hM', by omega, fun x kvs' hx hM' => ?_⟩
          have sg : ∀ y : D, y = .str "sum" ∨ y = .str "a" → ∃ z, y = .str z ∧ Sgn z := fun y hy => by
            rcases hy with rfl | rfl
            · exact ⟨_, rfl, .inr (.inr rfl)⟩
            · exact ⟨_, rfl, .inl rfl⟩
          rcases hx with rfl | rfl | rfl
          · simp [g1, g2, g3, g4]
            have hBd : Bd d ≤ 70 := by rw [hd1]; split <;> omega
            refine cm28 (n := 1) (B := B + 1 + 1 + 1) (by omega) hM' (by omega) (by omega) (by omega) (by omega) fun fs kvs' h1 h2 h3 => ?_
            match fs, h1 with
            | [a], _ =>
            simp [ct, c24, lev, lk1]
            refine ⟨_, h3, by omega, fun x kvs' hx hM' => ?_⟩
            obtain ⟨z, rfl, hz⟩ := sg x hx
            have hs := sum _ h2
            refine fin _ _ kvs' (.stk (by simp) hz (h2 a (by simp)).1) ?_ (hM'.le (by omega))
            first | rw [po_under, plc_w] | rw [po_upper, plc_w]
            simp at hs ⊢
            omega
          · simp [g1, g2, g3, g4]
            have hBd : Bd d ≤ 70 := by rw [hd1]; split <;> omega
            refine cm28 (n := 1) (B := B + 1 + 1 + 1) (by omega) hM' (by omega) (by omega) (by omega) (by omega) fun fs kvs' h1 h2 h3 => ?_
            match fs, h1 with
            | [a], _ =>
            simp [ct, c24, lev, lk1]
            refine ⟨_, h3, by omega, fun x kvs' hx hM' => ?_⟩
            obtain ⟨z, rfl, hz⟩ := sg x hx
            have hs := sum _ h2
            refine fin _ _ kvs' (.stk (by simp) hz (h2 a (by simp)).1) ?_ (hM'.le (by omega))
            first | rw [po_under, plc_w] | rw [po_upper, plc_w]
            simp at hs ⊢
            omega
          · simp [g1, g2, g3, g4]
            have hBd : Bd d ≤ 70 := by rw [hd1]; split <;> omega
            refine cm28 (n := 2) (B := B + 1 + 1 + 1) (by omega) hM' (by omega) (by omega) (by omega) (by omega) fun fs kvs' h1 h2 h3 => ?_
            match fs, h1 with
            | [a, b], _ =>
            simp [ct, c24, lev, lk1]
            refine ⟨_, h3, by omega, fun x kvs' hx hM' => ?_⟩
            obtain ⟨z, rfl, hz⟩ := sg x hx
            have hs := sum _ h2
            refine fin _ _ kvs' (.lim hz (h2 a (by simp)).1 (h2 b (by simp)).1) ?_ (hM'.le (by omega))
            rw [po_limits, plc_w]
            simp at hs ⊢
            omega
        rcases List.mem_cons.mp hx with rfl | hx
        · simp [g1, g2, g3, g4]
          refine go (n := 1) (C := B + 1 + 1) (by omega) hM' (by omega) fun fs kvs' h1 h2 h3 => ?_
          simp
          match fs, h1 with
          | [a], _ =>
          refine ⟨by simp, fin "fence" _ kvs' (.one (by simp) (h2 a (by simp)).1) ?_ h3⟩
          have hs := sum _ h2
          rw [po_fence, plc_w]
          simp at hs ⊢
          omega
        rcases List.mem_cons.mp hx with rfl | hx
        · simp [g1, g2, g3, g4]
          refine go (n := 1) (C := B + 1 + 1) (by omega) hM' (by omega) fun fs kvs' h1 h2 h3 => ?_
          simp
          match fs, h1 with
          | [a], _ =>
          refine ⟨by simp, fin "bar" _ kvs' (.one (by simp) (h2 a (by simp)).1) ?_ h3⟩
          have hs := sum _ h2
          rw [po_bar, plc_w]
          simp at hs ⊢
          omega
        have hx : x = .str "table" := by simpa using hx
        subst hx
        simp
        refine ⟨B + 1 + 1, hM', by omega, fun r kvs' h1 h2 hM' => ⟨B + 1 + 1 + 1, hM', by omega, fun r' kvs' h1' h2' hM' => ?_⟩⟩
        have hBd : Bd d ≤ 70 := by rw [hd1]; split <;> omega
        have hB0 : Bd (d - 2) ≤ 7 := by omega
        refine ⟨by unfold big; omega, by unfold big; omega, ?_⟩
        obtain ⟨nr, hnr⟩ : ∃ nr, (1 + r).toNat = nr := ⟨_, rfl⟩
        obtain ⟨nc, hnc⟩ : ∃ nc, (1 + r').toNat = nc := ⟨_, rfl⟩
        have hnr1 : 1 ≤ nr ∧ nr ≤ 3 := by omega
        have hnc1 : 1 ≤ nc ∧ nc ≤ 3 := by omega
        have hnn : nr * nc ≤ 9 := Nat.mul_le_mul hnr1.2 hnc1.2
        rw [hnr]
        have hb1 : -big ≤ 1 + r' := by unfold big; omega
        have hb2 : 1 + r' < big := by unfold big; omega
        refine ⟨fun j acc ρ => ∃ kvs' rows, ρ = [some (.par 0 (.dK kvs')), some (.val (.int d)), some (.val (.str "table")), none, some (.val (.int (1 + r))), some (.val (.int (1 + r'))), none, none, none, none] ∧ acc = rows.map .tup ∧ rows.length = j ∧ (∀ q, q ∈ rows → q.length = nc ∧ ∀ f, f ∈ q → Fd (d - 2) f) ∧ MOk (B + 1 + 1 + 1 + 1 + j * (nc * Bd (d - 2))) kvs', ⟨kvs', [], rfl, rfl, rfl, by simp, by simpa using hM'⟩, fun _ _ _ _ => trivial, ?_, ?_⟩
        · rintro j acc ρ x ⟨kvs', rows, rfl, rfl, j1, j2, j3⟩ hx
          obtain ⟨hj, rfl⟩ := rngD_get hx
          have hj3 : j * (nc * Bd (d - 2)) ≤ 3 * (3 * 7) := Nat.mul_le_mul (by omega) (Nat.mul_le_mul hnc1.2 hB0)
          have hj4 : nc * Bd (d - 2) ≤ 3 * 7 := Nat.mul_le_mul hnc1.2 hB0
          simp [hb1, hb2]
          rw [hnc]
          refine cm28t (n := nc) (by omega) j3 (by omega) (by omega) (by omega) (by omega) fun fs kvs' h1 h2 h3 => ?_
          simp
          refine ⟨by omega, rows ++ [fs], by simp, by simp; omega, fun q hq => ?_, ?_⟩
          · rcases List.mem_append.mp hq with hq | hq
            · exact j2 q hq
            · simp at hq; subst hq; exact ⟨h1, h2⟩
          · rw [Nat.succ_mul, ← Nat.add_assoc]; exact h3
        · rintro acc ρ ⟨kvs', rows, rfl, rfl, j1, j2, j3⟩
          simp only [rngD_len] at j1 j3
          simp
          have hF : Fo (max 1 (d - 2).toNat + 1) (.tup [.str "table", .tup (rows.map .tup)]) := .tab (c := nc) (fun e => by rw [e] at j1; simp at j1; omega) (by omega) (fun q hq => (j2 q hq).1) fun q hq f hf => ((j2 q hq).2 f hf).1
          have hm3 : nr * (nc * Bd (d - 2)) ≤ 9 * Bd (d - 2) := by
            rw [← Nat.mul_assoc]; exact Nat.mul_le_mul_right _ hnn
          refine hR _ _ (hF.le (by omega)) ?_ (j3.le (by omega))
          rw [wd_eq hF (by omega)]
          simp only [partsOf]
          have hs : ∀ q : List D, (∀ f, f ∈ q → Fd (d - 2) f) → sumW q ≤ q.length * Bw (d - 2) := by
            intro q
            induction q with
            | nil => intro _; simp
            | cons a l ih =>
              intro h
              have h1 := (h a List.mem_cons_self).2
              have h2 := ih fun f hf => h f (List.mem_cons_of_mem _ hf)
              simp [Nat.succ_mul]
              omega
          have hs2 : ∀ rows : List (List D), (∀ q, q ∈ rows → q.length = nc ∧ ∀ f, f ∈ q → Fd (d - 2) f) → sumW ((rows.map D.tup).flatMap cellsOf) ≤ rows.length * (nc * Bw (d - 2)) := by
            intro rows
            induction rows with
            | nil => intro _; simp
            | cons a l ih =>
              intro h
              have h1 := hs a (h a List.mem_cons_self).2
              rw [(h a List.mem_cons_self).1] at h1
              have h2 := ih fun f hf => h f (List.mem_cons_of_mem _ hf)
              simp only [List.map_cons, List.flatMap_cons, cellsOf, sumW_a, List.length_cons, Nat.succ_mul]
              omega
          have hs3 := hs2 rows j2
          rw [j1] at hs3
          have hm4 : nr * (nc * Bw (d - 2)) ≤ 9 * Bw (d - 2) := by
            rw [← Nat.mul_assoc]; exact Nat.mul_le_mul_right _ hnn
          simp [tabP_w] at hs3 ⊢
          omega
  · exact h.elim
end
end P72
set_option linter.all false
set_option autoImplicit false
set_option maxRecDepth 20000
set_option maxHeartbeats 8000000
set_option Elab.async false
namespace P72
open PySem EV L2 A72
def shl (d : D) : List Nat := d.py.shown.cps.toList
def wl (w : Str) : List Nat := (PyData.shown (.str w)).cps.toList
theorem app_l (a b : Str) : (a ++ b).cps.toList = a.cps.toList ++ b.cps.toList := by
  show (a.cps ++ b.cps).toList = _
  exact Array.toList_append
theorem pre2 {w : Str} {p : D} {ps : List D} : ∃ t, shl (.tup (.str w :: p :: ps)) = 40 :: (wl w ++ 44 :: 32 :: (shl p ++ t)) := by
  unfold shl wl
  simp only [D.py, D.pys, PyData.shown, PyData.shownAll]
  unfold tupleText
  have e : ∀ (b : Str) (r : List Str), ∃ t, (Str.join ", " (b :: r)).cps.toList = b.cps.toList ++ t := fun b r => by
    cases r with
    | nil => exact ⟨[], by simp [Str.join]⟩
    | cons c r => exact ⟨_, by show (b ++ ", " ++ Str.join ", " (c :: r)).cps.toList = _; rw [app_l, app_l, List.append_assoc]⟩
  obtain ⟨t, ht⟩ := e p.py.shown (PyData.shownAll (D.pys ps))
  refine ⟨t ++ [41], ?_⟩
  have e2 : (Str.join ", " (reprText w :: p.py.shown :: PyData.shownAll (D.pys ps))) = reprText w ++ ", " ++ Str.join ", " (p.py.shown :: PyData.shownAll (D.pys ps)) := rfl
  first
  | (rw [e2, app_l, app_l, app_l, app_l, ht]
     have h1 : (Str.ofString "(").cps.toList = [40] := by decide
     have h2 : (Str.ofString ", ").cps.toList = [44, 32] := by decide
     have h3 : (Str.ofString ")").cps.toList = [41] := by decide
     rw [h1, h2]
     simp [h3])
def noPre (l : List Nat) : Bool := BADT.all fun t => !(l.isPrefixOf t.cps.toList)
theorem bad_no {f : D} {l t : List Nat} (h : shl f = l ++ t) (hn : noPre l = true) : bad f = false := by
  unfold bad
  rw [List.any_eq_false]
  intro x hx e
  have e := of_decide_eq_true e
  have := List.all_eq_true.mp hn x hx
  rw [e] at this
  unfold shl at h
  rw [h, List.isPrefixOf_iff_prefix.mpr (List.prefix_append l t)] at this
  simp at this
def wl1 : List Str := ["over", "root", "fence", "bar", "low", "both", "under", "upper", "limits", "table", "row"]
theorem np1 : (wl1.all fun w => noPre (40 :: (wl w ++ [44, 32]))) = true := by decide +kernel
theorem np2 : ((["a", "b", "sum"] : List Str).all fun x => noPre (40 :: (wl "sign" ++ 44 :: 32 :: wl x))) = true := by decide +kernel
theorem np3 : ((["sign", "over", "root", "fence", "bar", "under", "upper", "limits", "table"] : List Str).all fun w => noPre (40 :: (wl "high" ++ 44 :: 32 :: 40 :: wl w))) = true := by decide +kernel
theorem BAD_bad : ∀ f, f ∈ BAD → bad f = true := by
  intro f hf
  unfold bad BADT
  exact List.any_eq_true.mpr ⟨_, List.mem_map_of_mem hf, by simp⟩
theorem Fo.bad {n : Nat} {f : D} (h : Fo n f) : P72.bad f = false := by
  have w1 : ∀ (w : Str) (p : D) (ps : List D), w ∈ wl1 → P72.bad (.tup (.str w :: p :: ps)) = false := fun w p ps hw => by
    obtain ⟨t, ht⟩ := pre2 (w := w) (p := p) (ps := ps)
    exact bad_no (l := 40 :: (wl w ++ [44, 32])) (t := shl p ++ t) (by rw [ht]; simp) (List.all_eq_true.mp np1 w hw)
  cases h with
  | @sign _ x h =>
    obtain ⟨t, ht⟩ := pre2 (w := "sign") (p := .str x) (ps := [])
    exact bad_no (l := 40 :: (wl "sign" ++ 44 :: 32 :: wl x)) (t := t) (by rw [ht]; simp [wl, shl, D.py]) (List.all_eq_true.mp np2 x h.mem)
  | @row _ ps h1 h2 => cases ps with
    | nil => exact absurd rfl h1
    | cons a l => exact w1 _ _ _ (by simp [wl1])
  | over _ _ => exact w1 _ _ _ (by simp [wl1])
  | one h _ => rcases h with rfl | rfl | rfl <;> exact w1 _ _ _ (by simp [wl1])
  | @two _ _ a b h h0 ha _ =>
    rcases h with rfl | rfl
    · have hw : ∃ w p ps, a = .tup (.str w :: p :: ps) ∧ w ∈ (["sign", "over", "root", "fence", "bar", "under", "upper", "limits", "table"] : List Str) := by
        cases ha with
        | sign h => exact ⟨_, _, _, rfl, by simp⟩
        | row h1 h2 => simp [noB, head] at h0
        | over _ _ => exact ⟨_, _, _, rfl, by simp⟩
        | one h _ => exact ⟨_, _, _, rfl, by rcases h with rfl | rfl | rfl <;> simp⟩
        | two h _ _ _ => rcases h with rfl | rfl <;> simp [noB, head] at h0
        | both _ _ _ _ => simp [noB, head] at h0
        | stk h _ _ => exact ⟨_, _, _, rfl, by rcases h with rfl | rfl <;> simp⟩
        | lim _ _ _ => exact ⟨_, _, _, rfl, by simp⟩
        | tab _ _ _ _ => exact ⟨_, _, _, rfl, by simp⟩
      obtain ⟨w, p, ps, rfl, hw⟩ := hw
      obtain ⟨t, ht⟩ := pre2 (w := "high") (p := .tup (.str w :: p :: ps)) (ps := [b])
      obtain ⟨t', ht'⟩ := pre2 (w := w) (p := p) (ps := ps)
      exact bad_no (l := 40 :: (wl "high" ++ 44 :: 32 :: 40 :: wl w)) (t := 44 :: 32 :: (shl p ++ t') ++ t) (by rw [ht, ht']; simp) (List.all_eq_true.mp np3 w hw)
    · exact w1 _ _ _ (by simp [wl1])
  | both _ _ _ _ => exact w1 _ _ _ (by simp [wl1])
  | stk h _ _ => rcases h with rfl | rfl <;> exact w1 _ _ _ (by simp [wl1])
  | lim _ _ _ => exact w1 _ _ _ (by simp [wl1])
  | tab _ _ _ _ => exact w1 _ _ _ (by simp [wl1])
theorem Fm.good {f : D} (h : Fm f) (hb : bad f = false) : Fo 3 f ∧ wd f ≤ 31 := by
  rcases h with h | h
  · exact h
  · rw [BAD_bad f h] at hb; cases hb
theorem Fm.bad {f : D} (h : Fm f) (hb : P72.bad f = true) : f ∈ BAD := by
  rcases h with h | h
  · rw [h.1.bad] at hb; cases hb
  · exact h
section
variable {k : Nat} {rs : List RV} {R : RV → List Ow → Prop} {X : Nat → List D → Prop} {S : SPX} {K : EK} {P : RP}
theorem ob18 (hl : lev 18 rs < k + 1) (h : c18 rs R X) : Owe k io18 N18 b18 rs R X := by
  unfold c18 at h; split at h
  · rename_i c C N
    obtain ⟨h1, hR⟩ := h
    have hk : 32 < k + 1 := hl
    have hk1 : 1 < k := by omega
    have hk2 : 31 < k := by omega
    rcases h1 with rfl | ⟨xs, rfl⟩ | ⟨xs, rfl, hx⟩ | ⟨a, b, t, u, f, rfl, ha, hb, ht, hu, hf⟩
    · simp [owes, io18, N18, b18]
      exact hR
    · simp [owes, io18, N18, b18]
      exact hR
    · have hn : ¬ (xs.length : Int) = 5 := by omega
      have hc : cellR (.tup xs) C N = none := by
        unfold cellR
        split
        · rename_i h; injection h with h; subst h; simp at hx
        · rfl
      simp [owes, io18, N18, b18, hn]
      simpa [hc] using hR
    · simp [owes, io18, N18, b18, ct, c17, lev, hk1, ha, hb, ht, hu]
      have e1 : spanB a b C = false → cellR (.tup [a, b, t, u, f]) C N = none := fun e => by
        unfold cellR
        split
        · rename_i h; injection h with h; simp at h
          obtain ⟨rfl, rfl, rfl, rfl, rfl⟩ := h
          rw [if_neg]
          intro ⟨⟨h1, h2, h3⟩, _⟩
          simp [spanB, h1, h2, h3] at e
        · rfl
      have e2 : spanB t u N = false → cellR (.tup [a, b, t, u, f]) C N = none := fun e => by
        unfold cellR
        split
        · rename_i h; injection h with h; simp at h
          obtain ⟨rfl, rfl, rfl, rfl, rfl⟩ := h
          rw [if_neg]
          intro ⟨_, ⟨h1, h2, h3⟩, _⟩
          simp [spanB, h1, h2, h3] at e
        · rfl
      have e3 : bad f = true → cellR (.tup [a, b, t, u, f]) C N = none := fun e => by
        unfold cellR
        split
        · rename_i h; injection h with h; simp at h
          obtain ⟨rfl, rfl, rfl, rfl, rfl⟩ := h
          rw [if_neg]
          intro ⟨_, _, h⟩
          rw [e] at h; cases h
        · rfl
      have e4 : spanB a b C = true → spanB t u N = true → bad f = false → (cellR (.tup [a, b, t, u, f]) C N).isSome = true := fun g1 g2 g3 => by
        unfold spanB at g1 g2
        split at g1
        · split at g2
          · simp at g1 g2
            unfold cellR
            dsimp only
            rw [if_pos ⟨⟨g1.1, g1.2.1, g1.2.2⟩, ⟨g2.1, g2.2.1, g2.2.2⟩, g3⟩]
            rfl
          · cases g2
        · cases g1
      refine cnd_i (fun e => ?_) fun e => ?_
      · simp at e
        rw [e1 e] at hR; exact hR
      · simp at e
        refine cnd_i (fun e' => ?_) fun e' => ?_
        · simp at e'
          rw [e2 e'] at hR; exact hR
        · simp at e'
          simp [ct, c11, lev, hk2]
          by_cases hbf : bad f = true
          · rw [e3 hbf] at hR
            exact .inr ⟨hf.bad hbf, hR⟩
          · have hbf : bad f = false := by simpa using hbf
            rw [e4 e e' hbf] at hR
            obtain ⟨g1, g2⟩ := hf.good hbf
            exact .inl ⟨⟨3, g1, by omega⟩, by omega, hR⟩
  · exact h.elim
end
end P72
set_option linter.all false
set_option autoImplicit false
set_option maxRecDepth 20000
set_option maxHeartbeats 8000000
set_option Elab.async false
namespace P72
open PySem EV L2 A72
theorem cellR_some {c f : D} {C N : Int} {x : Rect} (h : cellR c C N = some (x, f)) : ∃ a b t u, c = .tup [.int a, .int b, .int t, .int u, f] ∧ x = (a, b, t, u) ∧ (0 ≤ a ∧ a < b ∧ b ≤ C) ∧ (0 ≤ t ∧ t < u ∧ u ≤ N) ∧ bad f = false := by
  unfold cellR at h
  split at h
  · rename_i a b t u f'
    split at h
    · rename_i hc
      injection h with h; injection h with h1 h2
      subst h2
      exact ⟨a, b, t, u, rfl, h1.symm, hc.1, hc.2.1, hc.2.2⟩
    · cases h
  · cases h
def rectOf (o : D) : Rect := match o with
  | .tup [.int a, .int b, .int t, .int u, _] => (a, b, t, u)
  | _ => (0, 0, 0, 0)
/-- the cells so far, all good -/
def Pre (C N : Int) (os : List D) (es : List Rect) : Prop := (∀ o, o ∈ os → (cellR o C N).isSome = true) ∧ es = os.map rectOf
theorem boolsD_m {α : Type} {g : α → Bool} : ∀ {l : List α}, boolsD (l.map fun x => .bl (g x)) = some (l.map g)
  | [] => rfl
  | a :: l => by simp [boolsD, boolsD_m]
theorem cell_fm {c f : D} {C N : Int} {x : Rect} (hc : CV c) (h : cellR c C N = some (x, f)) : Fo 3 f ∧ wd f ≤ 31 := by
  obtain ⟨a, b, t, u, rfl, _, _, _, hb⟩ := cellR_some h
  rcases hc with h | ⟨xs, h⟩ | ⟨xs, h, hx⟩ | ⟨a, b, t, u, f', h, _, _, _, _, hf⟩
  · cases h
  · cases h
  · injection h with h; subst h; simp at hx
  · injection h with h; simp at h
    obtain ⟨_, _, _, _, rfl⟩ := h
    exact hf.good hb
theorem Sc_inR {a : D} (h : Sc a) (hi : inR 1 12 a = true) : ∃ i : Int, a = .int i ∧ 1 ≤ i ∧ i ≤ 12 := by
  rcases h with ⟨i, rfl, _, _⟩ | ⟨b, rfl⟩ | rfl | rfl <;> simp [inR] at hi
  exact ⟨i, rfl, hi.1, hi.2⟩
theorem judge_no {a b c : D} (h : ¬ (inR 1 12 a = true ∧ inR 1 12 b = true)) : judge (.tup [a, b, c]) = some .non := by
  unfold judge
  split
  · rename_i h2; injection h2 with h2; simp at h2
    obtain ⟨rfl, rfl, rfl⟩ := h2
    rw [if_neg]
    intro ⟨h3, h4, _⟩
    exact h ⟨by simp [inR, h3], by simp [inR, h4]⟩
  · rfl
section
variable {k : Nat} {rs : List RV} {R : RV → List Ow → Prop} {X : Nat → List D → Prop} {S : SPX} {K : EK} {P : RP}
theorem ob20 (hl : lev 20 rs < k + 1) (h : c20 rs R X) : Owe k io20 N20 b20 rs R X := by
  unfold c20 at h; split at h
  · rename_i v
    obtain ⟨h1, hR⟩ := h
    have hk : 33 < k + 1 := hl
    have hk1 : 1 < k := by omega
    have hk0 : 0 < k := by omega
    have hk2 : 32 < k := by omega
    rcases h1 with rfl | ⟨xs, rfl⟩ | ⟨xs, rfl, hx⟩ | ⟨a, b, cs, rfl, ha, hb, hcs⟩
    · simp [owes, io20, N20, b20]; exact hR
    · simp [owes, io20, N20, b20]; exact hR
    · have hn : ¬ (xs.length : Int) = 3 := by omega
      have hc : judge (.tup xs) = some .non := by
        unfold judge
        split
        · rename_i h; injection h with h; subst h; simp at hx
        · rfl
      rw [hc] at hR
      simp [owes, io20, N20, b20, hn]; exact hR
    · simp [owes, io20, N20, b20, ct, c16, lev, hk1, ha, hb]
      refine cnd_i (fun e => ?_) fun e => ?_
      · simp at e
        rw [judge_no (fun h => by rw [h.1] at e; cases e)] at hR; exact hR
      simp at e
      refine cnd_i (fun e' => ?_) fun e' => ?_
      · simp at e'
        rw [judge_no (fun h => by rw [h.2] at e'; cases e')] at hR; exact hR
      simp at e'
      obtain ⟨C, rfl, c1, c2⟩ := Sc_inR ha e
      obtain ⟨N, rfl, n1, n2⟩ := Sc_inR hb e'
      rcases hcs with ⟨xs, rfl⟩ | ⟨cs, rfl, hl30, hcv⟩
      · simp; exact hR
      · simp [G72]
        by_cases h24 : 24 < cs.length
        · have : judge (.tup [.int C, .int N, .tup cs]) = some .non := by
            unfold judge; dsimp only; rw [if_neg]; intro ⟨_, _, h⟩; omega
          rw [this] at hR
          have h24' : (24 : Int) < cs.length := by omega
          simp [h24']; exact hR
        have hj : judge (.tup [.int C, .int N, .tup cs]) = judgeC C N cs 0 0 [] := by
          unfold judge; dsimp only; rw [if_pos ⟨⟨c1, c2⟩, ⟨n1, n2⟩, by omega⟩]
        rw [hj] at hR
        obtain ⟨J, hJ⟩ : ∃ J, J = judgeC C N cs 0 0 [] := ⟨_, rfl⟩
        rw [← hJ] at hR
        have h24' : ¬ (24 : Int) < cs.length := by omega
        simp [h24']
        refine ⟨rfl, fun j ρ => ∃ (w : Nat) (es : List Rect) (o5 o6 : Option SV), ρ = [some (.val (.tup [.int C, .int N, .tup cs])), some (.val (.int C)), some (.val (.int N)), some (.val (.tup cs)), some (.val (.int w)), o5, o6, none] ∧ Pre C N (cs.take j) es ∧ judgeC C N (cs.drop j) j w es = J ∧ w ≤ 60, ⟨0, [], none, none, rfl, ⟨by simp, by simp⟩, by simp [hJ], by omega⟩, fun _ _ _ => trivial, ?_, ?_⟩
        · rintro j ρ d ⟨w, es, o5, o6, rfl, ⟨p1, p2⟩, p3, p4⟩ hd
          obtain ⟨c, h3, rfl⟩ := enum_get hd
          have hm := List.mem_of_getElem? h3
          have hj := (List.getElem?_eq_some_iff.mp h3).1
          have hdr : cs.drop j = c :: cs.drop (j + 1) := by
            rw [List.drop_eq_getElem_cons hj]
            congr 1
            exact (List.getElem?_eq_some_iff.mp h3).2
          rw [hdr] at p3
          simp [ct, c18, lev, hk2, hcv c hm]
          refine cnd_i (fun e => ?_) fun e => ?_
          · simp at e
            unfold judgeC at p3
            rw [e] at p3
            rw [← p3] at hR
            exact hR
          simp at e
          obtain ⟨⟨x, f⟩, hx⟩ := Option.isSome_iff_exists.mp (show (cellR c C N).isSome = true by cases hcc : cellR c C N <;> simp_all)
          obtain ⟨a, b, t, u, rfl, rfl, _, _, _⟩ := cellR_some hx
          obtain ⟨f1, f2⟩ := cell_fm (hcv _ hm) hx
          have hfd := f1.dp
          unfold judgeC at p3
          rw [hx] at p3
          dsimp only at p3
          simp [cut_hi (Int.natCast_nonneg j)]
          refine cm_map (fun o => .bl (shr (a, b, t, u) (rectOf o))) (by simp; omega) (by simp) (fun o ho A hA => ?_) ?_
          · have := p1 o ho
            obtain ⟨⟨x', f'⟩, hx'⟩ := Option.isSome_iff_exists.mp this
            obtain ⟨a', b', t', u', rfl, _, _, _, _⟩ := cellR_some hx'
            simp [ct, c19, lev, hk0]
            simpa [rectOf] using hA
          · have he : ((cs.take j).map fun o => shr (a, b, t, u) (rectOf o)).any id = es.any (shr (a, b, t, u)) := by
              rw [p2, List.any_map, List.any_map]; rfl
            have hb := boolsD_m (g := fun o => shr (a, b, t, u) (rectOf o)) (l := cs.take j)
            simp only [rvd_o, owd_l, any_l, hb, oC_s, bC_v, oC_s_z, bC_v_z, cndZ_o]
            refine cnd_i (fun e => ?_) fun e => ?_
            · rw [if_pos (by rw [← he]; exact e)] at p3
              rw [← p3] at hR
              simp
              exact hR
            rw [if_neg (by rw [← he, e]; exact Bool.false_ne_true)] at p3
            have hw1 : wd f ≤ 1000 := by omega
            have hk5 : 5 + dp f < k := by omega
            simp [ct, c8, lev, hk5, hw1, G72, augO]
            refine ⟨⟨3, f1, by omega⟩, ?_⟩
            by_cases h60 : 60 < w + wd f
            · rw [if_pos h60] at p3
              rw [← p3] at hR
              have h60' : (60 : Int) < (w : Int) + (wd f : Int) := by omega
              simp [h60']
              exact hR
            · rw [if_neg h60] at p3
              have h60' : ¬ (60 : Int) < (w : Int) + (wd f : Int) := by omega
              simp [h60']
              refine ⟨w + wd f, by simp, es ++ [(a, b, t, u)], ⟨fun o ho => ?_, ?_⟩, p3, by omega⟩
              · rw [take_s h3] at ho
                rcases List.mem_append.mp ho with ho | ho
                · exact p1 o ho
                · simp at ho; subst ho; rw [hx]; rfl
              · rw [take_s h3, p2]; simp [rectOf]
        · rintro ρ ⟨w, es, o5, o6, rfl, ⟨p1, p2⟩, p3, p4⟩
          rw [enum_len, List.drop_length] at p3
          unfold judgeC at p3
          rw [← p3] at hR
          simp
          exact hR
  · exact h.elim
end
end P72
set_option linter.all false
set_option autoImplicit false
set_option maxRecDepth 20000
set_option maxHeartbeats 8000000
set_option Elab.async false
namespace P72
open PySem EV L2 A72
theorem cellR_b {a b t u f : D} {C N : Int} : (cellR (.tup [a, b, t, u, f]) C N).isSome = (spanB a b C && (spanB t u N && !bad f)) := by
  cases a with
  | int a => cases b with
    | int b => cases t with
      | int t => cases u with
        | int u =>
          unfold cellR spanB
          dsimp only
          by_cases h1 : 0 ≤ a ∧ a < b ∧ b ≤ C
          · by_cases h2 : 0 ≤ t ∧ t < u ∧ u ≤ N
            · cases h3 : bad f with
              | true => rw [if_neg (fun h => by cases h.2.2)]; simp
              | false => rw [if_pos ⟨h1, h2, rfl⟩]; simp [h1, h2]
            · rw [if_neg fun h => h2 h.2.1]
              have : (decide (0 ≤ t) && (decide (t < u) && decide (u ≤ N))) = false := by simpa using h2
              rw [this]; simp
          · rw [if_neg fun h => h1 h.1]
            have : (decide (0 ≤ a) && (decide (a < b) && decide (b ≤ C))) = false := by simpa using h1
            rw [this]; simp
        | _ => simp [cellR, spanB]
      | _ => simp [cellR, spanB]
    | _ => rfl
  | _ => rfl
theorem BAD_nice : ∀ f, f ∈ BAD → nice f = true ∧ szD f ≤ 200 ∧ dp f ≤ 4 := by
  intro f hf
  simp [BAD, bHigh] at hf
  rcases hf with rfl | rfl | rfl | rfl | rfl | rfl | rfl <;> simp [WORDS, dp]
theorem Fm.nice {f : D} (h : Fm f) : P72.nice f = true ∧ szD f ≤ 2000 ∧ dp f ≤ 9 := by
  rcases h with ⟨h, hw⟩ | h
  · have := h.sz (by omega)
    have := h.dp
    exact ⟨h.nice, by omega, by omega⟩
  · obtain ⟨h1, h2, h3⟩ := BAD_nice f h
    exact ⟨h1, by omega, by omega⟩
theorem Fm.shw {f : D} (h : Fm f) : Shw f := by
  obtain ⟨h1, h2, h3⟩ := h.nice
  exact nice_sh h1 (by omega) (by simp; omega)
theorem bad_any {f : D} : ((BADT.map D.str).any fun d => eqF d (.str f.py.shown)) = bad f := by
  rw [List.any_map]
  unfold bad
  congr 1
/-! fields -/
def Fld (e : Rect) (k : List Key) : Prop := ∃ c r : Int, k = [.inl c, .inl r] ∧ (e.1 ≤ c ∧ c < e.2.1) ∧ (e.2.2.1 ≤ r ∧ r < e.2.2.2)
def Flds : List (List Key) := (List.range 12).flatMap fun (c : Nat) => (List.range 12).map fun (r : Nat) => ([.inl ((c : Nat) : Int), .inl ((r : Nat) : Int)] : List Key)
theorem Flds_len : Flds.length = 144 := by decide +kernel
theorem Flds_in {c r : Int} (h1 : 0 ≤ c ∧ c < 12) (h2 : 0 ≤ r ∧ r < 12) : ([.inl c, .inl r] : List Key) ∈ Flds := by
  obtain ⟨c, rfl⟩ : ∃ i : Nat, c = i := ⟨c.toNat, by omega⟩
  obtain ⟨r, rfl⟩ : ∃ i : Nat, r = i := ⟨r.toNat, by omega⟩
  exact List.mem_flatMap.mpr ⟨c, List.mem_range.mpr (by omega), List.mem_map.mpr ⟨r, List.mem_range.mpr (by omega), rfl⟩⟩
theorem KS.len2 {kvs : List (List Key × D)} {Q : List Key → Prop} (h : KS kvs Q) (hQ : ∀ k, Q k → k ∈ Flds) : kvs.length ≤ 144 := by
  have : (kvs.map (·.1)).length ≤ Flds.length := h.1.length_le_of_subset fun k hk => hQ k ((h.2 k).mp hk)
  rw [Flds_len, List.length_map] at this
  exact this
theorem shr_fld {x e : Rect} (hx : x.1 < x.2.1 ∧ x.2.2.1 < x.2.2.2) (he : e.1 < e.2.1 ∧ e.2.2.1 < e.2.2.2) : shr x e = true ↔ ∃ k, Fld x k ∧ Fld e k := by
  unfold shr
  simp only [Bool.and_eq_true, decide_eq_true_eq]
  constructor
  · rintro ⟨h1, h2, h3, h4⟩
    exact ⟨[.inl (max x.1 e.1), .inl (max x.2.2.1 e.2.2.1)], ⟨_, _, rfl, ⟨by omega, by omega⟩, by omega, by omega⟩, _, _, rfl, ⟨by omega, by omega⟩, by omega, by omega⟩
  · rintro ⟨k, ⟨c, r, rfl, h1, h2⟩, c', r', e, h3, h4⟩
    injection e with e1 e2; injection e2 with e2 e3
    injection e1 with e1; injection e2 with e2
    subst e1; subst e2
    exact ⟨by omega, by omega, by omega, by omega⟩
theorem look_some {kvs : List (List Key × D)} {k : List Key} : (lookA k (kvs.map (·.1)) (kvs.map (·.2))).isSome = true ↔ k ∈ kvs.map (·.1) := by
  induction kvs with
  | nil => simp [lookA]
  | cons p l ih =>
    simp only [List.map_cons, lookA]
    split
    · rename_i h; rw [h]; simp
    · rename_i h
      rw [ih]
      simp only [List.mem_cons]
      constructor
      · exact .inr
      · rintro (h' | h')
        · exact absurd h'.symm h
        · exact h'
section
variable {k : Nat} {rs : List RV} {R : RV → List Ow → Prop} {X : Nat → List D → Prop} {S : SPX} {K : EK} {P : RP}
theorem ob34 (hl : lev 34 rs < k + 1) (h : c34 rs R X) : Owe k io34 N34 b34 rs R X := by
  unfold c34 at h; split at h
  · rename_i v
    obtain ⟨h1, hR⟩ := h
    have hk : 34 < k + 1 := hl
    have hk1 : 33 < k := by omega
    simp [owes, io34, N34, b34, ct, c20, lev, hk1]
    refine ⟨h1, ?_⟩
    cases e : judge v with
    | none => rw [e] at hR; simp; exact hR
    | some q => rw [e] at hR; simp; exact hR
  · exact h.elim
/-- the fields taken -/
def Old (es : List Rect) (k : List Key) : Prop := ∃ e, e ∈ es ∧ Fld e k
theorem fieldLoop {a b t u : Int} {f : D} {Q : List Key → Prop} {kvs : List (List Key × D)} {a0 a1 a2 o6 o7 a8 : Option SV} {j : Int} (ha : 0 ≤ a ∧ a < b ∧ b ≤ 12) (ht : 0 ≤ t ∧ t < u ∧ u ≤ 12) (hK : KS kvs Q) (hQ : ∀ k, Q k → k ∈ Flds)
    (hit : ∀ kvs o6 o7, (∃ k, Fld (a, b, t, u) k ∧ Q k) → K.rt (.val (.int j)) [a0, a1, a2, some (.own (.dT kvs)), some (.val (.int j)), some (.val (.tup [.int a, .int b, .int t, .int u, f])), o6, o7, a8])
    (nx : ∀ kvs' o6 o7, KS kvs' (fun k => Q k ∨ Fld (a, b, t, u) k) → (¬ ∃ k, Fld (a, b, t, u) k ∧ Q k) → K.nx [a0, a1, a2, some (.own (.dT kvs')), some (.val (.int j)), some (.val (.tup [.int a, .int b, .int t, .int u, f])), o6, o7, a8]) :
    frB S G72 (.nm 6) (.cons (.for_ (.nm 7) .rng2 (.cons (.idx (.var 5) (.cst (.int 2))) (.cons (.idx (.var 5) (.cst (.int 3))) .nil)) (.cons (.if_ (.cmp .in_ (.tup (.cons (.var 6) (.cons (.var 7) .nil))) (.var 3)) (.cons (.ret (.var 4)) .nil) .nil)
      (.cons (.put 3 (.tup (.cons (.var 6) (.cons (.var 7) .nil))) (.cst (.bl true))) .nil))) .nil) ⟨rngD a (b - a).toNat, fun _ => True, true⟩
      [a0, a1, a2, some (.own (.dT kvs)), some (.val (.int j)), some (.val (.tup [.int a, .int b, .int t, .int u, f])), o6, o7, a8] K := by
  let vis : Nat → Nat → List Key → Prop := fun i l k => ∃ c r : Int, k = [.inl c, .inl r] ∧ ((a ≤ c ∧ c < a + i ∧ t ≤ r ∧ r < u) ∨ (c = a + i ∧ t ≤ r ∧ r < t + l))
  have visF : ∀ (i l : Nat) k, a + i < b → t + l ≤ u → vis i l k → Fld (a, b, t, u) k := by
    rintro i l k h1 h2 ⟨c, r, rfl, h⟩
    exact ⟨c, r, rfl, by simp; omega, by simp; omega⟩
  have visN : ∀ (i : Nat) k, vis (i + 1) 0 k ↔ vis i (u - t).toNat k := by
    intro i k
    constructor
    · rintro ⟨c, r, rfl, h⟩
      refine ⟨c, r, rfl, ?_⟩
      have : (i + 1 : Nat) = (i : Int) + 1 := by omega
      omega
    · rintro ⟨c, r, rfl, h⟩
      refine ⟨c, r, rfl, ?_⟩
      have : (i + 1 : Nat) = (i : Int) + 1 := by omega
      omega
  have b1 : -big ≤ t := by unfold big; omega
  have b2 : t < big := by unfold big; omega
  have b3 : -big ≤ u := by unfold big; omega
  have b4 : u < big := by unfold big; omega
  refine ⟨rfl, fun i ρ => ∃ kvs' o6 o7, ρ = [a0, a1, a2, some (.own (.dT kvs')), some (.val (.int j)), some (.val (.tup [.int a, .int b, .int t, .int u, f])), o6, o7, a8] ∧ KS kvs' (fun k => Q k ∨ vis i 0 k) ∧ (∀ k, vis i 0 k → ¬ Q k), ⟨kvs, o6, o7, rfl, hK.iff fun x => ⟨fun h => ?_, .inl⟩, ?_⟩, fun _ _ _ => trivial, ?_, ?_⟩
  · rcases h with h | ⟨c, r, _, h⟩
    · exact h
    · exfalso; simp at h; omega
  · rintro k ⟨c, r, _, h⟩
    exfalso; simp at h; omega
  · rintro i ρ d ⟨kvs', o6, o7, rfl, h1, h2⟩ hd
    obtain ⟨hi, rfl⟩ := rngD_get hd
    simp [b1, b2, b3, b4]
    refine ⟨rfl, fun l ρ => ∃ kvs' o7, ρ = [a0, a1, a2, some (.own (.dT kvs')), some (.val (.int j)), some (.val (.tup [.int a, .int b, .int t, .int u, f])), some (.val (.int (a + i))), o7, a8] ∧ KS kvs' (fun k => Q k ∨ vis i l k) ∧ (∀ k, vis i l k → ¬ Q k), ⟨kvs', o7, rfl, h1, h2⟩, fun _ _ _ => trivial, ?_, ?_⟩
    · rintro l ρ d ⟨kvs', o7, rfl, h1, h2⟩ hd
      obtain ⟨hl, rfl⟩ := rngD_get hd
      have hF : Fld (a, b, t, u) [.inl (a + i), .inl (t + l)] := ⟨_, _, rfl, by simp; omega, by simp; omega⟩
      have hlen := h1.len2 fun k hk => by
        rcases hk with hk | hk
        · exact hQ k hk
        · obtain ⟨c, r, rfl, h3, h4⟩ := visF i l k (by omega) (by omega) hk
          simp at h3 h4
          exact Flds_in (by omega) (by omega)
      simp [owd_T]
      refine cnd_i (fun e => ?_) fun e => ?_
      · have hm := look_some.mp e
        rcases (h1.2 _).mp hm with hq | ⟨c, r, e2, h3⟩
        · exact hit _ _ _ ⟨_, hF, hq⟩
        · injection e2 with e2 e3; injection e3 with e3 e4
          injection e2 with e2; injection e3 with e3
          exfalso; omega
      · have hm : ([.inl (a + i), .inl (t + l)] : List Key) ∉ kvs'.map (·.1) := fun hm => by rw [look_some.mpr hm] at e; cases e
        have hnq : ¬ Q [.inl (a + i), .inl (t + l)] := fun hq => hm ((h1.2 _).mpr (.inl hq))
        have step : ∀ k, vis i (l + 1) k ↔ (vis i l k ∨ k = [.inl (a + i), .inl (t + l)]) := by
          intro k
          have e1 : ((l + 1 : Nat) : Int) = (l : Int) + 1 := by omega
          constructor
          · rintro ⟨c, r, rfl, h⟩
            by_cases hc : c = a + i ∧ r = t + l
            · right; rw [hc.1, hc.2]
            · left; refine ⟨c, r, rfl, ?_⟩; omega
          · rintro (⟨c, r, rfl, h⟩ | rfl)
            · refine ⟨c, r, rfl, ?_⟩; omega
            · refine ⟨_, _, rfl, ?_⟩; omega
        refine ⟨by omega, h1.put fun k => ?_, fun k hk => ?_⟩
        · show Q k ∨ vis i (l + 1) k ↔ (Q k ∨ vis i l k) ∨ k = _
          rw [step, or_assoc]
        · rcases (step k).mp hk with hk | rfl
          · exact h2 k hk
          · exact hnq
    · rintro ρ ⟨kvs', o7, rfl, h1, h2⟩
      simp only [rngD_len] at h1 h2
      exact ⟨kvs', by simp, h1.iff fun k => by rw [visN], fun k hk => h2 k ((visN i k).mp hk)⟩
  · rintro ρ ⟨kvs', o6, o7, rfl, h1, h2⟩
    simp only [rngD_len] at h1 h2
    have full : ∀ k, vis (b - a).toNat 0 k ↔ Fld (a, b, t, u) k := by
      intro k
      constructor
      · rintro ⟨c, r, rfl, h⟩
        exact ⟨c, r, rfl, by simp; omega, by simp; omega⟩
      · rintro ⟨c, r, rfl, h3, h4⟩
        simp at h3 h4
        exact ⟨c, r, rfl, by omega⟩
    exact nx _ _ _ (h1.iff fun k => by rw [full]) fun ⟨k, hk, hq⟩ => h2 k ((full k).mpr hk) hq
theorem spanB_t {a b : D} {m : Int} (h : spanB a b m = true) : ∃ i j : Int, a = .int i ∧ b = .int j ∧ 0 ≤ i ∧ i < j ∧ j ≤ m := by
  unfold spanB at h
  split at h
  · simp at h; exact ⟨_, _, rfl, rfl, h⟩
  · cases h
theorem ob36 (hl : lev 36 rs < k + 1) (h : c36 rs R X) : Owe k io36 N36 b36 rs R X := by
  unfold c36 at h; split at h
  · rename_i v ts
    obtain ⟨rfl, h1, hR⟩ := h
    have hk : 33 < k + 1 := hl
    have hk0 : 0 < k := by omega
    have hk1 : 1 < k := by omega
    rcases h1 with rfl | ⟨xs, rfl⟩ | ⟨xs, rfl, hx⟩ | ⟨a, b, cs, rfl, ha, hb, hcs⟩
    · simp [owes, io36, N36, b36]; exact hR
    · simp [owes, io36, N36, b36]; exact hR
    · have hn : ¬ (xs.length : Int) = 3 := by omega
      have hc : judge (.tup xs) = some .non := by
        unfold judge
        split
        · rename_i h; injection h with h; subst h; simp at hx
        · rfl
      rw [hc] at hR
      simp [owes, io36, N36, b36, hn]; exact hR
    · have scOk : ∀ d, Sc d → isiOk d := fun d hd => by rcases hd with ⟨i, rfl, _, _⟩ | ⟨b, rfl⟩ | rfl | rfl <;> simp
      have scI : ∀ d, Sc d → isI d = false → inR 1 12 d = false := fun d hd hi => by rcases hd with ⟨i, rfl, _, _⟩ | ⟨b, rfl⟩ | rfl | rfl <;> simp [isI, inR] at hi ⊢
      have scJ : ∀ d, Sc d → isI d = true → ∃ i : Int, d = .int i ∧ -20 ≤ i ∧ i ≤ 20 := fun d hd hi => by
        rcases hd with ⟨i, rfl, h1, h2⟩ | ⟨b, rfl⟩ | rfl | rfl <;> simp [isI] at hi
        exact ⟨i, rfl, h1, h2⟩
      simp [owes, io36, N36, b36, cut_hi (show (0 : Int) ≤ 2 by omega)]
      refine cm_pure (fun d => if isI d then none else some (.int 1)) (by simp) (by simp) (fun d hd A hA => ?_) ?_
      · have hd : d = a ∨ d = b := by simpa using hd
        have hsd : isiOk d := by rcases hd with rfl | rfl <;> exact scOk _ (by assumption)
        simp [ct, c12, lev, hk0, hsd]
        cases e : isI d with
        | true => rw [e] at hA; simpa using hA
        | false => rw [e] at hA; simpa using hA
      have ob1s : ∀ n : Nat, (D.lst (List.replicate n (D.int 1))).okEq := fun n => by
        have := okEq_ints (is := List.replicate n 1)
        rwa [List.map_replicate] at this
      by_cases hab : isI a = true ∧ isI b = true
      case neg =>
        have hj : judge (.tup [a, b, cs]) = some .non := judge_no fun h => hab ⟨(by
          cases e : isI a with
          | true => rfl
          | false => exact absurd h.1 (by rw [scI a ha e]; exact Bool.false_ne_true)), (by
          cases e : isI b with
          | true => rfl
          | false => exact absurd h.2 (by rw [scI b hb e]; exact Bool.false_ne_true))⟩
        rw [hj] at hR
        have e2 : ∃ n, ([a, b].filterMap fun d => if isI d then none else some (D.int 1)) = List.replicate (n + 1) (D.int 1) := by
          cases e : isI a with
          | true => cases e' : isI b with
            | true => exact absurd ⟨e, e'⟩ hab
            | false => exact ⟨0, by simp [e, e']⟩
          | false => cases e' : isI b with
            | true => exact ⟨0, by simp [e, e']⟩
            | false => exact ⟨1, by simp [e, e']⟩
        obtain ⟨n, e2⟩ := e2
        simp only [List.take_succ_cons, List.take_zero]
        first
        | (rw [show (List.filterMap (fun d => if isI d then none else some (D.int 1)) [a, b]) = List.replicate (n + 1) (D.int 1) from e2]
           have o1 := ob1s (n + 1)
           rw [List.replicate_succ] at o1 ⊢
           simp [eqX, o1, okEq_ln, eqv_ln]
           exact hR)
      case pos =>
      obtain ⟨C, rfl, _, _⟩ := scJ a ha hab.1
      obtain ⟨N, rfl, _, _⟩ := scJ b hb hab.2
      simp [isI, eqX, okEq_ln, eqv_lnn]
      have out : ¬ (1 ≤ C ∧ C ≤ 12 ∧ 1 ≤ N ∧ N ≤ 12) → judge (.tup [.int C, .int N, cs]) = some .non := fun h => judge_no fun h' => h (by simp [inR] at h'; omega)
      by_cases c0 : 0 < C
      case neg => rw [out (by omega)] at hR; simp [c0]; exact hR
      by_cases c13 : C < 13
      case neg => rw [out (by omega)] at hR; simp [c0, c13]; exact hR
      by_cases n0 : 0 < N
      case neg => rw [out (by omega)] at hR; simp [c0, c13, n0]; exact hR
      by_cases n13 : N < 13
      case neg => rw [out (by omega)] at hR; simp [c0, c13, n0, n13]; exact hR
      simp [c0, c13, n0, n13]
      rcases hcs with ⟨xs, rfl⟩ | ⟨cs, rfl, hl30, hcv⟩
      · simp; exact hR
      simp
      by_cases h24 : 24 < cs.length
      · have : judge (.tup [.int C, .int N, .tup cs]) = some .non := by
          unfold judge; dsimp only; rw [if_neg]; intro ⟨_, _, h⟩; omega
        rw [this] at hR
        have h24' : (24 : Int) < cs.length := by omega
        simp [h24']; exact hR
      have hj : judge (.tup [.int C, .int N, .tup cs]) = judgeC C N cs 0 0 [] := by
        unfold judge; dsimp only; rw [if_pos ⟨⟨by omega, by omega⟩, ⟨by omega, by omega⟩, by omega⟩]
      rw [hj] at hR
      obtain ⟨J, hJ⟩ : ∃ J, J = judgeC C N cs 0 0 [] := ⟨_, rfl⟩
      rw [← hJ] at hR
      have h24' : ¬ (24 : Int) < cs.length := by omega
      simp [h24']
      refine ⟨rfl, fun j ρ => ∃ (w : Nat) (es : List Rect) (kvs : List (List Key × D)) (o4 o5 o6 o7 : Option SV), ρ = [some (.val (.tup [.int C, .int N, .tup cs])), some (.val (.lst (BADT.map .str))), some (.val (.int w)), some (.own (.dT kvs)), o4, o5, o6, o7, none] ∧ Pre C N (cs.take j) es ∧ KS kvs (Old es) ∧ judgeC C N (cs.drop j) j w es = J ∧ w ≤ 60, ⟨0, [], [], none, none, none, none, rfl, ⟨by simp, by simp⟩, by simp [KS, Old], by simp [hJ], by omega⟩, fun _ _ _ => trivial, ?_, ?_⟩
      · rintro j ρ d ⟨w, es, kvs, o4, o5, o6, o7, rfl, ⟨p1, p2⟩, pk, p3, p4⟩ hd
        obtain ⟨c, h3, rfl⟩ := enum_get hd
        have hm := List.mem_of_getElem? h3
        have hj := (List.getElem?_eq_some_iff.mp h3).1
        have hdr : cs.drop j = c :: cs.drop (j + 1) := by
          rw [List.drop_eq_getElem_cons hj]
          congr 1
          exact (List.getElem?_eq_some_iff.mp h3).2
        rw [hdr] at p3
        have none1 : cellR c C N = none → R (.val (.int (j : Nat))) [] := fun e => by
          unfold judgeC at p3
          rw [e] at p3
          rw [← p3] at hR
          exact hR
        rcases hcv c hm with rfl | ⟨xs, rfl⟩ | ⟨xs, rfl, hx⟩ | ⟨a, b, t, u, f, rfl, ha, hb, ht, hu, hf⟩
        · simp; exact none1 rfl
        · simp; exact none1 rfl
        · have hn : ¬ (xs.length : Int) = 5 := by omega
          simp [hn]
          exact none1 (by
            unfold cellR
            split
            · rename_i h; injection h with h; subst h; simp at hx
            · rfl)
        · have hb2 : (cellR (.tup [a, b, t, u, f]) C N).isSome = false → R (.val (.int (j : Nat))) [] := fun e => none1 (by cases hc : cellR (.tup [a, b, t, u, f]) C N <;> simp_all)
          rw [cellR_b] at hb2
          obtain ⟨s1, s2, s3, s4⟩ := hf.shw
          simp at s4
          simp [ct, c17, lev, hk1, ha, hb]
          refine cnd_i (fun e => ?_) fun e => ?_
          · simp at e; exact hb2 (by simp [e])
          simp at e
          simp [ct, c17, lev, hk1, ht, hu]
          refine cnd_i (fun e' => ?_) fun e' => ?_
          · simp at e'; exact hb2 (by simp [e'])
          simp at e'
          have bl : (BADT.map D.str).all flat1 = true := by decide +kernel
          simp [s1, s2, s3, s4]
          rw [← List.any_map, bad_any]
          refine cnd_i (fun e3 => ?_) fun e3 => ?_
          · exact hb2 (by simp [e3])
          obtain ⟨f1, f2⟩ := hf.good e3
          have hfd := f1.dp
          obtain ⟨a, b, rfl, rfl, a1, a2, a3⟩ := spanB_t e
          obtain ⟨t, u, rfl, rfl, t1, t2, t3⟩ := spanB_t e'
          have hx : cellR (.tup [.int a, .int b, .int t, .int u, f]) C N = some ((a, b, t, u), f) := by
            unfold cellR; dsimp only; rw [if_pos ⟨⟨a1, a2, a3⟩, ⟨t1, t2, t3⟩, e3⟩]
          unfold judgeC at p3
          rw [hx] at p3
          dsimp only at p3
          have hk5 : 5 + dp f < k := by omega
          have hw1 : wd f ≤ 1000 := by omega
          have g1 : -big ≤ a := by unfold big; omega
          have g2 : a < big := by unfold big; omega
          have g3 : -big ≤ b := by unfold big; omega
          have g4 : b < big := by unfold big; omega
          have any : es.any (shr (a, b, t, u)) = true ↔ ∃ k, Fld (a, b, t, u) k ∧ Old es k := by
            have hes : ∀ e, e ∈ es → e.1 < e.2.1 ∧ e.2.2.1 < e.2.2.2 := fun e he => by
              rw [p2] at he
              obtain ⟨o, ho, rfl⟩ := List.mem_map.mp he
              obtain ⟨⟨x', f'⟩, hx'⟩ := Option.isSome_iff_exists.mp (p1 o ho)
              obtain ⟨a', b', t', u', rfl, _, h1, h2, _⟩ := cellR_some hx'
              exact ⟨h1.2.1, h2.2.1⟩
            rw [List.any_eq_true]
            constructor
            · rintro ⟨e, he, hs⟩
              obtain ⟨k, h1, h2⟩ := (shr_fld ⟨a2, t2⟩ (hes e he)).mp hs
              exact ⟨k, h1, e, he, h2⟩
            · rintro ⟨k, h1, e, he, h2⟩
              exact ⟨e, he, (shr_fld ⟨a2, t2⟩ (hes e he)).mpr ⟨k, h1, h2⟩⟩
          have oldF : ∀ k, Old es k → k ∈ Flds := by
            rintro k ⟨e, he, c, r, rfl, h1, h2⟩
            rw [p2] at he
            obtain ⟨o, ho, rfl⟩ := List.mem_map.mp he
            obtain ⟨⟨x', f'⟩, hx'⟩ := Option.isSome_iff_exists.mp (p1 o ho)
            obtain ⟨a', b', t', u', rfl, _, h3, h4, _⟩ := cellR_some hx'
            simp [rectOf] at h1 h2
            exact Flds_in (by omega) (by omega)
          simp [ct, c30, lev, hk5, hw1, g1, g2, g3, g4, lv_len]
          refine ⟨⟨3, f1, by omega, by omega⟩, fieldLoop ⟨a1, a2, by omega⟩ ⟨t1, t2, by omega⟩ pk oldF (fun kvs o6 o7 hh => ?_) fun kvs' o6 o7 hks hno => ?_⟩
          · rw [if_pos (any.mpr hh)] at p3
            rw [← p3] at hR
            simp
            exact hR
          · rw [if_neg fun h => hno (any.mp h)] at p3
            simp
            by_cases h60 : 60 < w + wd f
            · rw [if_pos h60] at p3
              rw [← p3] at hR
              have h60' : (60 : Int) < (w : Int) + (wd f : Int) := by omega
              simp [h60']
              exact hR
            · rw [if_neg h60] at p3
              have h60' : ¬ (60 : Int) < (w : Int) + (wd f : Int) := by omega
              simp [h60']
              refine ⟨w + wd f, es ++ [(a, b, t, u)], kvs', by simp, ⟨fun o ho => ?_, ?_⟩, hks.iff fun k => ?_, p3, by omega⟩
              · rw [take_s h3] at ho
                rcases List.mem_append.mp ho with ho | ho
                · exact p1 o ho
                · simp at ho; subst ho; rw [hx]; rfl
              · rw [take_s h3, p2]; simp [rectOf]
              · constructor
                · rintro ⟨e, he, h⟩
                  rcases List.mem_append.mp he with he | he
                  · exact .inl ⟨e, he, h⟩
                  · simp at he; subst he; exact .inr h
                · rintro (⟨e, he, h⟩ | h)
                  · exact ⟨e, List.mem_append_left _ he, h⟩
                  · exact ⟨_, by simp, h⟩
      · rintro ρ ⟨w, es, kvs, o4, o5, o6, o7, rfl, ⟨p1, p2⟩, pk, p3, p4⟩
        rw [enum_len, List.drop_length] at p3
        unfold judgeC at p3
        rw [← p3] at hR
        simp
        exact hR
  · exact h.elim
end
end P72
set_option linter.all false
set_option autoImplicit false
set_option maxRecDepth 20000
set_option maxHeartbeats 8000000
set_option Elab.async false
namespace P72
open PySem EV L2 A72
theorem rngD_mem {lo : Int} {n : Nat} {d : D} (h : d ∈ rngD lo n) : ∃ i : Nat, i < n ∧ d = .int (lo + i) := by
  obtain ⟨i, hi⟩ := List.getElem?_of_mem h
  obtain ⟨h1, h2⟩ := rngD_get hi
  exact ⟨i, h1, h2⟩
/-- a small field -/
def Fs (k : List Key) : Prop := ∃ c r : Int, k = [.inl c, .inl r] ∧ (0 ≤ c ∧ c < 4) ∧ (0 ≤ r ∧ r < 4)
theorem Fs.fl {k : List Key} (h : Fs k) : k ∈ Flds := by
  obtain ⟨c, r, rfl, h1, h2⟩ := h
  exact Flds_in (by omega) (by omega)
theorem keys_of {inner : List D} (h : ∀ x, x ∈ inner → ∃ c r : Int, x = .tup [.int c, .int r] ∧ (0 ≤ c ∧ c < 4) ∧ (0 ≤ r ∧ r < 4)) : ∃ ks : List (List Key), inner = ks.map tkD ∧ ∀ k, k ∈ ks → Fs k := by
  induction inner with
  | nil => exact ⟨[], rfl, by simp⟩
  | cons a l ih =>
    obtain ⟨ks, h1, h2⟩ := ih fun x hx => h x (List.mem_cons_of_mem _ hx)
    obtain ⟨c, r, rfl, h3, h4⟩ := h a List.mem_cons_self
    refine ⟨[.inl c, .inl r] :: ks, by rw [h1]; rfl, fun k hk => ?_⟩
    rcases List.mem_cons.mp hk with rfl | hk
    · exact ⟨c, r, rfl, h3, h4⟩
    · exact h2 k hk
def smalls : List (List Int) := (List.range 4).flatMap fun (c : Nat) => (List.range 4).map fun (r : Nat) => ([((c : Nat) : Int), ((r : Nat) : Int)] : List Int)
theorem hash_inj : ∀ x, x ∈ smalls → ∀ y, y ∈ smalls → hashI x = hashI y → x = y := by decide +kernel
def intsK (k : List Key) : List Int := k.map fun x => match x with
  | .inl i => i
  | .inr _ => 0
theorem Fs.sm {k : List Key} (h : Fs k) : intsK k ∈ smalls ∧ (intsK k).map Sum.inl = k := by
  obtain ⟨c, r, rfl, h1, h2⟩ := h
  obtain ⟨c, rfl⟩ : ∃ i : Nat, c = i := ⟨c.toNat, by omega⟩
  obtain ⟨r, rfl⟩ : ∃ i : Nat, r = i := ⟨r.toNat, by omega⟩
  exact ⟨List.mem_flatMap.mpr ⟨c, List.mem_range.mpr (by omega), List.mem_map.mpr ⟨r, List.mem_range.mpr (by omega), rfl⟩⟩, rfl⟩
theorem hash_ok {kvs : List (List Key × D)} {ks : List (List Key)} (hn : ks.Nodup) (h : ∀ k, k ∈ ks → Fs k) : HashOk kvs ks := by
  refine .inr ⟨ks.map intsK, ?_, ?_⟩
  · rw [List.map_map]
    conv => lhs; rw [← List.map_id ks]
    exact List.map_congr_left fun k hk => ((h k hk).sm.2).symm
  · rw [List.map_map]
    refine List.pairwise_map.mpr (List.Pairwise.imp_of_mem (fun {a b} ha hb hne e => ?_) hn)
    have := hash_inj _ (h a ha).sm.1 _ (h b hb).sm.1 e
    exact hne (by rw [← (h a ha).sm.2, ← (h b hb).sm.2, this])
section
variable {k : Nat} {rs : List RV} {R : RV → List Ow → Prop} {X : Nat → List D → Prop} {S : SPX} {K : EK} {P : RP}
theorem ob32 (hl : lev 32 rs < k + 1) (h : c32 rs R X) : Owe k io32 N32 b32 rs R X := by
  unfold c32 at h; split at h
  · rename_i kvs d
    obtain ⟨B, hM, hB, rfl, hR⟩ := h
    have hk : 33 < k + 1 := hl
    have hk0 : 0 < k := by omega
    have hk6 : 6 < k := by omega
    simp [owes, io32, N32, b32, ct, c23, lev, hk0]
    refine ⟨B, hM, by omega, fun r kvs h1 h2 hM => ⟨B + 1, hM, by omega, fun r' kvs h1' h2' hM => ⟨by decide, by decide, rfl, fun j ρ => ∃ kvs cs tk o6 o7 o8 o9 o10 o11 o12 o13, ρ = [some (.par 0 (.dK kvs)), some (.val (.int 3)), some (.val (.int (1 + r))), some (.val (.int (1 + r'))), some (.own (.lst cs)), some (.own (.dT tk)), o6, o7, o8, o9, o10, o11, o12, o13, none, none, none, none] ∧ cs.length ≤ 5 ∧ (∀ c, c ∈ cs → GCell c) ∧ (∃ Q, KS tk Q ∧ ∀ k, Q k → k ∈ Flds) ∧ MOk (B + 2 + j * 76) kvs, ?_, fun _ _ _ => trivial, ?_, ?_⟩⟩⟩
    · exact ⟨kvs, [], [], none, none, none, none, none, none, none, none, rfl, by simp, by simp, ⟨fun _ => False, by simp [KS], by simp⟩, by simpa using hM⟩
    · rintro j ρ d ⟨kvs, cs, tk, o6, o7, o8, o9, o10, o11, o12, o13, rfl, g1, g2, ⟨Q, g3, g4⟩, hM⟩ hd
      obtain ⟨hj, rfl⟩ := rngD_get hd
      have hj6 : j < 6 := hj
      simp [ct, c23, lev, hk0]
      refine ⟨_, hM, by omega, ⟨by omega, by omega⟩, fun lf kvs l1 l2 hM => ⟨_, hM, by omega, ⟨by omega, by omega⟩, fun tp kvs t1 t2 hM => ⟨_, hM, by omega, ⟨by omega, by omega⟩, fun x kvs x1 x2 hM => ⟨_, hM, by omega, fun y kvs y1 y2 hM => ⟨⟨by omega, log_ok (by omega) (by omega)⟩, _, hM, by omega, ⟨by omega, by omega⟩, fun x' kvs x1' x2' hM => ⟨_, hM, by omega, fun y' kvs y1' y2' hM => ⟨⟨by omega, log_ok (by omega) (by omega)⟩, ?_⟩⟩⟩⟩⟩⟩⟩
      have dv : ∀ x y : Int, 0 ≤ x → 0 ≤ y → y < 2 → 0 ≤ x / (1 + y) ∧ x / (1 + y) ≤ x := fun x y h1 h2 h3 => by
        have : y = 0 ∨ y = 1 := by omega
        rcases this with rfl | rfl <;> omega
      have dx := dv x y x1 y1 y2
      have dx' := dv x' y' x1' y1' y2'
      generalize x / (1 + y) = xx at dx
      generalize x' / (1 + y') = xx' at dx'
      obtain ⟨rt, hrt⟩ : ∃ rt, rt = lf + 1 + xx := ⟨_, rfl⟩
      obtain ⟨ft, hft⟩ : ∃ ft, ft = tp + 1 + xx' := ⟨_, rfl⟩
      rw [← hrt, ← hft]
      have q1 : 0 ≤ lf ∧ lf < rt ∧ rt ≤ 4 := by omega
      have q2 : 0 ≤ tp ∧ tp < ft ∧ ft ≤ 3 := by omega
      refine ⟨by unfold big; omega, by unfold big; omega, by unfold big; omega, by unfold big; omega, ?_⟩
      have p1 : -big ≤ lf := by unfold big; omega
      have p2 : lf < big := by unfold big; omega
      have p3 : -big ≤ rt := by unfold big; omega
      have p4 : rt < big := by unfold big; omega
      refine cm_map (fun d => .lst ((rngD lf (rt - lf).toNat).map fun c => .tup [c, d])) (by simp [rngD_len]; omega) (by simp) (fun d hd A hA => ?_) ?_
      · obtain ⟨i, hi, rfl⟩ := rngD_mem hd
        simp [p1, p2, p3, p4]
        refine cm_map (fun c => .tup [c, .int (tp + i)]) (by simp [rngD_len]; omega) (by simp) (fun d hd A' hA' => ?_) ?_
        · obtain ⟨l, hl, rfl⟩ := rngD_mem hd
          simp
          simpa using hA'
        · simp
          simpa using hA
      simp [ct, c27]
      obtain ⟨ls, hls⟩ : ∃ ls, ls = (rngD tp (ft - tp).toNat).map fun d => (rngD lf (rt - lf).toNat).map fun c => D.tup [c, d] := ⟨_, rfl⟩
      have hml : (rngD tp (ft - tp).toNat).map (fun d => D.lst ((rngD lf (rt - lf).toNat).map fun c => .tup [c, d])) = ls.map .lst := by rw [hls, List.map_map]; rfl
      have hin : ∀ x, x ∈ ls.flatten → ∃ c r : Int, x = .tup [.int c, .int r] ∧ (0 ≤ c ∧ c < 4) ∧ (0 ≤ r ∧ r < 4) := fun x hx => by
        obtain ⟨l, hl, hx⟩ := List.mem_flatten.mp hx
        rw [hls] at hl
        obtain ⟨d, hd, rfl⟩ := List.mem_map.mp hl
        obtain ⟨i, hi, rfl⟩ := rngD_mem hd
        obtain ⟨c, hc, rfl⟩ := List.mem_map.mp hx
        obtain ⟨l, hl, rfl⟩ := rngD_mem hc
        exact ⟨_, _, rfl, by omega, by omega⟩
      have hll : ls.flatten.length ≤ 12 := by
        have := flat_len (g := fun l : List D => l) (m := 4) (l := ls) fun l hl => by
          rw [hls] at hl
          obtain ⟨d, hd, rfl⟩ := List.mem_map.mp hl
          simp [rngD_len]; omega
        have e : ls.flatMap (fun l => l) = ls.flatten := by simp [List.flatMap]
        rw [e] at this
        have hln : ls.length ≤ 3 := by rw [hls]; simp [rngD_len]; omega
        omega
      obtain ⟨ks, hks, hkf⟩ := keys_of hin
      simp only [hml]
      refine ⟨ls, rfl, by simp at hll; omega, ?_⟩
      have hksl : ks.length ≤ 12 := by have := congrArg List.length hks; simp at this hll; omega
      rw [hks]
      clear hml hin hls hll hks
      simp [ct, c28, lev, hk6]
      refine ⟨_, hM, by omega, fun f kvs f1 f2 hM => ?_⟩
      have f1 : Fo 3 f := f1
      have f2 : wd f ≤ 31 := f2
      have hfd := f1.dp
      have hk5 : 5 + dp f < k := by omega
      have hw1 : wd f ≤ 1000 := by omega
      refine cm_map (fun c => .int (wd (fmOf c) : Nat)) (by simp; omega) (by simp) (fun d hd A hA => ?_) ?_
      · have hd : d ∈ cs := hd
        obtain ⟨a, b, t, u, f', rfl, _, _, _, _, hf', hw'⟩ := g2 d hd
        have hfd' := hf'.dp
        have hk5' : 5 + dp f' < k := by omega
        have hw1' : wd f' ≤ 1000 := by omega
        simp [ct, c30, lev, hk5', hw1', lv_len]
        exact ⟨⟨3, hf', by omega, by omega⟩, by simpa [fmOf] using hA⟩
      simp [intsD_m, ct, c30, lev, hk5, hw1, lv_len]
      refine ⟨⟨3, f1, by omega, by omega⟩, ?_⟩
      have hM : MOk (B + 2 + (j + 1) * 76) kvs := hM.le (by
        have : Bd 3 = 70 := rfl
        omega)
      refine cnd_i (fun e1 => ?_) fun e1 => ?_
      rotate_left
      · exact ⟨kvs, cs, tk, by simp, g1, g2, ⟨Q, g3, g4⟩, hM⟩
      refine cnd_i (fun e2 => ?_) fun e2 => ?_
      rotate_left
      · exact ⟨kvs, cs, tk, by simp, g1, g2, ⟨Q, g3, g4⟩, hM⟩
      have e1 : cs.length < 5 := by simp at e1; omega
      have htk : tk.length ≤ 144 := g3.len2 g4
      have hfl : ∀ d, d ∈ ks.map tkD → ∃ c r : Int, d = .tup [.int c, .int r] ∧ (0 ≤ c ∧ c < 4) ∧ (0 ≤ r ∧ r < 4) := fun d hd => by
        obtain ⟨k, hk, rfl⟩ := List.mem_map.mp hd
        obtain ⟨c, r, rfl, h1, h2⟩ := hkf k hk
        exact ⟨c, r, rfl, h1, h2⟩
      refine cm_pure (fun d => match d with | .tup [.int c, .int r] => if (lookA [.inl c, .inl r] (tk.map (·.1)) (tk.map (·.2))).isSome then some d else none | _ => none) (by simp; omega) (by simp) (fun d hd A hA => ?_) ?_
      · obtain ⟨c, r, rfl, _, _⟩ := hfl d hd
        simp [owd_T]
        cases e : (lookA [.inl c, .inl r] (tk.map (·.1)) (tk.map (·.2))).isSome with
        | true => simp [e] at hA; simpa using hA
        | false => simp [e] at hA; simpa using hA
      generalize hflt : (ks.map tkD).filterMap (fun d => match d with | .tup [.int c, .int r] => if (lookA [.inl c, .inl r] (tk.map (·.1)) (tk.map (·.2))).isSome then some d else none | _ => none) = flt
      have hok : (D.lst flt).okEq := by
        have hsub : ∀ d, d ∈ flt → ∃ c r : Int, d = .tup [.int c, .int r] ∧ (0 ≤ c ∧ c < 4) ∧ (0 ≤ r ∧ r < 4) := fun d hd => by
          rw [← hflt] at hd
          obtain ⟨d', hd', he⟩ := List.mem_filterMap.mp hd
          obtain ⟨c, r, rfl, h1, h2⟩ := hfl d' hd'
          dsimp only at he
          split at he
          · injection he with he
            exact ⟨c, r, he.symm, h1, h2⟩
          · cases he
        refine nice_eq ?_ ?_
        · simp only [nice_l]
          refine nices_i.mpr fun d hd => ?_
          obtain ⟨c, r, rfl, h1, h2⟩ := hsub d hd
          simp; omega
        · have : dps flt ≤ 1 := dps_le fun d hd => by
            obtain ⟨c, r, rfl, h1, h2⟩ := hsub d hd
            simp
          unfold dp; omega
      simp [eqX, hok, okEq_ln]
      cases flt with
      | cons x fl =>
        simp [eqv_ln]
        exact ⟨kvs, cs, tk, by simp, g1, g2, ⟨Q, g3, g4⟩, hM⟩
      | nil =>
        simp [eqv_lnn]
        refine ⟨by omega, ?_⟩
        refine cm_map (fun d => .tup [d, .bl true]) (by simp; omega) (by simp) (fun d hd A hA => ?_) ?_
        · simp
          simpa using hA
        have e : (ks.map tkD).map (fun d => D.tup [d, .bl true]) = ks.map fun k => .tup [tkD k, .bl true] := by rw [List.map_map]; rfl
        simp only [e]
        simp [pairsT_m, Ow.d]
        have hm : KS (mergeA [] (ks.map fun k => (k, D.bl true))) (fun k => k ∈ ks) := KS.merge (Q := fun _ => False) ⟨by simp, by simp⟩ fun x => by simp
        have hlm := hm.len2 fun k hk => (hkf k hk).fl
        rw [zip_m]
        refine ⟨hash_ok hm.1 fun k hk => hkf k ((hm.2 k).mp hk), by omega, kvs, cs ++ [.tup [.int lf, .int rt, .int tp, .int ft, f]], mergeA tk (mergeA [] (ks.map fun k => (k, D.bl true))), by simp, by simp; omega, fun c hc => ?_, ⟨fun k => Q k ∨ k ∈ (mergeA [] (ks.map fun k => (k, D.bl true))).map (·.1), g3.merge fun x => Iff.rfl, fun k hk => ?_⟩, hM⟩
        · rcases List.mem_append.mp hc with hc | hc
          · exact g2 c hc
          · simp at hc
            subst hc
            exact ⟨lf, rt, tp, ft, f, rfl, by omega, by omega, by omega, by omega, f1, f2⟩
        · rcases hk with hk | hk
          · exact g4 k hk
          · exact (hkf k ((hm.2 k).mp hk)).fl
    · rintro ρ ⟨kvs, cs, tk, o6, o7, o8, o9, o10, o11, o12, o13, rfl, g1, g2, _, hM⟩
      simp only [rngD_len] at hM
      simp
      exact hR _ _ ⟨_, _, cs, rfl, by omega, by omega, g1, g2⟩ (hM.le (by omega))
  · exact h.elim
end
end P72
set_option linter.all false
set_option autoImplicit false
set_option maxRecDepth 20000
set_option maxHeartbeats 8000000
set_option Elab.async false
namespace P72
open PySem EV L2 A72
/-- a cell that may come up -/
def CN1 (c : D) : Prop := CV c ∧ nice c = true ∧ szD c ≤ 3000 ∧ dp c ≤ 15
/-- a value that may come up -/
def NG (v : D) : Prop := GV v ∧ Shw (.lst [v])
theorem cells_sz {xs : List D} (h : ∀ c, c ∈ xs → CN1 c) : szs xs ≤ 3002 * xs.length ∧ nices xs = true ∧ dps xs ≤ 15 := by
  refine ⟨?_, nices_i.mpr fun c hc => (h c hc).2.1, dps_le fun c hc => (h c hc).2.2.2⟩
  induction xs with
  | nil => simp
  | cons a l ih =>
    have h1 := (h a List.mem_cons_self).2.2.1
    have h2 := ih fun c hc => h c (List.mem_cons_of_mem _ hc)
    simp
    omega
theorem Sc_nice {a : D} (h : Sc a) : nice a = true ∧ szD a ≤ 8 ∧ dp a = 0 := by
  rcases h with ⟨i, rfl, _, _⟩ | ⟨b, rfl⟩ | rfl | rfl
  · simp; omega
  · simp [dp]
  · simp
  · simp [WORDS]
theorem ng3 {a b : D} {xs : List D} (ha : Sc a) (hb : Sc b) (hl : xs.length ≤ 30) (h : ∀ c, c ∈ xs → CN1 c) : NG (.tup [a, b, .tup xs]) := by
  obtain ⟨h1, h2, h3⟩ := cells_sz h
  obtain ⟨a1, a2, a3⟩ := Sc_nice ha
  obtain ⟨b1, b2, b3⟩ := Sc_nice hb
  refine ⟨.inr (.inr (.inr ⟨a, b, _, rfl, ha, hb, .inr ⟨xs, rfl, hl, fun c hc => (h c hc).1⟩⟩)), nice_sh (by simp [a1, b1, h2]) (by unfold dp; simp; omega) (by simp; omega)⟩
theorem sgA : Fo 1 (.tup [.str "sign", .str "a"]) := .sign (.inl rfl)
theorem fmA : Fm (.tup [.str "sign", .str "a"]) := .inl ⟨sgA.le (by omega), by rw [wd_eq sgA (by omega)]; simp [partsOf]⟩
theorem sgB : Fo 1 (.tup [.str "sign", .str "b"]) := .sign (.inr (.inl rfl))
theorem fmB : Fm (.tup [.str "sign", .str "b"]) := .inl ⟨sgB.le (by omega), by rw [wd_eq sgB (by omega)]; simp [partsOf]⟩
theorem cn5 {a b t u f : D} (ha : Sc a) (hb : Sc b) (ht : Sc t) (hu : Sc u) (hf : Fm f) : CN1 (.tup [a, b, t, u, f]) := by
  obtain ⟨a1, a2, a3⟩ := Sc_nice ha
  obtain ⟨b1, b2, b3⟩ := Sc_nice hb
  obtain ⟨t1, t2, t3⟩ := Sc_nice ht
  obtain ⟨u1, u2, u3⟩ := Sc_nice hu
  obtain ⟨f1, f2, f3⟩ := hf.nice
  exact ⟨.inr (.inr (.inr ⟨a, b, t, u, f, rfl, ha, hb, ht, hu, hf⟩)), by simp [a1, b1, t1, u1, f1], by simp; omega, by simp; omega⟩
theorem scI {i : Int} (h : -20 ≤ i) (h2 : i ≤ 20) : Sc (.int i) := .inl ⟨i, rfl, h, h2⟩
theorem scB {b : Bool} : Sc (.bl b) := .inr (.inl ⟨b, rfl⟩)
theorem scN : Sc .non := .inr (.inr (.inl rfl))
theorem sc1 : Sc (.str "1") := .inr (.inr (.inr rfl))
theorem GCell.cn {c : D} (h : GCell c) : CN1 c := by
  obtain ⟨a, b, t, u, f, rfl, _, _, _, _, hf, hw⟩ := h
  exact cn5 (scI (by omega) (by omega)) (scI (by omega) (by omega)) (scI (by omega) (by omega)) (scI (by omega) (by omega)) (.inl ⟨hf, hw⟩)
theorem sml {v : D} (h : GV v) (hn : nice v = true) (hd : dp v ≤ 50) (hs : szD v ≤ 100000) : NG v := ⟨h, nice_sh (by simp [hn]) (by unfold dp; simp; omega) (by simp; omega)⟩
theorem rowA {n : Nat} (h : 28 ≤ n) (h2 : n ≤ 30) : Fm (.tup (.str "row" :: List.replicate n (.tup [.str "sign", .str "a"]))) := by
  have hF : Fo 2 (.tup (.str "row" :: List.replicate n (.tup [.str "sign", .str "a"]))) := .row (fun e => by have := congrArg List.length e; simp at this; omega) fun p hp => by
    rw [List.eq_of_mem_replicate hp]; exact sgA
  refine .inl ⟨hF.le (by omega), ?_⟩
  rw [wd_eq hF (by omega), po_row, plc_w]
  have : wd (.tup [.str "sign", .str "a"]) = 1 := by rw [wd_eq sgA (by omega)]; simp [partsOf]
  have hs : sumW (List.replicate n (.tup [.str "sign", .str "a"])) = n := by
    clear hF h h2
    induction n with
    | zero => rfl
    | succ n ih => rw [List.replicate_succ, sumW_c, ih, this]; omega
  omega
section
variable {k : Nat} {rs : List RV} {R : RV → List Ow → Prop} {X : Nat → List D → Prop} {S : SPX} {K : EK} {P : RP}
theorem ob37 (hl : lev 37 rs < k + 1) (h : c37 rs R X) : Owe k io37 N37 b37 rs R X := by
  unfold c37 at h; split at h
  · rename_i kvs g bs
    obtain ⟨B, hM, hB, ⟨C, N, cs, rfl, hC, hN, hcl, hcs⟩, rfl, hR⟩ := h
    have hk : 10 < k + 1 := hl
    have hk0 : 0 < k := by omega
    have hk1 : 1 < k := by omega
    have hR' : ∀ v kvs', NG v → MOk (B + 2) kvs' → R (.val v) [.dK kvs'] := fun v kvs' h1 h2 => hR v kvs' h1.1 h1.2 h2
    have cn : ∀ c, c ∈ cs → CN1 c := fun c hc => (hcs c hc).cn
    have scC : Sc (.int C) := scI (by omega) (by omega)
    have scR : Sc (.int N) := scI (by omega) (by omega)
    have ex : CN1 (.tup [.int 0, .int 1, .int 0, .int 1, .tup [.str "sign", .str "a"]]) := cn5 (scI (by omega) (by omega)) (scI (by omega) (by omega)) (scI (by omega) (by omega)) (scI (by omega) (by omega)) fmA
    obtain ⟨z1, z2, z3⟩ := cells_sz cn
    simp [owes, io37, N37, b37, ct, c23, lev, hk0]
    refine ⟨B, hM, by omega, fun w kvs w1 w2 hM => ?_⟩
    have hM1 : MOk (B + 2) kvs := hM.le (by omega)
    refine cnd_i (fun e => ?_) fun e0 => ?_
    · simp [ct, c24, lev, hk1]
      refine ⟨_, hM, by omega, fun x kvs' hx hM => hR' _ _ ?_ hM⟩
      rcases hx with rfl | rfl | rfl | rfl | rfl
      · exact ng3 (scI (by omega) (by omega)) scR (by omega) cn
      · exact ng3 (scI (by omega) (by omega)) scR (by omega) cn
      · exact ng3 scC (scI (by omega) (by omega)) (by omega) cn
      · exact ng3 scB scR (by omega) cn
      · exact ng3 scC scN (by omega) cn
    try simp
    refine cnd_i (fun e => ?_) fun e1 => ?_
    · simp [ct, c24, lev, hk1]
      refine ⟨_, hM, by omega, fun x kvs' hx hM => hR' _ _ ?_ hM⟩
      have hCn : nice (.int C) = true := (Sc_nice scC).1
      have hNn : nice (.int N) = true := (Sc_nice scR).1
      rcases hx with rfl | rfl | rfl | rfl | rfl | rfl
      · exact sml (.inl rfl) (by simp) (by simp) (by simp)
      · exact sml (.inr (.inr (.inl ⟨_, rfl, by simp⟩))) (by simp) (by simp) (by simp)
      · exact sml (.inr (.inl ⟨_, rfl⟩)) (by simp only [nice_l, nices_c, nices_n, hCn, hNn, nice_t, z2]; rfl) (by unfold dp; simp; omega) (by simp; omega)
      · exact sml (.inr (.inr (.inl ⟨_, rfl, by simp⟩))) (by simp only [nices_c, nices_n, hCn, hNn, nice_t]; rfl) (by simp) (by simp)
      · exact sml (.inr (.inr (.inr ⟨_, _, _, rfl, scC, scR, .inl ⟨_, rfl⟩⟩))) (by simp only [nice_l, nices_c, nices_n, hCn, hNn, nice_t, z2]; rfl) (by unfold dp; simp; unfold dp; omega) (by simp; omega)
      · exact sml (.inr (.inr (.inl ⟨_, rfl, by simp⟩))) (by simp only [nices_c, nices_n, hCn, hNn, nice_t, z2, nice_i]; decide) (by simp; omega) (by simp; omega)
    try simp
    refine cnd_i (fun e => ?_) fun e2 => ?_
    · try simp
      exact ⟨by omega, hR' _ _ (ng3 scC scR (by simp; omega) fun c hc => by
        rcases List.mem_append.mp hc with hc | hc
        · exact cn c hc
        · simp at hc; subst hc; exact ex) hM1⟩
    try simp
    refine cnd_i (fun e => ?_) fun e3 => ?_
    · try simp
      exact ⟨by omega, hR' _ _ (ng3 scC scR (by simp; omega) fun c hc => by
        rcases List.mem_cons.mp hc with rfl | hc
        · exact ex
        · exact cn c hc) hM1⟩
    try simp
    refine cnd_i (fun e => ?_) fun e4 => ?_
    · simp [cut_hi (show (0 : Int) ≤ 1 by omega), cut_lo (show (0 : Int) ≤ 1 by omega)]
      refine ⟨by omega, by omega, hR' _ _ (ng3 scC scR (by simp; omega) fun c hc => ?_) hM1⟩
      rcases List.mem_append.mp hc with hc | hc
      · exact cn c (List.mem_of_mem_take hc)
      · rcases List.mem_cons.mp hc with rfl | hc
        · exact cn5 (scI (by omega) (by omega)) (scI (by omega) (by omega)) (scI (by omega) (by omega)) (scI (by omega) (by omega)) fmA
        · exact cn c (List.mem_of_mem_tail hc)
    try simp
    refine cnd_i (fun e => ?_) fun e5 => ?_
    · simp [ct, c24, lev, hk1]
      refine ⟨_, hM, by omega, fun x kvs' hx hM => ⟨by omega, hR' _ _ (ng3 scC scR (by simp; omega) fun c hc => ?_) hM⟩⟩
      have hx' : CN1 x := by
        rcases hx with rfl | rfl | rfl | rfl | rfl | rfl | rfl | rfl
        · exact ⟨.inl rfl, by simp, by simp, by simp⟩
        · exact ⟨.inr (.inr (.inl ⟨_, rfl, by simp⟩)), by simp, by simp, by simp⟩
        · exact ⟨.inr (.inr (.inl ⟨_, rfl, by simp⟩)), by simp, by simp, by simp⟩
        · exact ⟨.inr (.inl ⟨_, rfl⟩), by simp [WORDS], by simp, by simp [dp]⟩
        · exact cn5 (scI (by omega) (by omega)) (scI (by omega) (by omega)) (scI (by omega) (by omega)) (scI (by omega) (by omega)) fmA
        · exact cn5 (scI (by omega) (by omega)) scB (scI (by omega) (by omega)) (scI (by omega) (by omega)) fmA
        · exact cn5 (scI (by omega) (by omega)) (scI (by omega) (by omega)) (scI (by omega) (by omega)) (scI (by omega) (by omega)) fmA
        · exact cn5 (scI (by omega) (by omega)) (scI (by omega) (by omega)) (scI (by omega) (by omega)) sc1 fmA
      rcases List.mem_append.mp hc with hc | hc
      · exact cn c hc
      · simp at hc; subst hc; exact hx'
    try simp
    refine cnd_i (fun e => ?_) fun e6 => ?_
    · simp [ct, c24, lev, hk1]
      refine ⟨_, hM, by omega, ⟨by simp [BAD], by simp [BAD]⟩, fun x kvs' hx hM => ⟨by omega, hR' _ _ (ng3 scC scR (by simp; omega) fun c hc => ?_) hM⟩⟩
      rcases List.mem_cons.mp hc with rfl | hc
      · exact cn5 (scI (by omega) (by omega)) (scI (by omega) (by omega)) (scI (by omega) (by omega)) (scI (by omega) (by omega)) (.inr hx)
      · exact cn c hc
    simp [ct, c24, lev, hk1]
    refine ⟨_, hM, by omega, fun x kvs' hx hM => ?_⟩
    have fin : ∀ n : Nat, 28 ≤ n → n ≤ 30 → R (.val (.tup [.int 12, .int 12, .tup [.tup [.int 0, .int 1, .int 0, .int 1, .tup (.str "row" :: List.replicate n (.tup [.str "sign", .str "a"]))], .tup [.int 1, .int 2, .int 0, .int 1, .tup (.str "row" :: List.replicate n (.tup [.str "sign", .str "a"]))], .tup [.int 2, .int 3, .int 0, .int 1, .tup [.str "sign", .str "b"]]]])) [.dK kvs'] := fun n h1 h2 => by
      have hr := rowA h1 h2
      refine hR' _ _ (ng3 (scI (by omega) (by omega)) (scI (by omega) (by omega)) (by simp) fun c hc => ?_) hM
      simp at hc
      rcases hc with rfl | rfl | rfl
      · exact cn5 (scI (by omega) (by omega)) (scI (by omega) (by omega)) (scI (by omega) (by omega)) (scI (by omega) (by omega)) hr
      · exact cn5 (scI (by omega) (by omega)) (scI (by omega) (by omega)) (scI (by omega) (by omega)) (scI (by omega) (by omega)) hr
      · exact cn5 (scI (by omega) (by omega)) (scI (by omega) (by omega)) (scI (by omega) (by omega)) (scI (by omega) (by omega)) fmB
    have fl : ∀ n : Nat, (List.replicate n [D.tup [.str "sign", .str "a"]]).flatten = List.replicate n (.tup [.str "sign", .str "a"]) := fun n => by
      induction n with
      | zero => rfl
      | succ n ih => simp [List.replicate_succ, ih]
    rcases hx with rfl | rfl | rfl
    · simp
      exact fin 28 (by omega) (by omega)
    · simp
      exact fin 29 (by omega) (by omega)
    · simp
      exact fin 30 (by omega) (by omega)
  · exact h.elim
end
end P72
set_option linter.all false
set_option autoImplicit false
set_option maxRecDepth 20000
set_option maxHeartbeats 8000000
set_option Elab.async false
namespace P72
open PySem EV L2 A72
theorem keys_inv : ∀ {xs : List D} {k : List Key}, D.keys xs = some k → xs = k.map kD
  | [], k, h => by cases h; rfl
  | .int i :: r, k, h => by
    simp at h
    obtain ⟨k', h', rfl⟩ := h
    rw [keys_inv h']; rfl
  | .str i :: r, k, h => by
    simp at h
    obtain ⟨k', h', rfl⟩ := h
    rw [keys_inv h']; rfl
  | .non :: r, k, h => by simp [D.keys, D.key] at h
  | .bl _ :: r, k, h => by simp [D.keys, D.key] at h
  | .tup _ :: r, k, h => by simp [D.keys, D.key] at h
  | .lst _ :: r, k, h => by simp [D.keys, D.key] at h
  | .tC _ :: r, k, h => by simp [D.keys, D.key] at h
  | .dK _ _ :: r, k, h => by simp [D.keys, D.key] at h
  | .dT _ _ :: r, k, h => by simp [D.keys, D.key] at h
  | .dC _ _ :: r, k, h => by simp [D.keys, D.key] at h
  | .ins _ _ :: r, k, h => by simp [D.keys, D.key] at h
theorem plains_kD : ∀ {k : List Key}, D.plains (k.map kD) = true
  | [] => rfl
  | .inl i :: r => by show (true && _) = true; simp [plains_kD]
  | .inr i :: r => by show (true && _) = true; simp [plains_kD]
theorem tkn_py {d : D} {k : List Key} (h : tkn d = some k) : d.plain = true ∧ d.py = (tkD k).py := by
  unfold tkn at h
  cases d with
  | tup xs =>
    have e := keys_inv (show D.keys xs = some k from h)
    subst e
    exact ⟨by unfold D.plain; exact plains_kD, rfl⟩
  | tC xs =>
    have e := keys_inv (show D.keys xs = some k from h)
    subst e
    exact ⟨by unfold D.plain; exact plains_kD, by unfold tkD; simp [D.py]⟩
  | _ => cases h
theorem tkns_py : ∀ {ds : List D} {ns : List (List Key)}, ds.map tkn = ns.map some → D.plains ds = true ∧ D.pys ds = D.pys (ns.map tkD)
  | [], [], _ => ⟨rfl, rfl⟩
  | d :: ds, n :: ns, h => by
    simp at h
    obtain ⟨h1, h2⟩ := tkn_py h.1
    obtain ⟨h3, h4⟩ := tkns_py h.2
    simp [D.plains, D.pys, h1, h2, h3, h4]
  | [], _ :: _, h => by simp at h
  | _ :: _, [], h => by simp at h
theorem names_shw {ns : List (List Key)} (h : ∀ k, k ∈ ns → k ∈ Names) (hl : ns.length ≤ 45) : Shw (.tup (ns.map tkD)) := by
  refine nice_sh ?_ ?_ ?_
  · simp only [nice_t]
    exact nices_i.mpr fun x hx => by
      obtain ⟨k, hk, rfl⟩ := List.mem_map.mp hx
      exact (Names_nice0 k (h k hk)).1
  · have : dps (ns.map tkD) ≤ 1 := dps_le fun x hx => by
      obtain ⟨k, hk, rfl⟩ := List.mem_map.mp hx
      rw [Names_dp0 k (h k hk)]; omega
    simp only [dp_t]; omega
  · have : szs (ns.map tkD) ≤ 62 * ns.length := by
      clear hl
      induction ns with
      | nil => simp
      | cons a l ih =>
        have h1 := (Names_nice0 a (h a List.mem_cons_self)).2
        have h2 := ih fun k hk => h k (List.mem_cons_of_mem _ hk)
        simp only [List.map_cons, szs_c, List.length_cons]
        omega
    simp only [szD_t, lim_val]; omega
theorem judgeC_q {C N : Int} : ∀ {cs : List D} {k w : Nat} {es : List Rect} {q : D}, judgeC C N cs k w es = some q → ∃ i : Nat, q = .int i ∧ i < k + cs.length
  | [], k, w, es, q, h => by simp [judgeC] at h
  | c :: r, k, w, es, q, h => by
    unfold judgeC at h
    split at h
    · injection h with h; exact ⟨k, h.symm, by simp⟩
    · split at h
      · injection h with h; exact ⟨k, h.symm, by simp⟩
      · split at h
        · injection h with h; exact ⟨k, h.symm, by simp⟩
        · obtain ⟨i, h1, h2⟩ := judgeC_q h
          exact ⟨i, h1, by simp; omega⟩
theorem judge_q {v q : D} (h : judge v = some q) : Shw q := by
  have fin : ∀ q : D, q = .non ∨ (∃ i : Nat, q = .int i ∧ i ≤ 24) → Shw q := fun q hq => by
    rcases hq with rfl | ⟨i, rfl, hi⟩
    · exact nice_sh (by simp) (by simp) (by simp)
    · exact nice_sh (by simp; omega) (by simp) (by simp)
  unfold judge at h
  split at h
  · split at h
    · rename_i hc
      obtain ⟨i, h1, h2⟩ := judgeC_q h
      exact fin q (.inr ⟨i, h1, by omega⟩)
    · injection h with h; exact fin q (.inl h.symm)
  · injection h with h; exact fin q (.inl h.symm)
theorem GOk.ng {g : D} (h : GOk g) : NG g := by
  obtain ⟨C, N, cs, rfl, hC, hN, hcl, hcs⟩ := h
  exact ng3 (scI (by omega) (by omega)) (scI (by omega) (by omega)) (by omega) fun c hc => (hcs c hc).cn
theorem gn_in {cs : List D} (hg : ∀ c, c ∈ cs → GCell c) : ∀ k, k ∈ gnms cs → k ∈ Names := fun k hk => by
  unfold gnms at hk
  rcases List.mem_cons.mp hk with rfl | hk
  · exact in2 _ (by simp) _ (by simp)
  · obtain ⟨c, hcm, hk⟩ := List.mem_flatMap.mp hk
    obtain ⟨a, b, t, u, f, rfl, _, _, _, _, hf, _⟩ := hg c hcm
    exact nms_in hf k hk
def f2 (d : D) : D := match d with
  | .tup [.int a, .int b] => .tup [.int a, .int (a + 1), .int b, .int (b + 1), .tup [.str "sign", .str "a"]]
  | _ => .non
def MANY : List D := ((rngD 0 12).map fun d => D.tup [d, .int 0]).map f2 ++ ((rngD 0 12).map fun d => D.tup [d, .int 1]).map f2
theorem many_ok : (judge (.tup [.int 12, .int 12, .tup MANY])).isNone = true := by decide +kernel
theorem many_len : MANY.length = 24 := by decide +kernel
theorem many_cn : ∀ c, c ∈ MANY → CN1 c := fun c hc => by
  have fin : ∀ (n : Int) (c : D), 0 ≤ n → n ≤ 1 → c ∈ ((rngD 0 12).map fun d => D.tup [d, .int n]).map f2 → CN1 c := fun n c h1 h2 hc => by
    obtain ⟨x, hx, rfl⟩ := List.mem_map.mp hc
    obtain ⟨d, hd, rfl⟩ := List.mem_map.mp hx
    obtain ⟨i, hi, rfl⟩ := rngD_mem hd
    exact cn5 (scI (by omega) (by omega)) (scI (by omega) (by omega)) (scI (by omega) (by omega)) (scI (by omega) (by omega)) fmA
  rcases List.mem_append.mp hc with hc | hc
  · exact fin 0 c (by omega) (by omega) hc
  · exact fin 1 c (by omega) (by omega) hc
section
variable {k : Nat} {rs : List RV} {R : RV → List Ow → Prop} {X : Nat → List D → Prop} {S : SPX} {K : EK} {P : RP}
theorem bad_shw {d : D} (h : d ∈ BAD) : Shw d := by
  obtain ⟨h1, h2, h3⟩ := BAD_nice d h
  exact nice_sh h1 (by omega) (by simp; omega)
theorem ob38 (hl : lev 38 rs < k + 1) (h : c38 rs R X) : Owe k io38 N38 b38 rs R X := by
  unfold c38 at h; split at h
  · obtain ⟨⟨ns, rfl, hns⟩, hR⟩ := h
    have hk : 40 < k + 1 := hl
    have hk0 : 0 < k := by omega
    have hk10 : 10 < k := by omega
    have hk33 : 33 < k := by omega
    have hk34 : 34 < k := by omega
    have hB : ([.non, .tup [], .tup [.str "sign", .str "A"], .tup [.str "row"], .tup [.str "high", .tup [.str "row", .tup [.str "sign", .str "a"]], .tup [.str "sign", .str "a"]], .lst [.str "sign", .str "a"], .tup [.str "rule", .int 1]] : List D) = BAD := rfl
    simp [owes, io38, N38, b38]
    simp only [hB]
    refine cm_map (fun d => .str d.py.shown) (by simp [BAD]) (by simp) (fun d hd A hA => ?_) ?_
    · obtain ⟨s1, s2, s3, s4⟩ := bad_shw (show d ∈ BAD from hd)
      simp at s4
      simp [s1, s2, s3, s4]
      simpa using hA
    have hT : BAD.map (fun d => D.str d.py.shown) = BADT.map .str := by unfold BADT; rw [List.map_map]; rfl
    simp only [hT]
    simp
    obtain ⟨n, hn, hn4⟩ : ∃ n : Nat, (2 + if (ns.length : Int) < 2 then (ns.length : Int) else 2) = n ∧ n ≤ 4 := by
      split
      · exact ⟨2 + ns.length, by omega, by omega⟩
      · exact ⟨4, by omega, by omega⟩
    simp only [hn, Int.toNat_natCast]
    let B1 : Option SV → Prop := fun s => s = some (.own (.lst BAD)) ∨ s = some (.val (.lst BAD))
    let B2 : Option SV → Prop := fun s => s = some (.own (.lst (BADT.map .str))) ∨ s = some (.val (.lst (BADT.map .str)))
    have b1 : ∀ {s : Option SV} {ρ : EV.Env} {P : RP}, B1 s → P (.val (.lst BAD)) (put ρ 1 (some (.val (.lst BAD)))) → put ρ 1 s = ρ → gA s 1 ρ P := fun {s ρ P} h1 h2 h3 => by
      rcases h1 with rfl | rfl
      · exact h2
      · rw [h3] at h2; exact h2
    have b2 : ∀ {s : Option SV} {ρ : EV.Env} {P : RP}, B2 s → P (.val (.lst (BADT.map .str))) (put ρ 2 (some (.val (.lst (BADT.map .str))))) → put ρ 2 s = ρ → gA s 2 ρ P := fun {s ρ P} h1 h2 h3 => by
      rcases h1 with rfl | rfl
      · exact h2
      · rw [h3] at h2; exact h2
    refine ⟨by unfold big; omega, by unfold big; omega, rfl, fun j ρ => ∃ s1 s2 o3 o4 o5 o6, ρ = [some (.val (.lst (ns.map .int))), s1, s2, o3, o4, o5, o6, none, none, none, none, none, none] ∧ B1 s1 ∧ B2 s2, ⟨_, _, none, none, none, none, rfl, .inl rfl, .inl rfl⟩, fun _ _ _ => trivial, ?_, ?_⟩
    · rintro j ρ d ⟨s1, s2, o3, o4, o5, o6, rfl, h1, h2⟩ hd
      obtain ⟨hj, rfl⟩ := rngD_get hd
      simp [ct, c22, lev, hk0]
      refine ⟨⟨ns, rfl, hns⟩, by omega, fun kvs hM => ?_⟩
      simp [ct, c32, lev, hk33]
      refine ⟨0, hM, by omega, fun g kvs hg hM => ?_⟩
      have hng := hg.ng
      obtain ⟨C, N, cs, rfl, hC, hN, hcl, hcs⟩ := hg
      simp [ct, c21, c33, lev, hk33]
      refine ⟨_, _, _, ⟨rfl, rfl, rfl⟩, hcl, hcs, fun ds nm e1 e2 => ⟨_, _, _, ⟨rfl, rfl, rfl⟩, hcl, hcs, fun nm' e3 => ?_⟩⟩
      have e4 := Sorted_one (gn_in hcs) e2 e3
      subst e4
      obtain ⟨y1, y2⟩ := tkns_py e1
      have y3 := names_shw (fun k hk => gn_in hcs k ((e2.2.1 k).mp hk)) (Sorted_len (gn_in hcs) e2)
      have y4 : (D.tup ds).py = (D.tup (nm.map tkD)).py := by simp [D.py, y2]
      have y5 : Shw (.tup ds) := ⟨by simpa [D.plain] using y1, by rw [y4]; exact y3.2.1, by rw [y4]; exact y3.2.2.1, by rw [y4]; exact y3.2.2.2⟩
      simp [ct, c25, lev, hk0, y5, y3, y4]
      have hgo : GOk (.tup [.int C, .int N, .tup cs]) := ⟨C, N, cs, rfl, hC, hN, hcl, hcs⟩
      refine ⟨by decide, by decide, fun i acc ρ => ∃ kvs s1, ρ = [some (.val (.lst (ns.map .int))), s1, s2, some (.val (.int (j : Nat))), some (.own (.dK kvs)), some (.val (.tup [.int C, .int N, .tup cs])), o6, none, none, none, none, none, none] ∧ B1 s1 ∧ MOk (1000 + 2 * i) kvs ∧ acc.length = i ∧ ∀ v, v ∈ acc → NG v, ⟨kvs, s1, rfl, h1, by simpa using hM, rfl, by simp⟩, fun _ _ _ _ => trivial, ?_, ?_⟩
      · rintro i acc ρ d ⟨kvs, s1, rfl, g1, g2, g3, g4⟩ hd
        obtain ⟨hi, rfl⟩ := rngD_get hd
        have hi8 : i < 8 := hi
        simp
        refine b1 g1 ?_ rfl
        simp [ct, c37, lev, hk10]
        refine ⟨_, g2, by omega, hgo, fun v kvs' v1 v2 v3 => ⟨by omega, ?_⟩⟩
        refine ⟨_, _, ⟨rfl, rfl⟩, .inr rfl, v3.le (by omega), by omega, fun x hx => ?_⟩
        rcases hx with hx | rfl
        · exact g4 x hx
        · exact ⟨v1, v2⟩
      · rintro acc ρ ⟨kvs, s1, rfl, g1, g2, g3, g4⟩
        simp only [rngD_len] at g3
        simp
        refine ⟨by omega, rfl, fun i ρ => ∃ s2 o6, ρ = [some (.val (.lst (ns.map .int))), s1, s2, some (.val (.int (j : Nat))), some (.own (.dK kvs)), some (.val (.tup [.int C, .int N, .tup cs])), o6, none, none, none, none, none, none] ∧ B2 s2, ⟨s2, o6, rfl, h2⟩, fun _ _ _ => trivial, ?_, ?_⟩
        · rintro i ρ v ⟨s2, o6, rfl, h2⟩ hv
          have hv : NG v := by
            have hv := List.mem_of_getElem? hv
            rcases List.mem_cons.mp hv with rfl | hv
            · exact hng
            · exact g4 v hv
          simp [ct, c34, lev, hk34, hv.1]
          cases hj : judge v with
          | none =>
            simp
            refine b2 h2 ?_ rfl
            simp [ct, c36, lev, hk33, hv.1, hj, c25, hk0, hv.2]
            exact .inr rfl
          | some q =>
            have hq := judge_q hj
            simp
            refine b2 h2 ?_ rfl
            simp [ct, c36, lev, hk33, hv.1, hj, c25, hk0, hq]
            exact .inr rfl
        · rintro ρ ⟨s2, o6, rfl, h2⟩
          exact ⟨s1, s2, ⟨_, _, _, _, rfl⟩, g1, h2⟩
    · rintro ρ ⟨s1, s2, o3, o4, o5, o6, rfl, h1, h2⟩
      simp
      refine ⟨by decide, by decide, cm_map (fun d => .tup [d, .int 0]) (by simp [rngD_len]) (by simp) (fun d hd A hA => by simp; simpa using hA) ?_⟩
      refine ⟨by decide, by decide, cm_map (fun d => .tup [d, .int 1]) (by simp [rngD_len]) (by simp) (fun d hd A hA => by simp; simpa using hA) ?_⟩
      simp only [rvd_o, owd_l, add_ll]
      refine ⟨by simp [rngD_len], ?_⟩
      simp only [rvd_o, owd_l, seqD_l, oC_s]
      refine cm_map f2 (by simp [rngD_len]) (by simp) (fun d hd A hA => ?_) ?_
      · have : ∃ a b : Int, d = .tup [.int a, .int b] := by
          rcases List.mem_append.mp hd with hd | hd
          · obtain ⟨x, hx, rfl⟩ := List.mem_map.mp hd
            obtain ⟨i, _, rfl⟩ := rngD_mem hx
            exact ⟨_, _, rfl⟩
          · obtain ⟨x, hx, rfl⟩ := List.mem_map.mp hd
            obtain ⟨i, _, rfl⟩ := rngD_mem hx
            exact ⟨_, _, rfl⟩
        obtain ⟨a, b, rfl⟩ := this
        simp
        simpa [f2] using hA
      have hMany : ((rngD 0 12).map (fun d => D.tup [d, .int 0]) ++ (rngD 0 12).map (fun d => D.tup [d, .int 1])).map f2 = MANY := by rw [List.map_append]; rfl
      simp only [hMany]
      have ng1 : NG (.tup [.int 12, .int 12, .tup MANY]) := ng3 (scI (by omega) (by omega)) (scI (by omega) (by omega)) (by rw [many_len]; omega) many_cn
      have ex : CN1 (.tup [.int 0, .int 1, .int 2, .int 3, .tup [.str "sign", .str "a"]]) := cn5 (scI (by omega) (by omega)) (scI (by omega) (by omega)) (scI (by omega) (by omega)) (scI (by omega) (by omega)) fmA
      have ng2 : NG (.tup [.int 12, .int 12, .tup (MANY ++ [.tup [.int 0, .int 1, .int 2, .int 3, .tup [.str "sign", .str "a"]]])]) := ng3 (scI (by omega) (by omega)) (scI (by omega) (by omega)) (by simp [many_len]) fun c hc => by
        rcases List.mem_append.mp hc with hc | hc
        · exact many_cn c hc
        · simp at hc; subst hc; exact ex
      have ng0 : NG (.tup [.int 1, .int 1, .tup []]) := ng3 (scI (by omega) (by omega)) (scI (by omega) (by omega)) (by simp) (by simp)
      have j1 : judge (.tup [.int 12, .int 12, .tup MANY]) = none := by have := many_ok; cases h : judge (.tup [.int 12, .int 12, .tup MANY]) with
        | none => rfl
        | some q => rw [h] at this; cases this
      have j2 : judge (.tup [.int 12, .int 12, .tup (MANY ++ [.tup [.int 0, .int 1, .int 2, .int 3, .tup [.str "sign", .str "a"]]])]) = some .non := by
        unfold judge; dsimp only; rw [if_neg]; intro ⟨_, _, h⟩; simp [many_len] at h
      have j0 : judge (.tup [.int 1, .int 1, .tup []]) = none := by unfold judge; dsimp only; rw [if_pos (by decide)]; rfl
      have hsh : Shw (.lst [.lst [.tup [.int 12, .int 12, .tup MANY]], .non, .lst [.tup [.int 1, .int 1, .tup []]]]) := by
        obtain ⟨z1, z2, z3⟩ := cells_sz many_cn
        rw [many_len] at z1
        refine nice_sh (by simp [z2]) (by simp [dp]; omega) (by simp; omega)
      simp [ct, c34, lev, hk34, ng1.1, ng2.1, ng0.1, j1, j2, j0, many_len, c25, hk0, hsh]
      exact hR
  · exact h.elim
end
end P72
set_option linter.all false
set_option maxRecDepth 100000
set_option maxHeartbeats 2000000
set_option autoImplicit false
/-! A class of exceptions whose __init__ says super().__init__(a text) and keeps its one argument in a field. -/
namespace Xs
open PySem PySem.W PySem.Calls PyProof.Rows PySem.HandSPX
/-! ### the text of __init__ -/
def aI (f : Str) (p1 p2 : Pos) : Arguments := { posonlyargs := [], args := [{ arg := "self", annotation := none, pos := p1 }, { arg := f, annotation := none, pos := p2 }], vararg := none, kwonlyargs := [], kw_defaults := [], kwarg := none, defaults := [] }
def supC (txt : Str) (k : Nat) (q1 q2 q3 q4 q5 : Pos) : Expr := .Call (.Attribute (.Call (.Name "super" q1) [] [] q2) "__init__" q3) [.Constant (.str txt) k q4] [] q5
def supS (txt : Str) (k : Nat) (q1 q2 q3 q4 q5 q6 : Pos) : Stmt := .Expr (supC txt k q1 q2 q3 q4 q5) q6
def putS (f : Str) (r1 r2 r3 r4 : Pos) : Stmt := .Assign [.Attribute (.Name "self" r1) f r2] (.Name f r3) r4
def scI (f : Str) : Scope := { kind := .function, names := [(PySem.Str.ofString "self", .local), (f, .local), (PySem.Str.ofString "__class__", .free), (PySem.Str.ofString "super", .globalImplicit)], isGenerator := false, isCoroutine := false, more := [] }
/-- what the written part tells of the class at C, its __init__ at fI, the cell of its __class__ -/
structure Txt (P : Program) (K : Frag) (C fI cc ca : Addr) (f : Str) : Prop where
  cls : ∃ nm q N bs bm sn sub ab col dd k0 k1 k2 k3 k5, K.lookup C = some (excClassObj nm q C N bs bm true sn sub ab col dd k0 k1 k2 k3 k5 "ValueError.__new__") ∧ refsVE bm = true
  sa : findIn K (.ref C) "__setattr__" = some (some (.builtin "object.__setattr__"))
  noN : findIn K (.ref C) f = some none
  iC : findIn K (.ref C) "__init__" = some (some (.ref fI))
  tC : typeIn K (.ref fI) = some (.type "function")
  kC : keepIn K (.ref C) = true
  exC : subIn K (.ref C) (.type "BaseException") = some true
  tyC : typeIn K (.ref C) = some (.type "type")
  veC : subIn K (.ref C) (.type "ValueError") = some true
  opq : nsIn K cStatics "thirdparty.any" = some none
  alo : ks_superIn K C C "__init__" = some (some (.builtin "ValueError.__init__"))
  nf : (f == ("self" : Str)) = false ∧ (f == ("__class__" : Str)) = false ∧ (f == ("super" : Str)) = false ∧ (f == ("__debug__" : Str)) = false
  cell : ∃ cl cld csl, K.lookup cc = some ⟨cl, cld, .cell (some (.ref C)), csl⟩
  file : ∃ (ccl : Value) (cdd : Option Addr) (vs : Array Value) (ccs : Array (Option Value)) (fl : Str) (tf : Tok), K.lookup ca = some ⟨ccl, cdd, .fields vs, ccs⟩ ∧ vs[2]? = some (.str fl tf) ∧ ((P.main.file : Str) == fl) = true
  top : (P.main.scope.names.lookup ("super" : Str)).isSome = false
  fn : ∃ (oc : Value) (od : Option Addr) (doc pm : Value) (an : Option Addr) (ct : Value) (osl : Array (Option Value)) (qual txt : Str) (k : Nat) (p1 p2 q1 q2 q3 q4 q5 q6 r1 r2 r3 r4 : Pos),
    K.lookup fI = some ⟨oc, od, .func (ksFn "__init__" qual (aI f p1 p2) [supS txt k q1 q2 q3 q4 q5 q6, putS f r1 r2 r3 r4] (scI f) .none .none doc pm an (.ref ca) ct cc), osl⟩ ∧ codeIn K (.ref ca) qual = true ∧
      ∀ a v : Value, bindArgs (ksFn "__init__" qual (aI f p1 p2) [supS txt k q1 q2 q3 q4 q5 q6, putS f r1 r2 r3 r4] (scI f) .none .none doc pm an (.ref ca) ct cc) ⟨[a, v], []⟩ = pure [(("self" : Str), a), (f, v)]
  ev : ∀ (txt : Str) (k : Nat) (q1 q2 q3 q4 q5 q6 r1 r2 r3 r4 : Pos) (fd : FuncData) (oc : Value) (od : Option Addr) (osl : Array (Option Value)), K.lookup fI = some ⟨oc, od, .func fd, osl⟩ → fd.body = .stmts [supS txt k q1 q2 q3 q4 q5 q6, putS f r1 r2 r3 r4] →
    ∃ pl : Env → Sem Bool, ∀ env, eval (supC txt k q1 q2 q3 q4 q5) env = (do
      let ov ← attributeBase (.Call (.Name "super" q1) [] [] q2) "__init__" env (eval (.Call (.Name "super" q1) [] [] q2) env)
      standAt q3.atName
      let (f, first) ← holding [ov] (getMethod ov "__init__" (pl env))
      callWith q5 f first (backTo q5 (starEach [.Constant (.str txt) k q4] env)) [])
/-- the module's names, seen from a heap -/
structure Top (mg : Str → Option Value) (h : Heap) : Prop where
  g : h.Ns mainGlobals mg
  b : ∃ mb, h.Ns builtinsNs mb ∧ mb "super" = some (.type "super")
  lim : h.NoLimit
theorem kin_but {K : Frag} {h h' : Heap} {x : Addr} (X : K.In h) (hx : K.lookup x = none) (k : ∀ b o, b ≠ x → h.get? b = some o → h'.get? b = some o) : K.In h' := fun a o e =>
  k a o (fun z => by rw [z, hx] at e; cases e) (X a o e)
/-- what __init__ leaves of a fresh exception at x -/
structure Ended (h h' : Heap) (x C dx t1 : Addr) (f : Str) (v : Value) : Prop where
  keep : ∀ b o, b ≠ x → h.get? b = some o → h'.get? b = some o
  obj : h'.get? x = some { cls := .ref C, dict := some dx, data := .fields #[.ref t1, .none, .none, .none, .bool false, .none] }
  dbig : h.objs.size ≤ dx
  dne : dx ≠ x
  ns : h'.Ns1 dx (fun y => if y = f then some v else none)
/-- the wrapper of ValueError.__init__, called -/
theorem call_mw {prog : Program} {w : World} {A : Around} {E : Value → Shared → Prop} {h : Heap} {g : Array GenState} {d : Drawn} {t : Nat} {os : OsState} {nm q : Str} {C N : Addr} {bs bm : List Value} {hdct : Bool} {sn : List Str} {sub : List Value} {ab : Bool} {col : Option Bool} {dd : Option Addr} {k0 k1 k2 k3 k5 : Option Value}
    {u e t0 : Addr} {rest : List Value} {Q : Value → Shared → Prop}
    (hC : h.get? C = some (excClassObj nm q C N bs bm hdct sn sub ab col dd k0 k1 k2 k3 k5 "ValueError.__new__")) (he : h.get? e = some (excO C t0)) (hu : h.get? u = some (kxs_mw "ValueError.__init__" e)) (hz : rest.length ≤ sizeLine)
    (hq : ∀ h' t1, (∀ b o, b ≠ e → h.get? b = some o → h'.get? b = some o) → h'.get? e = some (excO C t1) → Q .none ⟨h', g, d, t, os⟩) :
    wpAny (model prog w) A (call (.ref u) rest) Q E ⟨h, g, d, t, os⟩ := by
  refine wpAny_call (codeAny_of_tree ?_)
  show wpAny _ A.in1 (callAny (.ref u) ⟨rest, []⟩) _ _ _
  simp only [callAny]
  refine wpAny_bind (wpAny_load hu ?_)
  simp only [kxs_mw, show (Value.type "method-wrapper" == Value.type "method" || Value.type "method-wrapper" == Value.type "builtin_function_or_method" || Value.type "method-wrapper" == Value.type "method-wrapper") = true by decide, if_true]
  refine W.KFB.if_so (by decide) ?_
  refine wpAny_bind (check_bound_init F.excBase_ValueError.toExcCallFacts hC he rfl ?_)
  refine wpAny_bind (wpAny_pure (wpAny_pure ?_))
  refine ⟨Code.quiet_builtin _ (by decide +kernel), codeAny_builtin F.excBase_ValueError.initEntry ?_⟩
  rw [Around.under_plainId F.excBase_ValueError.init.plain _]
  wp_walk
  refine hq _ h.objs.size (fun b o hb ho => ?_) ?_
  · rw [Heap.get?_update_other _ _ (Ne.symm hb)]
    exact Heap.get?_push_of_some _ ho
  · rw [Heap.get?_update_self _ (Heap.get?_push_of_some _ he) rfl]
    rfl
section
variable {prog : Program} {w : World} {A : Around} {E : Value → Shared → Prop} {R : Result → Shared → Prop} {s : Shared} {K : Frag} {mg : Str → Option Value} {C fI cc ca : Addr} {f : Str}
theorem init_run (T : Txt prog K C fI cc ca f) {x t0 : Addr} {v : Value} (X : K.In s.heap) (G : Top mg s.heap) (hsup : mg "super" = none) (hx : s.heap.get? x = some (excO C t0)) (hnx : K.lookup x = none) (hroom : A.depth < recursionLimit)
    (hq : ∀ h' tk dx t1, Ended s.heap h' x C dx t1 f v → R (.ok (.ret .none)) { s with heap := h', toks := tk }) :
    codeAny (model prog w) A (.call (.ref fI) ⟨[.ref x, v], []⟩) R s := by
  obtain ⟨oc, od, doc, pm, an, ct, osl, qual, txt, k, p1, p2, q1, q2, q3, q4, q5, q6, r1, r2, r3, r4, ho, hcd, hbind⟩ := T.fn
  obtain ⟨nm, q, N, bs, bm, sn, sub, ab, col, dd, k0, k1, k2, k3, k5, hC, hbm⟩ := T.cls
  obtain ⟨cl, cld, csl, hcell⟩ := T.cell
  obtain ⟨ccl, cdd, vs, ccs, fl, tf, hca, hvs, hfl⟩ := T.file
  obtain ⟨sf, cf, uf, df⟩ := T.nf
  obtain ⟨pl, hpl⟩ := T.ev _ _ _ _ _ _ _ _ _ _ _ _ _ _ _ _ ho rfl
  obtain ⟨mb, hmb, hbs⟩ := G.b
  have hcl : clsIn K C = some { name := nm, bases := bs, mro := .ref C :: bm, ns := N, qualname := q, hasDict := true, slotNames := sn, subclasses := sub, abstract := ab, collection := col, hasDel := false } := by unfold clsIn; rw [hC]
  have eqs : ∀ y : Str, (f == y) = false → (y == f) = false := fun y h => by
    simp only [beq_eq_false_iff_ne] at h ⊢
    exact fun z => h z.symm
  have kself : (scI f).names.lookup ("self" : Str) = some .local := rfl
  have kf : (scI f).names.lookup f = some .local := by
    show (List.lookup f ((PySem.Str.ofString "self", NameKind.local) :: (f, NameKind.local) :: _)) = _
    rw [List.lookup_cons, show (f == PySem.Str.ofString "self") = false from sf, List.lookup_cons, beq_self_eq_true]
  have kcl : (scI f).names.lookup ("__class__" : Str) = some .free := by
    show (List.lookup ("__class__" : Str) ((PySem.Str.ofString "self", NameKind.local) :: (f, NameKind.local) :: (PySem.Str.ofString "__class__", NameKind.free) :: _)) = _
    rw [List.lookup_cons, show (("__class__" : Str) == PySem.Str.ofString "self") = false from by decide, List.lookup_cons, eqs _ cf, List.lookup_cons, show (("__class__" : Str) == PySem.Str.ofString "__class__") = true from by decide]
  have ksu : (scI f).names.lookup ("super" : Str) = some .globalImplicit := by
    show (List.lookup ("super" : Str) ((PySem.Str.ofString "self", NameKind.local) :: (f, NameKind.local) :: (PySem.Str.ofString "__class__", NameKind.free) :: (PySem.Str.ofString "super", NameKind.globalImplicit) :: _)) = _
    rw [List.lookup_cons, show (("super" : Str) == PySem.Str.ofString "self") = false from by decide, List.lookup_cons, eqs _ uf, List.lookup_cons, show (("super" : Str) == PySem.Str.ofString "__class__") = false from by decide, List.lookup_cons, show (("super" : Str) == PySem.Str.ofString "super") = true from by decide]
  refine ks_codeAny_call_defAt (fd := ksFn "__init__" qual (aI f p1 p2) [supS txt k q1 q2 q3 q4 q5 q6, putS f r1 r2 r3 r4] (scI f) .none .none doc pm an (.ref ca) ct cc) (body := [supS txt k q1 q2 q3 q4 q5 q6, putS f r1 r2 r3 r4]) (binds := [("self", .ref x), (f, v)])
    hroom (X _ _ ho) rfl G.lim (codeRec_of X hcd) rfl ?_ ?_ ?_ (fun h₁ ns₁ kp₁ => ?_) rfl rfl rfl
  · exact BindsTo.of_eq (hbind _ _)
  · intro y hy
    have hy : y ∈ [(PySem.Str.ofString "self", NameKind.local), (f, .local), (PySem.Str.ofString "__class__", .free), (PySem.Str.ofString "super", .globalImplicit)] := hy
    simp only [List.mem_cons, List.not_mem_nil, or_false] at hy
    rcases hy with rfl | rfl | rfl | rfl <;> exact fun z => nomatch z
  · intro y hy
    simp only [List.mem_cons, List.not_mem_nil, or_false] at hy
    rcases hy with rfl | rfl
    · exact kself
    · exact kf
  have hxL : s.heap.objs.size ≠ x := Nat.ne_of_gt (Heap.lt_size hx)
  have X₁ : K.In h₁ := X.keeps kp₁
  have hx₁ := kp₁ _ _ hx
  have hC₁ : h₁.get? C = _ := X₁ _ _ hC
  have hxC : x ≠ C := fun z => by
    rw [z, hC] at hnx
    cases hnx
  show _root_.PySem.wpAt (model prog w) (A.deeper (ksEnv qual (scI f) s.heap.objs.size fI (.ref ca) cc)) (.func _ (ksEnv qual (scI f) s.heap.objs.size fI (.ref ca) cc)) (execs _ (ksEnv qual (scI f) s.heap.objs.size fI (.ref ca) cc)) _ _ _
  have mself : (fun x_1 => List.lookup x_1 ([(("self" : Str), Value.ref x), (f, v)] : List (Str × Value)).reverse) ("self" : Str) = some (.ref x) := by
    show List.lookup ("self" : Str) [(f, v), (("self" : Str), Value.ref x)] = _
    rw [List.lookup_cons, eqs _ sf, List.lookup_cons]
    rfl
  have mf : (fun x_1 => List.lookup x_1 ([(("self" : Str), Value.ref x), (f, v)] : List (Str × Value)).reverse) f = some v := by
    show List.lookup f [(f, v), (("self" : Str), Value.ref x)] = _
    rw [List.lookup_cons, beq_self_eq_true]
  refine ks_wpAt_execs_cons (ks_wpAt_Expr_any (ks_wpAt_MethodCall (ks_wpAt_super_base (env := ksEnv qual (scI f) s.heap.objs.size fI (.ref ca) cc) ksu kcl (by decide) rfl (X₁ _ _ ho) rfl rfl rfl (X₁ _ _ hca) rfl hvs hfl T.top ?_) (hpl _)))
  refine ks_loadName_global rfl ksu (loadGlobal_builtin (env := ksEnv qual (scI f) s.heap.objs.size fI (.ref ca) cc) (G.g.keeps kp₁) hsup (hmb.keeps kp₁) hbs ⟨rfl, ?_⟩)
  refine wpAny_loadName_free rfl kcl rfl ⟨_, X₁ _ _ hcell, rfl⟩ ?_
  refine wpAny_loadName_local rfl kself ns₁ mself ?_
  refine ks_wpAny_isType_cls hC₁ rfl ⟨rfl, ?_⟩
  refine ks_wpAny_call_super hC₁ rfl hx₁ rfl (fun c e => by cases e) (looks_mroIn X₁ (by unfold mroIn; rw [hcl, Option.bind_some]; simp)) (fun h₂ hso kp₂ => ?_)
  have X₂ : K.In h₂ := X₁.keeps kp₂
  have hx₂ := kp₂ _ _ hx₁
  have alo := T.alo
  unfold ks_superIn at alo
  rw [hcl] at alo
  refine kxs_getMethod kxs_ValueError hso (looks_opaque X₂ T.opq) (fun A Q E s k q => wpAny_bind ((looks_clsIn X₂ hcl) A _ E s k (wpAny_pure q))) rfl X₂ alo
    ((show InstAt h₂ x (excO C t0) C none from ⟨hx₂, rfl, rfl, trivial⟩).type.andThen (looks_subIn X₂ T.veC)) hxC (by decide) ?_
  have kp2 : ∀ b o, s.heap.get? b = some o → h₂.get? b = some o := fun b o e => kp₂ b o (kp₁ b o e)
  have kp3 : ∀ b o, h₂.get? b = some o → (h₂.push (kxs_mw "ValueError.__init__" x)).get? b = some o := fun b o e => Heap.get?_push_of_some _ e
  have hu : (h₂.push (kxs_mw "ValueError.__init__" x)).get? h₂.objs.size = some (kxs_mw "ValueError.__init__" x) := Heap.get?_push_size _ rfl
  have hC₃ := kp3 _ _ (kp₂ _ _ hC₁)
  have hx₃ := kp3 _ _ hx₂
  have X₃ : K.In (h₂.push (kxs_mw "ValueError.__init__" x)) := X₂.keeps kp3
  have key : ∀ (Q : List Value → Shared → Prop), (∀ t, Q [.str txt t] ⟨h₂.push (kxs_mw "ValueError.__init__" x), s.gens, s.drawn, t + 1, s.os⟩) → ∀ t (E : Value → Shared → Prop), wpAny (model prog w) (A.deeper (ksEnv qual (scI f) s.heap.objs.size fI (.ref ca) cc))
      (spliced (backTo q5 (starEach [.Constant (.str txt) k q4] (ksEnv qual (scI f) s.heap.objs.size fI (.ref ca) cc)))) Q E ⟨h₂.push (kxs_mw "ValueError.__init__" x), s.gens, s.drawn, t, s.os⟩ := fun Q hq t E =>
    Calls.spliced_cons (wpAny_Constant_str (k := k) (pos := q4) (Calls.spliced_nil (hq t)))
  refine kxs_callWith (i := "ValueError.__init__") (x := x) rfl (evalArgs_plain (key _ (fun t => ⟨hu, ?_⟩) _ _))
  refine call_mw hC₃ hx₃ hu (by rw [sizeLine_eq]; exact (by decide : 1 ≤ 16777216)) fun h₄ t1 kp₄ hx₄ => ?_
  -- self.f = f
  have kx : ∀ b o, b ≠ x → s.heap.get? b = some o → h₄.get? b = some o := fun b o hb e => kp₄ b o hb (kp3 b o (kp2 b o e))
  have X₄ : K.In h₄ := kin_but X₃ hnx kp₄
  have ns₄ : h₄.Ns s.heap.objs.size (fun x_1 => List.lookup x_1 ([(("self" : Str), Value.ref x), (f, v)] : List (Str × Value)).reverse) := by
    obtain ⟨o, es, ep, ho, r⟩ := ns₁
    exact ⟨o, es, ep, kp₄ _ _ hxL (kp3 _ _ (kp₂ _ _ ho)), r⟩
  refine ks_wpAt_execs_cons (wpAt_of_wpAny (plainObj_wpAny_Assign_Attribute ?_))
  refine wpAny_Name (wpAny_loadName_local rfl kf ns₄ mf ?_) df
  refine wpAny_Name (wpAny_loadName_local rfl kself ns₄ mself ?_)
  refine set_plain X₄ (ox := excO C t1) (od := none) ⟨hx₄, rfl, rfl, trivial⟩ T.sa ?_
  refine exc_osa X₄ hx₄ hcl (show refsVE (.ref C :: bm) = true from hbm) rfl T.noN (fun h₅ tk₅ dx kp₅ dn dne hx₅ ns₅ => ?_)
  refine wpAt_of_wpAny (wpAny_execs_nil (hq h₅ tk₅ dx t1 ⟨fun b o hb e => kp₅ b o hb (kx b o hb e), hx₅, ?_, dne, ns₅⟩))
  have lt : s.heap.objs.size < h₄.objs.size := by
    obtain ⟨o, es, ep, ho, r⟩ := ns₄
    exact Heap.lt_size ho
  exact Nat.le_of_lt (Nat.lt_of_lt_of_le lt dn)
/-- what is left of a made exception -/
structure Made (h h' : Heap) (e C d : Addr) (f : Str) (v : Value) : Prop where
  keep : ∀ b o, h.get? b = some o → h'.get? b = some o
  new : h.objs.size ≤ e
  obj : ∃ oe vs, h'.get? e = some oe ∧ oe.cls = .ref C ∧ oe.dict = some d ∧ oe.data = .fields vs ∧ vs[1]? = some .none
  dbig : h.objs.size ≤ d
  dne : d ≠ e
  ns : h'.Ns1 d (fun y => if y = f then some v else none)
theorem made (T : Txt prog K C fI cc ca f) {v : Value} (X : K.In s.heap) (G : Top mg s.heap) (hsup : mg "super" = none) (hroom : A.depth + 1 < recursionLimit)
    (hq : ∀ h' tk e d, Made s.heap h' e C d f v → R (.ok (.ret (.ref e))) { s with heap := h', toks := tk }) :
    codeAny (model prog w) A (.call (.ref C) ⟨[v], []⟩) R s := by
  obtain ⟨nm, q, N, bs, bm, sn, sub, ab, col, dd, k0, k1, k2, k3, k5, hC, hbm⟩ := T.cls
  obtain ⟨hp, g, dr, tk, os⟩ := s
  have k : ∀ b o, hp.get? b = some o → ((hp.push (kdv_tup [v])).push (excO C hp.objs.size)).get? b = some o := fun b o e => Heap.get?_push_of_some _ (Heap.get?_push_of_some _ e)
  have hx : ((hp.push (kdv_tup [v])).push (excO C hp.objs.size)).get? (hp.objs.size + 1) = some (excO C hp.objs.size) := by heap_get
  have hnx : K.lookup (hp.objs.size + 1) = none := by
    cases e : K.lookup (hp.objs.size + 1) with
    | none => rfl
    | some o => exact absurd (Nat.lt_of_succ_lt (Heap.lt_size (X _ _ e))) (Nat.lt_irrefl _)
  refine call_own F.excBase_ValueError (fun X => refsVE_contains X bm hbm) (X _ _ hC) (looks_findIn X T.iC) (fun self => bind_fn X self T.tC) (by rw [sizeLine_eq]; exact (by decide : 1 ≤ 16777216)) ?_
  refine init_run (s := ⟨(hp.push (kdv_tup [v])).push (excO C hp.objs.size), g, dr, tk, os⟩) T (X.keeps k) ⟨G.g.keeps k, let ⟨mb, h1, h2⟩ := G.b; ⟨mb, h1.keeps k, h2⟩, G.lim.keeps k⟩ hsup hx hnx (by show A.depth + 1 < recursionLimit; exact hroom) fun h' tk' dx t1 ⟨k', ob, dn, dne, hns⟩ => ?_
  have old : ∀ b o, hp.get? b = some o → h'.get? b = some o := fun b o e => k' b o (Nat.ne_of_lt (Nat.lt_succ_of_lt (Heap.lt_size e))) (k b o e)
  have z : hp.objs.size + 1 + 1 ≤ dx := by
    have dn := dn
    first
      | (simpa only [Heap.size_push] using dn)
      | (rw [Heap.size_push, Heap.size_push] at dn; exact dn)
  exact ⟨rfl, hq h' tk' (hp.objs.size + 1) dx ⟨old, Nat.le_succ _, ⟨_, _, ob, rfl, rfl, rfl, rfl⟩, Nat.le_trans (Nat.le_trans (Nat.le_succ _) (Nat.le_succ _)) z, dne, hns⟩⟩
end
end Xs
namespace Xs
open PySem PySem.Spec PyProof.Rows L2
theorem relO_one {v : V} {u : Value} {f : Str} (r : RelV v u) (g : Str) : RelO (List.lookup g [(f, v)]) (if g = f then some u else none) := by
  by_cases h : g = f
  · subst h
    rw [if_pos rfl, List.lookup_cons, beq_self_eq_true]
    exact r
  · rw [if_neg h, List.lookup_cons, show (g == f) = false by simpa using h]
    trivial
theorem pmk {X : Cx} {C fI cc ca : Addr} {f nm : Str} {a : Expr} {es : List Expr} {ta : L2.TA} {p pos : Pos} {k : Nat} (T : Txt X.prog X.K C fI cc ca f) (hsup : X.mg "super" = none) (hr : Room k X.A) (hm : X.mg nm = some (.ref C)) (ha : PA X (a :: es) ta) (hg : Gl X nm) (hd : (nm == ("__debug__" : Str)) = false)
    (he : starEach (a :: es) X.env = (false, eval a X.env) :: starEach es X.env) (hpl : (backTo pos (starEach es X.env)).any (·.1) = false) :
    PMk X (.Call (.Name nm p) (a :: es) [] pos) (fun σ H Q => ta σ H fun vs H1 => vs.length = 1 ∧ ∀ dd, H1 dd = none → Q (.ref C) (some dd) (upd H1 dd (.xd ([f].zip vs)))) := by
  intro pins s σ H Q I h
  refine wpAny_Call_Name_kw (ld_glob I hg hm ?_ hd)
  refine PySem.W.callWith_K (h₀ := X.base) I.ok.mod.kin T.kC (thn (ha.run pos pins s σ H _ I h) fun us s1 hh => ?_) he hpl
  obtain ⟨vs, H1, I1, r1, hl, q1⟩ := hh
  refine ⟨I1.kIn, ?_⟩
  match vs, hl, r1 with
  | [v], _, .cons (b := u) rv rn =>
    cases rn
    show wpAny _ _ (call (.ref C) [u]) _ _ _
    have lim := I1.nolimit
    have G : Top X.mg s1.heap := ⟨I1.mod.glob.keeps I1.bk, by
      obtain ⟨mb, h1, h2⟩ := I1.mod.blt
      exact ⟨mb, h1.keeps I1.bk, (h2 "super" (by decide)).trans (by decide +kernel)⟩, lim⟩
    have kin := I1.kIn
    obtain ⟨hp, g, dr, tk, os⟩ := s1
    refine wpAny_call (made T kin G hsup (by have := hr.dp; omega) fun h' tk' e d M => ?_)
    show MkP X pins σ Q (.ref e) ⟨h', g, dr, tk', os⟩
    obtain ⟨oe, fv, hoe, hc, hdi, hdat, h1⟩ := M.obj
    obtain ⟨G', g1, g2⟩ := restrict h' fun b => decide (b ≠ e)
    have gk : ∀ b, b ≠ e → G'.get? b = h'.get? b := fun b hb => g1 b (decide_eq_true hb)
    have ge : G'.get? e = none := g2 e (by simp)
    have old : ∀ b o, hp.get? b = some o → G'.get? b = some o := fun b o q => (gk b (Nat.ne_of_lt (Nat.lt_of_lt_of_le (Heap.lt_size q) M.new))).trans (M.keep b o q)
    have ob : ObjOk X.prog X.w (upd H1 d (.xd [(f, v)])) G' d (.xd [(f, v)]) := ⟨_, M.ns.at (fun o q => (gk d M.dne).trans q), fun g => relO_one rv g⟩
    have J : Inv X pins σ (upd H1 d (.xd [(f, v)])) ⟨G', g, dr, tk', os⟩ := I1.laid (t' := tk') old M.dbig ob
    refine ⟨e, oe, fv, ⟨G', g, dr, tk', os⟩, _, .ref C, some d, rfl, J, fun b o q => ?_, ge, hoe, ⟨hc, hdi⟩, hdat, h1, ?_, rfl, I1.bare, raises_own T.exC T.tyC, q1 d (I1.hok.fresh M.dbig)⟩
    · by_cases hb : b = e
      · have q' : G'.get? b = some o := q
        rw [hb, ge] at q'; cases q'
      · exact (gk b hb).symm.trans q
    · rw [upd_ne (Ne.symm M.dne)]
      exact I1.hok.fresh M.new
end Xs
set_option linter.all false
set_option maxRecDepth 20000
set_option autoImplicit false
/-! The law's call, from a promise that asks that no repr is under way. -/
namespace EV
open PySem PySem.Spec PyProof.Rows L2

section
variable {P : Program} {w : World} {K : PySem.W.Frag} {mg mb : Str → Option Value} {k : Nat} {fa a : Addr} {fd : FuncData} {x : Str} {sp : Sp} {s1 : Shared} {vs : List Value} {ns : List Int}
/-- what the caller wants of the call -/
def Fine (s1 : Shared) : Result → Shared → Prop := fun r s' => r = .ok (.ret (.bool true)) ∧ OldK s1.heap s'.heap ∧ s'.os = s1.os ∧ AllBare s'.gens
theorem from_heap (kin : K.In s1.heap) (glob : s1.heap.Ns mainGlobals mg) (blt : s1.heap.Ns builtinsNs mb) (boot : ∀ x : Str, x ≠ "__name__" → mb x = bootBuiltins x) (lim : s1.heap.NoLimit) (gens : s1.gens = #[])
    (at_ : s1.heap.get? a = some { cls := .type "list", data := .seq vs.toArray }) (hr : Room k callerA)
    (F : ∀ base : Heap, K.In base → base.Ns mainGlobals mg → FnG P w K mg base k fa fd [x] sp) (bind : ∀ (s : Shared) (u : Value), BindsTo s fd ⟨[u], []⟩ [(x, u)])
    (H : Hp) (only : Only H) (hok : HOk P w H s1.heap) (alone : ∀ b, H b ≠ none → b = a) (out : H a ≠ none → K.lookup a = none) (q : sp [.ref a] H (fun v _ => v = .bl true) fun _ _ _ => False) :
    codeAny (model P w) callerA (.call (.ref fa) ⟨[.ref a], []⟩) (Fine s1) s1 := by
  have keep : ∀ {b : Addr} {o : Obj}, s1.heap.get? b = some o → H b = none → (hidT s1.heap H).get? b = some o := fun e n => hidT_get e n
  have free : ∀ {b : Addr} {o : Obj} {es : Array DictEntry} {ep : Nat}, s1.heap.get? b = some o → o.data = .dict es ep → H b = none := fun {b o es ep} e d => by
    cases z : H b with
    | none => rfl
    | some u =>
      have eb := alone b (by rw [z]; simp)
      subst eb
      rw [at_] at e
      cases e
      cases (show Data.seq vs.toArray _ = Data.dict es ep from d)
  have nsb : ∀ {b : Addr} {m : Str → Option Value}, s1.heap.Ns b m → (hidT s1.heap H).Ns b m := fun {b m} ⟨o, es, ep, e, d, r⟩ => ⟨o, es, ep, keep e (free e d), d, r⟩
  have kb : K.In (hidT s1.heap H) := fun b o e => keep (kin b o e) (by
    cases z : H b with
    | none => rfl
    | some u =>
      have eb := alone b (by rw [z]; simp)
      subst eb
      rw [out (by rw [z]; simp)] at e
      cases e)
  have md : Mod K mg (hidT s1.heap H) := ⟨kb, nsb glob, ⟨mb, nsb blt, boot⟩, let ⟨mc, h1, h2⟩ := lim; ⟨mc, nsb h1, h2⟩⟩
  have e0 : Env0 P w K mg (hidT s1.heap H) callerA [] s1 H := ⟨rfl, md, fun b o e => of_hidT e, Nat.le_of_eq (hidT_size _ _), trivial, fun b hb => absurd (show b ∈ ([] : List Addr) from hb) (by simp), hok, .of_eq gens⟩
  refine codeAny_mono ((F _ kb (nsb glob)).run callerA [] s1 H ⟨[.ref a], []⟩ [.ref a] [.ref a] _ _ hr rfl e0 (bind s1 (.ref a)) (.cons rfl .nil) q) fun r s' h => ?_
  match r, h with
  | .ok (.ret u), ⟨v, H', os, bare, un, hok', rv, ev⟩ =>
    have ev : v = .bl true := ev
    subst ev
    obtain rfl : u = Value.bool true := rv
    refine ⟨rfl, OldK.of_keep fun b o e => ?_, os, bare⟩
    cases z : H b with
    | none => exact un.keep b o e z (fun y => absurd (show b ∈ ([] : List Addr) from y) (by simp)) (by simp)
    | some u =>
      rcases only b with y | ⟨ob, xs, y⟩
      · rw [z] at y; cases y
      · obtain ⟨e1, _⟩ := hok b _ y
        obtain ⟨e2, _⟩ := hok' b _ (un.frzs b ob _ y)
        rw [e] at e1
        cases e1
        exact e2
  | .ok .next, h => exact False.elim h
  | .ok .brk, h => exact False.elim h
  | .ok .cont, h => exact False.elim h
  | .error e, h =>
    obtain ⟨_, _, _, _, _, _, _, _, _, _, _, _, z⟩ := h
    exact z.elim
/-- no list among the module's own objects -/
def noLists (K : PySem.W.Frag) : Bool := K.all fun p => !(p.2.cls == .type "list")
theorem noLists_ok {K : PySem.W.Frag} {h : Heap} {a : Addr} {vs : List Value} (nl : noLists K = true) (kin : K.In h) (at_ : h.get? a = some { cls := .type "list", data := .seq vs.toArray }) : K.lookup a = none := by
  cases z : K.lookup a with
  | none => rfl
  | some o =>
    have e := kin a o z
    rw [at_] at e
    cases e
    have m : (a, ({ cls := .type "list", data := .seq vs.toArray } : Obj)) ∈ K := by
      clear nl kin at_
      induction K with
      | nil => cases z
      | cons p K ih =>
        obtain ⟨b, o⟩ := p
        rw [List.lookup_cons] at z
        by_cases e : (a == b) = true
        · rw [e] at z
          cases z
          rw [eq_of_beq e]
          exact List.mem_cons_self
        · rw [Bool.not_eq_true _ |>.mp e] at z
          exact List.mem_cons_of_mem _ (ih z)
    have := List.all_eq_true.mp nl _ m
    simp at this
theorem ints_vals : ∀ {vs : List Value} {ns : List Int}, IntsAre vs ns → Vals (ns.map V.int) vs
  | _, _, .nil => .nil
  | _, _, .cons n t h => .cons ⟨t, rfl⟩ (ints_vals h)
theorem ints_rep {F : Fk} {H : Hp} {O : AP1} : ∀ ns : List Int, RepL F H O (ns.map .int) (ns.map V.int)
  | [] => .nil
  | n :: ns => .cons (by unfold Rep; rfl) (ints_rep ns)
theorem law_of {T : Tb} {Fk0 : Fk} {i : Nat} (kin : K.In s1.heap) (glob : s1.heap.Ns mainGlobals mg) (blt : s1.heap.Ns builtinsNs mb) (boot : ∀ x : Str, x ≠ "__name__" → mb x = bootBuiltins x) (lim : s1.heap.NoLimit) (gens : s1.gens = #[])
    (at_ : s1.heap.get? a = some { cls := .type "list", data := .seq vs.toArray }) (hi : IntsAre vs ns) (hl : ns.length ≤ sizeLine) (hr : Room k callerA) (nl : noLists K = true)
    (F : ∀ base : Heap, K.In base → base.Ns mainGlobals mg → FnG P w K mg base k fa fd [x] (spF T Fk0 i)) (bind : ∀ (s : Shared) (u : Value), BindsTo s fd ⟨[u], []⟩ [(x, u)])
    (q : T.S i [.val (.lst (ns.map .int))] (fun r os => r = .val (.bl true)) fun _ _ => False) :
    codeAny (model P w) callerA (.call (.ref fa) ⟨[.ref a], []⟩) (Fine s1) s1 := by
  have out := noLists_ok nl kin at_
  let H : Hp := fun b => if b = a then some (.frz { cls := .type "list", data := .seq vs.toArray } (.lst (ns.map V.int))) else none
  have Ha : H a = some (.frz { cls := .type "list", data := .seq vs.toArray } (.lst (ns.map V.int))) := if_pos rfl
  have Hn : ∀ b, b ≠ a → H b = none := fun b e => if_neg e
  refine from_heap kin glob blt boot lim gens at_ hr F bind H (fun b => ?_) (fun b u z => ?_) (fun b z => ?_) (fun _ => out) ?_
  · by_cases e : b = a
    · subst e; exact .inr ⟨_, _, Ha⟩
    · exact .inl (Hn b e)
  · by_cases e : b = a
    · subst e
      rw [Ha] at z
      cases z
      exact ⟨at_, by rw [List.length_map]; exact hl, vs, _, ints_vals hi, at_⟩
    · rw [Hn b e] at z; cases z
  · by_cases e : b = a
    · exact e
    · exact absurd (Hn b e) z
  · refine ⟨[.val (.lst (ns.map .int))], fun _ => False, _, _, ⟨.ref a, [], rfl, ?_, rfl⟩, List.nodup_nil, fun _ z => z.elim, q, fun r outs v H' O' hr st tr ra oa => ?_, fun c ps cls d H' O' z => z.elim⟩
    · unfold Rep
      refine ⟨a, ns.map V.int, rfl, ⟨.inr ⟨_, Ha⟩, fun z => z⟩, ?_⟩
      exact ints_rep ns
    · subst hr
      unfold ResAt Rep at ra
      exact ra
end
theorem walk_G {l : PySem.W.OpenLaw} {n k i : Nat} {q : Program} {loose : List Str} {XP : (Str → Option Value) → Heap → Prop} {YP : World → Heap → Prop} {d : DefRec} {K : Params → PySem.W.Frag} {x : Str}
    (hn : l.most = some n) (hn2 : n ≤ sizeLine) (hdf : d.params.defaults = []) (hr : Room k callerA) (hY : ∀ (w : World) (h : Heap), YP w h → (K w.params).In h) (nl : ∀ w : World, noLists (K w.params) = true)
    (F : ∀ (w : World) (mg : Str → Option Value) (fa : Addr) (h : Heap), (K w.params).In h → h.Ns mainGlobals mg → mg d.name = some (.ref fa) →
      ∃ fd : FuncData, (∀ (s : Shared) (u : Value), BindsTo s fd ⟨[u], []⟩ [(x, u)]) ∧ ∃ T : Tb, (∀ ns : List Int, ns.length ≤ n → (∀ z ∈ ns, Builtin.Int.intBits z ≤ 1048576) → T.S i [.val (.lst (ns.map .int))] (fun r os => r = .val (.bl true)) fun _ _ => False) ∧
        ∀ base : Heap, (K w.params).In base → base.Ns mainGlobals mg → FnG l.prog w (K w.params) mg base k fa fd [x] (spF T ⟨K w.params, w⟩ i)) :
    PySem.W.WalkO q loose XP YP l.row.toRowW d [] (fun f vs => PySem.call f vs) := by
  refine Att.attach_callB hn hdf fun w s₀ s₁ mg mb fa o pm cd doc a vs ns G Y ho hd hcd hmg hobj hints hlen hbits hg => ?_
  obtain ⟨fd, hb, T, hq, hF⟩ := F w mg fa _ (hY w _ Y) G.T.g hmg
  exact law_of (hY w _ Y) G.T.g G.T.b G.T.builtins G.T.nolimit hg hobj hints (Nat.le_trans hlen hn2) hr (nl w) hF hb (hq ns hlen hbits)
end EV
set_option linter.all false
set_option autoImplicit false
set_option maxRecDepth 100000
set_option Elab.async false
namespace F72
open PySem PySem.Spec PyProof.Rows L2 EV A72 P72
abbrev Fr := PySem.W.Frag
/-! ### an own class over ValueError, its __init__ -/
def xcB (K : Fr) (C : Addr) : Bool := match K.lookup C with
  | some ⟨.type "type", _, .cls cd, sl⟩ => (match cd.mro, sl.toList with
    | .ref C' :: bm, [_, _, _, _, some (.builtin n), _] => C' == C && n == "ValueError.__new__" && !cd.hasDel && cd.hasDict && PySem.HandSPX.refsVE bm
    | _, _ => false)
  | _ => false
theorem xcB_ok {K : Fr} {C : Addr} (q : xcB K C = true) : ∃ nm q N bs bm sn sub ab col dd k0 k1 k2 k3 k5, K.lookup C = some (excClassObj nm q C N bs bm true sn sub ab col dd k0 k1 k2 k3 k5 "ValueError.__new__") ∧ PySem.HandSPX.refsVE bm = true := by
  unfold xcB at q
  split at q
  · rename_i dd cd sl ho
    split at q
    · rename_i C' bm k0 k1 k2 k3 n k5 hm hs
      simp only [Bool.and_eq_true, beq_iff_eq, Bool.not_eq_true'] at q
      obtain ⟨⟨⟨⟨rfl, rfl⟩, hdel⟩, hdi⟩, hv⟩ := q
      obtain ⟨nm, bs, mro, ns, qn, hd, sn, sub, ab, col, del⟩ := cd
      dsimp only at hm hdel hdi
      subst hm hdel hdi
      have hsl : sl = #[k0, k1, k2, k3, some (.builtin "ValueError.__new__"), k5] := by
        obtain ⟨l⟩ := sl
        simp only at hs
        rw [hs]
      subst hsl
      exact ⟨nm, qn, ns, bs, bm, sn, sub, ab, col, dd, k0, k1, k2, k3, k5, ho, hv⟩
    · cases q
  · cases q
def caOf (K : Fr) (a : Addr) : Addr := match K.lookup a with
  | some ⟨_, _, .func fd, _⟩ => (match fd.code with
    | .ref c => c
    | _ => 0)
  | _ => 0
def ccOf (K : Fr) (a : Addr) : Addr := match K.lookup a with
  | some ⟨_, _, .func fd, _⟩ => (match fd.closure with
    | (_, c) :: _ => c
    | _ => 0)
  | _ => 0
abbrev FX : Type := Option (Str × Str × Arguments × FuncBody × Scope × Addr × List (Str × Addr) × Value × Value × Value × Addr)
def fX (K : Fr) (a : Addr) : FX := match K.lookup a with
  | some ⟨_, _, .func fd, _⟩ => some (fd.name, fd.qualname, fd.params, fd.body, fd.scope, fd.globals, fd.closure, fd.defaults, fd.kwdefaults, fd.code, fd.builtins)
  | _ => none
theorem fX_ok {K : Fr} {a ca cc : Addr} {nm q : Str} {ar : Arguments} {bd : List Stmt} {sc : Scope} (h : fX K a = (some (nm, q, ar, FuncBody.stmts bd, sc, mainGlobals, [(("__class__" : Str), cc)], Value.none, Value.none, Value.ref ca, builtinsNs) : FX)) :
    ∃ oc od osl doc pm an ct, K.lookup a = some ⟨oc, od, .func (PySem.W.ksFn nm q ar bd sc .none .none doc pm an (.ref ca) ct cc), osl⟩ := by
  unfold fX at h
  split at h
  · rename_i oc od fd osl ho
    obtain ⟨n1, n2, n3, n4, n5, n6, n7, n8, n9, n10, n11, n12, n13, n14, n15⟩ := fd
    simp only [Option.some.injEq, Prod.mk.injEq] at h
    obtain ⟨h1, h2, h3, h4, h5, h6, h7, h8, h9, h10, h11⟩ := h
    subst h1 h2 h3 h4 h5 h6 h7 h8 h9 h10 h11
    exact ⟨oc, od, osl, n10, n11, n12, n14, ho⟩
  · cases h
def cellB (K : Fr) (cc C : Addr) : Bool := match K.lookup cc with
  | some ⟨_, _, .cell (some (.ref C')), _⟩ => C' == C
  | _ => false
theorem cellB_ok {K : Fr} {cc C : Addr} (h : cellB K cc C = true) : ∃ cl cld csl, K.lookup cc = some ⟨cl, cld, .cell (some (.ref C)), csl⟩ := by
  unfold cellB at h
  split at h
  · rename_i ho; rw [beq_iff_eq] at h; subst h; exact ⟨_, _, _, ho⟩
  · cases h
def fileB (P : Program) (K : Fr) (ca : Addr) : Bool := match K.lookup ca with
  | some ⟨_, _, .fields vs, _⟩ => (match (vs[2]? : Option Value) with
    | some (Value.str fl _) => (P.main.file : Str) == fl
    | _ => false)
  | _ => false
theorem fileB_ok {P : Program} {K : Fr} {ca : Addr} (h : fileB P K ca = true) : ∃ (ccl : Value) (cdd : Option Addr) (vs : Array Value) (ccs : Array (Option Value)) (fl : Str) (tf : Tok), K.lookup ca = some ⟨ccl, cdd, .fields vs, ccs⟩ ∧ vs[2]? = some (.str fl tf) ∧ ((P.main.file : Str) == fl) = true := by
  unfold fileB at h
  split at h
  · rename_i ho
    split at h
    · rename_i hv; exact ⟨_, _, _, _, _, _, ho, hv, h⟩
    · cases h
  · cases h
open He (eqO eqO_ok ga ma ba)
/-- what is looked at of a class -/
def clB (P : Program) (K : Fr) (C fI : Addr) (f q : Str) : Bool :=
  xcB K C && (eqO (PySem.W.findIn K (.ref C) "__setattr__") (some (some (.builtin "object.__setattr__"))) && (eqO (PySem.W.findIn K (.ref C) f) (some none) && (eqO (PySem.W.findIn K (.ref C) "__init__") (some (some (.ref fI))) &&
  (decide (PySem.W.typeIn K (.ref fI) = some (.type "function")) && (PySem.W.keepIn K (.ref C) && (decide (PySem.W.subIn K (.ref C) (.type "BaseException") = some true) && (decide (PySem.W.typeIn K (.ref C) = some (.type "type")) && (decide (PySem.W.subIn K (.ref C) (.type "ValueError") = some true) &&
  (eqO (PySem.W.nsIn K cStatics "thirdparty.any") (some none) && (eqO (PySem.W.ks_superIn K C C "__init__") (some (some (.builtin "ValueError.__init__"))) && (cellB K (ccOf K fI) C && (fileB P K (caOf K fI) && (!((P.main.scope.names.lookup ("super" : Str)).isSome) && PySem.W.codeIn K (.ref (caOf K fI)) q)))))))))))))
/-- .. and its __init__ -/
def iniV (f q txt : Str) (k : Nat) (p1 p2 q1 q2 q3 q4 q5 q6 r1 r2 r3 r4 : Pos) (cc ca : Addr) : FX :=
  (some (("__init__" : Str), q, Xs.aI f p1 p2, FuncBody.stmts [Xs.supS txt k q1 q2 q3 q4 q5 q6, Xs.putS f r1 r2 r3 r4], Xs.scI f, mainGlobals, [(("__class__" : Str), cc)], Value.none, Value.none, Value.ref ca, builtinsNs) : FX)
abbrev EvO (txt : Str) (k : Nat) (q1 q2 q3 q4 q5 : Pos) : Prop := ∃ pl : PySem.Env → Sem Bool, ∀ env, eval (Xs.supC txt k q1 q2 q3 q4 q5) env = (do
      let ov ← attributeBase (.Call (.Name "super" q1) [] [] q2) "__init__" env (eval (.Call (.Name "super" q1) [] [] q2) env)
      standAt q3.atName
      let (f, first) ← holding [ov] (getMethod ov "__init__" (pl env))
      callWith q5 f first (backTo q5 (starEach [.Constant (.str txt) k q4] env)) [])
theorem evA : EvO "not a formula" 0 ⟨7, 8, 7, 13⟩ ⟨7, 8, 7, 15⟩ ⟨7, 8, 7, 24⟩ ⟨7, 25, 7, 40⟩ ⟨7, 8, 7, 41⟩ := ⟨_, fun env => rfl⟩
theorem evB : EvO "not a grid" 0 ⟨12, 8, 12, 13⟩ ⟨12, 8, 12, 15⟩ ⟨12, 8, 12, 24⟩ ⟨12, 25, 12, 37⟩ ⟨12, 8, 12, 38⟩ := ⟨_, fun env => rfl⟩
theorem body_of {K : Fr} {a : Addr} {oc oc' : Value} {od od' : Option Addr} {osl osl' : Array (Option Value)} {nm q : Str} {ar : Arguments} {bd bd' : List Stmt} {sc : Scope} {dV kV doc pm cdv ct : Value} {an : Option Addr} {cc : Addr} {fd : FuncData}
    (h : K.lookup a = some ⟨oc, od, .func (PySem.W.ksFn nm q ar bd sc dV kV doc pm an cdv ct cc), osl⟩) (h1 : K.lookup a = some ⟨oc', od', .func fd, osl'⟩) (h2 : fd.body = .stmts bd') : bd = bd' := by
  rw [h] at h1
  cases h1
  cases h2
  rfl
theorem sup_inj {txt txt' f f' : Str} {k k' : Nat} {q1 q2 q3 q4 q5 q6 r1 r2 r3 r4 q1' q2' q3' q4' q5' q6' r1' r2' r3' r4' : Pos} (h : [Xs.supS txt k q1 q2 q3 q4 q5 q6, Xs.putS f r1 r2 r3 r4] = [Xs.supS txt' k' q1' q2' q3' q4' q5' q6', Xs.putS f' r1' r2' r3' r4']) : txt = txt' ∧ k = k' ∧ q1 = q1' ∧ q2 = q2' ∧ q3 = q3' ∧ q4 = q4' ∧ q5 = q5' := by
  unfold Xs.supS Xs.supC at h
  cases h
  exact ⟨rfl, rfl, rfl, rfl, rfl, rfl, rfl⟩
theorem ev_mv {txt txt' : Str} {k k' : Nat} {q1 q2 q3 q4 q5 q1' q2' q3' q4' q5' : Pos} (h : EvO txt k q1 q2 q3 q4 q5) (e : txt = txt' ∧ k = k' ∧ q1 = q1' ∧ q2 = q2' ∧ q3 = q3' ∧ q4 = q4' ∧ q5 = q5') : EvO txt' k' q1' q2' q3' q4' q5' := by
  obtain ⟨rfl, rfl, rfl, rfl, rfl, rfl, rfl⟩ := e
  exact h
theorem txt_mk {P : Program} {K : Fr} {C fI : Addr} {f q txt : Str} {k : Nat} {p1 p2 q1 q2 q3 q4 q5 q6 r1 r2 r3 r4 : Pos} (b : clB P K C fI f q = true) (e : fX K fI = iniV f q txt k p1 p2 q1 q2 q3 q4 q5 q6 r1 r2 r3 r4 (ccOf K fI) (caOf K fI))
    (nf : (f == ("self" : Str)) = false ∧ (f == ("__class__" : Str)) = false ∧ (f == ("super" : Str)) = false ∧ (f == ("__debug__" : Str)) = false)
    (bi : ∀ (doc pm : Value) (an : Option Addr) (ca cc : Addr) (ct a v : Value), bindArgs (PySem.W.ksFn "__init__" q (Xs.aI f p1 p2) [Xs.supS txt k q1 q2 q3 q4 q5 q6, Xs.putS f r1 r2 r3 r4] (Xs.scI f) .none .none doc pm an (.ref ca) ct cc) ⟨[a, v], []⟩ = pure [(("self" : Str), a), (f, v)]) (hev : EvO txt k q1 q2 q3 q4 q5) :
    Xs.Txt P K C fI (ccOf K fI) (caOf K fI) f := by
  unfold clB at b
  obtain ⟨b1, b⟩ := ba b
  obtain ⟨b2, b⟩ := ba b
  obtain ⟨b3, b⟩ := ba b
  obtain ⟨b4, b⟩ := ba b
  obtain ⟨b5, b⟩ := ba b
  obtain ⟨b6, b⟩ := ba b
  obtain ⟨b7, b⟩ := ba b
  obtain ⟨b8, b⟩ := ba b
  obtain ⟨b9, b⟩ := ba b
  obtain ⟨b10, b⟩ := ba b
  obtain ⟨b11, b⟩ := ba b
  obtain ⟨b12, b⟩ := ba b
  obtain ⟨b13, b⟩ := ba b
  obtain ⟨b14, b15⟩ := ba b
  obtain ⟨oc, od, osl, doc, pm, an, ct, hl⟩ := fX_ok e
  exact { cls := xcB_ok b1, sa := eqO_ok b2, noN := eqO_ok b3, iC := eqO_ok b4, tC := of_decide_eq_true b5, kC := b6, exC := of_decide_eq_true b7, tyC := of_decide_eq_true b8, veC := of_decide_eq_true b9, opq := eqO_ok b10, alo := eqO_ok b11, nf := nf, cell := cellB_ok b12, file := fileB_ok b13, top := by simpa using b14,
          fn := ⟨oc, od, doc, pm, an, ct, osl, q, txt, k, p1, p2, q1, q2, q3, q4, q5, q6, r1, r2, r3, r4, hl, b15, fun a v => bi doc pm an _ _ ct a v⟩,
          ev := fun txt' k' q1' q2' q3' q4' q5' q6' r1' r2' r3' r4' fd oc' od' osl' h1 h2 => ev_mv hev (sup_inj (body_of hl h1 h2)) }
/-! ### tuples, a table -/
def tupB (K : Fr) (t : Addr) (vs : List V) : Bool := match K.lookup t with
  | some ⟨c, _, .seq its _, _⟩ => decide (c = .type "tuple") && (decide (its.size ≤ 100) && He.relAll vs its.toList)
  | _ => false
theorem tupB_ok {K : Fr} {t : Addr} {vs : List V} (h : tupB K t vs = true) : CTup K t vs := by
  unfold tupB at h
  split at h
  · rename_i c dd its n sl ho
    obtain ⟨h1, h⟩ := ba h
    obtain ⟨h2, h3⟩ := ba h
    exact ⟨_, its, n, ho, of_decide_eq_true h1, rfl, Nat.le_trans (of_decide_eq_true h2) (by rw [sizeLine_eq]; exact (by decide : 100 ≤ 16777216)), He.relAll_ok h3⟩
  · cases h
def fv : D → V
  | .int i => .int i
  | .str x => .str x
  | _ => .non
def flt : D → Bool
  | .int _ => true
  | .str _ => true
  | _ => false
theorem repL_f {F : Fk} {H : Hp} {O : AP1} : ∀ {ds : List D}, ds.all flt = true → RepL F H O ds (ds.map fv)
  | [], _ => by unfold RepL; rfl
  | .int i :: r, h => by unfold RepL; exact ⟨.int i, r.map fv, rfl, by unfold Rep; rfl, repL_f (by simpa [flt] using h)⟩
  | .str i :: r, h => by unfold RepL; exact ⟨.str i, r.map fv, rfl, by unfold Rep; rfl, repL_f (by simpa [flt] using h)⟩
  | .non :: r, h => by simp [flt] at h
  | .bl _ :: r, h => by simp [flt] at h
  | .tup _ :: r, h => by simp [flt] at h
  | .lst _ :: r, h => by simp [flt] at h
  | .tC _ :: r, h => by simp [flt] at h
  | .dK _ _ :: r, h => by simp [flt] at h
  | .dT _ _ :: r, h => by simp [flt] at h
  | .dC _ _ :: r, h => by simp [flt] at h
  | .ins _ _ :: r, h => by simp [flt] at h
def asked : List (Str × List D) := [("sign", []), ("row", []), ("over", [.str "axis", .str "rule", .str "gap", .str "rise", .str "fall"]), ("root", [.str "rule", .str "gap"]), ("high", [.str "rise"]), ("low", [.str "fall"]), ("both", [.str "rise", .str "fall"]),
  ("under", [.str "fall", .str "gap"]), ("upper", [.str "rise", .str "gap"]), ("limits", [.str "rise", .str "fall", .str "gap"]), ("fence", [.str "rule", .str "gap"]), ("bar", [.str "rule", .str "gap"]), ("table", [.str "axis", .str "rule", .str "gap"])]
def tk (K : Fr) (x : Str) : Addr := match PySem.W.nsIn K (ga K "ASKED") x with
  | some (some (.ref t)) => t
  | _ => 0
def askB (K : Fr) : Bool := asked.all fun q => eqO (PySem.W.nsIn K (ga K "ASKED") q.1) (some (some (.ref (tk K q.1)))) && tupB K (tk K q.1) (q.2.map fv)
def tups : List (Str × List D) := [("TWO", [.str "sign", .str "root", .str "fence", .str "bar", .str "table"]), ("THREE", [.str "over", .str "high", .str "low", .str "under", .str "upper"]), ("FOUR", [.str "both", .str "limits"]), ("SIGNED", [.str "sign", .str "under", .str "upper", .str "limits"]),
  ("BASED", [.str "high", .str "low", .str "both"]), ("NO_BASES", [.str "row", .str "high", .str "low", .str "both"]), ("OF_SIGNS", [.str "wide", .str "high", .str "deep"]), ("GAP", [.str "gap", .int 0])]
def tupsB (K : Fr) : Bool := tups.all fun q => eqO (PySem.W.nsIn K mainGlobals q.1) (some (some (.ref (ga K q.1)))) && tupB K (ga K q.1) (q.2.map fv)
def fas : List He.Fa := (FN.map fun p => He.Fa.glo p.1) ++ ((FN.map fun p => He.Fa.keep p.1) ++ ((("super" :: bltN : List Str).map He.Fa.free) ++ [.int "MOST_WORDS_formulas" 60, .int "MOST_DEPTH" 8, .int "MOST_SIDE" 12, .int "MOST_CELLS" 24, .int "MOST_WORDS_grids" 60, .str "LETTERS" "abcdefghijklmnopqrstuvwxyz",
  .glo "ASKED", .glo "FontError", .glo "NotFormula", .glo "NotGrid", .exm "NotFormula" "FontError" true, .exm "NotGrid" "FontError" true, .exm "NotFormula" "NotFormula" true, .exm "NotGrid" "NotFormula" false, .exm "NotFormula" "NotGrid" false, .exm "NotGrid" "NotGrid" true]))
def fdOf (d : EV.DefD) : He.FnD := { at_ := (d.nm, none), name := d.nm, qual := d.nm, params := defArgs d.st, body := defBody d.st, scope := defScope d.st }
def fnds : List He.FnD := A72.L.map fdOf
/-- all that is looked at behind the top -/
structure AllF (P : Program) (w : World) (K : Fr) : Prop where
  says : He.SaysE fas fnds K
  tups : tupsB K = true
  ask : askB K = true
  keys : He.dicW K (ga K "ASKED") = some (He.keysIn w.params (asked.map (·.1)))
  c0 : clB P K (ga K "NotFormula") (ma K (ga K "NotFormula") "__init__") "path" "NotFormula.__init__" = true
  f0 : fX K (ma K (ga K "NotFormula") "__init__") = iniV "path" "NotFormula.__init__" "not a formula" 0 ⟨6, 17, 6, 21⟩ ⟨6, 23, 6, 27⟩ ⟨7, 8, 7, 13⟩ ⟨7, 8, 7, 15⟩ ⟨7, 8, 7, 24⟩ ⟨7, 25, 7, 40⟩ ⟨7, 8, 7, 41⟩ ⟨7, 8, 7, 41⟩ ⟨8, 8, 8, 12⟩ ⟨8, 8, 8, 17⟩ ⟨8, 20, 8, 24⟩ ⟨8, 8, 8, 24⟩ (ccOf K (ma K (ga K "NotFormula") "__init__")) (caOf K (ma K (ga K "NotFormula") "__init__"))
  c1 : clB P K (ga K "NotGrid") (ma K (ga K "NotGrid") "__init__") "number" "NotGrid.__init__" = true
  f1 : fX K (ma K (ga K "NotGrid") "__init__") = iniV "number" "NotGrid.__init__" "not a grid" 0 ⟨11, 17, 11, 21⟩ ⟨11, 23, 11, 29⟩ ⟨12, 8, 12, 13⟩ ⟨12, 8, 12, 15⟩ ⟨12, 8, 12, 24⟩ ⟨12, 25, 12, 37⟩ ⟨12, 8, 12, 38⟩ ⟨12, 8, 12, 38⟩ ⟨13, 8, 13, 12⟩ ⟨13, 8, 13, 19⟩ ⟨13, 22, 13, 28⟩ ⟨13, 8, 13, 28⟩ (ccOf K (ma K (ga K "NotGrid") "__init__")) (caOf K (ma K (ga K "NotGrid") "__init__"))
  x0 : xfB K (ga K "NotFormula") = true
  x1 : xfB K (ga K "NotGrid") = true
end F72
set_option linter.all false
set_option autoImplicit false
set_option maxRecDepth 100000
set_option Elab.async false
namespace F72
open PySem PySem.Spec PyProof.Rows L2 EV A72 P72
variable {kV doc pm cdv ct : Value} {an : Option Addr}
abbrev fdO (nm : Str) (st : Stmt) (kV doc pm : Value) (an : Option Addr) (cdv ct : Value) : FuncData := PySem.W.fnOf nm nm (defArgs st) (defBody st) (defScope st) .none kV doc pm an cdv ct
theorem bd0 : BindOk (fdO "is_sign" st0 kV doc pm an cdv ct) ["value"] := ⟨fun s us hl => by
  match us, hl with
  | [u0], _ => exact BindsTo.of_eq (by kernel_rfl), fun n e s u => by cases e; exact BindsTo.of_eq (by kernel_rfl)⟩
theorem bd1 : BindOk (fdO "is_no_base" st1 kV doc pm an cdv ct) ["value"] := ⟨fun s us hl => by
  match us, hl with
  | [u0], _ => exact BindsTo.of_eq (by kernel_rfl), fun n e s u => by cases e; exact BindsTo.of_eq (by kernel_rfl)⟩
theorem bd2 : BindOk (fdO "has_form" st2 kV doc pm an cdv ct) ["value"] := ⟨fun s us hl => by
  match us, hl with
  | [u0], _ => exact BindsTo.of_eq (by kernel_rfl), fun n e s u => by cases e; exact BindsTo.of_eq (by kernel_rfl)⟩
theorem bd3 : BindOk (fdO "steps_of_parts" st3 kV doc pm an cdv ct) ["formula"] := ⟨fun s us hl => by
  match us, hl with
  | [u0], _ => exact BindsTo.of_eq (by kernel_rfl), fun n e s u => by cases e; exact BindsTo.of_eq (by kernel_rfl)⟩
theorem bd4 : BindOk (fdO "down" st4 kV doc pm an cdv ct) ["value", "path"] := ⟨fun s us hl => by
  match us, hl with
  | [u0, u1], _ => exact BindsTo.of_eq (by kernel_rfl), fun n e s u => by cases e⟩
theorem bd5 : BindOk (fdO "table_fault" st5 kV doc pm an cdv ct) ["rows", "path"] := ⟨fun s us hl => by
  match us, hl with
  | [u0, u1], _ => exact BindsTo.of_eq (by kernel_rfl), fun n e s u => by cases e⟩
theorem bd6 : BindOk (fdO "first_fault" st6 kV doc pm an cdv ct) ["value", "path"] := ⟨fun s us hl => by
  match us, hl with
  | [u0, u1], _ => exact BindsTo.of_eq (by kernel_rfl), fun n e s u => by cases e⟩
theorem bd7 : BindOk (fdO "walk" st7 kV doc pm an cdv ct) ["formula", "path", "level"] := ⟨fun s us hl => by
  match us, hl with
  | [u0, u1, u2], _ => exact BindsTo.of_eq (by kernel_rfl), fun n e s u => by cases e⟩
theorem bd8 : BindOk (fdO "words_of" st8 kV doc pm an cdv ct) ["formula"] := ⟨fun s us hl => by
  match us, hl with
  | [u0], _ => exact BindsTo.of_eq (by kernel_rfl), fun n e s u => by cases e; exact BindsTo.of_eq (by kernel_rfl)⟩
theorem bd9 : BindOk (fdO "depth_of" st9 kV doc pm an cdv ct) ["formula"] := ⟨fun s us hl => by
  match us, hl with
  | [u0], _ => exact BindsTo.of_eq (by kernel_rfl), fun n e s u => by cases e; exact BindsTo.of_eq (by kernel_rfl)⟩
theorem bd10 : BindOk (fdO "need_small" st10 kV doc pm an cdv ct) ["formula"] := ⟨fun s us hl => by
  match us, hl with
  | [u0], _ => exact BindsTo.of_eq (by kernel_rfl), fun n e s u => by cases e; exact BindsTo.of_eq (by kernel_rfl)⟩
theorem bd11 : BindOk (fdO "check_formula" st11 kV doc pm an cdv ct) ["value"] := ⟨fun s us hl => by
  match us, hl with
  | [u0], _ => exact BindsTo.of_eq (by kernel_rfl), fun n e s u => by cases e; exact BindsTo.of_eq (by kernel_rfl)⟩
theorem bd12 : BindOk (fdO "is_integer" st12 kV doc pm an cdv ct) ["value"] := ⟨fun s us hl => by
  match us, hl with
  | [u0], _ => exact BindsTo.of_eq (by kernel_rfl), fun n e s u => by cases e; exact BindsTo.of_eq (by kernel_rfl)⟩
theorem bd13 : BindOk (fdO "asked" st13 kV doc pm an cdv ct) ["formula", "level"] := ⟨fun s us hl => by
  match us, hl with
  | [u0, u1], _ => exact BindsTo.of_eq (by kernel_rfl), fun n e s u => by cases e⟩
theorem bd14 : BindOk (fdO "needed_at" st14 kV doc pm an cdv ct) ["formula", "level"] := ⟨fun s us hl => by
  match us, hl with
  | [u0, u1], _ => exact BindsTo.of_eq (by kernel_rfl), fun n e s u => by cases e⟩
theorem bd15 : BindOk (fdO "needed" st15 kV doc pm an cdv ct) ["formula"] := ⟨fun s us hl => by
  match us, hl with
  | [u0], _ => exact BindsTo.of_eq (by kernel_rfl), fun n e s u => by cases e; exact BindsTo.of_eq (by kernel_rfl)⟩
theorem bd16 : BindOk (fdO "is_side" st16 kV doc pm an cdv ct) ["value"] := ⟨fun s us hl => by
  match us, hl with
  | [u0], _ => exact BindsTo.of_eq (by kernel_rfl), fun n e s u => by cases e; exact BindsTo.of_eq (by kernel_rfl)⟩
theorem bd17 : BindOk (fdO "is_span" st17 kV doc pm an cdv ct) ["low", "high", "most"] := ⟨fun s us hl => by
  match us, hl with
  | [u0, u1, u2], _ => exact BindsTo.of_eq (by kernel_rfl), fun n e s u => by cases e⟩
theorem bd18 : BindOk (fdO "is_cell" st18 kV doc pm an cdv ct) ["value", "columns", "rows"] := ⟨fun s us hl => by
  match us, hl with
  | [u0, u1, u2], _ => exact BindsTo.of_eq (by kernel_rfl), fun n e s u => by cases e⟩
theorem bd19 : BindOk (fdO "share_field" st19 kV doc pm an cdv ct) ["one", "other"] := ⟨fun s us hl => by
  match us, hl with
  | [u0, u1], _ => exact BindsTo.of_eq (by kernel_rfl), fun n e s u => by cases e⟩
theorem bd20 : BindOk (fdO "check_grid" st20 kV doc pm an cdv ct) ["value"] := ⟨fun s us hl => by
  match us, hl with
  | [u0], _ => exact BindsTo.of_eq (by kernel_rfl), fun n e s u => by cases e; exact BindsTo.of_eq (by kernel_rfl)⟩
theorem bd21 : BindOk (fdO "grid_names" st21 kV doc pm an cdv ct) ["grid"] := ⟨fun s us hl => by
  match us, hl with
  | [u0], _ => exact BindsTo.of_eq (by kernel_rfl), fun n e s u => by cases e; exact BindsTo.of_eq (by kernel_rfl)⟩
theorem bd22 : BindOk (fdO "_law_begun" st22 kV doc pm an cdv ct) ["script", "k"] := ⟨fun s us hl => by
  match us, hl with
  | [u0, u1], _ => exact BindsTo.of_eq (by kernel_rfl), fun n e s u => by cases e⟩
theorem bd23 : BindOk (fdO "_law_draw" st23 kV doc pm an cdv ct) ["m", "bound"] := ⟨fun s us hl => by
  match us, hl with
  | [u0, u1], _ => exact BindsTo.of_eq (by kernel_rfl), fun n e s u => by cases e⟩
theorem bd24 : BindOk (fdO "_law_of" st24 kV doc pm an cdv ct) ["m", "some"] := ⟨fun s us hl => by
  match us, hl with
  | [u0, u1], _ => exact BindsTo.of_eq (by kernel_rfl), fun n e s u => by cases e⟩
theorem bd25 : BindOk (fdO "_law_like" st25 kV doc pm an cdv ct) ["told", "due"] := ⟨fun s us hl => by
  match us, hl with
  | [u0, u1], _ => exact BindsTo.of_eq (by kernel_rfl), fun n e s u => by cases e⟩
theorem bd26 : BindOk (fdO "_law_is_int" st26 kV doc pm an cdv ct) ["value"] := ⟨fun s us hl => by
  match us, hl with
  | [u0], _ => exact BindsTo.of_eq (by kernel_rfl), fun n e s u => by cases e; exact BindsTo.of_eq (by kernel_rfl)⟩
theorem bd27 : BindOk (fdO "_law_flat_list" st27 kV doc pm an cdv ct) ["lots"] := ⟨fun s us hl => by
  match us, hl with
  | [u0], _ => exact BindsTo.of_eq (by kernel_rfl), fun n e s u => by cases e; exact BindsTo.of_eq (by kernel_rfl)⟩
theorem bd28 : BindOk (fdO "_law_formula" st28 kV doc pm an cdv ct) ["m", "deep"] := ⟨fun s us hl => by
  match us, hl with
  | [u0, u1], _ => exact BindsTo.of_eq (by kernel_rfl), fun n e s u => by cases e⟩
theorem bd29 : BindOk (fdO "_law_parts" st29 kV doc pm an cdv ct) ["formula"] := ⟨fun s us hl => by
  match us, hl with
  | [u0], _ => exact BindsTo.of_eq (by kernel_rfl), fun n e s u => by cases e; exact BindsTo.of_eq (by kernel_rfl)⟩
theorem bd30 : BindOk (fdO "_law_levels" st30 kV doc pm an cdv ct) ["formula", "level", "path"] := ⟨fun s us hl => by
  match us, hl with
  | [u0, u1, u2], _ => exact BindsTo.of_eq (by kernel_rfl), fun n e s u => by cases e⟩
theorem bd31 : BindOk (fdO "_law_needed" st31 kV doc pm an cdv ct) ["formula"] := ⟨fun s us hl => by
  match us, hl with
  | [u0], _ => exact BindsTo.of_eq (by kernel_rfl), fun n e s u => by cases e; exact BindsTo.of_eq (by kernel_rfl)⟩
theorem bd32 : BindOk (fdO "_law_grid" st32 kV doc pm an cdv ct) ["m", "deep"] := ⟨fun s us hl => by
  match us, hl with
  | [u0, u1], _ => exact BindsTo.of_eq (by kernel_rfl), fun n e s u => by cases e⟩
theorem bd33 : BindOk (fdO "_law_grid_names" st33 kV doc pm an cdv ct) ["grid_so"] := ⟨fun s us hl => by
  match us, hl with
  | [u0], _ => exact BindsTo.of_eq (by kernel_rfl), fun n e s u => by cases e; exact BindsTo.of_eq (by kernel_rfl)⟩
theorem bd34 : BindOk (fdO "_law_told" st34 kV doc pm an cdv ct) ["value"] := ⟨fun s us hl => by
  match us, hl with
  | [u0], _ => exact BindsTo.of_eq (by kernel_rfl), fun n e s u => by cases e; exact BindsTo.of_eq (by kernel_rfl)⟩
theorem bd35 : BindOk (fdO "_law_is_span" st35 kV doc pm an cdv ct) ["low", "high", "most"] := ⟨fun s us hl => by
  match us, hl with
  | [u0, u1, u2], _ => exact BindsTo.of_eq (by kernel_rfl), fun n e s u => by cases e⟩
theorem bd36 : BindOk (fdO "_law_due" st36 kV doc pm an cdv ct) ["value", "bad"] := ⟨fun s us hl => by
  match us, hl with
  | [u0, u1], _ => exact BindsTo.of_eq (by kernel_rfl), fun n e s u => by cases e⟩
theorem bd37 : BindOk (fdO "_law_bent" st37 kV doc pm an cdv ct) ["m", "grid_so", "bad"] := ⟨fun s us hl => by
  match us, hl with
  | [u0, u1, u2], _ => exact BindsTo.of_eq (by kernel_rfl), fun n e s u => by cases e⟩
theorem bd38 : BindOk (fdO "law" st38 kV doc pm an cdv ct) ["script"] := ⟨fun s us hl => by
  match us, hl with
  | [u0], _ => exact BindsTo.of_eq (by kernel_rfl), fun n e s u => by cases e; exact BindsTo.of_eq (by kernel_rfl)⟩
theorem binds : ∀ d, d ∈ A72.L → ∀ (kV doc pm : Value) (an : Option Addr) (cdv ct : Value), BindOk (fdO d.nm d.st kV doc pm an cdv ct) d.ps := by
  intro d hd kV doc pm an cdv ct
  unfold A72.L at hd
  rcases List.mem_cons.mp hd with rfl | hd
  · exact bd0
  rcases List.mem_cons.mp hd with rfl | hd
  · exact bd1
  rcases List.mem_cons.mp hd with rfl | hd
  · exact bd2
  rcases List.mem_cons.mp hd with rfl | hd
  · exact bd3
  rcases List.mem_cons.mp hd with rfl | hd
  · exact bd4
  rcases List.mem_cons.mp hd with rfl | hd
  · exact bd5
  rcases List.mem_cons.mp hd with rfl | hd
  · exact bd6
  rcases List.mem_cons.mp hd with rfl | hd
  · exact bd7
  rcases List.mem_cons.mp hd with rfl | hd
  · exact bd8
  rcases List.mem_cons.mp hd with rfl | hd
  · exact bd9
  rcases List.mem_cons.mp hd with rfl | hd
  · exact bd10
  rcases List.mem_cons.mp hd with rfl | hd
  · exact bd11
  rcases List.mem_cons.mp hd with rfl | hd
  · exact bd12
  rcases List.mem_cons.mp hd with rfl | hd
  · exact bd13
  rcases List.mem_cons.mp hd with rfl | hd
  · exact bd14
  rcases List.mem_cons.mp hd with rfl | hd
  · exact bd15
  rcases List.mem_cons.mp hd with rfl | hd
  · exact bd16
  rcases List.mem_cons.mp hd with rfl | hd
  · exact bd17
  rcases List.mem_cons.mp hd with rfl | hd
  · exact bd18
  rcases List.mem_cons.mp hd with rfl | hd
  · exact bd19
  rcases List.mem_cons.mp hd with rfl | hd
  · exact bd20
  rcases List.mem_cons.mp hd with rfl | hd
  · exact bd21
  rcases List.mem_cons.mp hd with rfl | hd
  · exact bd22
  rcases List.mem_cons.mp hd with rfl | hd
  · exact bd23
  rcases List.mem_cons.mp hd with rfl | hd
  · exact bd24
  rcases List.mem_cons.mp hd with rfl | hd
  · exact bd25
  rcases List.mem_cons.mp hd with rfl | hd
  · exact bd26
  rcases List.mem_cons.mp hd with rfl | hd
  · exact bd27
  rcases List.mem_cons.mp hd with rfl | hd
  · exact bd28
  rcases List.mem_cons.mp hd with rfl | hd
  · exact bd29
  rcases List.mem_cons.mp hd with rfl | hd
  · exact bd30
  rcases List.mem_cons.mp hd with rfl | hd
  · exact bd31
  rcases List.mem_cons.mp hd with rfl | hd
  · exact bd32
  rcases List.mem_cons.mp hd with rfl | hd
  · exact bd33
  rcases List.mem_cons.mp hd with rfl | hd
  · exact bd34
  rcases List.mem_cons.mp hd with rfl | hd
  · exact bd35
  rcases List.mem_cons.mp hd with rfl | hd
  · exact bd36
  rcases List.mem_cons.mp hd with rfl | hd
  · exact bd37
  rcases List.mem_cons.mp hd with rfl | hd
  · exact bd38
  cases hd
theorem scopes : (A72.L.all fun d => C8.scC d.N d.ps (defScope d.st)) = true := by decide +kernel
end F72
set_option linter.all false
set_option autoImplicit false
set_option maxRecDepth 100000
set_option Elab.async false
namespace F72
open PySem PySem.Spec PyProof.Rows L2 EV A72 P72
open He (ga ma ba)
theorem fact_mem {fa : List He.Fa} {fn : List He.FnD} {K : Fr} (c : He.SaysE fa fn K) {f : He.Fa} (h : f ∈ fa) : f.ok K = true := by
  obtain ⟨i, hi⟩ := List.getElem?_of_mem h
  exact c.fact i hi
theorem nm_mem {d : EV.DefD} (h : d ∈ A72.L) : (d.nm, d.ps) ∈ FN := by
  rw [← A72.fns]
  exact List.mem_map_of_mem (f := fun d : EV.DefD => (d.nm, d.ps)) h
theorem glo_mem {d : EV.DefD} (h : d ∈ A72.L) : He.Fa.glo d.nm ∈ fas := List.mem_append_left _ (List.mem_map_of_mem (f := fun p : Str × List Str => He.Fa.glo p.1) (nm_mem h))
theorem keep_mem {d : EV.DefD} (h : d ∈ A72.L) : He.Fa.keep d.nm ∈ fas := List.mem_append_right _ (List.mem_append_left _ (List.mem_map_of_mem (f := fun p : Str × List Str => He.Fa.keep p.1) (nm_mem h)))
theorem free_mem {x : Str} (h : x ∈ ("super" :: bltN : List Str)) : He.Fa.free x ∈ fas := List.mem_append_right _ (List.mem_append_right _ (List.mem_append_left _ (List.mem_map_of_mem h)))
def lasts : List He.Fa := [.int "MOST_WORDS_formulas" 60, .int "MOST_DEPTH" 8, .int "MOST_SIDE" 12, .int "MOST_CELLS" 24, .int "MOST_WORDS_grids" 60, .str "LETTERS" "abcdefghijklmnopqrstuvwxyz",
  .glo "ASKED", .glo "FontError", .glo "NotFormula", .glo "NotGrid", .exm "NotFormula" "FontError" true, .exm "NotGrid" "FontError" true, .exm "NotFormula" "NotFormula" true, .exm "NotGrid" "NotFormula" false, .exm "NotFormula" "NotGrid" false, .exm "NotGrid" "NotGrid" true]
theorem last_i {f : He.Fa} (i : Nat) (h : lasts[i]? = some f) : f ∈ fas :=
  List.mem_append_right _ (List.mem_append_right _ (List.mem_append_right _ (List.mem_of_getElem? h)))
section
variable {P : Program} {w : World} {K : Fr} {mg : Str → Option Value} {h : Heap} {fa : Addr}
theorem defF (c : He.SaysE fas fnds K) {d : EV.DefD} (hd : d ∈ A72.L) : ∃ fd, L2.Fun K d.nm d.nm d.st (ga K d.nm) fd ∧ BindOk fd d.ps ∧ PySem.W.keepIn K (.ref (ga K d.nm)) = true := by
  obtain ⟨i, hi⟩ := List.getElem?_of_mem hd
  have hi2 : fnds[i]? = some (fdOf d) := by unfold fnds; rw [List.getElem?_map, hi]; rfl
  obtain ⟨oc, od, osl, kV, doc, pm, an, cdv, ct, hl, hc⟩ := c.def_ i hi2
  have hk := He.keep_ok (fact_mem c (keep_mem hd))
  exact ⟨_, fun_mk hl hc hk, binds d hd kV doc pm an cdv ct, hk⟩
theorem defAt (c : He.SaysE fas fnds K) (KX : K.In h) (G : h.Ns mainGlobals mg) {d : EV.DefD} (hd : d ∈ A72.L) : DefAt K mg d := by
  obtain ⟨fd, h1, h2, h3⟩ := defF c hd
  exact ⟨⟨_, fd, He.glo_ok KX G (fact_mem c (glo_mem hd)), h3, h2, _, _, h1⟩, C8.fnScope_by (List.all_eq_true.mp scopes d hd)⟩
/-! ### the constants -/
theorem tup_in (A : AllF P w K) {q : Str × List D} (h : q ∈ tups) : PySem.W.nsIn K mainGlobals q.1 = some (some (.ref (ga K q.1))) ∧ CTup K (ga K q.1) (q.2.map fv) := by
  obtain ⟨h1, h2⟩ := ba (List.all_eq_true.mp A.tups q h)
  exact ⟨He.eqO_ok h1, tupB_ok h2⟩
theorem tup_g (A : AllF P w K) (KX : K.In h) (G : h.Ns mainGlobals mg) {x : Str} {ds : List D} (hm : (x, ds) ∈ tups) (hf : ds.all flt = true) : ∃ u v, mg x = some u ∧ RelV v u ∧ ∀ H O, Rep ⟨K, w⟩ H O (.tC ds) v := by
  obtain ⟨h1, h2⟩ := tup_in A hm
  refine ⟨_, .ref (ga K x), PySem.W.mg_of KX G h1, rfl, fun H O => ?_⟩
  unfold Rep
  exact ⟨_, _, rfl, h2, repL_f hf⟩
theorem asks_rep (A : AllF P w K) {H : Hp} {O : AP1} : ∀ l : List (Str × List D), (∀ q, q ∈ l → q ∈ asked) → RepL ⟨K, w⟩ H O (l.map fun q => .tC q.2) (l.map fun q => V.ref (tk K q.1))
  | [], _ => by unfold RepL; rfl
  | q :: r, h => by
    have hq := h q List.mem_cons_self
    obtain ⟨h1, h2⟩ := ba (List.all_eq_true.mp A.ask q hq)
    have hfl : ∀ q ∈ asked, q.2.all flt = true := by decide +kernel
    show RepL _ _ _ (.tC q.2 :: r.map _) _
    unfold RepL
    refine ⟨.ref (tk K q.1), r.map fun q => V.ref (tk K q.1), rfl, ?_, asks_rep A r fun q hq => h q (List.mem_cons_of_mem _ hq)⟩
    unfold Rep
    exact ⟨_, _, rfl, tupB_ok h2, repL_f (hfl q hq)⟩
theorem ask_g (A : AllF P w K) (KX : K.In h) (G : h.Ns mainGlobals mg) : ∃ u v, mg "ASKED" = some u ∧ RelV v u ∧ ∀ H O, Rep ⟨K, w⟩ H O (.dC (asked.map fun q => Sum.inr q.1) (asked.map fun q => .tC q.2)) v := by
  have hm : He.Fa.glo "ASKED" ∈ fas := last_i 6 rfl
  refine ⟨_, .ref (ga K "ASKED"), He.glo_ok KX G (fact_mem A.says hm), rfl, fun H O => ?_⟩
  obtain ⟨es, n, hd⟩ := He.dicW_ok A.keys
  unfold Rep
  refine ⟨_, asked.map fun q => V.ref (tk K q.1), rfl, ?_, by simp, asks_rep A asked fun _ h => h⟩
  intro k v hkv
  have : ∃ q, q ∈ asked ∧ k = Sum.inr q.1 ∧ v = V.ref (tk K q.1) := by
    have e : (asked.map fun q => (Sum.inr q.1 : Key)).zip (asked.map fun q => V.ref (tk K q.1)) = asked.map fun q => (Sum.inr q.1, V.ref (tk K q.1)) := by
      generalize asked = l
      induction l with
      | nil => rfl
      | cons a l ih => simp [ih]
    rw [e] at hkv
    obtain ⟨q, hq, e⟩ := List.mem_map.mp hkv
    cases e
    exact ⟨q, hq, rfl, rfl⟩
  obtain ⟨q, hq, rfl, rfl⟩ := this
  obtain ⟨h1, h2⟩ := ba (List.all_eq_true.mp A.ask q hq)
  exact ⟨q.1, rfl, es, n, _, hd.at_, hd.lit, He.eqO_ok h1, rfl⟩
theorem int_g (A : AllF P w K) (KX : K.In h) (G : h.Ns mainGlobals mg) {x : Str} {i : Int} (hm : He.Fa.int x i ∈ fas) : ∃ u v, mg x = some u ∧ RelV v u ∧ ∀ H O, Rep ⟨K, w⟩ H O (.int i) v := by
  obtain ⟨t, ht⟩ := He.int_ok KX G (fact_mem A.says hm)
  exact ⟨_, .int i, ht, ⟨t, rfl⟩, fun H O => by unfold Rep; rfl⟩
theorem str_g (A : AllF P w K) (KX : K.In h) (G : h.Ns mainGlobals mg) {x z : Str} (hm : He.Fa.str x z ∈ fas) : ∃ u v, mg x = some u ∧ RelV v u ∧ ∀ H O, Rep ⟨K, w⟩ H O (.str z) v := by
  obtain ⟨t, ht⟩ := He.str_ok KX G (fact_mem A.says hm)
  exact ⟨_, .str z, ht, ⟨t, rfl⟩, fun H O => by unfold Rep; rfl⟩
theorem glob (A : AllF P w K) (KX : K.In h) (G : h.Ns mainGlobals mg) : ∀ g d, G72 g = some d → ∃ u v, mg g = some u ∧ RelV v u ∧ ∀ H O, Rep ⟨K, w⟩ H O d v := by
  intro g d hg
  unfold G72 at hg
  by_cases e : g = "MOST_WORDS_formulas"
  · rw [if_pos e] at hg
    injection hg with hg
    subst hg e
    exact int_g A KX G (last_i 0 rfl)
  rw [if_neg e] at hg
  clear e
  by_cases e : g = "MOST_DEPTH"
  · rw [if_pos e] at hg
    injection hg with hg
    subst hg e
    exact int_g A KX G (last_i 1 rfl)
  rw [if_neg e] at hg
  clear e
  by_cases e : g = "TWO"
  · rw [if_pos e] at hg
    injection hg with hg
    subst hg e
    exact tup_g A KX G (List.mem_of_getElem? (i := 0) rfl) rfl
  rw [if_neg e] at hg
  clear e
  by_cases e : g = "THREE"
  · rw [if_pos e] at hg
    injection hg with hg
    subst hg e
    exact tup_g A KX G (List.mem_of_getElem? (i := 1) rfl) rfl
  rw [if_neg e] at hg
  clear e
  by_cases e : g = "FOUR"
  · rw [if_pos e] at hg
    injection hg with hg
    subst hg e
    exact tup_g A KX G (List.mem_of_getElem? (i := 2) rfl) rfl
  rw [if_neg e] at hg
  clear e
  by_cases e : g = "SIGNED"
  · rw [if_pos e] at hg
    injection hg with hg
    subst hg e
    exact tup_g A KX G (List.mem_of_getElem? (i := 3) rfl) rfl
  rw [if_neg e] at hg
  clear e
  by_cases e : g = "BASED"
  · rw [if_pos e] at hg
    injection hg with hg
    subst hg e
    exact tup_g A KX G (List.mem_of_getElem? (i := 4) rfl) rfl
  rw [if_neg e] at hg
  clear e
  by_cases e : g = "NO_BASES"
  · rw [if_pos e] at hg
    injection hg with hg
    subst hg e
    exact tup_g A KX G (List.mem_of_getElem? (i := 5) rfl) rfl
  rw [if_neg e] at hg
  clear e
  by_cases e : g = "LETTERS"
  · rw [if_pos e] at hg
    injection hg with hg
    subst hg e
    exact str_g A KX G (last_i 5 rfl)
  rw [if_neg e] at hg
  clear e
  by_cases e : g = "OF_SIGNS"
  · rw [if_pos e] at hg
    injection hg with hg
    subst hg e
    exact tup_g A KX G (List.mem_of_getElem? (i := 6) rfl) rfl
  rw [if_neg e] at hg
  clear e
  by_cases e : g = "ASKED"
  · rw [if_pos e] at hg
    injection hg with hg
    subst hg e
    exact ask_g A KX G
  rw [if_neg e] at hg
  clear e
  by_cases e : g = "MOST_SIDE"
  · rw [if_pos e] at hg
    injection hg with hg
    subst hg e
    exact int_g A KX G (last_i 2 rfl)
  rw [if_neg e] at hg
  clear e
  by_cases e : g = "MOST_CELLS"
  · rw [if_pos e] at hg
    injection hg with hg
    subst hg e
    exact int_g A KX G (last_i 3 rfl)
  rw [if_neg e] at hg
  clear e
  by_cases e : g = "MOST_WORDS_grids"
  · rw [if_pos e] at hg
    injection hg with hg
    subst hg e
    exact int_g A KX G (last_i 4 rfl)
  rw [if_neg e] at hg
  clear e
  by_cases e : g = "GAP"
  · rw [if_pos e] at hg
    injection hg with hg
    subst hg e
    exact tup_g A KX G (List.mem_of_getElem? (i := 7) rfl) rfl
  rw [if_neg e] at hg
  clear e
  cases hg
/-! ### the exceptions -/
def CA72 (K : Fr) : Nat → Addr × List Str := fun c => if c = 0 then (ga K "NotFormula", ["path"]) else (ga K "NotGrid", ["number"])
def T72 (K : Fr) : Tb := { S := fun _ _ _ _ => False, G := G72, CA := CA72 K, nC := 2 }
theorem t0 (A : AllF P w K) : Xs.Txt P K (ga K "NotFormula") (ma K (ga K "NotFormula") "__init__") (ccOf K (ma K (ga K "NotFormula") "__init__")) (caOf K (ma K (ga K "NotFormula") "__init__")) "path" :=
  txt_mk A.c0 A.f0 (by decide) (fun _ _ _ _ _ _ _ _ => by kernel_rfl) evA
theorem t1 (A : AllF P w K) : Xs.Txt P K (ga K "NotGrid") (ma K (ga K "NotGrid") "__init__") (ccOf K (ma K (ga K "NotGrid") "__init__")) (caOf K (ma K (ga K "NotGrid") "__init__")) "number" :=
  txt_mk A.c1 A.f1 (by decide) (fun _ _ _ _ _ _ _ _ => by kernel_rfl) evB
theorem mk_of {X : Cx} {nm f : Str} {C fI cc ca : Addr} {k : Nat} (T : Xs.Txt X.prog X.K C fI cc ca f) (hs : X.mg "super" = none) (hr : Room k X.A) (hm : X.mg nm = some (.ref C)) (hnm : (nm == ("__debug__" : Str)) = false) : ∀ X', SameX X X' → MkOk X' nm C [f] := by
  intro X' ⟨e1, e2, e3, e4, e5, e6, e7⟩ p pos e es t ha hn hg hd
  have hn2 := List.all_cons ▸ hn
  rw [Bool.and_eq_true] at hn2
  exact Xs.pmk (k := k) (by rw [e1, e3]; exact T) (by rw [e4]; exact hs) (by rw [e6]; exact hr) (by rw [e4]; exact hm) ha hg hnm (star_cons hn2.1) (star_any hn2.2)
theorem xfacts (A : AllF P w K) (KX : K.In h) (G : h.Ns mainGlobals mg) (S : SPX) {k : Nat} {X : Cx} (hP : X.prog = P) (hK : X.K = K) (hmg : X.mg = mg) (hr : Room k X.A) : XFacts { T72 K with S := S } XN CN X := by
  have hs : X.mg "super" = none := by rw [hmg]; exact He.free_ok KX G (fact_mem A.says (free_mem List.mem_cons_self))
  have m0 : X.mg "NotFormula" = some (.ref (ga K "NotFormula")) := by rw [hmg]; exact He.glo_ok KX G (fact_mem A.says (last_i 8 rfl))
  have m1 : X.mg "NotGrid" = some (.ref (ga K "NotGrid")) := by rw [hmg]; exact He.glo_ok KX G (fact_mem A.says (last_i 9 rfl))
  have mF : X.mg "FontError" = some (.ref (ga K "FontError")) := by rw [hmg]; exact He.glo_ok KX G (fact_mem A.says (last_i 7 rfl))
  have T0 : Xs.Txt X.prog X.K (ga K "NotFormula") (ma K (ga K "NotFormula") "__init__") (ccOf K (ma K (ga K "NotFormula") "__init__")) (caOf K (ma K (ga K "NotFormula") "__init__")) "path" := by rw [hP, hK]; exact t0 A
  have T1 : Xs.Txt X.prog X.K (ga K "NotGrid") (ma K (ga K "NotGrid") "__init__") (ccOf K (ma K (ga K "NotGrid") "__init__")) (caOf K (ma K (ga K "NotGrid") "__init__")) "number" := by rw [hP, hK]; exact t1 A
  refine ⟨fun c nm fs hx => ?_, fun x cs hx => ?_, fun c nm fs hx => ?_⟩
  · match c, hx with
    | 0, hx => cases hx; exact ⟨by show 0 < 2; decide, rfl, by simp, by simp, mk_of T0 hs hr m0 (by decide)⟩
    | 1, hx => cases hx; exact ⟨by show 1 < 2; decide, rfl, by simp, by simp, mk_of T1 hs hr m1 (by decide)⟩
    | n + 2, hx => cases hx
  · have two : ∀ {y : Str} {cs : List Nat}, PySem.W.exmOne K (.ref (ga K "NotFormula")) (.ref (ga K y)) = some (decide (0 ∈ cs)) → PySem.W.exmOne K (.ref (ga K "NotGrid")) (.ref (ga K y)) = some (decide (1 ∈ cs)) → ∀ c, c < 2 → PySem.W.exmOne X.K (.ref (CA72 K c).1) (.ref (ga K y)) = some (decide (c ∈ cs)) := by
      intro y cs h0 h1 c hc
      rw [hK]
      match c, hc with
      | 0, _ => exact h0
      | 1, _ => exact h1
    have ex : ∀ {a b : Str} {v : Bool}, He.Fa.exm a b v ∈ fas → PySem.W.exmOne K (.ref (ga K a)) (.ref (ga K b)) = some v := fun hm => He.exm_ok (fact_mem A.says hm)
    simp only [CN, List.mem_cons, List.not_mem_nil, or_false] at hx
    rcases hx with hx | hx | hx <;> cases hx
    · exact ⟨_, mF, two (ex (last_i 10 rfl)) (ex (last_i 11 rfl))⟩
    · exact ⟨_, m0, two (ex (last_i 12 rfl)) (ex (last_i 13 rfl))⟩
    · exact ⟨_, m1, two (ex (last_i 14 rfl)) (ex (last_i 15 rfl))⟩
  · match c, hx with
    | 0, hx =>
      cases hx
      rw [hK]
      exact ⟨xfB_ok A.x0, fun f hf => by simp at hf; subst hf; exact (t0 A).noN⟩
    | 1, hx =>
      cases hx
      rw [hK]
      exact ⟨xfB_ok A.x1, fun f hf => by simp at hf; subst hf; exact (t1 A).noN⟩
    | n + 2, hx => cases hx
end
end F72
set_option linter.all false
set_option autoImplicit false
set_option maxRecDepth 100000
set_option Elab.async false
namespace F72
open PySem PySem.Spec PyProof.Rows L2 EV A72 P72
open He (ga ma ba)
theorem obl : ∀ (k i : Nat) (d : EV.DefD) (rs : List RV) (R : RV → List Ow → Prop) (Xc : Nat → List D → Prop), A72.L[i]? = some d → lev i rs < k + 1 → ct i rs R Xc → ∃ ρ0, env0 d.io rs d.N.length = some ρ0 ∧ wSs (upTo lev ct k) G72 d.ss ρ0 (endK d.io R Xc)
  | k, 0, d, rs, R, Xc, h, hl, hc => by cases h; exact owes_ok (ob0 hl hc)
  | k, 1, d, rs, R, Xc, h, hl, hc => by cases h; exact owes_ok (ob1 hl hc)
  | k, 2, d, rs, R, Xc, h, hl, hc => by cases h; exact owes_ok (ob2 hl hc)
  | k, 3, d, rs, R, Xc, h, hl, hc => by cases h; exact owes_ok (ob3 hl hc)
  | k, 4, d, rs, R, Xc, h, hl, hc => by cases h; exact owes_ok (ob4 hl hc)
  | k, 5, d, rs, R, Xc, h, hl, hc => by cases h; exact owes_ok (ob5 hl hc)
  | k, 6, d, rs, R, Xc, h, hl, hc => by cases h; exact owes_ok (ob6 hl hc)
  | k, 7, d, rs, R, Xc, h, hl, hc => by cases h; exact owes_ok (ob7 hl hc)
  | k, 8, d, rs, R, Xc, h, hl, hc => by cases h; exact owes_ok (ob8 hl hc)
  | k, 9, d, rs, R, Xc, h, hl, hc => by cases h; exact owes_ok (ob9 hl hc)
  | k, 10, d, rs, R, Xc, h, hl, hc => by cases h; exact owes_ok (ob10 hl hc)
  | k, 11, d, rs, R, Xc, h, hl, hc => by cases h; exact owes_ok (ob11 hl hc)
  | k, 12, d, rs, R, Xc, h, hl, hc => by cases h; exact owes_ok (ob12 hl hc)
  | k, 13, d, rs, R, Xc, h, hl, hc => by cases h; exact owes_ok (ob13 hl hc)
  | k, 14, d, rs, R, Xc, h, hl, hc => by cases h; exact owes_ok (ob14 hl hc)
  | k, 15, d, rs, R, Xc, h, hl, hc => by cases h; exact owes_ok (ob15 hl hc)
  | k, 16, d, rs, R, Xc, h, hl, hc => by cases h; exact owes_ok (ob16 hl hc)
  | k, 17, d, rs, R, Xc, h, hl, hc => by cases h; exact owes_ok (ob17 hl hc)
  | k, 18, d, rs, R, Xc, h, hl, hc => by cases h; exact owes_ok (ob18 hl hc)
  | k, 19, d, rs, R, Xc, h, hl, hc => by cases h; exact owes_ok (ob19 hl hc)
  | k, 20, d, rs, R, Xc, h, hl, hc => by cases h; exact owes_ok (ob20 hl hc)
  | k, 21, d, rs, R, Xc, h, hl, hc => by cases h; exact owes_ok (ob21 hl hc)
  | k, 22, d, rs, R, Xc, h, hl, hc => by cases h; exact owes_ok (ob22 hl hc)
  | k, 23, d, rs, R, Xc, h, hl, hc => by cases h; exact owes_ok (ob23 hl hc)
  | k, 24, d, rs, R, Xc, h, hl, hc => by cases h; exact owes_ok (ob24 hl hc)
  | k, 25, d, rs, R, Xc, h, hl, hc => by cases h; exact owes_ok (ob25 hl hc)
  | k, 26, d, rs, R, Xc, h, hl, hc => by cases h; exact owes_ok (ob26 hl hc)
  | k, 27, d, rs, R, Xc, h, hl, hc => by cases h; exact owes_ok (ob27 hl hc)
  | k, 28, d, rs, R, Xc, h, hl, hc => by cases h; exact owes_ok (ob28 hl hc)
  | k, 29, d, rs, R, Xc, h, hl, hc => by cases h; exact owes_ok (ob29 hl hc)
  | k, 30, d, rs, R, Xc, h, hl, hc => by cases h; exact owes_ok (ob30 hl hc)
  | k, 31, d, rs, R, Xc, h, hl, hc => by cases h; exact owes_ok (ob31 hl hc)
  | k, 32, d, rs, R, Xc, h, hl, hc => by cases h; exact owes_ok (ob32 hl hc)
  | k, 33, d, rs, R, Xc, h, hl, hc => by cases h; exact owes_ok (ob33 hl hc)
  | k, 34, d, rs, R, Xc, h, hl, hc => by cases h; exact owes_ok (ob34 hl hc)
  | k, 35, d, rs, R, Xc, h, hl, hc => by cases h; exact owes_ok (ob35 hl hc)
  | k, 36, d, rs, R, Xc, h, hl, hc => by cases h; exact owes_ok (ob36 hl hc)
  | k, 37, d, rs, R, Xc, h, hl, hc => by cases h; exact owes_ok (ob37 hl hc)
  | k, 38, d, rs, R, Xc, h, hl, hc => by cases h; exact owes_ok (ob38 hl hc)
  | k, i + 39, d, rs, R, Xc, h, hl, hc => by
    have : A72.L[i + 39]? = none := List.getElem?_eq_none (by show 39 ≤ i + 39; omega)
    rw [this] at h; cases h
section
variable {P : Program} {w : World} {K : Fr} {mg : Str → Option Value} {h : Heap} {fa : Addr}
theorem okD (i : Nat) (d : EV.DefD) (e : A72.L[i]? = some d) : d.okB (fnsOf A72.L) XN CN = true := by
  rw [A72.fns]
  exact List.all_eq_true.mp A72.okL d (List.mem_of_getElem? e)
theorem fac_use (A : AllF P w K) (KX : K.In h) (G : h.Ns mainGlobals mg) (hmg : mg "law" = some (.ref fa)) :
    ∃ fd : FuncData, (∀ (s : Shared) (u : Value), BindsTo s fd ⟨[u], []⟩ [("script", u)]) ∧ ∃ T : Tb, (∀ ns : List Int, ns.length ≤ 63 → (∀ z ∈ ns, Builtin.Int.intBits z ≤ 1048576) → T.S 38 [.val (.lst (ns.map .int))] (fun r os => r = .val (.bl true)) fun _ _ => False) ∧
        ∀ base : Heap, K.In base → base.Ns mainGlobals mg → FnG P w K mg base 200 fa fd ["script"] (spF T ⟨K, w⟩ 38) := by
  have hd38 : d38 ∈ A72.L := List.mem_of_getElem? (i := 38) rfl
  obtain ⟨fd, hF, hB, hk⟩ := defF A.says hd38
  have hfa : fa = ga K "law" := by
    have := He.glo_ok KX G (fact_mem A.says (glo_mem hd38))
    have e : mg "law" = some (.ref (ga K "law")) := this
    rw [hmg] at e
    injection e with e; injection e
  subst hfa
  refine ⟨fd, fun s u => hB.1 s [u] rfl, { T72 K with S := upTo lev ct 200 }, fun ns hn _ => ⟨?_, ⟨ns, rfl, hn⟩, rfl⟩, fun base kb gb => ?_⟩
  · show 40 < 200
    decide
  · have glo := levels (T := T72 K) (Fk0 := ⟨K, w⟩) (P := P) (w := w) (K := K) (mg := mg) (base := base) (L := A72.L) (XN := XN) (CN := CN) (lev := lev) (ct := ct) rfl rfl (glob A KX G) (fun x hx => He.free_ok KX G (fact_mem A.says (free_mem (List.mem_cons_of_mem _ hx))))
      (fun i d e => ⟨defAt A.says KX G (List.mem_of_getElem? e), okD i d e⟩) (fun k X hP _ hK hm _ hr _ => xfacts A KX G _ hP hK hm hr) (fun k i d rs R Xc e hl hc => obl k i d rs R Xc e hl hc) 199
    have hok := okD 38 d38 rfl
    unfold DefD.okB at hok
    rw [Bool.and_eq_true] at hok
    exact def_ok (T := { T72 K with S := upTo lev ct 199 }) (S' := upTo lev ct 200) hF (C8.fnScope_by (List.all_eq_true.mp scopes d38 hd38)) (of_decide_eq_true hok.1) hok.2 glo (fun X hP _ hK hm _ hr _ => xfacts A KX G _ hP hK hm hr) fun rs R Xc ⟨hl, hc⟩ => obl 199 38 d38 rs R Xc rfl hl hc
end
end F72
set_option linter.all false
set_option autoImplicit false
set_option maxRecDepth 100000
set_option Elab.async false
namespace F72
open PySem PySem.Spec PyProof.Rows L2 EV A72 P72
theorem sayE {K : Fr} (a : ((FN.map fun p => He.Fa.glo p.1).all fun f => f.ok K) = true) (b : ((FN.map fun p => He.Fa.keep p.1).all fun f => f.ok K) = true) (c : ((("super" :: bltN : List Str).map He.Fa.free).all fun f => f.ok K) = true)
  (d0 : (He.Fa.int "MOST_WORDS_formulas" 60).ok K = true)
  (d1 : (He.Fa.int "MOST_DEPTH" 8).ok K = true)
  (d2 : (He.Fa.int "MOST_SIDE" 12).ok K = true)
  (d3 : (He.Fa.int "MOST_CELLS" 24).ok K = true)
  (d4 : (He.Fa.int "MOST_WORDS_grids" 60).ok K = true)
  (d5 : (He.Fa.str "LETTERS" "abcdefghijklmnopqrstuvwxyz").ok K = true)
  (d6 : (He.Fa.glo "ASKED").ok K = true)
  (d7 : (He.Fa.glo "FontError").ok K = true)
  (d8 : (He.Fa.glo "NotFormula").ok K = true)
  (d9 : (He.Fa.glo "NotGrid").ok K = true)
  (d10 : (He.Fa.exm "NotFormula" "FontError" true).ok K = true)
  (d11 : (He.Fa.exm "NotGrid" "FontError" true).ok K = true)
  (d12 : (He.Fa.exm "NotFormula" "NotFormula" true).ok K = true)
  (d13 : (He.Fa.exm "NotGrid" "NotFormula" false).ok K = true)
  (d14 : (He.Fa.exm "NotFormula" "NotGrid" false).ok K = true)
  (d15 : (He.Fa.exm "NotGrid" "NotGrid" true).ok K = true)
  (e : (fnds.all fun d => (He.Fa.code d.at_ d.qual).ok K) = true) (f : (fnds.map fun d => He.fnObs K d.at_) = fnds.map He.FnD.val) : He.SaysE fas fnds K := by
  unfold He.SaysE He.obsE He.valE
  rw [e, f]
  unfold fas
  rw [List.all_append, List.all_append, List.all_append, a, b, c]
  simp only [List.all_cons, List.all_nil, d0, d1, d2, d3, d4, d5, d6, d7, d8, d9, d10, d11, d12, d13, d14, d15, Bool.and_true, Bool.true_and]
end F72
set_option Elab.async false
set_option maxRecDepth 100000
open PySem PySem.W PyProof.Rows
set_option linter.all false
set_option maxRecDepth 100000 in
set_option maxHeartbeats 0 in
theorem PySem.Challenge.cw_everyfont_k72_grids_judged_holds : PySem.Challenge.rw_everyfont_k72_grids_judged.Holds := by
  w_on; o_law; k_head; (case hw => w_witness2)
  k_fill
  refine EV.walk_G (l := PySem.Challenge.rw_everyfont_k72_grids_judged) (n := 63) (i := 38) (k := 200) (x := "script") rfl (by decide) rfl ⟨rfl, by decide, by decide⟩ (fun w h Y => PySem.W.kIn_of Y) ?nol ?fac
  case nol => intro w; kernel_rfl
  case fac =>
    intro w mg fa h KX G hmg
    refine F72.fac_use ?_ KX G hmg
    refine ⟨?s1, ?s2, ?s3, ?s4, ?s5, ?s6, ?s7, ?s8, ?s9, ?s10⟩
    case s2 => kernel_rfl
    case s3 => kernel_rfl
    case s4 => kernel_rfl
    case s5 => kernel_rfl
    case s6 => kernel_rfl
    case s7 => kernel_rfl
    case s8 => kernel_rfl
    case s9 => kernel_rfl
    case s10 => kernel_rfl
    case s1 =>
      refine F72.sayE ?a1 ?b1 ?c1 ?d0 ?d1 ?d2 ?d3 ?d4 ?d5 ?d6 ?d7 ?d8 ?d9 ?d10 ?d11 ?d12 ?d13 ?d14 ?d15 ?e1 ?f1
      case a1 => kernel_rfl
      case b1 => kernel_rfl
      case c1 => kernel_rfl
      case d0 => kernel_rfl
      case d1 => kernel_rfl
      case d2 => kernel_rfl
      case d3 => kernel_rfl
      case d4 => kernel_rfl
      case d5 => kernel_rfl
      case d6 => kernel_rfl
      case d7 => kernel_rfl
      case d8 => kernel_rfl
      case d9 => kernel_rfl
      case d10 => kernel_rfl
      case d11 => kernel_rfl
      case d12 => kernel_rfl
      case d13 => kernel_rfl
      case d14 => kernel_rfl
      case d15 => kernel_rfl
      case e1 => kernel_rfl
      case f1 => kernel_rfl
