import PyProof.Rows.All
import Wide.All
import OpenK.AllK
import Wide.FinOn
import PySem.Str
import HandS.ForMost
import HandS.Exc
import HandS.TryOnly
import HandS.TryMany
import HandS.ExcOwn
import HandS.Lambda
import KE.DataEq
import KE.LtData
import HandS.Flow
import HandS.TupAny
import PyProof.StrBlock2
import HandS.Text
import HandS.More
import HandS.DictTup
import HandS.TupLen
import PyProof.DictMoreH
import HandS.Style
import HandS.Small
import HandS.Comp
import HandS.Words
import HandS.WordsExc
import HandS.ExcValue
import KE.KExcIs
import HandS.ExcIs
import HandS.IsInst
import PySem.Challenge.RW_fencehall_k23_refusals_apart
import HandS.AnyAll
import KE.KDictWalk
import KE.KExcSuper
import KE.KSuper
import HandS.ExcInit
import KE.KDictList
import HandS.Defaults
import HandS.HeadHook1
import HandS.HeadHook2
import HandS.HeadHook3
import HandS.HeadHook4
import HandS.Head0
import HandS.Head1
import HandS.Head2
import HandS.HeadEnd
import HandS.EndBits
import HandS.EndTab
import HandS.HeadWalk
set_option linter.all false
set_option autoImplicit false
/-! Pyl: a small deterministic interpreter for the subset of Python that the laws use. Plain Lean. Soundness over the model: Snd*.lean. -/
namespace Pyl
open PySem (Str)

/-! ### data -/
abbrev K1 := Sum Int Str
abbrev Ky := Sum K1 (List K1)
/-- frozen data: nothing in it is changed any more; `kls`, `ktp`: a list, a tuple of the module, or the script; `loc n` is the n-th cell of the store -/
inductive D where
  | non | bl (b : Bool) | int (i : Int) | str (s : Str)
  | tup (ds : List D) | lst (ds : List D) | kls (ds : List D) | ktp (ds : List D) | dct (kvs : List (Ky × D))
  | obj (c : Nat) (fs : List (Nat × D)) | loc (n : Nat)
deriving Inhabited
def K1.d : K1 → D
  | .inl i => .int i
  | .inr s => .str s
def Ky.d : Ky → D
  | .inl k => K1.d k
  | .inr ks => .tup (ks.map K1.d)
def D.k1 : D → Option K1
  | .int i => some (.inl i)
  | .str s => some (.inr s)
  | _ => none
def k1s : List D → Option (List K1)
  | [] => some []
  | d :: r => match d.k1, k1s r with
    | some k, some ks => some (k :: ks)
    | _, _ => none
def D.ky : D → Option Ky
  | .int i => some (.inl (.inl i))
  | .str s => some (.inl (.inr s))
  | .tup ds => match k1s ds with
    | some ks => some (.inr ks)
    | none => none
  | _ => none
/-- dicts -/
def kGet {α : Type} (kvs : List (Ky × α)) (k : Ky) : Option α := (kvs.find? fun kv => decide (kv.1 = k)).map (·.2)
def kPut {α : Type} (kvs : List (Ky × α)) (k : Ky) (v : α) : List (Ky × α) :=
  if kvs.any fun kv => decide (kv.1 = k) then kvs.map fun kv => if kv.1 = k then (kv.1, v) else kv else kvs ++ [(k, v)]
def kDrop {α : Type} (kvs : List (Ky × α)) (k : Ky) : List (Ky × α) := kvs.filter fun kv => decide (kv.1 ≠ k)
/-- keys of one kind -/
def kOk {α : Type} : List (Ky × α) → Ky → Bool
  | [], _ => true
  | (.inl _, _) :: _, .inl _ => true
  | (.inr _, _) :: _, .inr _ => true
  | _, _ => false
def kMerge {α : Type} (kvs more : List (Ky × α)) : List (Ky × α) := more.foldl (fun acc kv => kPut acc kv.1 kv.2) kvs

mutual
/-- == of plain data -/
def D.eqv : D → D → Bool
  | .non, .non => true
  | .bl a, .bl b => a == b
  | .bl a, .int j => (if a then 1 else 0) == j
  | .int i, .bl b => i == (if b then 1 else 0)
  | .int i, .int j => i == j
  | .str x, .str y => x == y
  | .tup a, .tup b => D.eqvs a b
  | .lst a, .lst b => D.eqvs a b
  | _, _ => false
def D.eqvs : List D → List D → Bool
  | [], [] => true
  | x :: xs, y :: ys => D.eqv x y && D.eqvs xs ys
  | _, _ => false
end
mutual
/-- no dict, no object within -/
def D.pl : D → Bool
  | .non | .bl _ | .int _ | .str _ => true
  | .tup a | .lst a => D.pls a
  | _ => false
def D.pls : List D → Bool
  | [] => true
  | x :: xs => D.pl x && D.pls xs
end
mutual
def D.dep : D → Nat
  | .tup a | .lst a => D.deps a + 1
  | _ => 0
def D.deps : List D → Nat
  | [] => 0
  | x :: xs => max (D.dep x) (D.deps xs)
end
mutual
/-- < of alike data -/
def D.lt : D → D → Bool
  | .int i, .int j => decide (i < j)
  | .str x, .str y => decide (x.cps.toList < y.cps.toList)
  | .tup a, .tup b => D.lts a b
  | .lst a, .lst b => D.lts a b
  | _, _ => false
def D.lts : List D → List D → Bool
  | _, [] => false
  | [], _ :: _ => true
  | x :: xs, y :: ys => if D.eqv x y then D.lts xs ys else D.lt x y
end
mutual
/-- of one shape: < is defined -/
def D.alk : D → D → Bool
  | .int _, .int _ => true
  | .str _, .str _ => true
  | .tup a, .tup b => D.alks a b
  | .lst a, .lst b => D.alks a b
  | _, _ => false
def D.alks : List D → List D → Bool
  | x :: xs, y :: ys => D.alk x y && D.alks xs ys
  | _, _ => true
end
def D.isTup : D → Bool
  | .tup (_ :: _) => true
  | _ => false
/-- a list that may be sorted -/
def sortOk (ds : List D) : Bool := (ds.all fun a => ds.all fun b => D.alk a b) && (ds.all D.isTup || ds.all fun a => !(match a with | .tup _ => true | _ => false)) && decide (D.deps ds ≤ 8)
def D.srt (ds : List D) : List D := ds.mergeSort fun a b => !D.lt b a
mutual
def D.noloc : D → Bool
  | .loc _ => false
  | .tup a | .lst a | .kls a | .ktp a => D.nolocs a
  | .dct kvs => D.nolock kvs
  | .obj _ fs => D.nolocf fs
  | _ => true
def D.nolocs : List D → Bool
  | [] => true
  | x :: xs => D.noloc x && D.nolocs xs
def D.nolock : List (Ky × D) → Bool
  | [] => true
  | (_, x) :: xs => D.noloc x && D.nolock xs
def D.nolocf : List (Nat × D) → Bool
  | [] => true
  | (_, x) :: xs => D.noloc x && D.nolocf xs
end

/-! ### states -/
/-- a slot or field: nothing known; frozen data; a container that is owned here; the same, locked while a loop walks it -/
inductive SV where
  | em | vl (d : D) | bx (d : D) | lk (d : D)
deriving Inhabited
def SV.d? : SV → Option D
  | .em => none
  | .vl d | .bx d | .lk d => some d
inductive Cell where
  | ins (c : Nat) (fs : List (Nat × SV))
  | ls (ds : List D)
deriving Inhabited
structure St where
  sl : List SV
  sto : List Cell
structure Xn where
  c : Nat
  row : Option D
inductive R (α : Type) where
  | ok (a : α) (s : St)
  | er (x : Xn) (s : St)
  | sk
def R.bind {α β : Type} : R α → (α → St → R β) → R β
  | .ok a s, f => f a s
  | .er x s, _ => .er x s
  | .sk, _ => .sk
@[simp] theorem R.bind_ok {α β : Type} (a : α) (s : St) (f : α → St → R β) : (R.ok a s).bind f = f a s := rfl
@[simp] theorem R.bind_er {α β : Type} (x : Xn) (s : St) (f : α → St → R β) : (R.er x s : R α).bind f = .er x s := rfl
@[simp] theorem R.bind_sk {α β : Type} (f : α → St → R β) : (R.sk : R α).bind f = .sk := rfl
def gt : List SV → Nat → SV
  | [], _ => .em
  | x :: _, 0 => x
  | _ :: l, n + 1 => gt l n
def pt : List SV → Nat → SV → List SV
  | [], _, _ => []
  | _ :: l, 0, v => v :: l
  | x :: l, n + 1, v => x :: pt l n v
def fg {α : Type} : List (Nat × α) → Nat → Option α
  | [], _ => none
  | (g, v) :: r, f => if g = f then some v else fg r f
def fp {α : Type} : List (Nat × α) → Nat → α → List (Nat × α)
  | [], f, v => [(f, v)]
  | (g, w) :: r, f, v => if g = f then (g, v) :: r else (g, w) :: fp r f v
def St.put (s : St) (i : Nat) (v : SV) : St := { s with sl := pt s.sl i v }
def St.fld (s : St) (n f : Nat) : Option SV := match s.sto[n]? with
  | some (.ins _ fs) => fg fs f
  | _ => none
def St.setf (s : St) (n f : Nat) (v : SV) : St := match s.sto[n]? with
  | some (.ins c fs) => { s with sto := s.sto.set n (.ins c (fp fs f v)) }
  | _ => s
/-- what a function gives -/
inductive FR where
  | ok (d : D) (fr : Bool) (sto : List Cell)
  | er (x : Xn) (sto : List Cell)
  | sk
abbrev Sem := List D → List Cell → FR
structure Env where
  fns : List Sem
  glo : List D
  /-- is class c the class k or below it -/
  sub : Nat → Nat → Bool
  /-- what _law_told says of a class -/
  told : List (Nat × Str)

/-! ### syntax -/
inductive Op where | add | sub | mul | fdv | mod | pow
deriving DecidableEq
inductive Cm where | eq | ne | lt | le | gt | ge | mem | nmem
deriving DecidableEq
/-- built-in functions of one operand -/
inductive B1 where | len | abs | int | str | lst | tup | dct | rvl
deriving DecidableEq
mutual
inductive Ex where
  | var (i : Nat) | int (i : Int) | str (s : Str) | bl (b : Bool) | non | glo (k : Nat)
  | bin (op : Op) (a b : On) | neg (a : Ex) | cmp (c : Cm) (a b : On) | isn (ng : Bool) (a : Ex)
  | chn (c1 c2 : Cm) (a b c : Ex) | andE (es : Exs) | orE (es : Exs) | notE (a : Ex) | ite (t a b : Ex)
  | tupD (es : Exs) | lstD (es : Exs) | lsD (es : Exs) | dctD (r : Kvs)
  | idx (o : On) (i : Ex) | slc (o : On) (lo hi : Exo) | atr (o : On) (f : Nat)
  | call (j : Nat) (es : Exs) | mth (c j : Nat) (o : Ex) (es : Exs) | mk (c j : Nat) (es : Exs) | mkF (c j : Nat) (es : Exs)
  | told (e : Ex)
  | b1 (f : B1) (o : On) | mm (mx : Bool) (es : Exs)
  | lI (it : It) | tI (it : It) | sI (rev : Bool) (it : It) | suI (it : It) | mmI (mx : Bool) (it : It) (dflt : Exo) | dI (it : It)
  | lc (t : Tg) (it : It) (c : Exo) (e : Ex)
  | gAny (t : Tg) (it : It) (c : Exo) (e : Ex) | gAll (t : Tg) (it : It) (c : Exo) (e : Ex) | gSum (t : Tg) (it : It) (c : Exo) (e : Ex)
  | mnK (it : It) (x : Nat) (key : Ex) | srK (it : It) (x : Nat) (key : Ex)
  | get (o : On) (k : Ex) (dflt : Exo)
  | app (o : On) (e : Ex) | pop (o : On) | popI (o : On) (k : Ex) | rem (o : On) (e : Ex)
  | cnt (o : On) (e : Ex) | ind (o : On) (e : Ex) | join (a : Ex) (o : On) | split (a b : Ex)
/-- no expression, or one -/
inductive Exo where
  | no | yes (e : Ex)
inductive Exs where
  | nil | cons (e : Ex) (es : Exs)
inductive Kvs where
  | nil | cons (k v : Ex) (r : Kvs)
/-- an operand that is looked at where it stands: a slot, a field of the object in a slot; or any expression -/
inductive On where
  | ex (e : Ex) | pk (i : Nat) | pf (i f : Nat)
inductive It where
  | on (o : On) | itm (o : On) | vls (o : On) | r1 (a : Ex) | r2 (a b : Ex) | r3 (a b c : Ex) | enu (o : On) | zp (a b : On) | rv (o : On)
inductive Tg where
  | nm (i : Nat) | nb (i : Nat) | tp (ts : Tgs) | at (i f : Nat) | ab (i f : Nat) | sb (o : On) (k : Ex)
inductive Tgs where
  | nil | cons (t : Tg) (ts : Tgs)
end
mutual
inductive Sm where
  | asg (t : Tg) (e : Ex) | asg2 (t u : Tg) (e : Ex) | par (ts : Tgs) (es : Exs)
  | aug (op : Op) (i : Nat) (e : Ex) | augA (op : Op) (i f : Nat) (e : Ex) | augS (op : Op) (o : On) (k e : Ex) | ext (i : Nat) (e : Ex)
  | ex (e : Ex) | ret (e : Ex) | retN | iff (c : Ex) (a b : Sms) | whl (fuel : Nat) (c : Ex) (b : Sms)
  | fr (t : Tg) (it : It) (b els : Sms) | brk | cnt | pas | rse (c : Nat) (es : Exs) | del (o : On) (k : Ex)
inductive Sms where
  | nil | cons (s : Sm) (ss : Sms)
end

def Tgs.len : Tgs → Nat
  | .nil => 0
  | .cons _ r => r.len + 1

/-! ### operations -/
/-- lists, texts and tuples are shorter than this -/
def LIM : Nat := 1000000
def SMALL : Int := 18446744073709551616
def strApp (x y : Str) : Str := x ++ y
def strMul (x : Str) (n : Int) : Str := ⟨((List.replicate n.toNat x.cps.toList).flatten).toArray⟩
def binop : Op → D → D → Option (D × Bool)
  | .add, .int i, .int j => some (.int (i + j), false)
  | .add, .str x, .str y => if x.length + y.length ≤ LIM then some (.str (x ++ y), false) else none
  | .add, .tup a, .tup b => if a.length + b.length ≤ LIM then some (.tup (a ++ b), false) else none
  | .add, .lst a, .lst b => if a.length + b.length ≤ LIM then some (.lst (a ++ b), true) else none
  | .sub, .int i, .int j => some (.int (i - j), false)
  | .mul, .int i, .int j => if (-SMALL < i ∧ i < SMALL) ∨ (-SMALL < j ∧ j < SMALL) then some (.int (i * j), false) else none
  | .mul, .str x, .int n => if -LIM ≤ n ∧ n ≤ LIM ∧ x.length * n.toNat ≤ LIM then some (.str (strMul x n), false) else none
  | .mul, .lst a, .int n => if -LIM ≤ n ∧ n ≤ LIM ∧ a.length * n.toNat ≤ LIM then some (.lst (List.replicate n.toNat a).flatten, true) else none
  | .fdv, .int i, .int j => if j ≠ 0 ∧ j.natAbs < 1073741824 then some (.int (i.fdiv j), false) else none
  | .mod, .int i, .int j => if j ≠ 0 then some (.int (i.fmod j), false) else none
  | .pow, .int i, .int j => if 0 ≤ j ∧ j ≤ 1000 ∧ i.natAbs < 1000 then some (.int (i ^ j.toNat), false) else none
  | _, _, _ => none
/-- x op= y of what is not changed in its place -/
def augop : Op → D → D → Option D
  | .add, .int i, .int j => some (.int (i + j))
  | .add, .str x, .str y => if x.length + y.length ≤ LIM then some (.str (x ++ y)) else none
  | .sub, .int i, .int j => some (.int (i - j))
  | .mul, .int i, .int j => if (-SMALL < i ∧ i < SMALL) ∨ (-SMALL < j ∧ j < SMALL) then some (.int (i * j)) else none
  | .fdv, .int i, .int j => if 0 < j ∧ j < 1073741824 then some (.int (i / j)) else none
  | .mod, .int i, .int j => if 0 < j then some (.int (i % j)) else none
  | _, _, _ => none
/-- is y one sign of x, or a run of them -/
def strIn (x y : Str) : Bool := match x.cps.toList with
  | [c] => decide (c ∈ y.cps.toList)
  | _ => false
def inOp (x : D) : D → Option Bool
  | .lst ds | .tup ds | .ktp ds => if x.pl && D.pls ds && decide (x.dep ≤ 8) && decide (D.deps ds ≤ 8) then some (ds.any fun y => D.eqv y x) else none
  | .dct kvs => match x.ky with
    | some k => if kOk kvs k then some (kGet kvs k).isSome else none
    | none => none
  | _ => none
def cmpop : Cm → D → D → Option Bool
  | .lt, .int i, .int j => some (decide (i < j))
  | .gt, .int i, .int j => some (decide (j < i))
  | .le, .int i, .int j => some (decide (i ≤ j))
  | .ge, .int i, .int j => some (decide (j ≤ i))
  | .eq, a, b => if a.pl && b.pl && decide (a.dep ≤ 8) && decide (b.dep ≤ 8) then some (D.eqv a b) else none
  | .ne, a, b => if a.pl && b.pl && decide (a.dep ≤ 8) && decide (b.dep ≤ 8) then some (!D.eqv a b) else none
  | .mem, a, b => inOp a b
  | .nmem, a, b => (inOp a b).map (!·)
  | _, _, _ => none
/-- truth -/
def D.tru : D → Option Bool
  | .bl b => some b
  | .int i => some (i != 0)
  | .non => some false
  | _ => none
/-- Python's index, slice -/
def ixN (n : Nat) (i : Int) : Option Nat := if 0 ≤ i then (if i < n then some i.toNat else none) else if -(n : Int) ≤ i then some (i + n).toNat else none
def atI {α : Type} (xs : List α) (i : Int) : Option α := (ixN xs.length i).bind fun j => xs[j]?
def sIx (n d : Nat) : Option Int → Nat
  | none => d
  | some v => if v < 0 then (v + (n : Int)).toNat else min v.toNat n
def cut {α : Type} (xs : List α) (lo hi : Option Int) : List α := (xs.drop (sIx xs.length 0 lo)).take (sIx xs.length xs.length hi - sIx xs.length 0 lo)
def items (s : St) : D → Option (List D)
  | .lst ds | .tup ds | .kls ds | .ktp ds => some ds
  | .loc n => match s.sto[n]? with
    | some (.ls ds) => some ds
    | _ => none
  | _ => none
def idxOp (s : St) (c i : D) : Option D := match c, i with
  | .dct kvs, k => match k.ky with
    | some k => if kOk kvs k then kGet kvs k else none
    | none => none
  | .str x, .int j => if x.length ≤ LIM then (atI x.cps.toList j).map fun c => D.str ⟨#[c]⟩ else none
  | c, .int j => match items s c with
    | some ds => atI ds j
    | none => none
  | _, _ => none
def slcOp (s : St) (c : D) (lo hi : Option Int) : Option (D × Bool) := match c with
  | .lst ds | .kls ds => some (.lst (cut ds lo hi), true)
  | .tup ds => some (.tup (cut ds lo hi), false)
  | .str x => if x.length ≤ LIM then some (.str ⟨(cut x.cps.toList lo hi).toArray⟩, false) else none
  | _ => none
def intsOf : List D → Option (List Int)
  | [] => some []
  | .int i :: r => match intsOf r with
    | some l => some (i :: l)
    | none => none
  | _ :: _ => none
def b1op (s : St) : B1 → D → Option (D × Bool)
  | .len, .lst ds | .len, .tup ds | .len, .kls ds | .len, .ktp ds => some (.int ds.length, false)
  | .len, .dct kvs => some (.int kvs.length, false)
  | .len, .str x => if x.length ≤ LIM then some (.int x.length, false) else none
  | .abs, .int i => some (.int (if i < 0 then -i else i), false)
  | .int, .int i => some (.int i, false)
  | .int, .bl b => some (.int (if b then 1 else 0), false)
  | .str, .int i => if i.natAbs.log2 < 1920 then some (.str (Str.ofString (toString i)), false) else none
  | .dct, .dct kvs => if kvs.all fun p => p.1.isLeft then some (.dct kvs, true) else none
  | _, _ => none
def leastD (x : D) (xs : List D) : D := xs.foldl (fun a y => if D.lt y a then y else a) x
def mostD (x : D) (xs : List D) : D := xs.foldl (fun a y => if D.lt a y then y else a) x
/-- pairs, as dict takes them -/
def pairsD : List D → Option (List (Ky × D))
  | [] => some []
  | .tup [k, v] :: r => match k.ky, pairsD r with
    | some k, some l => some ((k, v) :: l)
    | _, _ => none
  | _ :: _ => none
def rangeL (a c : Int) : Nat → List D
  | 0 => []
  | n + 1 => .int a :: rangeL (a + c) c n
/-- how many turns range(a, b, c) has -/
def rangeN (a b c : Int) : Nat := if 0 < c then ((b - a + c - 1).fdiv c).toNat else if c < 0 then ((a - b - c - 1).fdiv (-c)).toNat else 0
def rOk (a : Int) : Prop := -1000000000000 ≤ a ∧ a ≤ 1000000000000
instance (a : Int) : Decidable (rOk a) := by unfold rOk; infer_instance
def enumL (k : Int) : List D → List D
  | [] => []
  | d :: r => .tup [.int k, d] :: enumL (k + 1) r
def zipL : List D → List D → List D
  | a :: r, b :: q => .tup [a, b] :: zipL r q
  | _, _ => []

/-! ### running -/
/-- where an operand's value stands -/
inductive OD where
  | im (d : D) (fr : Bool) | sl (i : Nat) | fd (n f : Nat)
def OD.get (s : St) : OD → Option D
  | .im d _ => some d
  | .sl i => (gt s.sl i).d?
  | .fd n f => match s.fld n f with
    | some v => v.d?
    | none => none
def OD.isIm : OD → Bool
  | .im _ _ => true
  | _ => false
/-- a list stands there; a dict -/
def OD.isL (s : St) (x : OD) : Bool := match x.get s with
  | some (.lst _) => true
  | some (.loc n) => match s.sto[n]? with
    | some (.ls _) => true
    | _ => false
  | _ => false
def OD.isD (s : St) (x : OD) : Bool := match x.get s with
  | some (.dct _) => true
  | _ => false
def lockV : SV → SV
  | .bx d => .lk d
  | v => v
def unlockV : SV → SV
  | .lk d => .bx d
  | v => v
/-- lock what is owned; was it -/
def OD.lock (s : St) : OD → Bool × St
  | .im _ _ => (false, s)
  | .sl i => match gt s.sl i with
    | .bx d => (true, s.put i (.lk d))
    | _ => (false, s)
  | .fd n f => match s.fld n f with
    | some (.bx d) => (true, s.setf n f (.lk d))
    | _ => (false, s)
def OD.unlock (s : St) : OD → St
  | .im _ _ => s
  | .sl i => match gt s.sl i with
    | .lk d => s.put i (.bx d)
    | _ => s
  | .fd n f => match s.fld n f with
    | some (.lk d) => s.setf n f (.bx d)
    | _ => s
inductive RS where
  | nx (s : St) | bk (s : St) | ct (s : St) | rt (d : D) (fr : Bool) (s : St) | er (x : Xn) (s : St) | sk
/-- an expression's result goes on to a statement -/
def R.andS {α : Type} : R α → (α → St → RS) → RS
  | .ok a s, f => f a s
  | .er x s, _ => .er x s
  | .sk, _ => .sk
@[simp] theorem R.andS_ok {α : Type} (a : α) (s : St) (f : α → St → RS) : (R.ok a s).andS f = f a s := rfl
@[simp] theorem R.andS_er {α : Type} (x : Xn) (s : St) (f : α → St → RS) : (R.er x s : R α).andS f = .er x s := rfl
@[simp] theorem R.andS_sk {α : Type} (f : α → St → RS) : (R.sk : R α).andS f = .sk := rfl
def RS.seq : RS → (St → RS) → RS
  | .nx s, f => f s
  | r, _ => r
@[simp] theorem RS.seq_nx (s : St) (f : St → RS) : (RS.nx s).seq f = f s := rfl
@[simp] theorem RS.seq_rt (d : D) (fr : Bool) (s : St) (f : St → RS) : (RS.rt d fr s).seq f = .rt d fr s := rfl
@[simp] theorem RS.seq_er (x : Xn) (s : St) (f : St → RS) : (RS.er x s).seq f = .er x s := rfl
@[simp] theorem RS.seq_bk (s : St) (f : St → RS) : (RS.bk s).seq f = .bk s := rfl
@[simp] theorem RS.seq_ct (s : St) (f : St → RS) : (RS.ct s).seq f = .ct s := rfl
@[simp] theorem RS.seq_sk (f : St → RS) : (RS.sk).seq f = .sk := rfl
/-- every state behind it changed by g -/
def RS.post (g : St → St) : RS → RS
  | .nx s => .nx (g s) | .bk s => .bk (g s) | .ct s => .ct (g s) | .rt d fr s => .rt d fr (g s) | .er x s => .er x (g s) | .sk => .sk
def opt {α : Type} (s : St) : Option α → R α
  | some a => .ok a s
  | none => .sk
@[simp] theorem opt_some {α : Type} (s : St) (a : α) : opt s (some a) = .ok a s := rfl
@[simp] theorem opt_none {α : Type} (s : St) : opt s (none : Option α) = .sk := rfl
/-- loops over known items -/
def forL (f : D → St → RS) : List D → St → RS
  | [], s => .nx s
  | x :: xs, s => match f x s with
    | .nx s' => forL f xs s'
    | .ct s' => forL f xs s'
    | .bk s' => .bk s'
    | .rt d fr s' => .rt d fr s'
    | .er x s' => .er x s'
    | .sk => .sk
def whlL (c : St → R Bool) (b : St → RS) : Nat → St → RS
  | 0, _ => .sk
  | n + 1, s => match c s with
    | .ok true s' => match b s' with
      | .nx s'' => whlL c b n s''
      | .ct s'' => whlL c b n s''
      | .bk s'' => .nx s''
      | .rt d fr s'' => .rt d fr s''
      | .er x s'' => .er x s''
      | .sk => .sk
    | .ok false s' => .nx s'
    | .er x s' => .er x s'
    | .sk => .sk
def lcL (f : D → St → R (Option D)) : List D → List D → St → R (List D)
  | [], acc, s => .ok acc s
  | x :: xs, acc, s => match f x s with
    | .ok o s' => lcL f xs (match o with | some d => acc ++ [d] | none => acc) s'
    | _ => .sk
/-- any (stop = true), all (stop = false) -/
def anyL (stop : Bool) (f : D → St → R (Option D)) : List D → St → R Bool
  | [], s => .ok (!stop) s
  | x :: xs, s => match f x s with
    | .ok none s' => anyL stop f xs s'
    | .ok (some d) s' => match d.tru with
      | some b => if b = stop then .ok stop s' else anyL stop f xs s'
      | none => .sk
    | _ => .sk
def keysL (f : D → St → R D) : List D → List (D × D) → St → R (List (D × D))
  | [], acc, s => .ok acc s
  | x :: xs, acc, s => match f x s with
    | .ok k s' => keysL f xs (acc ++ [(k, x)]) s'
    | _ => .sk
def tgSlots : Tg → List Nat
  | .nm i | .nb i => [i]
  | .tp ts => tgsSlots ts
  | _ => []
where tgsSlots : Tgs → List Nat
  | .nil => []
  | .cons t ts => tgSlots t ++ tgsSlots ts
def clr : List Nat → St → St
  | [], s => s
  | i :: is, s => clr is (s.put i .em)
/-- a comprehension's own slots: what they held -/
def ssOk (ss : List Nat) (s : St) : Bool := ss.all fun i => match gt s.sl i with
  | .em | .vl _ => true
  | _ => false
def clrR (ss : List Nat) (o : Option D) (s : St) : R (Option D) := if ssOk ss s then .ok o (clr ss s) else .sk
def svs (ss : List Nat) (s : St) : List SV := ss.map (gt s.sl)
def rst : List Nat → List SV → St → St
  | i :: is, v :: vs, s => rst is vs (s.put i v)
  | _, _, s => s
/-- a frozen object -/
def SV.frz : SV → D
  | .em => .non
  | .vl d | .bx d | .lk d => d
def frzF (fs : List (Nat × SV)) : List (Nat × D) := fs.map fun p => (p.1, p.2.frz)
/-- into a named slot: frozen, or owned -/
def bindV (own : Bool) (d : D) (fr : Bool) : Option SV := if own then (if fr then some (.bx d) else none) else some (.vl d)
def Sem.run (f : Sem) (ds : List D) (s : St) : R (D × Bool) := match f ds s.sto with
  | .ok d fr sto => .ok (d, fr) { s with sto := sto }
  | .er x sto => .er x { s with sto := sto }
  | .sk => .sk
/-- an object of the class c -/
def clsIs (s : St) (d : D) (c : Nat) : Bool := match d with
  | .obj c' _ => c' == c
  | .loc n => match s.sto[n]? with
    | some (.ins c' _) => c' == c
    | _ => false
  | _ => false
def toldOf (Γ : Env) (c : Nat) : List (Nat × Str) → Option Str
  | [] => none
  | (k, w) :: r => if Γ.sub c k then some w else toldOf Γ c r
/-- mutation: of an owned container in a slot or field, or a shared list -/
def mutO (s : St) (od : OD) (g : D → Option (D × D)) : R D := match od with
  | .sl i => match gt s.sl i with
    | .bx d => match g d with
      | some (d', r) => .ok r (s.put i (.bx d'))
      | none => .sk
    | .vl (.loc n) => match s.sto[n]? with
      | some (.ls ds) => match g (.lst ds) with
        | some (.lst ds', r) => .ok r { s with sto := s.sto.set n (.ls ds') }
        | _ => .sk
      | _ => .sk
    | _ => .sk
  | .fd n f => match s.fld n f with
    | some (.bx d) => match g d with
      | some (d', r) => .ok r (s.setf n f (.bx d'))
      | none => .sk
    | _ => .sk
  | .im _ _ => .sk
def appG (x : D) : D → Option (D × D)
  | .lst ds => if ds.length < LIM then some (.lst (ds ++ [x]), .non) else none
  | _ => none
def popG : D → Option (D × D)
  | .lst ds => match ds.getLast? with
    | some x => some (.lst ds.dropLast, x)
    | none => none
  | _ => none
def popIG (k : D) : D → Option (D × D)
  | .lst ds => match k with
    | .int i => match ixN ds.length i with
      | some j => match ds[j]? with
        | some x => some (.lst (ds.eraseIdx j), x)
        | none => none
      | none => none
    | _ => none
  | .dct kvs => match k.ky with
    | some k => if kOk kvs k then match kGet kvs k with
      | some v => some (.dct (kDrop kvs k), v)
      | none => none
      else none
    | none => none
  | _ => none
def delG (k : D) : D → Option (D × D)
  | .dct kvs => match k.ky with
    | some k => if kOk kvs k then match kGet kvs k with
      | some _ => some (.dct (kDrop kvs k), .non)
      | none => none
      else none
    | none => none
  | _ => none
def setG (k v : D) : D → Option (D × D)
  | .lst ds => match k with
    | .int i => match ixN ds.length i with
      | some j => some (.lst (ds.set j v), .non)
      | none => none
    | _ => none
  | .dct kvs => match k.ky with
    | some k => if kvs.length < LIM && kOk kvs k then some (.dct (kPut kvs k v), .non) else none
    | none => none
  | _ => none
def remG (x : D) : D → Option (D × D)
  | .lst ds => if x.pl && D.pls ds && decide (x.dep ≤ 8) && decide (D.deps ds ≤ 8) then
      match ds.findIdx? (fun y => D.eqv y x) with
      | some j => some (.lst (ds.eraseIdx j), .non)
      | none => none
    else none
  | _ => none

def lockAll : List OD → St → List OD × St
  | [], s => ([], s)
  | o :: os, s => let r := o.lock s
    let q := lockAll os r.2
    (if r.1 then o :: q.1 else q.1, q.2)
def unlockAll : List OD → St → St
  | [], s => s
  | o :: os, s => o.unlock (unlockAll os s)
mutual
def rE (Γ : Env) : Ex → St → R (D × Bool)
  | .var i, s => match gt s.sl i with
    | .vl d => .ok (d, false) s
    | .bx d => .ok (d, false) (s.put i (.vl d))
    | _ => .sk
  | .int i, s => .ok (.int i, false) s
  | .str x, s => .ok (.str x, false) s
  | .bl b, s => .ok (.bl b, false) s
  | .non, s => .ok (.non, false) s
  | .glo k, s => match Γ.glo[k]? with
    | some d => .ok (d, false) s
    | none => .sk
  | .bin op a b, s => (rO Γ a s).bind fun x s => (rO Γ b s).bind fun y s => match x.get s, y.get s with
    | some x, some y => opt s (binop op x y)
    | _, _ => .sk
  | .neg a, s => (rE Γ a s).bind fun x s => match x.1 with
    | .int i => .ok (.int (-i), false) s
    | _ => .sk
  | .cmp c a b, s => (rO Γ a s).bind fun x s => (rO Γ b s).bind fun y s => match x.get s, y.get s with
    | some x, some y => match cmpop c x y with
      | some k => .ok (.bl k, false) s
      | none => .sk
    | _, _ => .sk
  | .isn ng a, s => (rE Γ a s).bind fun x s => .ok (.bl (match x.1 with | .non => !ng | _ => ng), false) s
  | .chn c1 c2 a b c, s => (rE Γ a s).bind fun x s => (rE Γ b s).bind fun y s => match x.1, y.1 with
    | .int i, .int j => match cmpop c1 (.int i) (.int j) with
      | some false => .ok (.bl false, false) s
      | some true => (rE Γ c s).bind fun z s => match z.1 with
        | .int k => match cmpop c2 (.int j) (.int k) with
          | some r => .ok (.bl r, false) s
          | none => .sk
        | _ => .sk
      | none => .sk
    | _, _ => .sk
  | .andE es, s => rAnd Γ true es s
  | .orE es, s => rAnd Γ false es s
  | .notE a, s => (rE Γ a s).bind fun x s => match x.1 with
    | .bl b => .ok (.bl (!b), false) s
    | _ => .sk
  | .ite t a b, s => (rE Γ t s).bind fun x s => match x.1.tru with
    | some true => rE Γ a s
    | some false => rE Γ b s
    | none => .sk
  | .tupD es, s => (rEs Γ es s).bind fun ds s => .ok (.tup ds, false) s
  | .lstD es, s => (rEs Γ es s).bind fun ds s => .ok (.lst ds, true) s
  | .lsD es, s => (rEs Γ es s).bind fun ds s => .ok (.loc s.sto.length, false) { s with sto := s.sto ++ [.ls ds] }
  | .dctD r, s => (rKV Γ r s).bind fun kvs s => .ok (.dct (kMerge [] kvs), true) s
  | .idx o i, s => (rO Γ o s).bind fun x s => (rE Γ i s).bind fun k s => match x.get s with
    | some x => match idxOp s x k.1 with
      | some d => .ok (d, false) s
      | none => .sk
    | none => .sk
  | .slc o lo hi, s => (rO Γ o s).bind fun x s => (rXI Γ lo s).bind fun l s => (rXI Γ hi s).bind fun h s => match x.get s with
    | some x => opt s (slcOp s x l h)
    | none => .sk
  | .atr o f, s => (rO Γ o s).bind fun x s => match x.get s with
    | some (.obj _ fs) => match fg fs f with
      | some d => .ok (d, false) s
      | none => .sk
    | some (.loc n) => match s.fld n f with
      | some (.vl d) => .ok (d, false) s
      | _ => .sk
    | _ => .sk
  | .call j es, s => (rEs Γ es s).bind fun ds s => match Γ.fns[j]? with
    | some f => f.run ds s
    | none => .sk
  | .mth c j o es, s => (rE Γ o s).bind fun x s => if clsIs s x.1 c then (rEs Γ es s).bind fun ds s => match Γ.fns[j]? with
    | some f => f.run (x.1 :: ds) s
    | none => .sk
    else .sk
  | .mk c j es, s => (rEs Γ es s).bind fun ds s => match Γ.fns[j]? with
    | some f => match f (.loc s.sto.length :: ds) (s.sto ++ [.ins c []]) with
      | .ok .non _ sto => .ok (.loc s.sto.length, false) { s with sto := sto }
      | .er x sto => .er x { s with sto := sto }
      | _ => .sk
    | none => .sk
  | .mkF c j es, s => (rEs Γ es s).bind fun ds s => match Γ.fns[j]? with
    | some f => if D.nolocs ds then match f (.loc 0 :: ds) [.ins c []] with
      | .ok .non _ [.ins c' fs] => if c' = c then .ok (.obj c (frzF fs), false) s else .sk
      | .er x _ => .er x s
      | _ => .sk
      else .sk
    | none => .sk
  | .told e, s => match rE Γ e s with
    | .ok a s => .ok a s
    | .er x s => match toldOf Γ x.c Γ.told with
      | some w => .ok (.str w, false) s
      | none => .sk
    | .sk => .sk
  | .b1 f o, s => (rO Γ o s).bind fun x s => match x.get s with
    | some x => opt s (b1op s f x)
    | none => .sk
  | .mm mx es, s => (rEs Γ es s).bind fun ds s => match intsOf ds with
    | some (i :: is) => .ok (.int (is.foldl (fun a j => if mx then (if j > a then j else a) else (if j < a then j else a)) i), false) s
    | _ => .sk
  | .lI it, s => (rI Γ it s).bind fun p s => if p.1.length ≤ LIM then .ok (.lst p.1, true) s else .sk
  | .tI it, s => (rI Γ it s).bind fun p s => if p.1.length ≤ LIM then .ok (.tup p.1, false) s else .sk
  | .sI rev it, s => (rI Γ it s).bind fun p s => if p.1.length ≤ LIM && sortOk p.1 then .ok (.lst (if rev then (D.srt p.1.reverse).reverse else D.srt p.1), true) s else .sk
  | .suI it, s => (rI Γ it s).bind fun p s => match intsOf p.1 with
    | some is => .ok (.int is.sum, false) s
    | none => .sk
  | .mmI mx it df, s => (rI Γ it s).bind fun p s => (rXo Γ df s).bind fun d s => if sortOk p.1 then match p.1, d with
    | x :: xs, _ => .ok (if mx then mostD x xs else leastD x xs, false) s
    | [], some d => .ok (d, false) s
    | [], none => .sk
    else .sk
  | .dI it, s => (rI Γ it s).bind fun p s => match pairsD p.1 with
    | some kvs => if kvs.length < LIM then .ok (.dct (kMerge [] kvs), true) s else .sk
    | none => .sk
  | .lc t it c e, s => (rI Γ it s).bind fun p s => if p.1.length < LIM && ssOk (tgSlots t) s then
      (lcL (fun x s => (rT Γ t x false s).bind fun _ s => (rC Γ c s).bind fun b s => if b then (rE Γ e s).bind fun y s => clrR (tgSlots t) (some y.1) s else clrR (tgSlots t) none s) p.1 [] (lockAll p.2 (clr (tgSlots t) s)).2).bind fun ds s' =>
        .ok (.lst ds, true) (rst (tgSlots t) (svs (tgSlots t) s) (unlockAll (lockAll p.2 (clr (tgSlots t) s)).1 s'))
    else .sk
  | .gAny t it c e, s => (rI Γ it s).bind fun p s => if ssOk (tgSlots t) s then
      (anyL true (fun x s => (rT Γ t x false s).bind fun _ s => (rC Γ c s).bind fun b s => if b then (rE Γ e s).bind fun y s => clrR (tgSlots t) (some y.1) s else clrR (tgSlots t) none s) p.1 (lockAll p.2 (clr (tgSlots t) s)).2).bind fun b s' =>
        .ok (.bl b, false) (rst (tgSlots t) (svs (tgSlots t) s) (unlockAll (lockAll p.2 (clr (tgSlots t) s)).1 s'))
    else .sk
  | .gAll t it c e, s => (rI Γ it s).bind fun p s => if ssOk (tgSlots t) s then
      (anyL false (fun x s => (rT Γ t x false s).bind fun _ s => (rC Γ c s).bind fun b s => if b then (rE Γ e s).bind fun y s => clrR (tgSlots t) (some y.1) s else clrR (tgSlots t) none s) p.1 (lockAll p.2 (clr (tgSlots t) s)).2).bind fun b s' =>
        .ok (.bl b, false) (rst (tgSlots t) (svs (tgSlots t) s) (unlockAll (lockAll p.2 (clr (tgSlots t) s)).1 s'))
    else .sk
  | .gSum t it c e, s => (rI Γ it s).bind fun p s => if ssOk (tgSlots t) s then
      (lcL (fun x s => (rT Γ t x false s).bind fun _ s => (rC Γ c s).bind fun b s => if b then (rE Γ e s).bind fun y s => clrR (tgSlots t) (some y.1) s else clrR (tgSlots t) none s) p.1 [] (lockAll p.2 (clr (tgSlots t) s)).2).bind fun ds s' => match intsOf ds with
        | some is => .ok (.int is.sum, false) (rst (tgSlots t) (svs (tgSlots t) s) (unlockAll (lockAll p.2 (clr (tgSlots t) s)).1 s'))
        | none => .sk
    else .sk
  | .mnK it x key, s => (rI Γ it s).bind fun p s => if ssOk [x] s then
      (keysL (fun y s => (rE Γ key (s.put x (.vl y))).bind fun k s => .ok k.1 (s.put x .em)) p.1 [] (lockAll p.2 (s.put x .em)).2).bind fun ks s' =>
        if sortOk (ks.map (·.1)) then match ks with
        | k :: r => .ok ((r.foldl (fun a y => if D.lt y.1 a.1 then y else a) k).2, false) ((unlockAll (lockAll p.2 (s.put x .em)).1 s').put x (gt s.sl x))
        | [] => .sk
        else .sk
    else .sk
  | .srK it x key, s => (rI Γ it s).bind fun p s => if p.1.length ≤ LIM && ssOk [x] s then
      (keysL (fun y s => (rE Γ key (s.put x (.vl y))).bind fun k s => .ok k.1 (s.put x .em)) p.1 [] (lockAll p.2 (s.put x .em)).2).bind fun ks s' =>
        if sortOk (ks.map (·.1)) then .ok (.lst ((ks.mergeSort fun a b => !D.lt b.1 a.1).map (·.2)), true) ((unlockAll (lockAll p.2 (s.put x .em)).1 s').put x (gt s.sl x)) else .sk
    else .sk
  | .get o k df, s => (rO Γ o s).bind fun x s => if x.isD s then (rE Γ k s).bind fun k s => (rXo Γ df s).bind fun d s => match x.get s, k.1.ky with
    | some (.dct kvs), some k => if kOk kvs k then .ok ((kGet kvs k).getD (d.getD .non), false) s else .sk
    | _, _ => .sk
    else .sk
  | .app o e, s => (rO Γ o s).bind fun x s => if x.isL s then (rE Γ e s).bind fun y s => (mutO s x (appG y.1)).bind fun r s => .ok (r, false) s else .sk
  | .pop o, s => (rO Γ o s).bind fun x s => if x.isL s then (mutO s x popG).bind fun r s => .ok (r, false) s else .sk
  | .popI o k, s => (rO Γ o s).bind fun x s => if x.isL s || x.isD s then (rE Γ k s).bind fun k s => (mutO s x (popIG k.1)).bind fun r s => .ok (r, false) s else .sk
  | .rem o e, s => (rO Γ o s).bind fun x s => if x.isL s then (rE Γ e s).bind fun y s => (mutO s x (remG y.1)).bind fun r s => .ok (r, false) s else .sk
  | .cnt o e, s => (rO Γ o s).bind fun x s => if x.isL s then (rE Γ e s).bind fun y s => match x.get s with
    | some (.lst ds) => if y.1.pl && D.pls ds && decide (y.1.dep ≤ 8) && decide (D.deps ds ≤ 8) then .ok (.int (ds.countP fun z => D.eqv z y.1), false) s else .sk
    | _ => .sk
    else .sk
  | .ind o e, s => (rO Γ o s).bind fun x s => if x.isL s then (rE Γ e s).bind fun y s => match x.get s with
    | some (.lst ds) => if y.1.pl && D.pls ds && decide (y.1.dep ≤ 8) && decide (D.deps ds ≤ 8) then match ds.findIdx? (fun z => D.eqv z y.1) with
      | some j => .ok (.int j, false) s
      | none => .sk
      else .sk
    | _ => .sk
    else .sk
  | .join a o, s => .sk
  | .split a b, s => .sk
/-- and (k = true), or (k = false), of bools -/
def rAnd (Γ : Env) (k : Bool) : Exs → St → R (D × Bool)
  | .nil, _ => .sk
  | .cons e .nil, s => (rE Γ e s).bind fun x s => match x.1 with
    | .bl b => .ok (.bl b, false) s
    | _ => .sk
  | .cons e (.cons e' es), s => (rE Γ e s).bind fun x s => match x.1 with
    | .bl b => if b = k then rAnd Γ k (.cons e' es) s else .ok (.bl b, false) s
    | _ => .sk
def rEs (Γ : Env) : Exs → St → R (List D)
  | .nil, s => .ok [] s
  | .cons e es, s => (rE Γ e s).bind fun x s => (rEs Γ es s).bind fun r s => .ok (x.1 :: r) s
/-- .. with their freshness -/
def rEf (Γ : Env) : Exs → St → R (List (D × Bool))
  | .nil, s => .ok [] s
  | .cons e es, s => (rE Γ e s).bind fun x s => (rEf Γ es s).bind fun r s => .ok (x :: r) s
def rKV (Γ : Env) : Kvs → St → R (List (Ky × D))
  | .nil, s => .ok [] s
  | .cons k v r, s => (rE Γ k s).bind fun k s => (rE Γ v s).bind fun v s => match k.1.ky with
    | some k => (rKV Γ r s).bind fun r s => .ok ((k, v.1) :: r) s
    | none => .sk
def rXo (Γ : Env) : Exo → St → R (Option D)
  | .no, s => .ok none s
  | .yes e, s => (rE Γ e s).bind fun x s => .ok (some x.1) s
/-- a slice's part -/
def rXI (Γ : Env) : Exo → St → R (Option Int)
  | .no, s => .ok none s
  | .yes e, s => (rE Γ e s).bind fun x s => match x.1 with
    | .int i => .ok (some i) s
    | _ => .sk
/-- a comprehension's if -/
def rC (Γ : Env) : Exo → St → R Bool
  | .no, s => .ok true s
  | .yes e, s => (rE Γ e s).bind fun x s => match x.1.tru with
    | some b => .ok b s
    | none => .sk
def rO (Γ : Env) : On → St → R OD
  | .ex e, s => (rE Γ e s).bind fun x s => .ok (.im x.1 x.2) s
  | .pk i, s => match gt s.sl i with
    | .em => .sk
    | _ => .ok (.sl i) s
  | .pf i f, s => match gt s.sl i with
    | .vl (.loc n) => match s.fld n f with
      | some .em => .sk
      | some _ => .ok (.fd n f) s
      | none => .sk
    | .vl (.obj _ fs) => match fg fs f with
      | some d => .ok (.im d false) s
      | none => .sk
    | _ => .sk
/-- what is walked: its items, the operands that are to be locked -/
def rI (Γ : Env) : It → St → R (List D × List OD)
  | .on o, s => (rO Γ o s).bind fun x s => match x.get s with
    | some (.lst ds) | some (.tup ds) | some (.kls ds) | some (.ktp ds) => .ok (ds, [x]) s
    | some (.dct kvs) => if x.isIm then .sk else .ok (kvs.map fun p => Ky.d p.1, [x]) s
    | some (.str x) => if x.length ≤ LIM then .ok (x.cps.toList.map fun c => D.str ⟨#[c]⟩, []) s else .sk
    | _ => .sk
  | .itm o, s => (rO Γ o s).bind fun x s => match x.get s with
    | some (.dct kvs) => if x.isIm || !(kvs.all fun p => p.1.isLeft) then .sk else .ok (kvs.map fun p => .tup [Ky.d p.1, p.2], [x]) s
    | _ => .sk
  | .vls o, s => (rO Γ o s).bind fun x s => match x.get s with
    | some (.dct kvs) => if x.isIm || !(kvs.all fun p => p.1.isLeft) then .sk else .ok (kvs.map (·.2), [x]) s
    | _ => .sk
  | .r1 a, s => (rE Γ a s).bind fun x s => match x.1 with
    | .int n => if rOk n ∧ n ≤ LIM then .ok (rangeL 0 1 n.toNat, []) s else .sk
    | _ => .sk
  | .r2 a b, s => (rE Γ a s).bind fun x s => (rE Γ b s).bind fun y s => match x.1, y.1 with
    | .int i, .int j => if rOk i ∧ rOk j ∧ j - i ≤ LIM then .ok (rangeL i 1 (j - i).toNat, []) s else .sk
    | _, _ => .sk
  | .r3 a b c, s => (rE Γ a s).bind fun x s => (rE Γ b s).bind fun y s => (rE Γ c s).bind fun z s => match x.1, y.1, z.1 with
    | .int i, .int j, .int k => if rOk i ∧ rOk j ∧ k ≠ 0 ∧ k.natAbs < 1073741824 ∧ rangeN i j k ≤ LIM then .ok (rangeL i k (rangeN i j k), []) s else .sk
    | _, _, _ => .sk
  | .enu o, s => (rO Γ o s).bind fun x s => match x.get s with
    | some (.lst ds) => .ok (enumL 0 ds, [x]) s
    | _ => .sk
  | .zp a b, s => (rO Γ a s).bind fun x s => (rO Γ b s).bind fun z s => match x.get s, z.get s with
    | some (.lst ds), some (.lst es) => .ok (zipL ds es, [x, z]) s
    | _, _ => .sk
  | .rv o, s => (rO Γ o s).bind fun x s => match x.get s with
    | some (.lst ds) => .ok (ds.reverse, [x]) s
    | _ => .sk
/-- a target takes a value -/
def rT (Γ : Env) : Tg → D → Bool → St → R Unit
  | .nm i, d, _, s => match gt s.sl i with
    | .lk _ => .sk
    | _ => .ok () (s.put i (.vl d))
  | .nb i, d, fr, s => match gt s.sl i, fr with
    | .lk _, _ => .sk
    | _, true => .ok () (s.put i (.bx d))
    | _, false => .sk
  | .tp ts, d, _, s => match d with
    | .tup ds => if ds.length = ts.len then rTs Γ ts ds s else .sk
    | _ => .sk
  | .at i f, d, _, s => match gt s.sl i with
    | .vl (.loc n) => match s.sto[n]? with
      | some (.ins _ fs) => if fs.length < 100 then match fg fs f with
        | some (.lk _) => .sk
        | _ => .ok () (s.setf n f (.vl d))
        else .sk
      | _ => .sk
    | _ => .sk
  | .ab i f, d, fr, s => match gt s.sl i, fr with
    | .vl (.loc n), true => match s.sto[n]? with
      | some (.ins _ fs) => if fs.length < 100 then match fg fs f with
        | some (.lk _) => .sk
        | _ => .ok () (s.setf n f (.bx d))
        else .sk
      | _ => .sk
    | _, _ => .sk
  | .sb o k, d, _, s => (rO Γ o s).bind fun x s => (rE Γ k s).bind fun k s => (mutO s x (setG k.1 d)).bind fun _ s => .ok () s
def rTs (Γ : Env) : Tgs → List D → St → R Unit
  | .nil, [], s => .ok () s
  | .cons t ts, d :: ds, s => (rT Γ t d false s).bind fun _ s => rTs Γ ts ds s
  | _, _, _ => .sk
/-- the same, of a tuple that was written there -/
def rTf (Γ : Env) : Tgs → List (D × Bool) → St → R Unit
  | .nil, [], s => .ok () s
  | .cons t ts, d :: ds, s => (rT Γ t d.1 d.2 s).bind fun _ s => rTf Γ ts ds s
  | _, _, _ => .sk
end
mutual
def rS (Γ : Env) : Sm → St → RS
  | .asg t e, s => (rE Γ e s).andS fun x s => (rT Γ t x.1 x.2 s).andS fun _ s => .nx s
  | .asg2 t u e, s => (rE Γ e s).andS fun x s => (rT Γ t x.1 false s).andS fun _ s => (rT Γ u x.1 false s).andS fun _ s => .nx s
  | .par ts es, s => (rEf Γ es s).andS fun xs s => (rTf Γ ts xs s).andS fun _ s => .nx s
  | .aug op i e, s => match gt s.sl i with
    | .vl x => (rE Γ e s).andS fun y s => match augop op x y.1 with
      | some r => match gt s.sl i with
        | .vl _ => .nx (s.put i (.vl r))
        | _ => .sk
      | none => .sk
    | _ => .sk
  | .augA op i f e, s => match gt s.sl i with
    | .vl (.loc n) => match s.sto[n]? with
      | some (.ins c fs) => match fg fs f with
        | some (.vl x) => (rE Γ e s).andS fun y s => match augop op x y.1 with
          | some r => match s.sto[n]? with
            | some (.ins c' fs') => if c' = c && fs'.length < 100 then match fg fs' f with
              | some (.vl _) => .nx (s.setf n f (.vl r))
              | _ => .sk
              else .sk
            | _ => .sk
          | none => .sk
        | _ => .sk
      | _ => .sk
    | _ => .sk
  | .augS op o k e, s => (rO Γ o s).andS fun x s => (rE Γ k s).andS fun k s => if x.isL s || x.isD s then match x.get s with
    | some c => match idxOp s c k.1 with
      | some v => (rE Γ e s).andS fun y s => match augop op v y.1 with
        | some r => (mutO s x (setG k.1 r)).andS fun _ s => .nx s
        | none => .sk
      | none => .sk
    | none => .sk
    else .sk
  | .ext i e, s => match gt s.sl i with
    | .bx _ => (rE Γ e s).andS fun y s => match gt s.sl i, y.1 with
      | .bx (.lst ds), .lst es => if ds.length + es.length ≤ LIM then .nx (s.put i (.bx (.lst (ds ++ es)))) else .sk
      | _, _ => .sk
    | _ => .sk
  | .ex e, s => (rE Γ e s).andS fun _ s => .nx s
  | .ret e, s => (rE Γ e s).andS fun x s => .rt x.1 x.2 s
  | .retN, s => .rt .non false s
  | .iff c a b, s => (rE Γ c s).andS fun x s => match x.1.tru with
    | some true => rSs Γ a s
    | some false => rSs Γ b s
    | none => .sk
  | .whl fuel c b, s => whlL (fun s => (rE Γ c s).bind fun x s => match x.1.tru with | some k => .ok k s | none => .sk) (fun s => rSs Γ b s) fuel s
  | .fr t it b els, s => (rI Γ it s).andS fun p s => let l := lockAll p.2 s
    match (forL (fun x s => (rT Γ t x false s).andS fun _ s => rSs Γ b s) p.1 l.2).post (unlockAll l.1) with
    | .nx s => rSs Γ els s
    | .bk s => .nx s
    | r => r
  | .brk, s => .bk s
  | .cnt, s => .ct s
  | .pas, s => .nx s
  | .rse c es, s => (rEs Γ es s).andS fun ds s => .er ⟨c, ds.head?⟩ s
  | .del o k, s => (rO Γ o s).andS fun x s => (rE Γ k s).andS fun k s => (mutO s x (delG k.1)).andS fun _ s => .nx s
def rSs (Γ : Env) : Sms → St → RS
  | .nil, s => .nx s
  | .cons st ss, s => (rS Γ st s).seq fun s => rSs Γ ss s
end
/-- a def: n slots, its body -/
structure Fn where
  n : Nat
  ps : Nat
  body : Sms
def startL (n : Nat) (ds : List D) : List SV := ds.map .vl ++ List.replicate (n - ds.length) .em
def Fn.sem (Γ : Env) (F : Fn) : Sem := fun ds sto => if ds.length = F.ps then
  match rSs Γ F.body ⟨startL F.n ds, sto⟩ with
  | .nx s => .ok .non false s.sto
  | .rt d fr s => .ok d fr s.sto
  | .er x s => .er x s.sto
  | _ => .sk
  else .sk
end Pyl
set_option Elab.async false
set_option linter.all false
set_option maxRecDepth 100000
set_option maxHeartbeats 2000000
/-! SndBase: how Pyl's data and states stand in the heap. -/
namespace Pyl
open PySem PySem.Spec PyProof.Rows L2

/-- what is fixed through a law -/
structure Uni where
  K : PySem.W.Frag
  cls : Nat → Addr
  exc : Nat → Addr
  fnm : Nat → Str
  T : List (Addr × Str)
  inj : ∀ f g, fnm f = fnm g → f = g
/-- who owns a container -/
inductive Ow where
  | sl (i : Nat) | st (n : Nat) | fd (n f : Nat) | ex | nw | lks (i : Nat) | lkf (n f : Nat)
deriving DecidableEq
structure Ly where
  A : Nat → Option Addr
  own : Addr → Option Ow
def IsTbl (o : HO) : Prop := ∃ ps, o = .tbl ps
/-- what stays as it is once it is nobody's -/
def Firm : HO → Prop
  | .lst _ | .tup _ | .ins _ _ _ | .own _ | .frz _ _ => True
  | _ => False
def IsDct : HO → Prop
  | .dK _ | .dT _ => True
  | _ => False
def KLst (K : PySem.W.Frag) (a : Addr) (xs : List V) : Prop :=
  ∃ (o : Obj) (its : Array Value) (n : Nat), K.lookup a = some o ∧ o.cls = .type "list" ∧ o.dict = none ∧ o.data = .seq its n ∧ its.size ≤ sizeLine ∧ Vals xs its.toList
def KTup (K : PySem.W.Frag) (a : Addr) (xs : List V) : Prop :=
  ∃ (o : Obj) (its : Array Value) (n : Nat), K.lookup a = some o ∧ o.cls = .type "tuple" ∧ o.data = .seq its n ∧ its.size ≤ sizeLine ∧ Vals xs its.toList
/-- a dict's pairs, however it is held -/
def DctC (P : HO → Prop) (ks : List Ky) (vs : List V) : Prop :=
  (∃ kk : List (Key × V), P (.dK kk) ∧ ks = kk.map (fun p => Sum.inl p.1) ∧ vs = kk.map (·.2)) ∨
  (∃ kt : List (List Key × V), P (.dT kt) ∧ ks = kt.map (fun p => Sum.inr p.1) ∧ vs = kt.map (·.2) ∧ kt ≠ [])
theorem DctC.imp {P P' : HO → Prop} {ks : List Ky} {vs : List V} (h : DctC P ks vs) (f : ∀ u, P u → P' u) : DctC P' ks vs := by
  rcases h with ⟨kk, a, b, c⟩ | ⟨kk, a, b, c⟩
  · exact .inl ⟨kk, f _ a, b, c⟩
  · exact .inr ⟨kk, f _ a, b, c⟩
mutual
def Rep (U : Uni) (y : Ly) (H : Hp) : D → V → Prop
  | .non, v => v = .non
  | .bl b, v => v = .bl b
  | .int i, v => v = .int i
  | .str s, v => v = .str s
  | .tup ds, v => ∃ a xs, v = .ref a ∧ H a = some (.tup xs) ∧ Reps U y H ds xs
  | .ktp ds, v => ∃ a xs, v = .ref a ∧ KTup U.K a xs ∧ Reps U y H ds xs
  | .lst ds, v => ∃ a xs, v = .ref a ∧ (y.own a = none ∧ H a = some (.lst xs)) ∧ Reps U y H ds xs
  | .kls ds, v => ∃ a xs, v = .ref a ∧ ((y.own a = none ∧ ∃ o, H a = some (.frz o (.lst xs))) ∨ KLst U.K a xs) ∧ Reps U y H ds xs
  | .dct kvs, v => ∃ a vs, v = .ref a ∧ y.own a = none ∧ DctC (Rd H a) (kvs.map (·.1)) vs ∧ Repk U y H kvs vs
  | .obj c fs, v => ∃ a dx vs, v = .ref a ∧ y.own a = none ∧ H a = some (.ins (U.cls c) dx vs) ∧ Repf U y H fs vs
  | .loc n, v => ∃ a, v = .ref a ∧ y.A n = some a
def Reps (U : Uni) (y : Ly) (H : Hp) : List D → List V → Prop
  | [], vs => vs = []
  | d :: ds, vs => ∃ v r, vs = v :: r ∧ Rep U y H d v ∧ Reps U y H ds r
def Repk (U : Uni) (y : Ly) (H : Hp) : List (Ky × D) → List V → Prop
  | [], vs => vs = []
  | (_, d) :: ds, vs => ∃ v r, vs = v :: r ∧ Rep U y H d v ∧ Repk U y H ds r
def Repf (U : Uni) (y : Ly) (H : Hp) : List (Nat × D) → List (Str × V) → Prop
  | [], vs => vs = []
  | (f, d) :: ds, vs => ∃ v r, vs = (U.fnm f, v) :: r ∧ Rep U y H d v ∧ Repf U y H ds r
end
/-- frozen things stay; a tuple stays whoever has it -/
structure Tr (y : Ly) (H : Hp) (y' : Ly) (H' : Hp) : Prop where
  A : ∀ n a, y.A n = some a → y'.A n = some a
  fx : ∀ a o, y.own a = none → H a = some o → Firm o → H' a = some o ∧ y'.own a = none
  fd : ∀ a u, y.own a = none → IsDct u → H a = some u → Rd H' a u ∧ y'.own a = none
  tp : ∀ a xs, H a = some (.tup xs) → H' a = some (.tup xs)
theorem Tr.refl (y : Ly) (H : Hp) : Tr y H y H := ⟨fun _ _ e => e, fun _ _ h e _ => ⟨e, h⟩, fun _ _ h _ r => ⟨.inl r, h⟩, fun _ _ h => h⟩
theorem Tr.rd {y y' : Ly} {H H' : Hp} (t : Tr y H y' H') {a : Addr} {u : HO} (h : y.own a = none) (d : IsDct u) (r : Rd H a u) : Rd H' a u ∧ y'.own a = none := by
  rcases r with r | ⟨o, r⟩
  · exact t.fd a u h d r
  · obtain ⟨p, q⟩ := t.fx a _ h r True.intro
    exact ⟨.inr ⟨o, p⟩, q⟩
theorem Tr.trans {y y' y'' : Ly} {H H' H'' : Hp} (a : Tr y H y' H') (b : Tr y' H' y'' H'') : Tr y H y'' H'' :=
  ⟨fun n p e => b.A n p (a.A n p e), fun p o h e t => let ⟨e1, h1⟩ := a.fx p o h e t; b.fx p o h1 e1 t, fun p u h d r => let ⟨r1, h1⟩ := a.fd p u h d r; b.rd h1 d r1, fun p xs h => b.tp p xs (a.tp p xs h)⟩
/-- all that is there stays as it is -/
theorem Tr.all {y y' : Ly} {H H' : Hp} (tp : ∀ a xs, H a = some (.tup xs) → H' a = some (.tup xs)) (A : ∀ n a, y.A n = some a → y'.A n = some a) (h : ∀ a o, y.own a = none → H a = some o → H' a = some o ∧ y'.own a = none) : Tr y H y' H' := by
  exact ⟨A, fun a o n e _ => h a o n e, fun a u n d r => ⟨.inl (h a _ n r).1, (h a _ n r).2⟩, tp⟩
mutual
theorem Rep.tr {U : Uni} {y y' : Ly} {H H' : Hp} (t : Tr y H y' H') : ∀ (d : D) (v : V), Rep U y H d v → Rep U y' H' d v
  | .non, _, h => by simpa only [Rep] using h
  | .bl _, _, h => by simpa only [Rep] using h
  | .int _, _, h => by simpa only [Rep] using h
  | .str _, _, h => by simpa only [Rep] using h
  | .tup ds, v, h => by
    rw [Rep] at h ⊢
    obtain ⟨a, xs, e, h1, h2⟩ := h
    exact ⟨a, xs, e, t.tp a xs h1, Reps.tr t ds xs h2⟩
  | .ktp ds, v, h => by
    rw [Rep] at h ⊢
    obtain ⟨a, xs, e, h1, h2⟩ := h
    exact ⟨a, xs, e, h1, Reps.tr t ds xs h2⟩
  | .lst ds, v, h => by
    rw [Rep] at h ⊢
    obtain ⟨a, xs, e, ⟨w, h1⟩, h2⟩ := h
    obtain ⟨p, q⟩ := t.fx a _ w h1 True.intro
    exact ⟨a, xs, e, ⟨q, p⟩, Reps.tr t ds xs h2⟩
  | .kls ds, v, h => by
    rw [Rep] at h ⊢
    obtain ⟨a, xs, e, h1, h2⟩ := h
    refine ⟨a, xs, e, ?_, Reps.tr t ds xs h2⟩
    rcases h1 with ⟨w, o, h1⟩ | h1
    · obtain ⟨p, q⟩ := t.fx a _ w h1 True.intro
      exact .inl ⟨q, o, p⟩
    · exact .inr h1
  | .dct kvs, v, h => by
    rw [Rep] at h ⊢
    obtain ⟨a, vs, e, w, h1, h2⟩ := h
    rcases h1 with ⟨kk, h1, e1, e2⟩ | ⟨kk, h1, e1, e2⟩
    · obtain ⟨p, q⟩ := t.rd (u := .dK kk) w True.intro h1
      exact ⟨a, vs, e, q, .inl ⟨kk, p, e1, e2⟩, Repk.tr t kvs vs h2⟩
    · obtain ⟨p, q⟩ := t.rd (u := .dT kk) w True.intro h1
      exact ⟨a, vs, e, q, .inr ⟨kk, p, e1, e2⟩, Repk.tr t kvs vs h2⟩
  | .obj c fs, v, h => by
    rw [Rep] at h ⊢
    obtain ⟨a, dx, vs, e, w, h1, h2⟩ := h
    obtain ⟨p, q⟩ := t.fx a _ w h1 True.intro
    exact ⟨a, dx, vs, e, q, p, Repf.tr t fs vs h2⟩
  | .loc n, v, h => by
    rw [Rep] at h ⊢
    obtain ⟨a, e, h1⟩ := h
    exact ⟨a, e, t.A n a h1⟩
theorem Reps.tr {U : Uni} {y y' : Ly} {H H' : Hp} (t : Tr y H y' H') : ∀ (ds : List D) (vs : List V), Reps U y H ds vs → Reps U y' H' ds vs
  | [], _, h => by simpa only [Reps] using h
  | d :: ds, vs, h => by
    rw [Reps] at h ⊢
    obtain ⟨v, r, e, h1, h2⟩ := h
    exact ⟨v, r, e, Rep.tr t d v h1, Reps.tr t ds r h2⟩
theorem Repk.tr {U : Uni} {y y' : Ly} {H H' : Hp} (t : Tr y H y' H') : ∀ (ds : List (Ky × D)) (vs : List V), Repk U y H ds vs → Repk U y' H' ds vs
  | [], _, h => by simpa only [Repk] using h
  | (k, d) :: ds, vs, h => by
    rw [Repk] at h ⊢
    obtain ⟨v, r, e, h1, h2⟩ := h
    exact ⟨v, r, e, Rep.tr t d v h1, Repk.tr t ds r h2⟩
theorem Repf.tr {U : Uni} {y y' : Ly} {H H' : Hp} (t : Tr y H y' H') : ∀ (ds : List (Nat × D)) (vs : List (Str × V)), Repf U y H ds vs → Repf U y' H' ds vs
  | [], _, h => by simpa only [Repf] using h
  | (k, d) :: ds, vs, h => by
    rw [Repf] at h ⊢
    obtain ⟨v, r, e, h1, h2⟩ := h
    exact ⟨v, r, e, Rep.tr t d v h1, Repf.tr t ds r h2⟩
end
section
variable {U : Uni} {y : Ly} {H : Hp}
theorem Rep.non_ {v : V} : Rep U y H .non v ↔ v = .non := by rw [Rep]
theorem Rep.bl_ {b : Bool} {v : V} : Rep U y H (.bl b) v ↔ v = .bl b := by rw [Rep]
theorem Rep.int_ {i : Int} {v : V} : Rep U y H (.int i) v ↔ v = .int i := by rw [Rep]
theorem Rep.str_ {s : Str} {v : V} : Rep U y H (.str s) v ↔ v = .str s := by rw [Rep]
theorem Rep.tup_ {ds : List D} {v : V} : Rep U y H (.tup ds) v ↔ ∃ a xs, v = .ref a ∧ H a = some (.tup xs) ∧ Reps U y H ds xs := by rw [Rep]
theorem Rep.ktp_ {ds : List D} {v : V} : Rep U y H (.ktp ds) v ↔ ∃ a xs, v = .ref a ∧ KTup U.K a xs ∧ Reps U y H ds xs := by rw [Rep]
theorem Rep.lst_ {ds : List D} {v : V} : Rep U y H (.lst ds) v ↔ ∃ a xs, v = .ref a ∧ (y.own a = none ∧ H a = some (.lst xs)) ∧ Reps U y H ds xs := by rw [Rep]
theorem Rep.kls_ {ds : List D} {v : V} : Rep U y H (.kls ds) v ↔ ∃ a xs, v = .ref a ∧ ((y.own a = none ∧ ∃ o, H a = some (.frz o (.lst xs))) ∨ KLst U.K a xs) ∧ Reps U y H ds xs := by rw [Rep]
theorem Rep.dct_ {kvs : List (Ky × D)} {v : V} : Rep U y H (.dct kvs) v ↔ ∃ a vs, v = .ref a ∧ y.own a = none ∧ DctC (Rd H a) (kvs.map (·.1)) vs ∧ Repk U y H kvs vs := by rw [Rep]
theorem Rep.obj_ {c : Nat} {fs : List (Nat × D)} {v : V} : Rep U y H (.obj c fs) v ↔ ∃ a dx vs, v = .ref a ∧ y.own a = none ∧ H a = some (.ins (U.cls c) dx vs) ∧ Repf U y H fs vs := by rw [Rep]
theorem Rep.loc_ {n : Nat} {v : V} : Rep U y H (.loc n) v ↔ ∃ a, v = .ref a ∧ y.A n = some a := by rw [Rep]
theorem Reps.nil_ {vs : List V} : Reps U y H [] vs ↔ vs = [] := by rw [Reps]
theorem Reps.cons_ {d : D} {ds : List D} {vs : List V} : Reps U y H (d :: ds) vs ↔ ∃ v r, vs = v :: r ∧ Rep U y H d v ∧ Reps U y H ds r := by rw [Reps]
theorem Reps.length : ∀ {ds : List D} {vs : List V}, Reps U y H ds vs → vs.length = ds.length
  | [], vs, h => by rw [Reps] at h; subst h; rfl
  | d :: ds, vs, h => by
    rw [Reps] at h
    obtain ⟨v, r, e, _, h2⟩ := h
    subst e
    simp [Reps.length h2]
theorem Reps.get : ∀ {ds : List D} {vs : List V} {j : Nat} {d : D}, Reps U y H ds vs → ds[j]? = some d → ∃ v, vs[j]? = some v ∧ Rep U y H d v
  | [], _, _, _, _, e => by simp at e
  | x :: ds, vs, j, d, h, e => by
    rw [Reps] at h
    obtain ⟨v, r, e1, h1, h2⟩ := h
    subst e1
    cases j with
    | zero => simp at e; subst e; exact ⟨v, rfl, h1⟩
    | succ j => exact Reps.get (j := j) h2 (by simpa using e)
theorem Reps.set : ∀ {ds : List D} {vs : List V} {j : Nat} {d : D} {v : V}, Reps U y H ds vs → Rep U y H d v → Reps U y H (ds.set j d) (vs.set j v)
  | [], vs, _, _, _, h, _ => by rw [Reps] at h; subst h; simp [Reps]
  | x :: ds, vs, j, d, v, h, hd => by
    rw [Reps] at h
    obtain ⟨w, r, e1, h1, h2⟩ := h
    subst e1
    cases j with
    | zero => simp only [List.set_cons_zero, Reps]; exact ⟨v, r, rfl, hd, h2⟩
    | succ j => simp only [List.set_cons_succ, Reps]; exact ⟨w, _, rfl, h1, Reps.set h2 hd⟩
theorem Reps.app : ∀ {ds es : List D} {vs ws : List V}, Reps U y H ds vs → Reps U y H es ws → Reps U y H (ds ++ es) (vs ++ ws)
  | [], es, vs, ws, h, g => by rw [Reps] at h; subst h; exact g
  | x :: ds, es, vs, ws, h, g => by
    rw [Reps] at h
    obtain ⟨w, r, e1, h1, h2⟩ := h
    subst e1
    show Reps U y H (x :: (ds ++ es)) (w :: (r ++ ws))
    rw [Reps]
    exact ⟨w, _, rfl, h1, Reps.app h2 g⟩
theorem Reps.one {d : D} {v : V} (h : Rep U y H d v) : Reps U y H [d] [v] := by
  rw [Reps]; exact ⟨v, [], rfl, h, by rw [Reps]⟩
theorem Reps.drop : ∀ {ds : List D} {vs : List V} (n : Nat), Reps U y H ds vs → Reps U y H (ds.drop n) (vs.drop n)
  | _, _, 0, h => h
  | [], vs, n + 1, h => by rw [Reps] at h; subst h; simp [Reps]
  | x :: ds, vs, n + 1, h => by
    rw [Reps] at h
    obtain ⟨w, r, e1, h1, h2⟩ := h
    subst e1
    exact Reps.drop n h2
theorem Reps.take : ∀ {ds : List D} {vs : List V} (n : Nat), Reps U y H ds vs → Reps U y H (ds.take n) (vs.take n)
  | ds, vs, 0, h => by simp [Reps]
  | [], vs, n + 1, h => by rw [Reps] at h; subst h; simp [Reps]
  | x :: ds, vs, n + 1, h => by
    rw [Reps] at h
    obtain ⟨w, r, e1, h1, h2⟩ := h
    subst e1
    simp only [List.take_succ_cons, Reps]
    exact ⟨w, _, rfl, h1, Reps.take n h2⟩
theorem Reps.erase : ∀ {ds : List D} {vs : List V} (n : Nat), Reps U y H ds vs → Reps U y H (ds.eraseIdx n) (vs.eraseIdx n)
  | [], vs, n, h => by rw [Reps] at h; subst h; simp [Reps]
  | x :: ds, vs, 0, h => by
    rw [Reps] at h
    obtain ⟨w, r, e1, h1, h2⟩ := h
    subst e1
    exact h2
  | x :: ds, vs, n + 1, h => by
    rw [Reps] at h
    obtain ⟨w, r, e1, h1, h2⟩ := h
    subst e1
    simp only [List.eraseIdx_cons_succ, Reps]
    exact ⟨w, _, rfl, h1, Reps.erase n h2⟩
theorem Reps.rep {ds : List D} {vs : List V} (h : Reps U y H ds vs) : ∀ k : Nat, Reps U y H (List.replicate k ds).flatten (List.replicate k vs).flatten
  | 0 => by simp [Reps]
  | k + 1 => by
    simp only [List.replicate_succ, List.flatten_cons]
    exact h.app (h.rep k)
theorem Reps.rev : ∀ {ds : List D} {vs : List V}, Reps U y H ds vs → Reps U y H ds.reverse vs.reverse
  | [], vs, h => by rw [Reps] at h; subst h; simp [Reps]
  | x :: ds, vs, h => by
    rw [Reps] at h
    obtain ⟨w, r, e1, h1, h2⟩ := h
    subst e1
    rw [List.reverse_cons, List.reverse_cons]
    exact (Reps.rev h2).app (Reps.one h1)
theorem Reps.cut {ds : List D} {vs : List V} (h : Reps U y H ds vs) (lo hi : Option Int) : Reps U y H (Pyl.cut ds lo hi) (cutV vs lo hi) := by
  unfold Pyl.cut cutV
  have e : ∀ (n d : Nat) (o : Option Int), HT.sIx n d o = Pyl.sIx n d o := fun n d o => by cases o <;> rfl
  rw [h.length, e, e]
  exact (h.drop _).take _
/-- a container's content where it may be written, or read -/
def Cont (U : Uni) (y : Ly) (H : Hp) (P : HO → Prop) : D → Prop
  | .lst ds => ∃ xs, P (.lst xs) ∧ Reps U y H ds xs
  | .dct kvs => ∃ vs, DctC P (kvs.map (·.1)) vs ∧ Repk U y H kvs vs
  | _ => False
theorem Cont.imp {P P' : HO → Prop} (f : ∀ u, P u → P' u) : ∀ {d : D}, Cont U y H P d → Cont U y H P' d
  | .lst ds, ⟨xs, a, b⟩ => ⟨xs, f _ a, b⟩
  | .dct kvs, ⟨vs, a, b⟩ => ⟨vs, a.imp f, b⟩
  | .non, h => h.elim
  | .bl _, h => h.elim
  | .int _, h => h.elim
  | .str _, h => h.elim
  | .tup _, h => h.elim
  | .kls _, h => h.elim
  | .ktp _, h => h.elim
  | .obj _ _, h => h.elim
  | .loc _, h => h.elim
theorem Cont.tr {y' : Ly} {H' : Hp} (t : Tr y H y' H') {P : HO → Prop} : ∀ {d : D}, Cont U y H P d → Cont U y' H' P d
  | .lst ds, ⟨xs, a, b⟩ => ⟨xs, a, b.tr t⟩
  | .dct kvs, ⟨vs, a, b⟩ => ⟨vs, a, b.tr t⟩
  | .non, h => h.elim
  | .bl _, h => h.elim
  | .int _, h => h.elim
  | .str _, h => h.elim
  | .tup _, h => h.elim
  | .kls _, h => h.elim
  | .ktp _, h => h.elim
  | .obj _ _, h => h.elim
  | .loc _, h => h.elim
/-- a frozen container -/
theorem Cont.frozen {a : Addr} (ho : y.own a = none) : ∀ {d : D}, Cont U y H (fun u => H a = some u) d → Rep U y H d (.ref a)
  | .lst ds, ⟨xs, h, b⟩ => by rw [Rep]; exact ⟨a, xs, rfl, ⟨ho, h⟩, b⟩
  | .dct kvs, ⟨vs, h, b⟩ => by rw [Rep]; exact ⟨a, vs, rfl, ho, h.imp fun u hu => .inl hu, b⟩
  | .non, h => h.elim
  | .bl _, h => h.elim
  | .int _, h => h.elim
  | .str _, h => h.elim
  | .tup _, h => h.elim
  | .kls _, h => h.elim
  | .ktp _, h => h.elim
  | .obj _ _, h => h.elim
  | .loc _, h => h.elim
/-- read where it is locked -/
def LkC (H : Hp) (a : Addr) (u : HO) : Prop := (H a = some u ∧ ∃ xs, u = .lst xs) ∨ ∃ o, H a = some (.frz o u) ∧ IsDct u
theorem LkC.rd {H : Hp} {a : Addr} {u : HO} (h : LkC H a u) : Rd H a u := by
  rcases h with ⟨h, _⟩ | ⟨o, h, _⟩
  · exact .inl h
  · exact .inr ⟨o, h⟩
/-- what a slot or field holds; o: its owner while it is free, l: .. locked -/
def SvR (U : Uni) (y : Ly) (H : Hp) (o l : Ow) : SV → V → Prop
  | .em, _ => True
  | .vl d, v => Rep U y H d v
  | .bx d, v => ∃ a, v = .ref a ∧ y.own a = some o ∧ Cont U y H (fun u => H a = some u) d
  | .lk d, v => ∃ a, v = .ref a ∧ y.own a = some l ∧ Cont U y H (LkC H a) d
def FdsR (U : Uni) (y : Ly) (H : Hp) (n : Nat) : List (Nat × SV) → List (Str × V) → Prop
  | [], vs => vs = []
  | (f, sv) :: fs, vs => ∃ v r, vs = (U.fnm f, v) :: r ∧ SvR U y H (.fd n f) (.lkf n f) sv v ∧ FdsR U y H n fs r
def CellR (U : Uni) (y : Ly) (H : Hp) (n : Nat) (a : Addr) : Cell → Prop
  | .ins c fs => ∃ dx vs, H a = some (.ins (U.cls c) dx vs) ∧ (fs.map (·.1)).Nodup ∧ FdsR U y H n fs vs
  | .ls ds => ∃ xs, H a = some (.lst xs) ∧ Reps U y H ds xs
structure StoR (U : Uni) (y : Ly) (H : Hp) (sto : List Cell) : Prop where
  cell : ∀ n c, sto[n]? = some c → ∃ a, y.A n = some a ∧ y.own a = some (.st n) ∧ CellR U y H n a c
  top : ∀ n, sto.length ≤ n → y.A n = none
  trk : ∀ a w, y.own a = some w → H a ≠ none
  tab : LamX.Tabs U.T H
  lkf : ∀ n f a, y.own a = some (.lkf n f) → ∃ b C dx vs, y.A n = some b ∧ H b = some (.ins C dx vs) ∧ vs.lookup (U.fnm f) = some (.ref a) ∧ ∃ c fs d, sto[n]? = some (.ins c fs) ∧ fg fs f = some (.lk d)
structure StR (U : Uni) (y : Ly) (σ : L2.St) (H : Hp) (s : St) : Prop where
  len : s.sl.length = σ.length
  sl : ∀ i, i < s.sl.length → ∃ o, σ[i]? = some o ∧ (gt s.sl i = .em ∨ ∃ v, o = some v ∧ SvR U y H (.sl i) (.lks i) (gt s.sl i) v)
  sto : StoR U y H s.sto
  lks : ∀ i a, y.own a = some (.lks i) → ∃ d, gt s.sl i = .lk d ∧ σ[i]? = some (some (.ref a))
end

/-! ### going on -/
/-- owned by somebody that does not run now, or just made, or locked -/
def Out : Ow → Prop
  | .ex | .nw | .lks _ | .lkf _ _ => True
  | _ => False
structure Ext (q : Bool) (y : Ly) (H : Hp) (y' : Ly) (H' : Hp) : Prop where
  tr : Tr y H y' H'
  ex : ∀ a w, Out w → y.own a = some w → y'.own a = some w ∧ H' a = H a
  kt : ∀ a, H a ≠ none → H' a ≠ none
  q : q = true → ∀ a o, H a = some o → ¬ IsTbl o → H' a = some o
theorem Ext.refl (q : Bool) (y : Ly) (H : Hp) : Ext q y H y H := ⟨Tr.refl y H, fun _ _ _ h => ⟨h, rfl⟩, fun _ h => h, fun _ _ _ h _ => h⟩
theorem Ext.trans {q q' : Bool} {y y' y'' : Ly} {H H' H'' : Hp} (a : Ext q y H y' H') (b : Ext q' y' H' y'' H'') : Ext (q && q') y H y'' H'' :=
  ⟨a.tr.trans b.tr, fun p w o h => let ⟨h1, e1⟩ := a.ex p w o h; let ⟨h2, e2⟩ := b.ex p w o h1; ⟨h2, e2.trans e1⟩, fun p h => b.kt p (a.kt p h), fun h p o e t => by
    simp only [Bool.and_eq_true] at h
    exact b.q h.2 p o (a.q h.1 p o e t) t⟩
theorem Ext.weak {q q' : Bool} {y y' : Ly} {H H' : Hp} (a : Ext q y H y' H') (h : q' = true → q = true) : Ext q' y H y' H' := ⟨a.tr, a.ex, a.kt, fun e => a.q (h e)⟩
theorem Ext.any {q : Bool} {y y' : Ly} {H H' : Hp} (a : Ext q y H y' H') : Ext false y H y' H' := a.weak (by intro h; cases h)
theorem Ext.tail {q q' : Bool} {y y' y'' : Ly} {H H' H'' : Hp} (a : Ext q y H y' H') (b : Ext true y' H' y'' H'') : Ext q y H y'' H'' := (a.trans b).weak (by intro h; rw [h]; rfl)
def Lkd (w : Ow) : Prop := (∃ i, w = .lks i) ∨ ∃ n f, w = .lkf n f
/-- the owners that are not P's stay, what they own stays; a new thing may be laid -/
structure Fr (P : Ow → Prop) (y : Ly) (H : Hp) (y' : Ly) (H' : Hp) : Prop where
  tr : Tr y H y' H'
  own : ∀ a w, ¬ P w → y.own a = some w → y'.own a = some w ∧ H' a = H a
  trk : ∀ a w, y'.own a = some w → H' a ≠ none
  top : ∀ n, y.A n = none → y'.A n = none
  tab : ∀ T, LamX.Tabs T H → LamX.Tabs T H'
  old : ∀ a w, ¬ P w → Lkd w → y'.own a = some w → y.own a = some w
/-- .. but what was just made -/
abbrev Fr1 := Fr (· = .nw)
theorem Fr.refl {P : Ow → Prop} {y : Ly} {H : Hp} (trk : ∀ a w, y.own a = some w → H a ≠ none) : Fr P y H y H := ⟨Tr.refl _ _, fun _ _ _ h => ⟨h, rfl⟩, trk, fun _ h => h, fun _ h => h, fun _ _ _ _ h => h⟩
theorem Fr.trans {P : Ow → Prop} {y y' y'' : Ly} {H H' H'' : Hp} (a : Fr P y H y' H') (b : Fr P y' H' y'' H'') : Fr P y H y'' H'' :=
  ⟨a.tr.trans b.tr, fun p w n h => let ⟨h1, e1⟩ := a.own p w n h; let ⟨h2, e2⟩ := b.own p w n h1; ⟨h2, e2.trans e1⟩, b.trk, fun n h => b.top n (a.top n h), fun T h => b.tab T (a.tab T h), fun p w n l h => a.old p w n l (b.old p w n l h)⟩
theorem Fr.more {P P' : Ow → Prop} {y y' : Ly} {H H' : Hp} (a : Fr P y H y' H') (h : ∀ w, P w → P' w) : Fr P' y H y' H' :=
  ⟨a.tr, fun p w n => a.own p w (fun z => n (h w z)), a.trk, a.top, a.tab, fun p w n => a.old p w (fun z => n (h w z))⟩
section
variable {U : Uni} {y y' : Ly} {H H' : Hp} {σ : L2.St} {s : St} {sto : List Cell}
theorem LkC.eq {a : Addr} {u : HO} (h : LkC H a u) (e : H' a = H a) : LkC H' a u := by
  unfold LkC at h ⊢
  rw [e]; exact h
theorem SvR.fr (tr : Tr y H y' H') {o l : Ow} (ho : ∀ a, y.own a = some o → y'.own a = some o ∧ H' a = H a) (hl : ∀ a, y.own a = some l → y'.own a = some l ∧ H' a = H a) : ∀ {sv : SV} {v : V}, SvR U y H o l sv v → SvR U y' H' o l sv v
  | .em, _, _ => True.intro
  | .vl d, _, h => Rep.tr tr d _ h
  | .bx d, v, ⟨a, e, w, c⟩ => by
    obtain ⟨w', e'⟩ := ho a w
    exact ⟨a, e, w', (c.tr tr).imp fun u hu => e'.trans hu⟩
  | .lk d, v, ⟨a, e, w, c⟩ => by
    obtain ⟨w', e'⟩ := hl a w
    exact ⟨a, e, w', (c.tr tr).imp fun u hu => hu.eq e'⟩
theorem FdsR.fr (tr : Tr y H y' H') {n : Nat} (ho : ∀ f a w, (w = .fd n f ∨ w = .lkf n f) → y.own a = some w → y'.own a = some w ∧ H' a = H a) : ∀ {fs : List (Nat × SV)} {vs : List (Str × V)}, FdsR U y H n fs vs → FdsR U y' H' n fs vs
  | [], _, h => h
  | (g, sv) :: fs, vs, ⟨v, r, e, a, b⟩ => ⟨v, r, e, a.fr tr (fun p w => ho g p _ (.inl rfl) w) (fun p w => ho g p _ (.inr rfl) w), b.fr tr ho⟩
/-- a frame of slots and what was just made -/
def Loo : Ow → Prop
  | .sl _ | .lks _ | .nw | .ex => True
  | _ => False
theorem StoR.fr {P : Ow → Prop} (hP : ∀ w, P w → Loo w) (f : Fr P y H y' H') (h : StoR U y H sto) : StoR U y' H' sto := by
  refine ⟨fun n c e => ?_, fun n hn => f.top n (h.top n hn), f.trk, f.tab _ h.tab, fun n g a hw => ?_⟩
  · obtain ⟨a, h1, h2, h3⟩ := h.cell n c e
    obtain ⟨w', e'⟩ := f.own a _ (hP (.st n)) h2
    refine ⟨a, f.tr.A n a h1, w', ?_⟩
    cases c with
    | ins c fs =>
      obtain ⟨dx, vs, p, nd, q⟩ := h3
      exact ⟨dx, vs, e'.trans p, nd, q.fr f.tr fun g a w hw => f.own a w (by rcases hw with rfl | rfl <;> exact hP _)⟩
    | ls ds =>
      obtain ⟨xs, p, q⟩ := h3
      exact ⟨xs, e'.trans p, q.tr f.tr⟩
  · obtain ⟨b, C, dx, vs, h1, h2, h3, c, fs, d, h4, h5⟩ := h.lkf n g a (f.old a _ (hP (.lkf n g)) (.inr ⟨n, g, rfl⟩) hw)
    obtain ⟨b', h6, h7, _⟩ := h.cell n _ h4
    rw [h1] at h6; cases h6
    obtain ⟨_, e'⟩ := f.own b _ (hP (.st n)) h7
    exact ⟨b, C, dx, vs, f.tr.A n b h1, e'.trans h2, h3, c, fs, d, h4, h5⟩
theorem StR.fr (f : Fr1 y H y' H') (h : StR U y σ H s) : StR U y' σ H' s := by
  refine ⟨h.len, fun i hi => ?_, h.sto.fr (fun w hw => by cases hw; exact True.intro) f, fun i a hw => h.lks i a (f.old a _ (by intro z; cases z) (.inl ⟨i, rfl⟩) hw)⟩
  obtain ⟨o, e, r⟩ := h.sl i hi
  refine ⟨o, e, ?_⟩
  rcases r with r | ⟨v, e2, r⟩
  · exact .inl r
  · exact .inr ⟨v, e2, r.fr f.tr (fun a w => f.own a _ (by intro h; cases h) w) (fun a w => f.own a _ (by intro h; cases h) w)⟩
/-- a new object is laid; w: who owns it -/
def Ly.set (y : Ly) (p : Addr) (w : Option Ow) : Ly := { y with own := fun a => if a = p then w else y.own a }
theorem Ly.set_same (y : Ly) (p : Addr) (w : Option Ow) : (y.set p w).own p = w := by simp [Ly.set]
theorem Ly.set_ne (y : Ly) {a p : Addr} (w : Option Ow) (h : a ≠ p) : (y.set p w).own a = y.own a := by simp [Ly.set, h]
theorem own_none {a : Addr} (t : ∀ a w, y.own a = some w → H a ≠ none) (h : H a = none) : y.own a = none := by
  cases e : y.own a with
  | none => rfl
  | some w => exact absurd h (t a w e)
theorem tabs_upd {T : List (Addr × Str)} {p : Addr} {o : HO} (h : LamX.Tabs T H) (hp : H p = none) : LamX.Tabs T (upd H p o) := h.ext fun b u e => by rw [upd_ne (ne_of_none e hp)]; exact e
theorem Fr1.new {p : Addr} {o : HO} (trk : ∀ a w, y.own a = some w → H a ≠ none) (hp : H p = none) (w : Option Ow) (hw : w = none ∨ w = some .nw ∨ w = some .ex) : Fr1 y H (y.set p w) (upd H p o) := by
  have np : ∀ a u, H a = some u → a ≠ p := fun a u e => ne_of_none e hp
  have nw : ∀ a w, y.own a = some w → a ≠ p := fun a w e z => by subst z; exact trk _ _ e hp
  refine ⟨Tr.all (fun a xs e => by rw [upd_ne (np a _ e)]; exact e) (fun n a e => e) fun a u h e => ?_, fun a v hv e => ?_, fun a v e => ?_, fun n e => e, fun T t => tabs_upd t hp, fun a v _ hv e => ?_⟩
  · rw [upd_ne (np a u e), Ly.set_ne _ _ (np a u e)]
    exact ⟨e, h⟩
  · rw [upd_ne (nw a v e), Ly.set_ne _ _ (nw a v e)]
    exact ⟨e, rfl⟩
  · by_cases ha : a = p
    · subst ha; rw [upd_same]; intro z; cases z
    · rw [upd_ne ha]; rw [Ly.set_ne _ _ ha] at e; exact trk a v e
  · by_cases ha : a = p
    · subst ha
      rw [Ly.set_same] at e
      subst e
      rcases hw with h | h | h <;> rcases hv with ⟨i, rfl⟩ | ⟨n, f, rfl⟩ <;> cases h
    · rw [Ly.set_ne _ _ ha] at e; exact e
theorem Ext.new {q : Bool} {p : Addr} {o : HO} (trk : ∀ a w, y.own a = some w → H a ≠ none) (hp : H p = none) (w : Option Ow) : Ext q y H (y.set p w) (upd H p o) := by
  have np : ∀ a u, H a = some u → a ≠ p := fun a u e => ne_of_none e hp
  have nw : ∀ a w, y.own a = some w → a ≠ p := fun a w e z => by subst z; exact trk _ _ e hp
  refine ⟨Tr.all (fun a xs e => by rw [upd_ne (np a _ e)]; exact e) (fun n a e => e) fun a u h e => ?_, fun a v _ e => ?_, fun a h => ?_, fun _ a u e _ => ?_⟩
  · rw [upd_ne (np a u e), Ly.set_ne _ _ (np a u e)]
    exact ⟨e, h⟩
  · rw [upd_ne (nw a v e), Ly.set_ne _ _ (nw a v e)]
    exact ⟨e, rfl⟩
  · by_cases ha : a = p
    · subst ha; exact absurd hp h
    · rw [upd_ne ha]; exact h
  · rw [upd_ne (np a u e)]; exact e
end
/-- what an expression gives: frozen; or just made and nobody else's, not there at H0 -/
def VR (U : Uni) (H0 : Hp) (y : Ly) (H : Hp) (p : D × Bool) (v : V) : Prop :=
  if p.2 = true then ∃ a, v = .ref a ∧ H0 a = none ∧ y.own a = some .nw ∧ Cont U y H (fun u => H a = some u) p.1 else Rep U y H p.1 v
theorem VR.fz {U : Uni} {H0 H : Hp} {y : Ly} {d : D} {v : V} (h : Rep U y H d v) : VR U H0 y H (d, false) v := by
  unfold VR; simpa using h
theorem VR.of_fz {U : Uni} {H0 H : Hp} {y : Ly} {d : D} {v : V} (h : VR U H0 y H (d, false) v) : Rep U y H d v := by
  unfold VR at h; simpa using h
theorem VR.of_new {U : Uni} {H0 H : Hp} {y : Ly} {d : D} {a : Addr} (h0 : H0 a = none) (h : y.own a = some .nw) (c : Cont U y H (fun u => H a = some u) d) : VR U H0 y H (d, true) (.ref a) := by
  unfold VR; simp only [if_true]; exact ⟨a, rfl, h0, h, c⟩
theorem VR.to_new {U : Uni} {H0 H : Hp} {y : Ly} {d : D} {v : V} (h : VR U H0 y H (d, true) v) : ∃ a, v = .ref a ∧ H0 a = none ∧ y.own a = some .nw ∧ Cont U y H (fun u => H a = some u) d := by
  unfold VR at h; simpa only [if_true] using h
section
variable {U : Uni} {y y' : Ly} {H0 H H' : Hp} {σ : L2.St} {s : St}
/-- what was just made gets another owner -/
theorem thaw_tr {a : Addr} {w v : Option Ow} (hv : v = y.own a) (h : v ≠ none) : Tr y H (y.set a w) H := Tr.all (fun _ _ e => e) (fun _ _ e => e) fun b o h e => ⟨e, by
  by_cases hb : b = a
  · subst hb; rw [← hv] at h; contradiction
  · rw [Ly.set_ne _ _ hb]; exact h⟩
/-- another owner, none or one that is not a lock -/
theorem Fr.reown {a : Addr} {o : Ow} {w : Option Ow} (ha : y.own a = some o) (hw : ∀ v, w = some v → ¬ Lkd v) (trk : ∀ a w, y.own a = some w → H a ≠ none) : Fr (· = o) y H (y.set a w) H := by
  refine ⟨thaw_tr ha.symm (by intro z; cases z), fun b v hv e => ⟨?_, rfl⟩, fun b v e => ?_, fun n e => e, fun T t => t, fun b v _ hv e => ?_⟩
  · have hb : b ≠ a := fun z => by subst z; rw [ha] at e; cases e; exact hv rfl
    rw [Ly.set_ne _ _ hb]; exact e
  · by_cases hb : b = a
    · subst hb; exact trk _ _ ha
    · rw [Ly.set_ne _ _ hb] at e; exact trk b v e
  · by_cases hb : b = a
    · subst hb; rw [Ly.set_same] at e; exact absurd hv (hw v e)
    · rw [Ly.set_ne _ _ hb] at e; exact e
theorem Fr1.thaw {a : Addr} (ha : y.own a = some .nw) (trk : ∀ a w, y.own a = some w → H a ≠ none) : Fr1 y H (y.set a none) H := Fr.reown ha (fun _ z => by cases z) trk
/-- a thing that was not there gets an owner -/
theorem Ext.reown {q : Bool} {y0 : Ly} {a : Addr} {w : Option Ow} (e0 : Ext q y0 H0 y H) (trk0 : ∀ a w, y0.own a = some w → H0 a ≠ none) (h0 : H0 a = none) (ha : y.own a ≠ none) : Ext q y0 H0 (y.set a w) H := by
  refine ⟨e0.tr.trans (thaw_tr rfl ha), fun b w o e => ?_, e0.kt, e0.q⟩
  have hb : b ≠ a := fun z => by subst z; exact trk0 _ _ e h0
  obtain ⟨h1, h2⟩ := e0.ex b w o e
  rw [Ly.set_ne _ _ hb]
  exact ⟨h1, h2⟩
/-- any value as a frozen one -/
theorem VR.thaw {q : Bool} {y0 : Ly} {p : D × Bool} {v : V} (e0 : Ext q y0 H0 y H) (S0 : ∀ a w, y0.own a = some w → H0 a ≠ none) (trk : ∀ a w, y.own a = some w → H a ≠ none) (h : VR U H0 y H p v) :
    ∃ y', Ext q y0 H0 y' H ∧ Fr1 y H y' H ∧ Rep U y' H p.1 v := by
  obtain ⟨d, fr⟩ := p
  cases fr with
  | false => exact ⟨y, e0, Fr.refl trk, h.of_fz⟩
  | true =>
    obtain ⟨a, rfl, h0, ha, c⟩ := h.to_new
    have f := Fr1.thaw ha trk
    exact ⟨y.set a none, e0.reown S0 h0 (by rw [ha]; intro z; cases z), f, (c.tr f.tr).frozen (Ly.set_same _ _ _)⟩
theorem Cont.ref {P : HO → Prop} {d : D} (h : Cont U y H P d) : (∃ ds, d = .lst ds) ∨ ∃ kvs, d = .dct kvs := by
  cases d with
  | lst ds => exact .inl ⟨ds, rfl⟩
  | dct kvs => exact .inr ⟨kvs, rfl⟩
  | _ => exact h.elim
end
end Pyl
set_option Elab.async false
set_option linter.all false
set_option maxRecDepth 100000
set_option maxHeartbeats 2000000
/-! SndState: steps of states. -/
namespace Pyl
open PySem PySem.Spec PyProof.Rows L2

/-! ### slots -/
theorem gt_pt_same : ∀ {l : List SV} {i : Nat} {v : SV}, i < l.length → gt (pt l i v) i = v
  | [], _, _, h => by simp at h
  | _ :: _, 0, _, _ => rfl
  | _ :: l, i + 1, v, h => gt_pt_same (l := l) (i := i) (by simpa using h)
theorem gt_pt_ne : ∀ {l : List SV} {i j : Nat} {v : SV}, i ≠ j → gt (pt l i v) j = gt l j
  | [], _, _, _, _ => rfl
  | _ :: _, 0, 0, _, h => absurd rfl h
  | _ :: _, 0, j + 1, _, _ => rfl
  | _ :: _, i + 1, 0, _, _ => rfl
  | _ :: l, i + 1, j + 1, v, h => gt_pt_ne (l := l) (by omega)
theorem pt_len : ∀ {l : List SV} {i : Nat} {v : SV}, (pt l i v).length = l.length
  | [], _, _ => rfl
  | _ :: _, 0, _ => rfl
  | _ :: l, i + 1, v => by simp [pt, pt_len (l := l)]
theorem gt_out : ∀ {l : List SV} {i : Nat}, l.length ≤ i → gt l i = .em
  | [], _, _ => rfl
  | _ :: _, 0, h => by simp at h
  | _ :: l, i + 1, h => gt_out (l := l) (by simpa using h)
theorem gt_lt {l : List SV} {i : Nat} (h : gt l i ≠ .em) : i < l.length := by
  by_cases z : i < l.length
  · exact z
  · exact absurd (gt_out (by omega)) h
/-! ### fields -/
section
variable {α : Type}
theorem fg_fp_same : ∀ {fs : List (Nat × α)} {f : Nat} {v : α}, fg (fp fs f v) f = some v
  | [], f, v => by simp [fp, fg]
  | (g, w) :: r, f, v => by
    unfold fp
    by_cases h : g = f
    · simp [h, fg]
    · simp only [h, if_false, fg]; exact fg_fp_same
theorem fg_fp_ne : ∀ {fs : List (Nat × α)} {f g : Nat} {v : α}, g ≠ f → fg (fp fs f v) g = fg fs g
  | [], f, g, v, h => by
    have : f ≠ g := fun e => h e.symm
    simp [fp, fg, this]
  | (k, w) :: r, f, g, v, h => by
    unfold fp
    by_cases hk : k = f
    · subst hk
      have : k ≠ g := fun e => h e.symm
      simp [fg, this]
    · simp only [hk, if_false, fg]
      rw [fg_fp_ne (fs := r) h]
theorem fp_mem : ∀ {fs : List (Nat × α)} {f g : Nat} {v : α}, g ∈ (fp fs f v).map (·.1) → g = f ∨ g ∈ fs.map (·.1)
  | [], f, g, v, h => by simp [fp] at h; exact .inl h
  | (k, w) :: r, f, g, v, h => by
    unfold fp at h
    by_cases hk : k = f
    · simp only [hk, if_true, List.map_cons, List.mem_cons] at h ⊢
      rcases h with h | h
      · exact .inl h
      · exact .inr (.inr h)
    · simp only [hk, if_false, List.map_cons, List.mem_cons] at h ⊢
      rcases h with h | h
      · exact .inr (.inl h)
      · rcases fp_mem h with h | h
        · exact .inl h
        · exact .inr (.inr h)
theorem fp_nd : ∀ {fs : List (Nat × α)} {f : Nat} {v : α}, (fs.map (·.1)).Nodup → ((fp fs f v).map (·.1)).Nodup
  | [], f, v, _ => by simp [fp]
  | (k, w) :: r, f, v, h => by
    unfold fp
    simp only [List.map_cons, List.nodup_cons] at h
    by_cases hk : k = f
    · simp only [hk, if_true, List.map_cons, List.nodup_cons]; subst hk; exact h
    · simp only [hk, if_false, List.map_cons, List.nodup_cons]
      refine ⟨fun z => ?_, fp_nd h.2⟩
      rcases fp_mem z with z | z
      · exact hk z
      · exact h.1 z
theorem fg_none : ∀ {fs : List (Nat × α)} {f : Nat}, f ∉ fs.map (·.1) → fg fs f = none
  | [], _, _ => rfl
  | (k, w) :: r, f, h => by
    simp only [List.map_cons, List.mem_cons, not_or] at h
    have n : k ≠ f := fun e => h.1 e.symm
    simp only [fg, n, if_false]
    exact fg_none h.2
end
theorem look_same {α : Type} {x : Str} {v : α} {r : List (Str × α)} : List.lookup x ((x, v) :: r) = some v := by simp [List.lookup]
theorem look_ne {α : Type} {x z : Str} {v : α} {r : List (Str × α)} (h : x ≠ z) : List.lookup x ((z, v) :: r) = List.lookup x r := by
  have : (x == z) = false := by simpa using h
  simp [List.lookup, this]
section
variable {U : Uni} {y y' : Ly} {H0 H H' : Hp} {σ : L2.St} {s s' : St} {sto : List Cell} {P : Ow → Prop}
theorem FdsR.look {n : Nat} {f : Nat} : ∀ {fs : List (Nat × SV)} {vs : List (Str × V)} {sv : SV}, FdsR U y H n fs vs → fg fs f = some sv → ∃ v, vs.lookup (U.fnm f) = some v ∧ SvR U y H (.fd n f) (.lkf n f) sv v
  | [], _, _, _, e => by simp [fg] at e
  | (g, w) :: fs, vs, sv, ⟨v, r, e1, a, b⟩, e => by
    subst e1
    by_cases h : g = f
    · subst h
      simp only [fg, if_true] at e
      cases e
      exact ⟨v, look_same, a⟩
    · simp only [fg, h, if_false] at e
      rw [look_ne (fun z => h (U.inj _ _ z).symm)]
      exact FdsR.look b e
theorem FdsR.miss {n : Nat} {f : Nat} : ∀ {fs : List (Nat × SV)} {vs : List (Str × V)}, FdsR U y H n fs vs → fg fs f = none → vs.lookup (U.fnm f) = none
  | [], _, h, _ => by cases h; rfl
  | (g, w) :: fs, vs, ⟨v, r, e1, a, b⟩, e => by
    subst e1
    by_cases h : g = f
    · subst h; simp [fg] at e
    · simp only [fg, h, if_false] at e
      rw [look_ne (fun z => h (U.inj _ _ z).symm)]
      exact FdsR.miss b e
theorem FdsR.len {n : Nat} : ∀ {fs : List (Nat × SV)} {vs : List (Str × V)}, FdsR U y H n fs vs → vs.length = fs.length
  | [], _, h => by cases h; rfl
  | (g, w) :: fs, vs, ⟨v, r, e1, a, b⟩ => by subst e1; simp [FdsR.len b]
theorem FdsR.put {n : Nat} {f : Nat} {sv : SV} {v : V} (hv : SvR U y H (.fd n f) (.lkf n f) sv v) : ∀ {fs : List (Nat × SV)} {vs : List (Str × V)}, FdsR U y H n fs vs → FdsR U y H n (fp fs f sv) (putF (U.fnm f) v vs)
  | [], _, h => by cases h; exact ⟨v, [], rfl, hv, rfl⟩
  | (g, w) :: fs, vs, ⟨v0, r, e1, a, b⟩ => by
    subst e1
    by_cases h : g = f
    · subst h
      simp only [fp, putF, if_true]
      exact ⟨v, r, rfl, hv, b⟩
    · have hn : ¬ U.fnm g = U.fnm f := fun z => h (U.inj _ _ z)
      simp only [fp, putF, h, hn, if_false]
      exact ⟨v0, _, rfl, a, FdsR.put hv b⟩
/-- the content of one field changes, or its lock -/
theorem FdsR.chg (tr : Tr y H y' H') {n f : Nat} {sv : SV} {v : V} (ho : ∀ g a w, g ≠ f → (w = .fd n g ∨ w = .lkf n g) → y.own a = some w → y'.own a = some w ∧ H' a = H a) (hs : SvR U y' H' (.fd n f) (.lkf n f) sv v) :
    ∀ {fs : List (Nat × SV)} {vs : List (Str × V)}, (fs.map (·.1)).Nodup → vs.lookup (U.fnm f) = some v → FdsR U y H n fs vs → FdsR U y' H' n (fp fs f sv) vs
  | [], _, _, hl, h => by cases h; simp at hl
  | (g, w) :: fs, vs, nd, hl, ⟨v0, r, e1, a, b⟩ => by
    subst e1
    simp only [List.map_cons, List.nodup_cons] at nd
    by_cases h : g = f
    · subst h
      rw [look_same] at hl
      cases hl
      simp only [fp, if_true]
      refine ⟨v, r, rfl, hs, ?_⟩
      clear hs a
      induction fs generalizing r with
      | nil => exact b
      | cons p fs ih =>
        obtain ⟨k, u⟩ := p
        obtain ⟨v1, r1, e1, a1, b1⟩ := b
        simp only [List.map_cons, List.mem_cons, not_or, List.nodup_cons] at nd
        exact ⟨v1, r1, e1, a1.fr tr (fun c hc => ho k c _ (fun z => nd.1.1 z.symm) (.inl rfl) hc) (fun c hc => ho k c _ (fun z => nd.1.1 z.symm) (.inr rfl) hc), ih r1 b1 ⟨nd.1.2, nd.2.2⟩⟩
    · rw [look_ne (fun z => h (U.inj _ _ z).symm)] at hl
      simp only [fp, h, if_false]
      exact ⟨v0, r, rfl, a.fr tr (fun c hc => ho g c _ h (.inl rfl) hc) (fun c hc => ho g c _ h (.inr rfl) hc), FdsR.chg tr ho hs nd.2 hl b⟩

/-! ### reading -/
theorem StR.val {i : Nat} (S : StR U y σ H s) (h : gt s.sl i ≠ .em) : ∃ v, σ[i]? = some (some v) ∧ SvR U y H (.sl i) (.lks i) (gt s.sl i) v := by
  obtain ⟨o, e, r⟩ := S.sl i (gt_lt h)
  rcases r with r | ⟨v, e2, r⟩
  · exact absurd r h
  · subst e2; exact ⟨v, e, r⟩
theorem StR.slot {i : Nat} {sv : SV} (S : StR U y σ H s) (h : gt s.sl i = sv) (n : sv ≠ .em) : ∃ v, σ[i]? = some (some v) ∧ SvR U y H (.sl i) (.lks i) sv v := by
  subst h; exact S.val n
theorem StoR.ins {n c : Nat} {fs : List (Nat × SV)} (S : StoR U y H sto) (h : sto[n]? = some (.ins c fs)) : ∃ a dx vs, y.A n = some a ∧ y.own a = some (.st n) ∧ H a = some (.ins (U.cls c) dx vs) ∧ (fs.map (·.1)).Nodup ∧ FdsR U y H n fs vs := by
  obtain ⟨a, h1, h2, dx, vs, h3, h4, h5⟩ := S.cell n _ h
  exact ⟨a, dx, vs, h1, h2, h3, h4, h5⟩
theorem StoR.lst {n : Nat} {ds : List D} (S : StoR U y H sto) (h : sto[n]? = some (.ls ds)) : ∃ a xs, y.A n = some a ∧ y.own a = some (.st n) ∧ H a = some (.lst xs) ∧ Reps U y H ds xs := by
  obtain ⟨a, h1, h2, xs, h3, h4⟩ := S.cell n _ h
  exact ⟨a, xs, h1, h2, h3, h4⟩
theorem fld_ins {n f : Nat} {sv : SV} (h : s.fld n f = some sv) : ∃ c fs, s.sto[n]? = some (.ins c fs) ∧ fg fs f = some sv := by
  unfold St.fld at h
  split at h
  · rename_i c fs e
    exact ⟨c, fs, e, h⟩
  · cases h
theorem StR.fldv {n f : Nat} {sv : SV} (S : StR U y σ H s) (h : s.fld n f = some sv) : ∃ c fs a dx vs v, s.sto[n]? = some (.ins c fs) ∧ fg fs f = some sv ∧ y.A n = some a ∧ y.own a = some (.st n) ∧ H a = some (.ins (U.cls c) dx vs) ∧
    (fs.map (·.1)).Nodup ∧ FdsR U y H n fs vs ∧ vs.lookup (U.fnm f) = some v ∧ SvR U y H (.fd n f) (.lkf n f) sv v := by
  obtain ⟨c, fs, e, g⟩ := fld_ins h
  obtain ⟨a, dx, vs, h1, h2, h3, h4, h5⟩ := S.sto.ins e
  obtain ⟨v, h6, h7⟩ := h5.look g
  exact ⟨c, fs, a, dx, vs, v, e, g, h1, h2, h3, h4, h5, h6, h7⟩
/-- v shows d now -/
def PV (U : Uni) (y : Ly) (H : Hp) : D → V → Prop
  | .lst ds, v => ∃ a xs, v = .ref a ∧ H a = some (.lst xs) ∧ Reps U y H ds xs
  | .dct kvs, v => ∃ a vs, v = .ref a ∧ DctC (Rd H a) (kvs.map (·.1)) vs ∧ Repk U y H kvs vs
  | d, v => Rep U y H d v
theorem Rep.pv {d : D} {v : V} (h : Rep U y H d v) : PV U y H d v := by
  cases d with
  | lst ds => obtain ⟨a, xs, e, ⟨_, h1⟩, h2⟩ := Rep.lst_.1 h; exact ⟨a, xs, e, h1, h2⟩
  | dct kvs => obtain ⟨a, vs, e, _, h1, h2⟩ := Rep.dct_.1 h; exact ⟨a, vs, e, h1, h2⟩
  | _ => exact h
theorem Cont.pv {d : D} {a : Addr} (h : Cont U y H (fun u => H a = some u) d) : PV U y H d (.ref a) := by
  cases d with
  | lst ds => obtain ⟨xs, h1, h2⟩ := h; exact ⟨a, xs, rfl, h1, h2⟩
  | dct kvs => obtain ⟨vs, h1, h2⟩ := h; exact ⟨a, vs, rfl, h1.imp fun u hu => .inl hu, h2⟩
  | _ => exact h.elim
theorem Cont.pvl {d : D} {a : Addr} (h : Cont U y H (LkC H a) d) : PV U y H d (.ref a) := by
  cases d with
  | lst ds =>
    obtain ⟨xs, h1, h2⟩ := h
    rcases h1 with ⟨h1, _⟩ | ⟨o, _, z⟩
    · exact ⟨a, xs, rfl, h1, h2⟩
    · exact z.elim
  | dct kvs => obtain ⟨vs, h1, h2⟩ := h; exact ⟨a, vs, rfl, h1.imp fun u hu => hu.rd, h2⟩
  | _ => exact h.elim
theorem VR.pv {p : D × Bool} {v : V} (h : VR U H0 y H p v) : PV U y H p.1 v := by
  obtain ⟨d, fr⟩ := p
  cases fr with
  | false => exact h.of_fz.pv
  | true =>
    obtain ⟨a, rfl, _, _, c⟩ := h.to_new
    exact c.pv
theorem SvR.pv {o l : Ow} {sv : SV} {v : V} {d : D} (h : SvR U y H o l sv v) (e : sv.d? = some d) : PV U y H d v := by
  cases sv with
  | em => cases e
  | vl d => cases e; exact Rep.pv h
  | bx d => cases e; obtain ⟨a, rfl, _, c⟩ := h; exact c.pv
  | lk d => cases e; obtain ⟨a, rfl, _, c⟩ := h; exact c.pvl
/-- an operand's value where it stands -/
def ODR (U : Uni) (H0 : Hp) (y : Ly) (H : Hp) (σ : L2.St) : OD → V → Prop
  | .im d fr, v => VR U H0 y H (d, fr) v
  | .sl i, v => σ[i]? = some (some v)
  | .fd n f, v => ∃ a C dx vs, y.A n = some a ∧ H a = some (.ins C dx vs) ∧ vs.lookup (U.fnm f) = some v
theorem VR.ext {q : Bool} {p : D × Bool} {v : V} (h : VR U H0 y H p v) (e : Ext q y H y' H') : VR U H0 y' H' p v := by
  obtain ⟨d, fr⟩ := p
  cases fr with
  | false => exact VR.fz (Rep.tr e.tr _ _ h.of_fz)
  | true =>
    obtain ⟨a, rfl, h0, w, c⟩ := h.to_new
    obtain ⟨w', e2⟩ := e.ex a .nw True.intro w
    exact VR.of_new h0 w' ((c.tr e.tr).imp fun u hu => e2.trans hu)
theorem ODR.later {q : Bool} {x : OD} {v : V} {d : D} (h : ODR U H0 y H σ x v) (e : Ext q y H y' H') (S : StR U y' σ H' s') (hq : (∃ n f, x = .fd n f) → q = true) (g : x.get s' = some d) : PV U y' H' d v := by
  cases x with
  | im d' fr =>
    simp only [OD.get] at g
    cases g
    exact (VR.ext h e).pv
  | sl i =>
    simp only [OD.get] at g
    have ne : gt s'.sl i ≠ .em := fun z => by rw [z] at g; cases g
    obtain ⟨w, e1, e2⟩ := S.val ne
    have h : σ[i]? = some (some v) := h
    rw [h] at e1; cases e1
    exact e2.pv g
  | fd n f =>
    simp only [OD.get] at g
    split at g
    · rename_i sv hs
      obtain ⟨a, C, dx, vs, h1, h2, h3⟩ := h
      obtain ⟨c, fs, a', dx', vs', w, k1, k2, k3, k4, k5, k6, k7, k8, k9⟩ := S.fldv hs
      have := e.tr.A n a h1
      rw [k3] at this; cases this
      have := e.q (hq ⟨n, f, rfl⟩) _ _ h2 (by rintro ⟨ps, z⟩; cases z)
      rw [k5] at this; cases this
      rw [h3] at k8; cases k8
      exact k9.pv g
    · cases g

/-! ### frames of steps -/
/-- a container that may be written -/
def Cnt : HO → Prop
  | .lst _ | .dK _ | .dT _ => True
  | _ => False
def Cnt2 : HO → Prop
  | .lst _ | .dK _ | .dT _ | .ins _ _ _ | .frz _ _ => True
  | _ => False
theorem Cnt.two {o : HO} (h : Cnt o) : Cnt2 o := by cases o <;> first | exact True.intro | exact h.elim
theorem tabs_mut {T : List (Addr × Str)} {a : Addr} {o u : HO} (h : LamX.Tabs T H) (e : H a = some o) (c : Cnt2 o) : LamX.Tabs T (upd H a u) := by
  intro p hp
  obtain ⟨ps, h1, h2, h3⟩ := h p hp
  have n1 : p.1 ≠ a := fun z => by rw [z, e] at h1; cases h1; exact c
  refine ⟨ps, by rw [upd_ne n1]; exact h1, h2, fun pos cv hc => ?_⟩
  obtain ⟨k, e1, e2⟩ := h3 pos cv hc
  have n2 : k ≠ a := fun z => by rw [z, e] at e2; cases e2; exact c
  exact ⟨k, e1, by rw [upd_ne n2]; exact e2⟩
/-- an owned thing is changed, and its owner may change -/
theorem Fr.mut {a : Addr} {o : Ow} {w : Option Ow} {u0 u : HO} (ha : y.own a = some o) (e : H a = some u0) (c : Cnt2 u0) (trk : ∀ a w, y.own a = some w → H a ≠ none) : Fr (fun v => v = o ∨ w = some v) y H (y.set a w) (upd H a u) := by
  refine ⟨Tr.all (fun b xs h => by rw [upd_ne (fun z => by rw [z, e] at h; cases h; exact c)]; exact h) (fun _ _ h => h) fun b z h h2 => ?_, fun b v hv h => ?_, fun b v h => ?_, fun n h => h, fun T t => tabs_mut t e c, fun b v hv l h => ?_⟩
  · have n : b ≠ a := fun z => by rw [z, ha] at h; cases h
    rw [upd_ne n, Ly.set_ne _ _ n]; exact ⟨h2, h⟩
  · have n : b ≠ a := fun z => by rw [z, ha] at h; cases h; exact hv (.inl rfl)
    rw [upd_ne n, Ly.set_ne _ _ n]; exact ⟨h, rfl⟩
  · by_cases n : b = a
    · rw [n, upd_same]; intro z; cases z
    · rw [upd_ne n]; rw [Ly.set_ne _ _ n] at h; exact trk b v h
  · by_cases n : b = a
    · rw [n, Ly.set_same] at h; exact absurd (Or.inr h) hv
    · rw [Ly.set_ne _ _ n] at h; exact h
theorem Ly.set_id {a : Addr} {w : Option Ow} (h : y.own a = w) : y.set a w = y := by
  obtain ⟨A, own⟩ := y
  simp only [Ly.set, Ly.mk.injEq, true_and]
  funext b
  by_cases hb : b = a
  · subst hb; simp only [if_true]; exact h.symm
  · simp only [hb, if_false]
theorem Ext.mut {a : Addr} {o : Ow} {w : Option Ow} {u0 u : HO} (ha : y.own a = some o) (ho : ¬ Out o) (e : H a = some u0) (c : Cnt2 u0) : Ext false y H (y.set a w) (upd H a u) := by
  refine ⟨Tr.all (fun b xs h => by rw [upd_ne (fun z => by rw [z, e] at h; cases h; exact c)]; exact h) (fun _ _ h => h) fun b z h h2 => ?_, fun b v hv h => ?_, fun b h => ?_, fun z => by cases z⟩
  · have n : b ≠ a := fun z => by rw [z, ha] at h; cases h
    rw [upd_ne n, Ly.set_ne _ _ n]; exact ⟨h2, h⟩
  · have n : b ≠ a := fun z => by rw [z, ha] at h; cases h; exact ho hv
    rw [upd_ne n, Ly.set_ne _ _ n]; exact ⟨h, rfl⟩
  · by_cases n : b = a
    · rw [n, upd_same]; intro z; cases z
    · rw [upd_ne n]; exact h
theorem Ext.own {q : Bool} {a : Addr} {o : Ow} {w : Option Ow} (ha : y.own a = some o) (ho : ¬ Out o) : Ext q y H (y.set a w) H := by
  refine ⟨thaw_tr ha.symm (by intro z; cases z), fun b v hv h => ?_, fun b h => h, fun _ b o h _ => h⟩
  have n : b ≠ a := fun z => by rw [z, ha] at h; cases h; exact ho hv
  rw [Ly.set_ne _ _ n]; exact ⟨h, rfl⟩

/-! ### a state with one slot, one cell changed -/
theorem set_id {i : Nat} {v : V} (h : σ[i]? = some (some v)) : σ.set i (some v) = σ := by
  apply List.ext_getElem?
  intro j
  by_cases e : i = j
  · subst e
    rw [List.getElem?_set_self (by rw [List.getElem?_eq_some_iff] at h; exact h.1)]; exact h.symm
  · rw [List.getElem?_set_ne e]
theorem StR.chgS {i : Nat} {sv : SV} {v : V} (f : Fr P y H y' H') (hP : ∀ w, P w → w = .nw ∨ w = .sl i ∨ w = .lks i) (S : StR U y σ H s) (hv : i < s.sl.length → SvR U y' H' (.sl i) (.lks i) sv v)
    (hl : ∀ a, y'.own a = some (.lks i) → ∃ d, sv = .lk d ∧ v = .ref a) (hi : i < s.sl.length ∨ ∀ d, sv ≠ .lk d) : StR U y' (σ.set i (some v)) H' (s.put i sv) := by
  refine ⟨?_, fun j hj => ?_, S.sto.fr (fun w hw => by rcases hP w hw with rfl | rfl | rfl <;> exact True.intro) f, fun j a hw => ?_⟩
  · show (pt s.sl i sv).length = _
    rw [pt_len, List.length_set]; exact S.len
  · have hj' : j < s.sl.length := by have : j < (pt s.sl i sv).length := hj; rwa [pt_len] at this
    show ∃ o, (σ.set i (some v))[j]? = some o ∧ (gt (pt s.sl i sv) j = .em ∨ ∃ v, o = some v ∧ SvR U y' H' (.sl j) (.lks j) (gt (pt s.sl i sv) j) v)
    by_cases e : i = j
    · subst e
      rw [gt_pt_same hj', List.getElem?_set_self (by rw [← S.len]; exact hj')]
      exact ⟨_, rfl, .inr ⟨v, rfl, hv hj'⟩⟩
    · rw [gt_pt_ne e, List.getElem?_set_ne e]
      obtain ⟨o, e1, r⟩ := S.sl j hj'
      refine ⟨o, e1, ?_⟩
      rcases r with r | ⟨w, e2, r⟩
      · exact .inl r
      · exact .inr ⟨w, e2, r.fr f.tr (fun a w => f.own a _ (fun z => by rcases hP _ z with z | z | z <;> cases z; exact e rfl) w) (fun a w => f.own a _ (fun z => by rcases hP _ z with z | z | z <;> cases z; exact e rfl) w)⟩
  · show ∃ d, gt (pt s.sl i sv) j = .lk d ∧ (σ.set i (some v))[j]? = some (some (.ref a))
    by_cases e : i = j
    · subst e
      obtain ⟨d, rfl, rfl⟩ := hl a hw
      rcases hi with hi | hi
      · exact ⟨d, gt_pt_same hi, List.getElem?_set_self (by rw [← S.len]; exact hi)⟩
      · exact absurd rfl (hi d)
    · rw [gt_pt_ne e, List.getElem?_set_ne e]
      exact S.lks j a (f.old a _ (fun z => by rcases hP _ z with z | z | z <;> cases z; exact e rfl) (.inl ⟨j, rfl⟩) hw)
theorem StR.chgC {m : Nat} {c' : Cell} (f : Fr P y H y' H') (hP : ∀ w, P w → w = .nw ∨ w = .st m ∨ ∃ g, w = .fd m g ∨ w = .lkf m g) (S : StR U y σ H s) (hm : m < s.sto.length) (hc : ∃ a, y'.A m = some a ∧ y'.own a = some (.st m) ∧ CellR U y' H' m a c')
    (hl : ∀ g a, y'.own a = some (.lkf m g) → ∃ b C dx vs, y'.A m = some b ∧ H' b = some (.ins C dx vs) ∧ vs.lookup (U.fnm g) = some (.ref a) ∧ ∃ c fs d, c' = .ins c fs ∧ fg fs g = some (.lk d)) : StR U y' σ H' { s with sto := s.sto.set m c' } := by
  refine ⟨S.len, fun j hj => ?_, ⟨fun n c e => ?_, fun n hn => f.top n (S.sto.top n (by simpa using hn)), f.trk, f.tab _ S.sto.tab, fun n g a hw => ?_⟩, fun j a hw => S.lks j a (f.old a _ (fun z => by rcases hP _ z with z | z | ⟨_, z | z⟩ <;> cases z) (.inl ⟨j, rfl⟩) hw)⟩
  · obtain ⟨o, e1, r⟩ := S.sl j hj
    refine ⟨o, e1, ?_⟩
    rcases r with r | ⟨w, e2, r⟩
    · exact .inl r
    · exact .inr ⟨w, e2, r.fr f.tr (fun a w => f.own a _ (fun z => by rcases hP _ z with z | z | ⟨_, z | z⟩ <;> cases z) w) (fun a w => f.own a _ (fun z => by rcases hP _ z with z | z | ⟨_, z | z⟩ <;> cases z) w)⟩
  · by_cases en : m = n
    · subst en
      have e : (s.sto.set m c')[m]? = some c := e
      rw [List.getElem?_set_self hm] at e
      cases e
      exact hc
    · have e : (s.sto.set m c')[n]? = some c := e
      rw [List.getElem?_set_ne en] at e
      obtain ⟨a, h1, h2, h3⟩ := S.sto.cell n c e
      obtain ⟨w', e'⟩ := f.own a _ (fun z => by rcases hP _ z with z | z | ⟨_, z | z⟩ <;> cases z; exact en rfl) h2
      refine ⟨a, f.tr.A n a h1, w', ?_⟩
      cases c with
      | ins c fs =>
        obtain ⟨dx, vs, p, nd, q⟩ := h3
        exact ⟨dx, vs, e'.trans p, nd, q.fr f.tr fun g a w hw => f.own a w (by rcases hw with rfl | rfl <;> exact fun z => by rcases hP _ z with z | z | ⟨_, z | z⟩ <;> cases z; exact en rfl)⟩
      | ls ds =>
        obtain ⟨xs, p, q⟩ := h3
        exact ⟨xs, e'.trans p, q.tr f.tr⟩
  · by_cases en : m = n
    · subst en
      obtain ⟨b, C, dx, vs, h1, h2, h3, c, fs, d, h4, h5⟩ := hl g a hw
      exact ⟨b, C, dx, vs, h1, h2, h3, c, fs, d, by show (s.sto.set m c')[m]? = _; rw [List.getElem?_set_self hm, h4], h5⟩
    · obtain ⟨b, C, dx, vs, h1, h2, h3, c, fs, d, h4, h5⟩ := S.sto.lkf n g a (f.old a _ (fun z => by rcases hP _ z with z | z | ⟨_, z | z⟩ <;> cases z; exact en rfl) (.inr ⟨n, g, rfl⟩) hw)
      obtain ⟨b', h6, h7, _⟩ := S.sto.cell n _ h4
      rw [h1] at h6; cases h6
      obtain ⟨_, e'⟩ := f.own b _ (fun z => by rcases hP _ z with z | z | ⟨_, z | z⟩ <;> cases z; exact en rfl) h7
      exact ⟨b, C, dx, vs, f.tr.A n b h1, e'.trans h2, h3, c, fs, d, by show (s.sto.set m c')[n]? = _; rw [List.getElem?_set_ne en, h4], h5⟩
end
end Pyl
set_option Elab.async false
set_option linter.all false
set_option maxRecDepth 100000
set_option maxHeartbeats 2000000
/-! SndStep: what running does to states. -/
namespace Pyl
open PySem PySem.Spec PyProof.Rows L2
section
variable {U : Uni} {y y' y0 : Ly} {H0 H H' : Hp} {σ : L2.St} {s s' : St} {sto : List Cell} {P : Ow → Prop} {q : Bool}
theorem StR.trk (S : StR U y σ H s) : ∀ a w, y.own a = some w → H a ≠ none := S.sto.trk
theorem StR.nolks {i : Nat} (S : StR U y σ H s) (n : ∀ e, gt s.sl i ≠ .lk e) : ∀ a, y.own a ≠ some (.lks i) := fun a h => by
  obtain ⟨d, g, _⟩ := S.lks i a h
  exact n d g
/-- a container in a slot is let be -/
theorem StR.freeze {i : Nat} {d : D} (S : StR U y σ H s) (g : gt s.sl i = .bx d) : ∃ v y', σ[i]? = some (some v) ∧ Ext true y H y' H ∧ StR U y' σ H (s.put i (.vl d)) ∧ Rep U y' H d v := by
  obtain ⟨v, e, a, rfl, ha, c⟩ := S.slot g (by intro z; cases z)
  have f := Fr.reown (w := none) ha (fun v z => by cases z) S.trk
  have r : Rep U (y.set a none) H d (.ref a) := (c.tr f.tr).frozen (Ly.set_same _ _ _)
  have S' := S.chgS (i := i) (sv := .vl d) (v := .ref a) f (fun w hw => .inr (.inl hw)) (fun _ => r) (fun b hb => by
    by_cases n : b = a
    · rw [n, Ly.set_same] at hb; cases hb
    · rw [Ly.set_ne _ _ n] at hb; exact absurd hb (S.nolks (by rw [g]; intro e z; cases z) b)) (.inr fun e z => by cases z)
  rw [set_id e] at S'
  exact ⟨.ref a, _, e, Ext.own ha (by intro z; exact z), S', r⟩
theorem StR.bindv {i : Nat} {d : D} {v : V} (S : StR U y σ H s) (r : Rep U y H d v) (n : ∀ e, gt s.sl i ≠ .lk e) : StR U y (σ.set i (some v)) H (s.put i (.vl d)) :=
  S.chgS (P := fun _ => False) (Fr.refl S.trk) (fun w hw => hw.elim) (fun _ => r) (fun b hb => absurd hb (S.nolks n b)) (.inr fun e z => by cases z)
theorem StR.bindb {i : Nat} {d : D} {v : V} (S : StR U y σ H s) (e0 : Ext q y0 H0 y H) (trk0 : ∀ a w, y0.own a = some w → H0 a ≠ none) (r : VR U H0 y H (d, true) v) (n : ∀ e, gt s.sl i ≠ .lk e) :
    ∃ y', Ext q y0 H0 y' H ∧ StR U y' (σ.set i (some v)) H (s.put i (.bx d)) := by
  obtain ⟨a, rfl, h0, ha, c⟩ := r.to_new
  have f := Fr.reown (w := some (.sl i)) ha (fun v z => by cases z; rintro (⟨_, z⟩ | ⟨_, _, z⟩) <;> cases z) S.trk
  refine ⟨y.set a (some (.sl i)), e0.reown trk0 h0 (by rw [ha]; intro z; cases z), S.chgS f (fun w hw => .inl hw) (fun _ => ⟨a, rfl, Ly.set_same _ _ _, c.tr f.tr⟩) (fun b hb => ?_) (.inr fun e z => by cases z)⟩
  by_cases n' : b = a
  · rw [n', Ly.set_same] at hb; cases hb
  · rw [Ly.set_ne _ _ n'] at hb; exact absurd hb (S.nolks n b)
/-- a slot that is forgotten -/
theorem StR.bindem {i : Nat} {o : Option V} (S : StR U y σ H s) (n : ∀ e, gt s.sl i ≠ .lk e) : StR U y (σ.set i o) H (s.put i .em) := by
  refine ⟨?_, fun j hj => ?_, S.sto, fun j a hw => ?_⟩
  · show (pt s.sl i .em).length = _
    rw [pt_len, List.length_set]; exact S.len
  · have hj' : j < s.sl.length := by have : j < (pt s.sl i .em).length := hj; rwa [pt_len] at this
    show ∃ o', (σ.set i o)[j]? = some o' ∧ (gt (pt s.sl i .em) j = .em ∨ ∃ v, o' = some v ∧ SvR U y H (.sl j) (.lks j) (gt (pt s.sl i .em) j) v)
    by_cases e : i = j
    · subst e
      rw [gt_pt_same hj', List.getElem?_set_self (by rw [← S.len]; exact hj')]
      exact ⟨_, rfl, .inl rfl⟩
    · rw [gt_pt_ne e, List.getElem?_set_ne e]
      exact S.sl j hj'
  · show ∃ d, gt (pt s.sl i .em) j = .lk d ∧ (σ.set i o)[j]? = some (some (.ref a))
    have e : i ≠ j := fun e => by subst e; exact S.nolks n a hw
    rw [gt_pt_ne e, List.getElem?_set_ne e]
    exact S.lks j a hw

/-! ### writing -/
theorem cont_of {d : D} {a : Addr} {u : HO} (t : Tr y H y' (upd H a u)) (c : Cont U y H (fun w => w = u) d) : Cont U y' (upd H a u) (fun w => upd H a u a = some w) d :=
  (c.tr t).imp fun w hw => by rw [upd_same, hw]
theorem cnt_cont {d : D} {a : Addr} (c : Cont U y H (fun u => H a = some u) d) : ∃ u, H a = some u ∧ Cnt u := by
  cases d with
  | lst ds => obtain ⟨xs, h, _⟩ := c; exact ⟨_, h, True.intro⟩
  | dct kvs =>
    obtain ⟨vs, h, _⟩ := c
    rcases h with ⟨kk, h, _⟩ | ⟨kk, h, _⟩
    · exact ⟨_, h, True.intro⟩
    · exact ⟨_, h, True.intro⟩
  | _ => exact c.elim
/-- what a write makes of the state -/
abbrev WrO (U : Uni) (y : Ly) (σ : L2.St) (H : Hp) (s' : St) (a : Addr) (d' : D) : Prop :=
  ∀ u, Cnt u → Cont U y H (fun w => w = u) d' → Ext false y H y (upd H a u) ∧ StR U y σ (upd H a u) s'
theorem mut_slot {i : Nat} {d : D} (S : StR U y σ H s) (g : gt s.sl i = .bx d) : ∃ a, σ[i]? = some (some (.ref a)) ∧ Cont U y H (fun u => H a = some u) d ∧ ∀ d', WrO U y σ H (s.put i (.bx d')) a d' := by
  obtain ⟨v, e, a, rfl, ha, c⟩ := S.slot g (by intro z; cases z)
  refine ⟨a, e, c, fun d' u cu c' => ?_⟩
  obtain ⟨u0, h0, k0⟩ := cnt_cont c
  have f := Fr.mut (w := some (.sl i)) (u := u) ha h0 k0.two S.trk
  rw [Ly.set_id ha] at f
  have x := Ext.mut (w := some (.sl i)) (u := u) ha (by intro z; exact z) h0 k0.two
  rw [Ly.set_id ha] at x
  refine ⟨x, ?_⟩
  have S' := S.chgS (i := i) (sv := .bx d') (v := .ref a) f (fun w hw => .inr (.inl (by rcases hw with h | h; exact h; cases h; rfl))) (fun _ => ⟨a, rfl, ha, cont_of f.tr c'⟩) (fun b hb => absurd hb (S.nolks (by rw [g]; intro e z; cases z) b)) (.inr fun e z => by cases z)
  rwa [set_id e] at S'
theorem mut_list {n : Nat} {ds : List D} (S : StR U y σ H s) (e : s.sto[n]? = some (.ls ds)) : ∃ a, y.A n = some a ∧ Cont U y H (fun u => H a = some u) (.lst ds) ∧ ∀ ds', WrO U y σ H { s with sto := s.sto.set n (.ls ds') } a (.lst ds') := by
  obtain ⟨a, xs, h1, h2, h3, h4⟩ := S.sto.lst e
  refine ⟨a, h1, ⟨xs, h3, h4⟩, fun ds' u cu c' => ?_⟩
  have f := Fr.mut (w := some (.st n)) (u := u) h2 h3 True.intro S.trk
  rw [Ly.set_id h2] at f
  have x := Ext.mut (w := some (.st n)) (u := u) h2 (by intro z; exact z) h3 True.intro
  rw [Ly.set_id h2] at x
  refine ⟨x, S.chgC (m := n) f (fun w hw => .inr (.inl (by rcases hw with h | h; exact h; cases h; rfl))) (by rw [List.getElem?_eq_some_iff] at e; exact e.1) ⟨a, h1, h2, ?_⟩ fun g b hb => ?_⟩
  · obtain ⟨zs, hz, hr⟩ := cont_of f.tr c'
    exact ⟨zs, hz, hr⟩
  · obtain ⟨_, _, _, _, _, _, _, c, fs, d, h, _⟩ := S.sto.lkf n g b hb
    rw [e] at h; cases h
theorem mut_fld {n f : Nat} {d : D} (S : StR U y σ H s) (g : s.fld n f = some (.bx d)) : ∃ a b C dx vs, y.A n = some b ∧ H b = some (.ins C dx vs) ∧ vs.lookup (U.fnm f) = some (.ref a) ∧ Cont U y H (fun u => H a = some u) d ∧ ∀ d', WrO U y σ H (s.setf n f (.bx d')) a d' := by
  obtain ⟨c, fs, b, dx, vs, v, e, g', h1, h2, h3, h4, h5, h6, a, rfl, ha, ct⟩ := S.fldv g
  refine ⟨a, b, _, dx, vs, h1, h3, h6, ct, fun d' u cu c' => ?_⟩
  obtain ⟨u0, h0, k0⟩ := cnt_cont ct
  have hab : b ≠ a := fun z => by rw [z, ha] at h2; cases h2
  have fr := Fr.mut (w := some (.fd n f)) (u := u) ha h0 k0.two S.trk
  rw [Ly.set_id ha] at fr
  have x := Ext.mut (w := some (.fd n f)) (u := u) ha (by intro z; exact z) h0 k0.two
  rw [Ly.set_id ha] at x
  refine ⟨x, ?_⟩
  have es : s.setf n f (.bx d') = { s with sto := s.sto.set n (.ins c (fp fs f (.bx d'))) } := by unfold St.setf; rw [e]
  rw [es]
  refine S.chgC (m := n) fr (fun w hw => .inr (.inr ⟨f, .inl (by rcases hw with h | h; exact h; cases h; rfl)⟩)) (by rw [List.getElem?_eq_some_iff] at e; exact e.1) ⟨b, h1, h2, dx, vs, by rw [upd_ne hab]; exact h3, fp_nd h4, ?_⟩ fun g b' hb => ?_
  · have k : SvR U y (upd H a u) (.fd n f) (.lkf n f) (.bx d') (.ref a) := ⟨a, rfl, ha, cont_of fr.tr c'⟩
    refine FdsR.chg fr.tr (fun g' p w ne hw hp => fr.own p w (fun z => ?_) hp) k h4 h6 h5
    have z : w = .fd n f := by rcases z with z | z; exact z; cases z; rfl
    rcases hw with rfl | rfl
    · cases z; exact ne rfl
    · cases z
  · obtain ⟨b2, C, dx2, vs2, k1, k2, k3, c2, fs2, d2, k4, k5⟩ := S.sto.lkf n g b' hb
    rw [e] at k4; cases k4
    rw [h1] at k1; cases k1
    rw [h3] at k2; cases k2
    have ne : g ≠ f := fun z => by subst z; rw [k5] at g'; cases g'
    exact ⟨b, _, dx, vs, h1, by rw [upd_ne hab]; exact h3, k3, c, _, d2, rfl, by rw [fg_fp_ne ne]; exact k5⟩
/-- a write through an operand -/
theorem mutO_snd {g : D → Option (D × D)} {x : OD} {r : D} {v : V} (h : mutO s x g = .ok r s') (S : StR U y σ H s) (o : ODR U H0 y H σ x v) :
    ∃ a d d', v = .ref a ∧ Cont U y H (fun u => H a = some u) d ∧ g d = some (d', r) ∧ WrO U y σ H s' a d' := by
  unfold mutO at h
  split at h
  · rename_i i
    have o : σ[i]? = some (some v) := o
    split at h
    · rename_i d e
      split at h
      · rename_i d' r' eg
        cases h
        obtain ⟨a, e1, c, W⟩ := mut_slot S e
        rw [o] at e1; cases e1
        exact ⟨a, d, d', rfl, c, eg, W d'⟩
      · cases h
    · rename_i n e
      split at h
      · rename_i ds es
        split at h
        · rename_i ds' r' eg
          cases h
          obtain ⟨a, e1, c, W⟩ := mut_list S es
          obtain ⟨v', e2, e3⟩ := S.slot e (by intro z; cases z)
          rw [o] at e2; cases e2
          have e3 : Rep U y H (.loc n) v := e3
          obtain ⟨a', rfl, e4⟩ := Rep.loc_.1 e3
          rw [e1] at e4; cases e4
          exact ⟨a, _, _, rfl, c, eg, W ds'⟩
        · cases h
      · cases h
    · cases h
  · rename_i n f
    obtain ⟨b, C, dx, vs, o1, o2, o3⟩ := o
    split at h
    · rename_i d e
      split at h
      · rename_i d' r' eg
        cases h
        obtain ⟨a, b', C', dx', vs', k1, k2, k3, c, W⟩ := mut_fld S e
        rw [o1] at k1; cases k1
        rw [o2] at k2; cases k2
        rw [o3] at k3; cases k3
        exact ⟨a, d, d', rfl, c, eg, W d'⟩
      · cases h
    · cases h
  · cases h
/-- a field of the instance n takes a frozen value, or a container that is just made -/
theorem StR.setfv {n f c : Nat} {fs : List (Nat × SV)} {d : D} {v : V} (S : StR U y σ H s) (e : s.sto[n]? = some (.ins c fs)) (r : Rep U y H d v) (nl : ∀ d, fg fs f ≠ some (.lk d)) :
    ∃ a dx vs, y.A n = some a ∧ H a = some (.ins (U.cls c) dx vs) ∧ vs.length = fs.length ∧ Ext false y H y (upd H a (.ins (U.cls c) dx (putF (U.fnm f) v vs))) ∧ StR U y σ (upd H a (.ins (U.cls c) dx (putF (U.fnm f) v vs))) (s.setf n f (.vl d)) := by
  obtain ⟨a, dx, vs, h1, h2, h3, h4, h5⟩ := S.sto.ins e
  have fr := Fr.mut (w := some (.st n)) (u := .ins (U.cls c) dx (putF (U.fnm f) v vs)) h2 h3 True.intro S.trk
  rw [Ly.set_id h2] at fr
  have x := Ext.mut (w := some (.st n)) (u := .ins (U.cls c) dx (putF (U.fnm f) v vs)) h2 (by intro z; exact z) h3 True.intro
  rw [Ly.set_id h2] at x
  refine ⟨a, dx, vs, h1, h3, h5.len, x, ?_⟩
  have es : s.setf n f (.vl d) = { s with sto := s.sto.set n (.ins c (fp fs f (.vl d))) } := by unfold St.setf; rw [e]
  rw [es]
  refine S.chgC (m := n) fr (fun w hw => .inr (.inl (by rcases hw with h | h; exact h; cases h; rfl))) (by rw [List.getElem?_eq_some_iff] at e; exact e.1) ⟨a, h1, h2, dx, _, upd_same, fp_nd h4, ?_⟩ fun g b hb => ?_
  · have k : SvR U y (upd H a (.ins (U.cls c) dx (putF (U.fnm f) v vs))) (.fd n f) (.lkf n f) (.vl d) v := Rep.tr fr.tr _ _ r
    refine FdsR.put k (h5.fr fr.tr fun g p w hw hp => fr.own p w (fun z => ?_) hp)
    have z : w = .st n := by rcases z with z | z; exact z; cases z; rfl
    rcases hw with rfl | rfl <;> cases z
  · obtain ⟨b2, C, dx2, vs2, k1, k2, k3, c2, fs2, d2, k4, k5⟩ := S.sto.lkf n g b hb
    rw [e] at k4; cases k4
    rw [h1] at k1; cases k1
    rw [h3] at k2; cases k2
    have ne : g ≠ f := fun z => by subst z; exact nl d2 k5
    refine ⟨a, _, dx, _, h1, upd_same, ?_, c, _, d2, rfl, by rw [fg_fp_ne ne]; exact k5⟩
    rw [lookup_putF, if_neg (fun z => ne (U.inj _ _ z))]; exact k3
theorem StR.setfb {n f c : Nat} {fs : List (Nat × SV)} {d : D} {v : V} (S : StR U y σ H s) (e0 : Ext q y0 H0 y H) (trk0 : ∀ a w, y0.own a = some w → H0 a ≠ none) (e : s.sto[n]? = some (.ins c fs)) (r : VR U H0 y H (d, true) v) (nl : ∀ d, fg fs f ≠ some (.lk d)) :
    ∃ a dx vs y', y.A n = some a ∧ H a = some (.ins (U.cls c) dx vs) ∧ vs.length = fs.length ∧ Ext false y0 H0 y' (upd H a (.ins (U.cls c) dx (putF (U.fnm f) v vs))) ∧ StR U y' σ (upd H a (.ins (U.cls c) dx (putF (U.fnm f) v vs))) (s.setf n f (.bx d)) := by
  obtain ⟨b, rfl, h0, hb, ct⟩ := r.to_new
  have f1 := Fr.reown (w := some (.fd n f)) hb (fun v z => by cases z; rintro (⟨_, z⟩ | ⟨_, _, z⟩) <;> cases z) S.trk
  have S1 := S.fr f1
  have x1 := e0.reown (w := some (.fd n f)) trk0 h0 (by rw [hb]; intro z; cases z)
  obtain ⟨a, dx, vs, h1, h2, h3, h4, h5⟩ := S1.sto.ins e
  have nb : b ≠ a := fun z => by subst z; rw [Ly.set_same] at h2; cases h2
  have fr := Fr.mut (w := some (.st n)) (u := .ins (U.cls c) dx (putF (U.fnm f) (.ref b) vs)) h2 h3 True.intro S1.trk
  rw [Ly.set_id h2] at fr
  have x := Ext.mut (w := some (.st n)) (u := .ins (U.cls c) dx (putF (U.fnm f) (.ref b) vs)) h2 (by intro z; exact z) h3 True.intro
  rw [Ly.set_id h2] at x
  refine ⟨a, dx, vs, y.set b (some (.fd n f)), h1, h3, h5.len, (x1.trans x).any, ?_⟩
  have es : s.setf n f (.bx d) = { s with sto := s.sto.set n (.ins c (fp fs f (.bx d))) } := by unfold St.setf; rw [e]
  rw [es]
  refine S1.chgC (m := n) fr (fun w hw => .inr (.inl (by rcases hw with h | h; exact h; cases h; rfl))) (by rw [List.getElem?_eq_some_iff] at e; exact e.1) ⟨a, h1, h2, dx, _, upd_same, fp_nd h4, ?_⟩ fun g b' hb' => ?_
  · have k : SvR U (y.set b (some (.fd n f))) (upd H a (.ins (U.cls c) dx (putF (U.fnm f) (.ref b) vs))) (.fd n f) (.lkf n f) (.bx d) (.ref b) :=
      ⟨b, rfl, Ly.set_same _ _ _, ((ct.tr f1.tr).tr fr.tr).imp fun u hu => by rw [upd_ne nb]; exact hu⟩
    refine FdsR.put k (h5.fr fr.tr fun g p w hw hp => fr.own p w (fun z => ?_) hp)
    have z : w = .st n := by rcases z with z | z; exact z; cases z; rfl
    rcases hw with rfl | rfl <;> cases z
  · obtain ⟨b2, C, dx2, vs2, k1, k2, k3, c2, fs2, d2, k4, k5⟩ := S1.sto.lkf n g b' hb'
    rw [e] at k4; cases k4
    rw [h1] at k1; cases k1
    rw [h3] at k2; cases k2
    have ne : g ≠ f := fun z => by subst z; exact nl d2 k5
    refine ⟨a, _, dx, _, h1, upd_same, ?_, c, _, d2, rfl, by rw [fg_fp_ne ne]; exact k5⟩
    rw [lookup_putF, if_neg (fun z => ne (U.inj _ _ z))]; exact k3

/-! ### a new cell -/
def Ly.cell (y : Ly) (n : Nat) (p : Addr) : Ly := { A := fun m => if m = n then some p else y.A m, own := (y.set p (some (.st n))).own }
theorem Ext.cell {p : Addr} {o : HO} (S : StoR U y H sto) (hp : H p = none) : Ext q y H (y.cell sto.length p) (upd H p o) := by
  have e := Ext.new (q := q) (o := o) S.trk hp (some (.st sto.length))
  refine ⟨⟨fun n a h => ?_, e.tr.fx, e.tr.fd, e.tr.tp⟩, e.ex, e.kt, e.q⟩
  show (if n = sto.length then some p else y.A n) = some a
  rw [if_neg]
  · exact h
  · intro z
    rw [S.top n (by omega)] at h
    cases h
theorem StR.cell {p : Addr} {o : HO} {c : Cell} (S : StR U y σ H s) (hp : H p = none) (hc : CellR U (y.cell s.sto.length p) (upd H p o) s.sto.length p c) : StR U (y.cell s.sto.length p) σ (upd H p o) { s with sto := s.sto ++ [c] } := by
  have e := Ext.cell (q := true) (o := o) S.sto hp
  have nw : ∀ a w, y.own a = some w → a ≠ p := fun a w e z => by rw [z] at e; exact S.trk _ _ e hp
  have ow : ∀ a w, y.own a = some w → (y.cell s.sto.length p).own a = some w ∧ upd H p o a = H a := fun a w h => by
    have n := nw a w h
    refine ⟨?_, by rw [upd_ne n]⟩
    show (y.set p _).own a = _
    rw [Ly.set_ne _ _ n]; exact h
  refine ⟨S.len, fun j hj => ?_, ⟨fun n c' h => ?_, fun n hn => ?_, fun a w h => ?_, tabs_upd S.sto.tab hp, fun n g a h => ?_⟩, fun j a h => ?_⟩
  · obtain ⟨o', e1, r⟩ := S.sl j hj
    refine ⟨o', e1, ?_⟩
    rcases r with r | ⟨w, e2, r⟩
    · exact .inl r
    · exact .inr ⟨w, e2, r.fr e.tr (fun a w => ow a _ w) (fun a w => ow a _ w)⟩
  · by_cases z : n < s.sto.length
    · have h : (s.sto ++ [c])[n]? = some c' := h
      rw [List.getElem?_append_left z] at h
      obtain ⟨a, h1, h2, h3⟩ := S.sto.cell n c' h
      obtain ⟨w', e'⟩ := ow a _ h2
      refine ⟨a, e.tr.A n a h1, w', ?_⟩
      cases c' with
      | ins c fs =>
        obtain ⟨dx, vs, p, nd, q⟩ := h3
        exact ⟨dx, vs, e'.trans p, nd, q.fr e.tr fun g a w _ hw => ow a w hw⟩
      | ls ds =>
        obtain ⟨xs, p, q⟩ := h3
        exact ⟨xs, e'.trans p, q.tr e.tr⟩
    · have h : (s.sto ++ [c])[n]? = some c' := h
      have z' : n = s.sto.length := by
        rw [List.getElem?_append_right (by omega)] at h
        have := List.getElem?_eq_some_iff.1 h
        obtain ⟨h9, _⟩ := this
        simp at h9
        omega
      subst z'
      simp at h
      subst h
      refine ⟨p, ?_, ?_, hc⟩
      · show (if _ then _ else _) = _
        rw [if_pos rfl]
      · show (y.set p _).own p = _
        rw [Ly.set_same]
  · have hn : s.sto.length + 1 ≤ n := by simpa using hn
    show (if _ then _ else _) = _
    rw [if_neg (by omega)]
    exact S.sto.top n (by omega)
  · by_cases z : a = p
    · rw [z, upd_same]; intro z; cases z
    · rw [upd_ne z]
      have h : (y.set p _).own a = some w := h
      rw [Ly.set_ne _ _ z] at h; exact S.trk a w h
  · have h : (y.set p _).own a = some _ := h
    have z : a ≠ p := fun z => by rw [z, Ly.set_same] at h; cases h
    rw [Ly.set_ne _ _ z] at h
    obtain ⟨b, C, dx, vs, h1, h2, h3, c, fs, d, h4, h5⟩ := S.sto.lkf n g a h
    have hn : n < s.sto.length := by rw [List.getElem?_eq_some_iff] at h4; exact h4.1
    refine ⟨b, C, dx, vs, e.tr.A n b h1, ?_, h3, c, fs, d, ?_, h5⟩
    · rw [upd_ne (ne_of_none h2 hp)]; exact h2
    · show (s.sto ++ _)[n]? = _
      rw [List.getElem?_append_left hn]; exact h4
  · have h : (y.set p _).own a = some _ := h
    have z : a ≠ p := fun z => by rw [z, Ly.set_same] at h; cases h
    rw [Ly.set_ne _ _ z] at h
    exact S.lks j a h

/-! ### calls: the frame steps back -/
def Frm : Ow → Bool
  | .sl _ | .lks _ | .nw => true
  | _ => false
def Ly.out (y : Ly) : Ly := { y with own := fun a => (y.own a).map fun w => if Frm w then .ex else w }
def Ly.back (y y1 : Ly) : Ly := { A := y1.A, own := fun a => if (y.own a).any Frm then y.own a else (y1.own a).map fun w => if Frm w && w != .nw then .ex else w }
theorem Ly.out_none {a : Addr} (h : y.own a = none) : y.out.own a = none := by simp [Ly.out, h]
theorem Ly.out_frm {a : Addr} {w : Ow} (h : y.own a = some w) (f : Frm w = true) : y.out.own a = some .ex := by simp [Ly.out, h, f]
theorem Ly.out_not {a : Addr} {w : Ow} (h : y.own a = some w) (f : Frm w = false) : y.out.own a = some w := by simp [Ly.out, h, f]
theorem Ly.back_frm {y1 : Ly} {a : Addr} {w : Ow} (h : y.own a = some w) (f : Frm w = true) : (y.back y1).own a = some w := by simp [Ly.back, h, f]
theorem tr_out : Tr y H y.out H := Tr.all (fun _ _ h => h) (fun _ _ h => h) fun a o h e => ⟨e, Ly.out_none h⟩
theorem StoR.out (h : StoR U y H sto) : StoR U y.out H sto := by
  refine h.fr (P := Loo) (fun _ h => h) ⟨tr_out, fun a w hw e => ⟨Ly.out_not e ?_, rfl⟩, fun a w e => ?_, fun n e => e, fun T t => t, fun a w hw hl e => ?_⟩
  · cases w <;> first | rfl | exact absurd True.intro hw
  · cases z : y.own a with
    | none => rw [Ly.out_none z] at e; cases e
    | some v => exact h.trk a v z
  · cases z : y.own a with
    | none => rw [Ly.out_none z] at e; cases e
    | some v =>
      cases f : Frm v with
      | true => rw [Ly.out_frm z f] at e; cases e; exact absurd True.intro hw
      | false => rw [Ly.out_not z f] at e; exact e
/-- behind a call -/
theorem call_back {y1 : Ly} {H1 : Hp} {sto1 : List Cell} (S : StR U y σ H s) (e : Ext false y.out H y1 H1) (S1 : StoR U y1 H1 sto1) :
    Ext false y H (y.back y1) H1 ∧ StR U (y.back y1) σ H1 { s with sto := sto1 } ∧ Tr y1 H1 (y.back y1) H1 ∧ ∀ p v, VR U H y1 H1 p v → VR U H (y.back y1) H1 p v := by
  have bn : ∀ a, y.own a = none → y1.own a = none → (y.back y1).own a = none := fun a h1 h2 => by simp [Ly.back, h1, h2]
  have b1 : ∀ a w, y1.own a = some w → w ≠ .ex → (Frm w = false ∨ w = .nw) → (y.back y1).own a = some w := fun a w h n f => by
    have hf : (y.own a).any Frm = false := by
      cases z : y.own a with
      | none => rfl
      | some v =>
        cases fv : Frm v with
        | false => simp [fv]
        | true =>
          obtain ⟨h2, _⟩ := e.ex a .ex True.intro (Ly.out_frm z fv)
          rw [h] at h2; cases h2; exact absurd rfl n
    unfold Ly.back
    simp only [hf, h, Option.map_some]
    rcases f with f | f
    · simp [f]
    · subst f; simp
  have b0 : ∀ a, y1.own a = none → (y.back y1).own a = none := fun a h => by
    have hf : (y.own a).any Frm = false := by
      cases z : y.own a with
      | none => rfl
      | some v =>
        cases fv : Frm v with
        | false => simp [fv]
        | true =>
          obtain ⟨h2, _⟩ := e.ex a .ex True.intro (Ly.out_frm z fv)
          rw [h] at h2; cases h2
    simp [Ly.back, hf, h]
  have t1 : Tr y1 H1 (y.back y1) H1 := Tr.all (fun _ _ h => h) (fun _ _ h => h) fun a o h z => ⟨z, b0 a h⟩
  have kf : ∀ a w, Frm w = true → y.own a = some w → (y.back y1).own a = some w ∧ H1 a = H a := fun a w f h => ⟨Ly.back_frm h f, (e.ex a .ex True.intro (Ly.out_frm h f)).2⟩
  have x : Ext false y H (y.back y1) H1 := by
    refine ⟨(tr_out.trans e.tr).trans t1, fun a w o h => ?_, e.kt, fun z => by cases z⟩
    cases f : Frm w with
    | true => exact kf a w f h
    | false =>
      obtain ⟨h2, h3⟩ := e.ex a w o (Ly.out_not h f)
      refine ⟨?_, h3⟩
      unfold Ly.back
      simp [h, f, h2]
  have fr : Fr Loo y1 H1 (y.back y1) H1 := by
    refine ⟨t1, fun a w hw h => ⟨b1 a w h (fun z => by subst z; exact hw True.intro) (.inl (by cases w <;> first | rfl | exact absurd True.intro hw)), rfl⟩, fun a w h => ?_, fun n h => h, fun T t => t, fun a w hw hl h => ?_⟩
    · unfold Ly.back at h
      simp only at h
      split at h
      · exact e.kt a (S.trk a w h)
      · cases z : y1.own a with
        | none => rw [z] at h; cases h
        | some v => exact S1.trk a v z
    · unfold Ly.back at h
      simp only at h
      split at h
      · rename_i z
        rw [h] at z
        simp at z
        exact absurd (by cases w <;> first | exact True.intro | cases z) hw
      · cases z : y1.own a with
        | none => rw [z] at h; cases h
        | some v =>
          rw [z] at h
          simp only [Option.map_some, Option.some.injEq] at h
          split at h
          · subst h; exact absurd True.intro hw
          · rw [h]
  refine ⟨x, ⟨S.len, fun j hj => ?_, S1.fr (fun _ h => h) fr, fun i a h => ?_⟩, t1, fun p v h => ?_⟩
  · obtain ⟨o', e1, r⟩ := S.sl j hj
    refine ⟨o', e1, ?_⟩
    rcases r with r | ⟨w, e2, r⟩
    · exact .inl r
    · exact .inr ⟨w, e2, r.fr x.tr (fun a w => kf a _ rfl w) (fun a w => kf a _ rfl w)⟩
  · unfold Ly.back at h
    simp only at h
    split at h
    · exact S.lks i a h
    · cases z : y1.own a with
      | none => rw [z] at h; cases h
      | some v =>
        rw [z] at h
        simp only [Option.map_some, Option.some.injEq] at h
        split at h
        · cases h
        · rename_i nf
          subst h
          exact absurd rfl nf
  · obtain ⟨d, f⟩ := p
    cases f with
    | false => exact VR.fz (Rep.tr t1 _ _ h.of_fz)
    | true =>
      obtain ⟨a, rfl, h0, w, c⟩ := h.to_new
      exact VR.of_new h0 (b1 a _ w (by intro z; cases z) (.inr rfl)) (c.tr t1)
end
end Pyl
set_option Elab.async false
set_option linter.all false
set_option maxRecDepth 100000
set_option maxHeartbeats 2000000
/-! SndData: D as the library's data. -/
namespace Pyl
open PySem PySem.Spec PyProof.Rows L2
mutual
def D.py : D → PyData
  | .bl b => .bool b
  | .int i => .int i
  | .str x => .str x
  | .tup ds => .tuple (D.pys ds)
  | .lst ds => .list (D.pys ds)
  | _ => .none
def D.pys : List D → List PyData
  | [] => []
  | d :: ds => D.py d :: D.pys ds
end
theorem D.pys_len : ∀ ds : List D, (D.pys ds).length = ds.length
  | [] => rfl
  | d :: ds => by simp [D.pys, D.pys_len ds]
theorem D.pys_map : ∀ ds : List D, D.pys ds = ds.map D.py
  | [] => rfl
  | d :: ds => by simp [D.pys, D.pys_map ds]
mutual
theorem py_plain : ∀ d : D, d.py.plain = true
  | .non => rfl
  | .bl _ => rfl
  | .int _ => rfl
  | .str _ => rfl
  | .tup ds => by rw [D.py, PyData.plain]; exact pys_plain ds
  | .lst ds => by rw [D.py, PyData.plain]; exact pys_plain ds
  | .kls _ => rfl
  | .ktp _ => rfl
  | .dct _ => rfl
  | .obj _ _ => rfl
  | .loc _ => rfl
theorem pys_plain : ∀ ds : List D, PyData.plainAll (D.pys ds) = true
  | [] => rfl
  | d :: ds => by rw [D.pys, PyData.plainAll, py_plain d, pys_plain ds]; rfl
end
mutual
theorem py_depth : ∀ d : D, d.py.depth = d.dep
  | .non => rfl
  | .bl _ => rfl
  | .int _ => rfl
  | .str _ => rfl
  | .tup ds => by rw [D.py, PyData.depth, D.dep, pys_depth ds]
  | .lst ds => by rw [D.py, PyData.depth, D.dep, pys_depth ds]
  | .kls _ => rfl
  | .ktp _ => rfl
  | .dct _ => rfl
  | .obj _ _ => rfl
  | .loc _ => rfl
theorem pys_depth : ∀ ds : List D, PyData.depthAll (D.pys ds) = D.deps ds
  | [] => rfl
  | d :: ds => by rw [D.pys, PyData.depthAll, D.deps, py_depth d, pys_depth ds]
end
mutual
theorem py_eqv : ∀ a b : D, a.pl = true → b.pl = true → PyData.eqv a.py b.py = D.eqv a b
  | .tup xs, .tup ys, ha, hb => by
    simp only [D.py, PyData.eqv, D.eqv]
    exact pys_eqv xs ys (by simpa only [D.pl] using ha) (by simpa only [D.pl] using hb)
  | .lst xs, .lst ys, ha, hb => by
    simp only [D.py, PyData.eqv, D.eqv]
    exact pys_eqv xs ys (by simpa only [D.pl] using ha) (by simpa only [D.pl] using hb)
  | .kls _, _, ha, _ => by cases ha
  | .ktp _, _, ha, _ => by cases ha
  | .dct _, _, ha, _ => by cases ha
  | .obj _ _, _, ha, _ => by cases ha
  | .loc _, _, ha, _ => by cases ha
  | _, .kls _, _, hb => by cases hb
  | _, .ktp _, _, hb => by cases hb
  | _, .dct _, _, hb => by cases hb
  | _, .obj _ _, _, hb => by cases hb
  | _, .loc _, _, hb => by cases hb
  | .non, .non, _, _ => rfl
  | .non, .bl _, _, _ => rfl
  | .non, .int _, _, _ => rfl
  | .non, .str _, _, _ => rfl
  | .non, .tup _, _, _ => rfl
  | .non, .lst _, _, _ => rfl
  | .bl _, .non, _, _ => rfl
  | .bl _, .bl _, _, _ => rfl
  | .bl _, .int _, _, _ => rfl
  | .bl _, .str _, _, _ => rfl
  | .bl _, .tup _, _, _ => rfl
  | .bl _, .lst _, _, _ => rfl
  | .int _, .non, _, _ => rfl
  | .int _, .bl _, _, _ => rfl
  | .int _, .int _, _, _ => rfl
  | .int _, .str _, _, _ => rfl
  | .int _, .tup _, _, _ => rfl
  | .int _, .lst _, _, _ => rfl
  | .str _, .non, _, _ => rfl
  | .str _, .bl _, _, _ => rfl
  | .str _, .int _, _, _ => rfl
  | .str _, .str _, _, _ => rfl
  | .str _, .tup _, _, _ => rfl
  | .str _, .lst _, _, _ => rfl
  | .tup _, .non, _, _ => rfl
  | .tup _, .bl _, _, _ => rfl
  | .tup _, .int _, _, _ => rfl
  | .tup _, .str _, _, _ => rfl
  | .tup _, .lst _, _, _ => rfl
  | .lst _, .non, _, _ => rfl
  | .lst _, .bl _, _, _ => rfl
  | .lst _, .int _, _, _ => rfl
  | .lst _, .str _, _, _ => rfl
  | .lst _, .tup _, _, _ => rfl
theorem pys_eqv : ∀ a b : List D, D.pls a = true → D.pls b = true → PyData.eqvAll (D.pys a) (D.pys b) = D.eqvs a b
  | [], [], _, _ => rfl
  | [], _ :: _, _, _ => rfl
  | _ :: _, [], _, _ => rfl
  | x :: xs, y :: ys, ha, hb => by
    simp only [D.pls, Bool.and_eq_true] at ha hb
    simp only [D.pys, PyData.eqvAll, D.eqvs]
    rw [py_eqv x y ha.1 hb.1, pys_eqv xs ys ha.2 hb.2]
end
section
variable {U : Uni} {y : Ly} {H : Hp}
theorem sqT_of {a : Addr} {xs : List V} (h : H a = some (.tup xs)) : SqT U.K H a xs := .of h
theorem sqT_ofK {a : Addr} {xs : List V} (h : KTup U.K a xs) : SqT U.K H a xs := .inr h
theorem sqL_of {a : Addr} {xs : List V} (h : (y.own a = none ∧ ∃ o, H a = some (.frz o (.lst xs))) ∨ KLst U.K a xs) : SqL U.K H a xs := by
  rcases h with ⟨_, o, h⟩ | ⟨o, its, n, h⟩
  · exact .inl (.inr ⟨o, h⟩)
  · exact .inr ⟨o, its, n, h⟩
mutual
theorem Rep.dp : ∀ (d : D) (v : V), d.pl = true → Rep U y H d v → Dp U.K H v d.py
  | .non, v, _, h => by rw [Rep.non_] at h; subst h; exact .non
  | .bl _, v, _, h => by rw [Rep.bl_] at h; subst h; exact .bl _
  | .int _, v, _, h => by rw [Rep.int_] at h; subst h; exact .int _
  | .str _, v, _, h => by rw [Rep.str_] at h; subst h; exact .str _
  | .tup ds, v, p, h => by
    obtain ⟨a, xs, rfl, h1, h2⟩ := Rep.tup_.1 h
    rw [D.py]
    exact .tup (sqT_of h1) (Reps.dp ds xs (by simpa only [D.pl] using p) h2)
  | .lst ds, v, p, h => by
    obtain ⟨a, xs, rfl, ⟨_, h1⟩, h2⟩ := Rep.lst_.1 h
    rw [D.py]
    exact .lst (.of h1) (Reps.dp ds xs (by simpa only [D.pl] using p) h2)
  | .kls _, _, p, _ => by cases p
  | .ktp _, _, p, _ => by cases p
  | .dct _, _, p, _ => by cases p
  | .obj _ _, _, p, _ => by cases p
  | .loc _, _, p, _ => by cases p
theorem Reps.dp : ∀ (ds : List D) (vs : List V), D.pls ds = true → Reps U y H ds vs → DpAll U.K H vs (D.pys ds)
  | [], vs, _, h => by rw [Reps.nil_] at h; subst h; exact .nil
  | d :: ds, vs, p, h => by
    obtain ⟨v, r, rfl, h1, h2⟩ := Reps.cons_.1 h
    simp only [D.pls, Bool.and_eq_true] at p
    exact .cons (Rep.dp d v p.1 h1) (Reps.dp ds r p.2 h2)
end
theorem PV.dp {d : D} {v : V} (p : d.pl = true) (h : PV U y H d v) : Dp U.K H v d.py := by
  cases d with
  | lst ds =>
    obtain ⟨a, xs, rfl, h1, h2⟩ := h
    rw [D.py]
    exact .lst (.of h1) (Reps.dp ds xs (by simpa only [D.pl] using p) h2)
  | dct kvs => cases p
  | _ => exact Rep.dp (U := U) (y := y) (H := H) _ v p h
end
/-! ### order -/
open PySem.W in
mutual
theorem alk_alike : ∀ a b : D, D.alk a b = true → alike a.py b.py = true
  | .int _, .int _, _ => rfl
  | .str _, .str _, _ => rfl
  | .tup xs, .tup ys, h => by
    simp only [D.py, alike]
    exact alks_alike xs ys (by simpa only [D.alk] using h)
  | .lst xs, .lst ys, h => by
    simp only [D.py, alike]
    exact alks_alike xs ys (by simpa only [D.alk] using h)
  | .non, _, h => by simp [D.alk] at h
  | .bl _, _, h => by simp [D.alk] at h
  | .kls _, _, h => by simp [D.alk] at h
  | .ktp _, _, h => by simp [D.alk] at h
  | .dct _, _, h => by simp [D.alk] at h
  | .obj _ _, _, h => by simp [D.alk] at h
  | .loc _, _, h => by simp [D.alk] at h
  | .int _, .non, h => by simp [D.alk] at h
  | .int _, .bl _, h => by simp [D.alk] at h
  | .int _, .str _, h => by simp [D.alk] at h
  | .int _, .tup _, h => by simp [D.alk] at h
  | .int _, .lst _, h => by simp [D.alk] at h
  | .int _, .kls _, h => by simp [D.alk] at h
  | .int _, .ktp _, h => by simp [D.alk] at h
  | .int _, .dct _, h => by simp [D.alk] at h
  | .int _, .obj _ _, h => by simp [D.alk] at h
  | .int _, .loc _, h => by simp [D.alk] at h
  | .str _, .non, h => by simp [D.alk] at h
  | .str _, .bl _, h => by simp [D.alk] at h
  | .str _, .int _, h => by simp [D.alk] at h
  | .str _, .tup _, h => by simp [D.alk] at h
  | .str _, .lst _, h => by simp [D.alk] at h
  | .str _, .kls _, h => by simp [D.alk] at h
  | .str _, .ktp _, h => by simp [D.alk] at h
  | .str _, .dct _, h => by simp [D.alk] at h
  | .str _, .obj _ _, h => by simp [D.alk] at h
  | .str _, .loc _, h => by simp [D.alk] at h
  | .tup _, .non, h => by simp [D.alk] at h
  | .tup _, .bl _, h => by simp [D.alk] at h
  | .tup _, .int _, h => by simp [D.alk] at h
  | .tup _, .str _, h => by simp [D.alk] at h
  | .tup _, .lst _, h => by simp [D.alk] at h
  | .tup _, .kls _, h => by simp [D.alk] at h
  | .tup _, .ktp _, h => by simp [D.alk] at h
  | .tup _, .dct _, h => by simp [D.alk] at h
  | .tup _, .obj _ _, h => by simp [D.alk] at h
  | .tup _, .loc _, h => by simp [D.alk] at h
  | .lst _, .non, h => by simp [D.alk] at h
  | .lst _, .bl _, h => by simp [D.alk] at h
  | .lst _, .int _, h => by simp [D.alk] at h
  | .lst _, .str _, h => by simp [D.alk] at h
  | .lst _, .tup _, h => by simp [D.alk] at h
  | .lst _, .kls _, h => by simp [D.alk] at h
  | .lst _, .ktp _, h => by simp [D.alk] at h
  | .lst _, .dct _, h => by simp [D.alk] at h
  | .lst _, .obj _ _, h => by simp [D.alk] at h
  | .lst _, .loc _, h => by simp [D.alk] at h
theorem alks_alike : ∀ a b : List D, D.alks a b = true → alikeAll (D.pys a) (D.pys b) = true
  | [], _, _ => by simp [D.pys, alikeAll]
  | _ :: _, [], _ => by simp [D.pys, alikeAll]
  | x :: xs, y :: ys, h => by
    simp only [D.alks, Bool.and_eq_true] at h
    simp only [D.pys, alikeAll, alk_alike x y h.1, alks_alike xs ys h.2, Bool.and_self]
end
mutual
theorem alk_eqv : ∀ a b : D, D.alk a b = true → PyData.eqv a.py b.py = D.eqv a b
  | .int _, .int _, _ => rfl
  | .str _, .str _, _ => rfl
  | .tup xs, .tup ys, h => by
    simp only [D.py, PyData.eqv, D.eqv]
    exact alks_eqv xs ys (by simpa only [D.alk] using h)
  | .lst xs, .lst ys, h => by
    simp only [D.py, PyData.eqv, D.eqv]
    exact alks_eqv xs ys (by simpa only [D.alk] using h)
  | .non, _, h => by simp [D.alk] at h
  | .bl _, _, h => by simp [D.alk] at h
  | .kls _, _, h => by simp [D.alk] at h
  | .ktp _, _, h => by simp [D.alk] at h
  | .dct _, _, h => by simp [D.alk] at h
  | .obj _ _, _, h => by simp [D.alk] at h
  | .loc _, _, h => by simp [D.alk] at h
  | .int _, .non, h => by simp [D.alk] at h
  | .int _, .bl _, h => by simp [D.alk] at h
  | .int _, .str _, h => by simp [D.alk] at h
  | .int _, .tup _, h => by simp [D.alk] at h
  | .int _, .lst _, h => by simp [D.alk] at h
  | .int _, .kls _, h => by simp [D.alk] at h
  | .int _, .ktp _, h => by simp [D.alk] at h
  | .int _, .dct _, h => by simp [D.alk] at h
  | .int _, .obj _ _, h => by simp [D.alk] at h
  | .int _, .loc _, h => by simp [D.alk] at h
  | .str _, .non, h => by simp [D.alk] at h
  | .str _, .bl _, h => by simp [D.alk] at h
  | .str _, .int _, h => by simp [D.alk] at h
  | .str _, .tup _, h => by simp [D.alk] at h
  | .str _, .lst _, h => by simp [D.alk] at h
  | .str _, .kls _, h => by simp [D.alk] at h
  | .str _, .ktp _, h => by simp [D.alk] at h
  | .str _, .dct _, h => by simp [D.alk] at h
  | .str _, .obj _ _, h => by simp [D.alk] at h
  | .str _, .loc _, h => by simp [D.alk] at h
  | .tup _, .non, h => by simp [D.alk] at h
  | .tup _, .bl _, h => by simp [D.alk] at h
  | .tup _, .int _, h => by simp [D.alk] at h
  | .tup _, .str _, h => by simp [D.alk] at h
  | .tup _, .lst _, h => by simp [D.alk] at h
  | .tup _, .kls _, h => by simp [D.alk] at h
  | .tup _, .ktp _, h => by simp [D.alk] at h
  | .tup _, .dct _, h => by simp [D.alk] at h
  | .tup _, .obj _ _, h => by simp [D.alk] at h
  | .tup _, .loc _, h => by simp [D.alk] at h
  | .lst _, .non, h => by simp [D.alk] at h
  | .lst _, .bl _, h => by simp [D.alk] at h
  | .lst _, .int _, h => by simp [D.alk] at h
  | .lst _, .str _, h => by simp [D.alk] at h
  | .lst _, .tup _, h => by simp [D.alk] at h
  | .lst _, .kls _, h => by simp [D.alk] at h
  | .lst _, .ktp _, h => by simp [D.alk] at h
  | .lst _, .dct _, h => by simp [D.alk] at h
  | .lst _, .obj _ _, h => by simp [D.alk] at h
  | .lst _, .loc _, h => by simp [D.alk] at h
theorem alks_eqv : ∀ a b : List D, D.alks a b = true → PyData.eqvAll (D.pys a) (D.pys b) = D.eqvs a b
  | [], [], _ => rfl
  | [], _ :: _, _ => rfl
  | _ :: _, [], _ => rfl
  | x :: xs, y :: ys, h => by
    simp only [D.alks, Bool.and_eq_true] at h
    simp only [D.pys, PyData.eqvAll, D.eqvs]
    rw [alk_eqv x y h.1, alks_eqv xs ys h.2]
end
open PySem.W in
mutual
theorem alk_lt : ∀ a b : D, D.alk a b = true → dataLt a.py b.py = D.lt a b
  | .int a, .int b, _ => by simp only [D.py, D.lt]; exact dataLt_int a b
  | .str a, .str b, _ => by simp only [D.py, D.lt]; exact dataLt_str a b
  | .tup xs, .tup ys, h => by
    simp only [D.py, D.lt, dataLt_tuple]
    exact alks_lt xs ys (by simpa only [D.alk] using h)
  | .lst xs, .lst ys, h => by
    simp only [D.py, D.lt, dataLt_list]
    exact alks_lt xs ys (by simpa only [D.alk] using h)
  | .non, _, h => by simp [D.alk] at h
  | .bl _, _, h => by simp [D.alk] at h
  | .kls _, _, h => by simp [D.alk] at h
  | .ktp _, _, h => by simp [D.alk] at h
  | .dct _, _, h => by simp [D.alk] at h
  | .obj _ _, _, h => by simp [D.alk] at h
  | .loc _, _, h => by simp [D.alk] at h
  | .int _, .non, h => by simp [D.alk] at h
  | .int _, .bl _, h => by simp [D.alk] at h
  | .int _, .str _, h => by simp [D.alk] at h
  | .int _, .tup _, h => by simp [D.alk] at h
  | .int _, .lst _, h => by simp [D.alk] at h
  | .int _, .kls _, h => by simp [D.alk] at h
  | .int _, .ktp _, h => by simp [D.alk] at h
  | .int _, .dct _, h => by simp [D.alk] at h
  | .int _, .obj _ _, h => by simp [D.alk] at h
  | .int _, .loc _, h => by simp [D.alk] at h
  | .str _, .non, h => by simp [D.alk] at h
  | .str _, .bl _, h => by simp [D.alk] at h
  | .str _, .int _, h => by simp [D.alk] at h
  | .str _, .tup _, h => by simp [D.alk] at h
  | .str _, .lst _, h => by simp [D.alk] at h
  | .str _, .kls _, h => by simp [D.alk] at h
  | .str _, .ktp _, h => by simp [D.alk] at h
  | .str _, .dct _, h => by simp [D.alk] at h
  | .str _, .obj _ _, h => by simp [D.alk] at h
  | .str _, .loc _, h => by simp [D.alk] at h
  | .tup _, .non, h => by simp [D.alk] at h
  | .tup _, .bl _, h => by simp [D.alk] at h
  | .tup _, .int _, h => by simp [D.alk] at h
  | .tup _, .str _, h => by simp [D.alk] at h
  | .tup _, .lst _, h => by simp [D.alk] at h
  | .tup _, .kls _, h => by simp [D.alk] at h
  | .tup _, .ktp _, h => by simp [D.alk] at h
  | .tup _, .dct _, h => by simp [D.alk] at h
  | .tup _, .obj _ _, h => by simp [D.alk] at h
  | .tup _, .loc _, h => by simp [D.alk] at h
  | .lst _, .non, h => by simp [D.alk] at h
  | .lst _, .bl _, h => by simp [D.alk] at h
  | .lst _, .int _, h => by simp [D.alk] at h
  | .lst _, .str _, h => by simp [D.alk] at h
  | .lst _, .tup _, h => by simp [D.alk] at h
  | .lst _, .kls _, h => by simp [D.alk] at h
  | .lst _, .ktp _, h => by simp [D.alk] at h
  | .lst _, .dct _, h => by simp [D.alk] at h
  | .lst _, .obj _ _, h => by simp [D.alk] at h
  | .lst _, .loc _, h => by simp [D.alk] at h
theorem alks_lt : ∀ a b : List D, D.alks a b = true → PyProof.Rows.lexLt itemOrd (keyToksAll (D.pys a)) (keyToksAll (D.pys b)) = D.lts a b
  | [], [], _ => by simp [D.pys, keyToksAll, D.lts, PyProof.Rows.lexLt]; decide
  | [], y :: ys, _ => by
    simp only [D.pys, keyToksAll, D.lts]
    have := lex_atom (p := Sum.inl 0) (q := Sum.inl 1) (by decide) [] (keyToks y.py ++ keyToksAll (D.pys ys))
    rw [this]; decide
  | x :: xs, [], _ => by
    simp only [D.pys, keyToksAll, D.lts]
    have := lex_atom (p := Sum.inl 1) (q := Sum.inl 0) (by decide) (keyToks x.py ++ keyToksAll (D.pys xs)) []
    rw [this]; decide
  | x :: xs, y :: ys, h => by
    simp only [D.alks, Bool.and_eq_true] at h
    simp only [D.pys, D.lts]
    cases e : D.eqv x y with
    | true =>
      rw [dataLt_all_yes (alk_alike x y h.1) (by rw [alk_eqv x y h.1, e]), alks_lt xs ys h.2]; rfl
    | false =>
      rw [dataLt_all_no (alk_alike x y h.1) (by rw [alk_eqv x y h.1, e]), alk_lt x y h.1]; rfl
end
end Pyl
set_option Elab.async false
set_option linter.all false
set_option maxRecDepth 100000
set_option maxHeartbeats 2000000
/-! SndOps: operations by values. -/
namespace Pyl
open PySem PySem.Spec PyProof.Rows L2
abbrev Trk (y : Ly) (H : Hp) : Prop := ∀ a w, y.own a = some w → H a ≠ none
/-- a value has come: an old one, or one just made -/
def NewQ (U : Uni) (y : Ly) (H : Hp) (r : D × Bool) (Q : VK) : Prop := ∀ y' H' v, Ext true y H y' H' → Fr1 y H y' H' → VR U H y' H' r v → Q v H'
section
variable {U : Uni} {y : Ly} {H : Hp} {Q : VK} {d e : D} {v : V} {X : Cx}
theorem lim_line : LIM ≤ sizeLine := by decide
theorem NewQ.rep (t : Trk y H) (hr : Rep U y H d v) (h : NewQ U y H (d, false) Q) : Q v H := h y H v (Ext.refl _ _ _) (Fr.refl t) (VR.fz hr)
theorem NewQ.int {i : Int} (t : Trk y H) (h : NewQ U y H (.int i, false) Q) : Q (.int i) H := h.rep t (Rep.int_.2 rfl)
theorem NewQ.str {i : Str} (t : Trk y H) (h : NewQ U y H (.str i, false) Q) : Q (.str i) H := h.rep t (Rep.str_.2 rfl)
theorem NewQ.bl {i : Bool} (t : Trk y H) (h : NewQ U y H (.bl i, false) Q) : Q (.bl i) H := h.rep t (Rep.bl_.2 rfl)
theorem NewQ.non (t : Trk y H) (h : NewQ U y H (.non, false) Q) : Q .non H := h.rep t (Rep.non_.2 rfl)
theorem NewQ.lst {ds : List D} {xs : List V} (t : Trk y H) (hr : Reps U y H ds xs) (h : NewQ U y H (.lst ds, true) Q) {p : Addr} (hp : H p = none) : Q (.ref p) (upd H p (.lst xs)) :=
  have e := Ext.new (q := true) (o := .lst xs) t hp (some .nw)
  h _ _ _ e (Fr1.new t hp _ (.inr (.inl rfl))) (VR.of_new hp (Ly.set_same _ _ _) ⟨xs, upd_same, hr.tr e.tr⟩)
theorem NewQ.tup {ds : List D} {xs : List V} (t : Trk y H) (hr : Reps U y H ds xs) (h : NewQ U y H (.tup ds, false) Q) {p : Addr} (hp : H p = none) : Q (.ref p) (upd H p (.tup xs)) :=
  have e := Ext.new (q := true) (o := .tup xs) t hp none
  h _ _ _ e (Fr1.new t hp _ (.inl rfl)) (VR.fz (Rep.tup_.2 ⟨p, xs, rfl, upd_same, hr.tr e.tr⟩))
theorem NewQ.dct {kvs : List (Ky × D)} {vs : List V} {u : HO} (t : Trk y H) (hu : DctC (fun w => w = u) (kvs.map (·.1)) vs) (hr : Repk U y H kvs vs) (h : NewQ U y H (.dct kvs, true) Q) {p : Addr} (hp : H p = none) : Q (.ref p) (upd H p u) :=
  have e := Ext.new (q := true) (o := u) t hp (some .nw)
  h _ _ _ e (Fr1.new t hp _ (.inr (.inl rfl))) (VR.of_new hp (Ly.set_same _ _ _) ⟨vs, hu.imp fun w hw => by rw [hw]; exact upd_same, hr.tr e.tr⟩)
/-- parts of what v shows -/
theorem PV.int {i : Int} (h : PV U y H (.int i) v) : v = .int i := by
  have h : Rep U y H (.int i) v := h
  exact Rep.int_.1 h
theorem PV.str {i : Str} (h : PV U y H (.str i) v) : v = .str i := by
  have h : Rep U y H (.str i) v := h
  exact Rep.str_.1 h
theorem PV.bl {i : Bool} (h : PV U y H (.bl i) v) : v = .bl i := by
  have h : Rep U y H (.bl i) v := h
  exact Rep.bl_.1 h
theorem PV.non (h : PV U y H .non v) : v = .non := by
  have h : Rep U y H .non v := h
  exact Rep.non_.1 h
theorem PV.lst {ds : List D} (h : PV U y H (.lst ds) v) : ∃ a xs, v = .ref a ∧ H a = some (.lst xs) ∧ Reps U y H ds xs := h
theorem PV.tup {ds : List D} (h : PV U y H (.tup ds) v) : ∃ a xs, v = .ref a ∧ SqT U.K H a xs ∧ Reps U y H ds xs := by
  have h : Rep U y H (.tup ds) v := h
  obtain ⟨a, xs, e, h1, h2⟩ := Rep.tup_.1 h
  exact ⟨a, xs, e, sqT_of h1, h2⟩
theorem PV.ktp {ds : List D} (h : PV U y H (.ktp ds) v) : ∃ a xs, v = .ref a ∧ SqT U.K H a xs ∧ Reps U y H ds xs := by
  have h : Rep U y H (.ktp ds) v := h
  obtain ⟨a, xs, e, h1, h2⟩ := Rep.ktp_.1 h
  exact ⟨a, xs, e, sqT_ofK h1, h2⟩
theorem PV.kls {ds : List D} (h : PV U y H (.kls ds) v) : ∃ a xs, v = .ref a ∧ SqL U.K H a xs ∧ Reps U y H ds xs := by
  have h : Rep U y H (.kls ds) v := h
  obtain ⟨a, xs, e, h1, h2⟩ := Rep.kls_.1 h
  exact ⟨a, xs, e, sqL_of h1, h2⟩
theorem PV.dct {kvs : List (Ky × D)} (h : PV U y H (.dct kvs) v) : ∃ a vs, v = .ref a ∧ DctC (Rd H a) (kvs.map (·.1)) vs ∧ Repk U y H kvs vs := h
/-! ### two-place operators -/
def Op.m : Op → Operator
  | .add => .Add | .sub => .Sub | .mul => .Mult | .fdv => .FloorDiv | .mod => .Mod | .pow => .Pow
theorem op_mulStr : OpR X (binaryOp .Mult) (fun x y H Q => ∃ (z : Str) (n : Int), x = .str z ∧ y = .int n ∧ MulOk z n ∧ Q (.str (Txt.mul z n)) H) := by
  intro pins s σ H x y v u Q I rx ry h
  obtain ⟨z, n, rfl, rfl, ok, q⟩ := h
  obtain ⟨t, rfl⟩ := rx
  obtain ⟨t2, rfl⟩ := ry
  exact SB.mul ok fun t' k => ⟨.str _, H, I.tok k, ⟨_, rfl⟩, q⟩
theorem txt_mul (x : Str) (n : Int) : Txt.mul x n = strMul x n := by
  unfold Txt.mul strMul
  by_cases h : n < 1
  · rw [if_pos h]
    have : n.toNat = 0 := by omega
    rw [this]; rfl
  · rw [if_neg h]
    by_cases h2 : (n == 1 || x.length == 0) = true
    · rw [if_pos h2]
      simp only [Bool.or_eq_true, beq_iff_eq] at h2
      rcases h2 with h2 | h2
      · subst h2
        show x = _
        simp
      · have : x.cps.toList = [] := by
          have : x.cps.size = 0 := h2
          have := Array.eq_empty_of_size_eq_zero this
          rw [this]
        rw [this]
        have e : (List.replicate n.toNat ([] : List Nat)).flatten = [] := by simp
        rw [e]
        obtain ⟨c⟩ := x
        have : c = #[] := Array.eq_empty_of_size_eq_zero h2
        rw [this]
    · rw [if_neg h2]
      congr 1
      have := foldl_repA x.cps n.toNat #[]
      rw [this]
      simp
where
  foldl_repA (x : Array Nat) : ∀ (n : Nat) (a : Array Nat), (List.replicate n x).foldl (· ++ ·) a = a ++ ((List.replicate n x.toList).flatten).toArray
    | 0, a => by simp
    | n + 1, a => by
      rw [List.replicate_succ, List.foldl_cons, foldl_repA x n, List.replicate_succ, List.flatten_cons]
      apply Array.ext'
      simp
theorem mulOk_of {x : Str} {n : Int} (h1 : n ≤ LIM) (h2 : x.length * n.toNat ≤ LIM) (h0 : -LIM ≤ n) : MulOk x n := by
  have l : (LIM : Int) = 1000000 := rfl
  have l' : LIM = 1000000 := rfl
  refine ⟨?_, fun hn _ => ?_, fun hn _ => ?_⟩
  · simp; omega
  · have h3 : (x.length : Int) ≤ LIM := by
      have : x.length * 1 ≤ x.length * n.toNat := Nat.mul_le_mul_left _ (by omega)
      omega
    have h4 : (x.length : Int) ≤ (2 ^ 63 - 1) / n := by
      apply (Int.le_ediv_iff_mul_le (by omega)).2
      have : (x.length : Int) * n ≤ LIM := by
        have e : n = (n.toNat : Int) := by omega
        rw [e]
        exact_mod_cast h2
      omega
    omega
  · show decide _ = false
    simp only [decide_eq_false_iff_not]
    have : LIM ≤ sizeLine := lim_line
    omega
theorem op_bin (hK : U.K = X.K) (op : Op) : OpR X (binaryOp op.m) (fun x y' H Q => ∃ y d e r, Trk y H ∧ PV U y H d x ∧ PV U y H e y' ∧ binop op d e = some r ∧ NewQ U y H r Q) := by
  intro pins s σ H x x' v u Q I rx ry h
  obtain ⟨y, d, e, r, t, pd, pe, hr, q⟩ := h
  unfold binop at hr
  split at hr
  · cases hr; exact op_add pins s σ H _ _ v u Q I rx ry ⟨_, _, pd.int, pe.int, q.int t⟩
  · split at hr
    · rename_i hl
      cases hr; exact op_add_str pins s σ H _ _ v u Q I rx ry ⟨_, _, pd.str, pe.str, Nat.le_trans hl lim_line, q.str t⟩
    · cases hr
  · split at hr
    · rename_i hl
      cases hr
      obtain ⟨a, xs, rfl, h1, h2⟩ := pd.tup
      obtain ⟨b, ys, rfl, h3, h4⟩ := pe.tup
      rw [hK] at h1 h3
      rw [← h2.length, ← h4.length] at hl
      refine op_catA pins s σ H _ _ v u Q I rx ry ⟨a, b, xs, ys, rfl, rfl, h1, h3, Nat.le_trans hl lim_line, fun z => ?_, fun _ z => ?_, fun _ _ p hp => q.tup t (h2.app h4) hp⟩
      · subst z
        obtain rfl := List.length_eq_zero_iff.1 h2.length.symm
        exact q.rep t pe
      · subst z
        obtain rfl := List.length_eq_zero_iff.1 h4.length.symm
        rw [List.append_nil] at q
        exact q.rep t pd
    · cases hr
  · split at hr
    · rename_i hl
      cases hr
      obtain ⟨a, xs, rfl, h1, h2⟩ := pd.lst
      obtain ⟨b, ys, rfl, h3, h4⟩ := pe.lst
      rw [← h2.length, ← h4.length] at hl
      exact op_cat pins s σ H _ _ v u Q I rx ry ⟨a, b, xs, ys, rfl, rfl, h1, h3, Nat.le_trans hl lim_line, fun p hp => q.lst t (h2.app h4) hp⟩
    · cases hr
  · cases hr; exact op_sub pins s σ H _ _ v u Q I rx ry ⟨_, _, pd.int, pe.int, q.int t⟩
  · split at hr
    · rename_i hl
      cases hr; exact op_mul pins s σ H _ _ v u Q I rx ry ⟨_, _, pd.int, pe.int, hl, q.int t⟩
    · cases hr
  · split at hr
    · rename_i hl
      cases hr
      refine op_mulStr pins s σ H _ _ v u Q I rx ry ⟨_, _, pd.str, pe.int, mulOk_of hl.2.1 hl.2.2 hl.1, ?_⟩
      rw [txt_mul]; exact q.str t
    · cases hr
  · split at hr
    · rename_i hl
      cases hr
      obtain ⟨a, xs, rfl, h1, h2⟩ := pd.lst
      have l : (LIM : Int) = 1000000 := rfl
      refine op_rep pins s σ H _ _ v u Q I rx ry ⟨a, _, xs, rfl, pe.int, h1, by omega, by omega, by rw [h2.length]; exact Nat.le_trans hl.2.2 lim_line, fun p hp => q.lst t (h2.rep _) hp⟩
    · cases hr
  · split at hr
    · rename_i hl
      cases hr; exact op_fdivN pins s σ H _ _ v u Q I rx ry ⟨_, _, pd.int, pe.int, hl, q.int t⟩
    · cases hr
  · split at hr
    · rename_i hl
      cases hr; exact op_modN pins s σ H _ _ v u Q I rx ry ⟨_, _, pd.int, pe.int, hl, q.int t⟩
    · cases hr
  · split at hr
    · rename_i hl
      cases hr; exact op_pow pins s σ H _ _ v u Q I rx ry ⟨_, _, pd.int, pe.int, ⟨hl.1, by omega, by omega⟩, q.int t⟩
    · cases hr
  · cases hr
end
end Pyl
set_option Elab.async false
set_option linter.all false
set_option maxRecDepth 100000
set_option maxHeartbeats 2000000
/-! SndOps2: comparisons, places, slices, built-in functions by values. -/
namespace Pyl
open PySem PySem.Spec PyProof.Rows L2
section
variable {U : Uni} {y : Ly} {H : Hp} {Q : VK} {d e : D} {v : V} {X : Cx}
def Cm.m : Cm → CmpOp
  | .eq => .Eq | .ne => .NotEq | .lt => .Lt | .le => .LtE | .gt => .Gt | .ge => .GtE | .mem => .In | .nmem => .NotIn
/-- keys -/
theorem k1s_reps : ∀ {ds : List D} {ks : List K1} {xs : List V}, k1s ds = some ks → Reps U y H ds xs → xs = ks.map kV
  | [], ks, xs, h, r => by
    rw [Reps.nil_] at r
    simp [k1s] at h; subst h; subst r; rfl
  | d :: ds, ks, xs, h, r => by
    obtain ⟨v, r', rfl, h1, h2⟩ := Reps.cons_.1 r
    unfold k1s at h
    split at h
    · rename_i k ks' e1 e2
      cases h
      rw [k1s_reps e2 h2, List.map_cons]
      congr 1
      unfold D.k1 at e1
      split at e1
      · cases e1; exact Rep.int_.1 h1
      · cases e1; exact Rep.str_.1 h1
      · cases e1
    · cases h
/-- a key's value -/
def KyV (H : Hp) (k : Ky) (v : V) : Prop := match k with
  | .inl k => v = kV k
  | .inr ks => ∃ b, v = .ref b ∧ H b = some (.tup (ks.map kV))
theorem ky_rep {k : Ky} (hk : d.ky = some k) (h : Rep U y H d v) : KyV H k v := by
  unfold D.ky at hk
  split at hk
  · cases hk; exact Rep.int_.1 h
  · cases hk; exact Rep.str_.1 h
  · split at hk
    · rename_i ds ks e
      cases hk
      obtain ⟨a, xs, rfl, h1, h2⟩ := Rep.tup_.1 h
      have := k1s_reps e h2
      subst this
      exact ⟨a, rfl, h1⟩
    · cases hk
  · cases hk
theorem ky_pv {k : Ky} (hk : d.ky = some k) (h : PV U y H d v) : KyV H k v ∧ Rep U y H d v := by
  have r : Rep U y H d v := by
    cases d with
    | lst ds => cases hk
    | dct kvs => cases hk
    | _ => exact h
  exact ⟨ky_rep hk r, r⟩
/-- what a dict's table says -/
theorem find_map {α β : Type} [DecidableEq α] (f : β → α) : True := True.intro
theorem kGet_valV {κ : Type} [DecidableEq κ] (j : κ → Ky) (hj : ∀ a b, j a = j b ↔ a = b) : ∀ {kvs : List (Ky × D)} {kk : List (κ × V)} (k : κ), kvs.map (·.1) = kk.map (fun p => j p.1) → Repk U y H kvs (kk.map (·.2)) →
    (kGet kvs (j k) = none ∧ valV kk k = none) ∨ ∃ d v, kGet kvs (j k) = some d ∧ valV kk k = some v ∧ Rep U y H d v
  | [], [], k, _, _ => .inl ⟨rfl, rfl⟩
  | [], _ :: _, _, h, _ => by simp at h
  | _ :: _, [], _, h, _ => by simp at h
  | (k0, d) :: kvs, (k1, v) :: kk, k, h, r => by
    simp only [List.map_cons, List.cons.injEq] at h
    obtain ⟨e, h⟩ := h
    rw [List.map_cons, Repk] at r
    obtain ⟨v', r', e1, r1, r2⟩ := r
    cases e1
    subst e
    by_cases hk : k1 = k
    · subst hk
      refine .inr ⟨d, v, ?_, valV_pos rfl, r1⟩
      simp [kGet]
    · rw [valV_neg hk]
      have : kGet ((j k1, d) :: kvs) (j k) = kGet kvs (j k) := by
        have n : ¬ j k1 = j k := fun z => hk ((hj _ _).1 z)
        simp [kGet, n]
      rw [this]
      exact kGet_valV j hj k h r2
theorem ky_no_inl {kvs : List (Ky × D)} {kk : List (Key × V)} {ks : List K1} (h : kvs.map (·.1) = kk.map (fun p => Sum.inl p.1)) : kGet kvs (.inr ks) = none := by
  unfold kGet
  have : kvs.find? (fun kv => decide (kv.1 = .inr ks)) = none := by
    rw [List.find?_eq_none]
    intro p hp
    have : p.1 ∈ kvs.map (·.1) := List.mem_map_of_mem hp
    rw [h] at this
    obtain ⟨q, _, hq⟩ := List.mem_map.1 this
    rw [← hq]; simp
  rw [this]; rfl
theorem ky_no_inr {kvs : List (Ky × D)} {kk : List (List Key × V)} {k : K1} (h : kvs.map (·.1) = kk.map (fun p => Sum.inr p.1)) : kGet kvs (.inl k) = none := by
  unfold kGet
  have : kvs.find? (fun kv => decide (kv.1 = .inl k)) = none := by
    rw [List.find?_eq_none]
    intro p hp
    have : p.1 ∈ kvs.map (·.1) := List.mem_map_of_mem hp
    rw [h] at this
    obtain ⟨q, _, hq⟩ := List.mem_map.1 this
    rw [← hq]; simp
  rw [this]; rfl
/-- an empty dict is asked for a key of the other kind -/
def DGE (H : Hp) (a : Addr) (v : V) : Prop := (∃ (b : Addr) (k : List Key), Rd H a (.dK []) ∧ v = .ref b ∧ H b = some (.tup (k.map kV))) ∨ ∃ k : Key, Rd H a (.dT []) ∧ v = kV k
def DGx (H : Hp) (a : Addr) (v : V) (o : Option V) : Prop := DGet H a v o ∨ (o = none ∧ DGE H a v)
theorem kOk_l {kvs : List (Ky × D)} {kk : List (Key × V)} {ks : List K1} (h : kvs.map (·.1) = kk.map (fun p => Sum.inl p.1)) (ok : kOk kvs (.inr ks) = true) : kvs = [] ∧ kk = [] := by
  cases kvs with
  | nil => cases kk with
    | nil => exact ⟨rfl, rfl⟩
    | cons p r => simp at h
  | cons p r =>
    cases kk with
    | nil => simp at h
    | cons q t =>
      obtain ⟨k, d⟩ := p
      simp only [List.map_cons, List.cons.injEq] at h
      obtain ⟨rfl, _⟩ := h
      simp [kOk] at ok
theorem kOk_r {kvs : List (Ky × D)} {kk : List (List Key × V)} {k : K1} (h : kvs.map (·.1) = kk.map (fun p => Sum.inr p.1)) (ok : kOk kvs (.inl k) = true) : kvs = [] ∧ kk = [] := by
  cases kvs with
  | nil => cases kk with
    | nil => exact ⟨rfl, rfl⟩
    | cons p r => simp at h
  | cons p r =>
    cases kk with
    | nil => simp at h
    | cons q t =>
      obtain ⟨k, d⟩ := p
      simp only [List.map_cons, List.cons.injEq] at h
      obtain ⟨rfl, _⟩ := h
      simp [kOk] at ok
/-- what kGet says and what stands there -/
def OptR (U : Uni) (y : Ly) (H : Hp) (d : Option D) (o : Option V) : Prop := (d = none ∧ o = none) ∨ ∃ d' w, d = some d' ∧ o = some w ∧ Rep U y H d' w
theorem OptR.isSome {d : Option D} {o : Option V} (h : OptR U y H d o) : d.isSome = o.isSome := by
  rcases h with ⟨rfl, rfl⟩ | ⟨d', w, rfl, rfl, _⟩ <;> rfl
theorem dct_get {a : Addr} {kvs : List (Ky × D)} {vs : List V} {k : Ky} (hc : DctC (Rd H a) (kvs.map (·.1)) vs) (hr : Repk U y H kvs vs) (hk : KyV H k v) (ok : kOk kvs k = true) : ∃ o, DGx H a v o ∧ OptR U y H (kGet kvs k) o := by
  rcases hc with ⟨kk, h1, h2, rfl⟩ | ⟨kk, h1, h2, rfl, hne⟩
  · cases k with
    | inl k =>
      refine ⟨valV kk k, .inl (.inl ⟨kk, k, h1, hk, rfl⟩), ?_⟩
      rcases kGet_valV (fun k => (Sum.inl k : Ky)) (fun a b => by simp) k h2 hr with ⟨h3, h4⟩ | ⟨d, w, h3, h4, h5⟩
      · exact .inl ⟨h3, h4⟩
      · exact .inr ⟨d, w, h3, h4, h5⟩
    | inr ks =>
      obtain ⟨rfl, rfl⟩ := kOk_l h2 ok
      obtain ⟨b, rfl, hb⟩ := hk
      exact ⟨none, .inr ⟨rfl, .inl ⟨b, ks, h1, rfl, hb⟩⟩, .inl ⟨rfl, rfl⟩⟩
  · cases k with
    | inl k =>
      obtain ⟨rfl, rfl⟩ := kOk_r h2 ok
      exact ⟨none, .inr ⟨rfl, .inr ⟨k, h1, hk⟩⟩, .inl ⟨rfl, rfl⟩⟩
    | inr ks =>
      obtain ⟨b, rfl, hb⟩ := hk
      refine ⟨valV kk ks, .inl (.inr ⟨kk, ks, b, h1, rfl, hb, rfl⟩), ?_⟩
      rcases kGet_valV (fun k => (Sum.inr k : Ky)) (fun a b => by simp) ks h2 hr with ⟨h3, h4⟩ | ⟨d, w, h3, h4, h5⟩
      · exact .inl ⟨h3, h4⟩
      · exact .inr ⟨d, w, h3, h4, h5⟩
/-! ### the empty dict is of both kinds -/
section
variable {pins : List (Addr × Obj)} {s : Shared} {σ : L2.St} {a : Addr} {A : Around} {E : Value → Shared → Prop} {u r : Value}
theorem empty_k (I : L2.Inv X pins σ H s) (e : Rd H a (.dK [])) : (a == sysModules) = false ∧ s.heap.DictOfH (tupleKind (mixKind X.prog X.w)) a [] := by
  obtain ⟨_, hd, vs, rel, o, es, ep, h1, h2, h3, _, h5, _⟩ := dk_rd I.hok e
  cases rel
  refine ⟨hd, o, es, ep, h1, h2, h3, ?_, by simp, by simp⟩
  cases h5' : es.toList with
  | nil => rfl
  | cons x l => rw [h5'] at h5; cases h5
theorem empty_t (I : L2.Inv X pins σ H s) (e : Rd H a (.dT [])) : (a == sysModules) = false ∧ s.heap.DictOf (mixKind X.prog X.w) a [] := by
  obtain ⟨_, hd, xs, rel, o, es, ep, h1, h2, h3, h4, _, _⟩ := dt_rd I.hok e
  cases rel
  have h4 : es.toList = [] := h4
  have h4' : es = #[] := by
    apply Array.ext'
    rw [h4]
  subst h4'
  exact ⟨hd, o, _, ep, h1, h2, h3, fun e he => by simp at he, .nil, by simp⟩
theorem x_in {o : Option V} {Q : Value → Shared → Prop} (hu : A.units + 1 < cLine) (I : L2.Inv X pins σ H s) (g : DGx H a v o) (ry : RelV v u) (h : ∀ s', L2.Inv X pins σ H s' → Q (.bool o.isSome) s') : wpAny (model X.prog X.w) A (compareOp .In u (.ref a)) Q E s := by
  rcases g with g | ⟨rfl, ⟨b, k, e, rfl, eb⟩ | ⟨k, e, rfl⟩⟩
  · exact d_in hu I g ry h
  · cases (show u = Value.ref b from ry)
    obtain ⟨hd, dd⟩ := empty_k I e
    exact wpAny_in_heap (tupleKind_room_in1 hu) (key_of I.hok eb) hd dd (h _ (I.tok _))
  · obtain ⟨hd, dd⟩ := empty_t I e
    exact wpAny_in_of (kV_is ry) hd dd.mapOf (h _ (I.tok _))
theorem x_notIn {o : Option V} {Q : Value → Shared → Prop} (hu : A.units + 1 < cLine) (I : L2.Inv X pins σ H s) (g : DGx H a v o) (ry : RelV v u) (h : ∀ s', L2.Inv X pins σ H s' → Q (.bool (!o.isSome)) s') : wpAny (model X.prog X.w) A (compareOp .NotIn u (.ref a)) Q E s := by
  rcases g with g | ⟨rfl, ⟨b, k, e, rfl, eb⟩ | ⟨k, e, rfl⟩⟩
  · exact d_notIn hu I g ry h
  · cases (show u = Value.ref b from ry)
    obtain ⟨hd, dd⟩ := empty_k I e
    exact wpAny_notIn_heap (tupleKind_room_in1 hu) (key_of I.hok eb) hd dd (h _ (I.tok _))
  · obtain ⟨hd, dd⟩ := empty_t I e
    exact wpAny_notIn_of (kV_is ry) hd dd.mapOf (h _ (I.tok _))
theorem x_get1 {o : Option V} {Q : Value → Shared → Prop} (hu : A.units + 1 < cLine) (I : L2.Inv X pins σ H s) (g : DGx H a v o) (ry : RelV v u) (h : ∀ w' s', L2.Inv X pins σ H s' → RelV (o.getD .non) w' → Q w' s') : wpAny (model X.prog X.w) A (call (.builtin "dict.get") [.ref a, u]) Q E s := by
  rcases g with g | ⟨rfl, ⟨b, k, e, rfl, eb⟩ | ⟨k, e, rfl⟩⟩
  · exact d_get1 hu I g ry h
  · cases (show u = Value.ref b from ry)
    obtain ⟨hd, dd⟩ := empty_k I e
    exact call_meetsIn PySem.F.slot_dict_get dd.typeIs PySem.F.entry_dict_get (PySem.F.args_dict_get_2 _ _) (meetsH_dict_get (tupleKind (mixKind X.prog X.w)) a b hd) ⟨tupleKind_room_in1 hu, k, [], key_of I.hok eb, dd, h _ _ (I.tok _) rfl⟩
  · obtain ⟨hd, dd⟩ := empty_t I e
    exact call_meetsIn PySem.F.slot_dict_get dd.typeIs PySem.F.entry_dict_get (PySem.F.args_dict_get_2 _ _) (meets_dict_get (mixKind X.prog X.w) a (kV_is ry) hd) ⟨_, dd.mapOf, h _ _ (I.tok _) rfl⟩
theorem x_get2 {o : Option V} {Q : Value → Shared → Prop} {z : V} (hu : A.units + 1 < cLine) (I : L2.Inv X pins σ H s) (g : DGx H a v o) (ry : RelV v u) (rz : RelV z r) (h : ∀ w' s', L2.Inv X pins σ H s' → RelV (o.getD z) w' → Q w' s') : wpAny (model X.prog X.w) A (call (.builtin "dict.get") [.ref a, u, r]) Q E s := by
  rcases g with g | ⟨rfl, ⟨b, k, e, rfl, eb⟩ | ⟨k, e, rfl⟩⟩
  · exact d_get2 hu I g ry rz h
  · cases (show u = Value.ref b from ry)
    obtain ⟨hd, dd⟩ := empty_k I e
    exact call_meetsIn PySem.F.slot_dict_get dd.typeIs PySem.F.entry_dict_get (PySem.F.args_dict_get_3 _ _ _) (meetsH_dict_get_default (tupleKind (mixKind X.prog X.w)) a b hd r) ⟨tupleKind_room_in1 hu, k, [], key_of I.hok eb, dd, h _ _ (I.tok _) rz⟩
  · obtain ⟨hd, dd⟩ := empty_t I e
    exact call_meetsIn PySem.F.slot_dict_get dd.typeIs PySem.F.entry_dict_get (PySem.F.args_dict_get_3 _ _ _) (meets_dict_get_default (mixKind X.prog X.w) a (kV_is ry) hd r) ⟨_, dd.mapOf, h _ _ (I.tok _) rz⟩
end
/-! ### comparisons -/
theorem any_py {x : D} (hx : x.pl = true) : ∀ {ds : List D}, D.pls ds = true → (D.pys ds).any (fun z => PyData.eqv z x.py) = ds.any fun z => D.eqv z x
  | [], _ => rfl
  | d :: ds, h => by
    simp only [D.pls, Bool.and_eq_true] at h
    simp only [D.pys, List.any_cons]
    rw [py_eqv d x h.1 hx, any_py hx h.2]
theorem kOk_of_empty : kOk ([] : List (Ky × D)) = fun _ => true := by funext k; cases k <;> rfl
theorem op_in (hK : U.K = X.K) (hu : X.A.units + 64 < cLine) : OpR X (compareOp .In) (fun x x' H Q => ∃ y d e k, PV U y H d x ∧ PV U y H e x' ∧ inOp d e = some k ∧ Q (.bl k) H) := by
  intro pins s σ H x x' v u Q I rx ry h
  obtain ⟨y, d, e, k, pd, pe, hk, q⟩ := h
  unfold inOp at hk
  split at hk
  · rename_i ds
    split at hk
    · rename_i c
      simp only [Bool.and_eq_true, decide_eq_true_eq] at c
      cases hk
      have D1 := PV.dp c.1.1.1 pd
      have D2 := PV.dp (d := .lst ds) (by rw [D.pl]; exact c.1.1.2) pe
      rw [hK] at D1 D2
      obtain ⟨as, r1⟩ := D1.reads I _ _ _ rx
      obtain ⟨bs, r2⟩ := D2.reads I _ _ _ ry
      rw [D.py] at r2
      refine SeqAt.in_list_data r2 r1 (pys_plain _) (py_plain _) (by rw [pys_depth, py_depth]; omega) ?_
      rw [any_py c.1.1.1 c.1.1.2]
      exact ⟨.bl _, H, I, rfl, q⟩
    · cases hk
  · rename_i ds
    split at hk
    · rename_i c
      simp only [Bool.and_eq_true, decide_eq_true_eq] at c
      cases hk
      have D1 := PV.dp c.1.1.1 pd
      have D2 := PV.dp (d := .tup ds) (by rw [D.pl]; exact c.1.1.2) pe
      rw [hK] at D1 D2
      obtain ⟨as, r1⟩ := D1.reads I _ _ _ rx
      obtain ⟨bs, r2⟩ := D2.reads I _ _ _ ry
      rw [D.py] at r2
      refine SeqAt.in_tuple_data r2 r1 (pys_plain _) (py_plain _) (by rw [pys_depth, py_depth]; omega) ?_
      rw [any_py c.1.1.1 c.1.1.2]
      exact ⟨.bl _, H, I, rfl, q⟩
    · cases hk
  · rename_i ds
    split at hk
    · rename_i c
      simp only [Bool.and_eq_true, decide_eq_true_eq] at c
      cases hk
      have D1 := PV.dp c.1.1.1 pd
      obtain ⟨a, xs, rfl, h1, h2⟩ := pe.ktp
      have D2 : Dp U.K H (.ref a) (.tuple (D.pys ds)) := .tup h1 (Reps.dp _ _ c.1.1.2 h2)
      rw [hK] at D1 D2
      obtain ⟨as, r1⟩ := D1.reads I _ _ _ rx
      obtain ⟨bs, r2⟩ := D2.reads I _ _ _ ry
      refine SeqAt.in_tuple_data r2 r1 (pys_plain _) (py_plain _) (by rw [pys_depth, py_depth]; omega) ?_
      rw [any_py c.1.1.1 c.1.1.2]
      exact ⟨.bl _, H, I, rfl, q⟩
    · cases hk
  · split at hk
    · rename_i k' ek
      split at hk
      · rename_i ok
        cases hk
        obtain ⟨a, vs, rfl, h1, h2⟩ := pe.dct
        obtain ⟨o, g, r⟩ := dct_get h1 h2 (ky_pv ek pd).1 ok
        obtain rfl : u = .ref a := ry
        rw [r.isSome] at q
        exact x_in (by omega) I g rx fun s' I' => ⟨.bl _, H, I', rfl, q⟩
      · cases hk
    · cases hk
  · cases hk
theorem op_nin (hK : U.K = X.K) (hu : X.A.units + 64 < cLine) : OpR X (compareOp .NotIn) (fun x x' H Q => ∃ y d e k, PV U y H d x ∧ PV U y H e x' ∧ inOp d e = some k ∧ Q (.bl (!k)) H) := by
  intro pins s σ H x x' v u Q I rx ry h
  obtain ⟨y, d, e, k, pd, pe, hk, q⟩ := h
  unfold inOp at hk
  split at hk
  · rename_i ds
    split at hk
    · rename_i c
      simp only [Bool.and_eq_true, decide_eq_true_eq] at c
      cases hk
      have D1 := PV.dp c.1.1.1 pd
      have D2 := PV.dp (d := .lst ds) (by rw [D.pl]; exact c.1.1.2) pe
      rw [hK] at D1 D2
      obtain ⟨as, r1⟩ := D1.reads I _ _ _ rx
      obtain ⟨bs, r2⟩ := D2.reads I _ _ _ ry
      rw [D.py] at r2
      refine SeqAt.notIn_list_data r2 r1 (pys_plain _) (py_plain _) (by rw [pys_depth, py_depth]; omega) ?_
      rw [any_py c.1.1.1 c.1.1.2]
      exact ⟨.bl _, H, I, rfl, q⟩
    · cases hk
  · rename_i ds
    split at hk
    · rename_i c
      simp only [Bool.and_eq_true, decide_eq_true_eq] at c
      cases hk
      have D1 := PV.dp c.1.1.1 pd
      have D2 := PV.dp (d := .tup ds) (by rw [D.pl]; exact c.1.1.2) pe
      rw [hK] at D1 D2
      obtain ⟨as, r1⟩ := D1.reads I _ _ _ rx
      obtain ⟨bs, r2⟩ := D2.reads I _ _ _ ry
      rw [D.py] at r2
      refine SeqAt.notIn_tuple_data r2 r1 (pys_plain _) (py_plain _) (by rw [pys_depth, py_depth]; omega) ?_
      rw [any_py c.1.1.1 c.1.1.2]
      exact ⟨.bl _, H, I, rfl, q⟩
    · cases hk
  · rename_i ds
    split at hk
    · rename_i c
      simp only [Bool.and_eq_true, decide_eq_true_eq] at c
      cases hk
      have D1 := PV.dp c.1.1.1 pd
      obtain ⟨a, xs, rfl, h1, h2⟩ := pe.ktp
      have D2 : Dp U.K H (.ref a) (.tuple (D.pys ds)) := .tup h1 (Reps.dp _ _ c.1.1.2 h2)
      rw [hK] at D1 D2
      obtain ⟨as, r1⟩ := D1.reads I _ _ _ rx
      obtain ⟨bs, r2⟩ := D2.reads I _ _ _ ry
      refine SeqAt.notIn_tuple_data r2 r1 (pys_plain _) (py_plain _) (by rw [pys_depth, py_depth]; omega) ?_
      rw [any_py c.1.1.1 c.1.1.2]
      exact ⟨.bl _, H, I, rfl, q⟩
    · cases hk
  · split at hk
    · rename_i k' ek
      split at hk
      · rename_i ok
        cases hk
        obtain ⟨a, vs, rfl, h1, h2⟩ := pe.dct
        obtain ⟨o, g, r⟩ := dct_get h1 h2 (ky_pv ek pd).1 ok
        obtain rfl : u = .ref a := ry
        rw [r.isSome] at q
        exact x_notIn (by omega) I g rx fun s' I' => ⟨.bl _, H, I', rfl, q⟩
      · cases hk
    · cases hk
  · cases hk
theorem op_cmp (hK : U.K = X.K) (hu : X.A.units + 64 < cLine) (c : Cm) : OpR X (compareOp c.m) (fun x x' H Q => ∃ y d e k, PV U y H d x ∧ PV U y H e x' ∧ cmpop c d e = some k ∧ Q (.bl k) H) := by
  intro pins s σ H x x' v u Q I rx ry h
  obtain ⟨y, d, e, k, pd, pe, hk, q⟩ := h
  unfold cmpop at hk
  split at hk
  · cases hk; exact L2.op_lt pins s σ H _ _ v u Q I rx ry ⟨_, _, pd.int, pe.int, q⟩
  · cases hk; exact L2.op_gt pins s σ H _ _ v u Q I rx ry ⟨_, _, pd.int, pe.int, q⟩
  · cases hk; exact L2.op_le pins s σ H _ _ v u Q I rx ry ⟨_, _, pd.int, pe.int, q⟩
  · cases hk; exact L2.op_ge pins s σ H _ _ v u Q I rx ry ⟨_, _, pd.int, pe.int, q⟩
  · split at hk
    · rename_i c
      simp only [Bool.and_eq_true, decide_eq_true_eq] at c
      cases hk
      have D1 := PV.dp c.1.1.1 pd
      have D2 := PV.dp c.1.1.2 pe
      rw [hK] at D1 D2
      obtain ⟨as, r1⟩ := D1.reads I _ _ _ rx
      obtain ⟨bs, r2⟩ := D2.reads I _ _ _ ry
      refine SeqAt.eq_plain r1 r2 (py_plain _) (py_plain _) (by rw [py_depth, py_depth]; omega) ?_
      rw [py_eqv _ _ c.1.1.1 c.1.1.2]
      exact ⟨.bl _, H, I, rfl, q⟩
    · cases hk
  · split at hk
    · rename_i c
      simp only [Bool.and_eq_true, decide_eq_true_eq] at c
      cases hk
      have D1 := PV.dp c.1.1.1 pd
      have D2 := PV.dp c.1.1.2 pe
      rw [hK] at D1 D2
      obtain ⟨as, r1⟩ := D1.reads I _ _ _ rx
      obtain ⟨bs, r2⟩ := D2.reads I _ _ _ ry
      refine SeqAt.ne_plain r1 r2 (py_plain _) (py_plain _) (by rw [py_depth, py_depth]; omega) ?_
      rw [py_eqv _ _ c.1.1.1 c.1.1.2]
      exact ⟨.bl _, H, I, rfl, q⟩
    · cases hk
  · exact op_in hK hu pins s σ H _ _ v u Q I rx ry ⟨y, d, e, k, pd, pe, hk, q⟩
  · cases h' : inOp d e with
    | none => rw [h'] at hk; cases hk
    | some k' =>
      rw [h'] at hk; cases hk
      exact op_nin hK hu pins s σ H _ _ v u Q I rx ry ⟨y, d, e, k', pd, pe, h', q⟩
  · cases hk
end
end Pyl
set_option Elab.async false
set_option linter.all false
set_option maxRecDepth 100000
set_option maxHeartbeats 2000000
/-! SndOps3: writes by values. -/
namespace Pyl
open PySem PySem.Spec PyProof.Rows L2
section
variable {U : Uni} {y : Ly} {H : Hp} {d e : D} {v : V} {X : Cx} {κ : Type} [DecidableEq κ]
theorem repk_len : ∀ {kvs : List (Ky × D)} {vs : List V}, Repk U y H kvs vs → vs.length = kvs.length
  | [], vs, h => by rw [Repk] at h; subst h; rfl
  | (_, d) :: r, vs, h => by
    rw [Repk] at h
    obtain ⟨v, r', rfl, _, h2⟩ := h
    simp [repk_len h2]
theorem kany_rel (j : κ → Ky) (hj : ∀ a b, j a = j b ↔ a = b) (k : κ) : ∀ {kvs : List (Ky × D)} {kk : List (κ × V)}, kvs.map (·.1) = kk.map (fun p => j p.1) → (kvs.any fun kv => decide (kv.1 = j k)) = kk.any fun kv => decide (kv.1 = k)
  | [], [], _ => rfl
  | [], _ :: _, h => by simp at h
  | _ :: _, [], h => by simp at h
  | (k0, d) :: kvs, (k1, v) :: kk, h => by
    simp only [List.map_cons, List.cons.injEq] at h
    obtain ⟨rfl, h⟩ := h
    rw [List.any_cons, List.any_cons, kany_rel j hj k h]
    congr 1
    by_cases e : k1 = k
    · subst e; simp
    · have : ¬ j k1 = j k := fun z => e ((hj _ _).1 z)
      simp [e, this]
theorem kmap_rel (j : κ → Ky) (hj : ∀ a b, j a = j b ↔ a = b) (k : κ) (hd : Rep U y H d v) : ∀ {kvs : List (Ky × D)} {kk : List (κ × V)}, kvs.map (·.1) = kk.map (fun p => j p.1) → Repk U y H kvs (kk.map (·.2)) →
    (kvs.map fun kv => if kv.1 = j k then (kv.1, d) else kv).map (·.1) = (kk.map fun kv => if kv.1 = k then (kv.1, v) else kv).map (fun p => j p.1) ∧ Repk U y H (kvs.map fun kv => if kv.1 = j k then (kv.1, d) else kv) ((kk.map fun kv => if kv.1 = k then (kv.1, v) else kv).map (·.2))
  | [], [], _, _ => ⟨rfl, by simp [Repk]⟩
  | [], _ :: _, h, _ => by simp at h
  | _ :: _, [], h, _ => by simp at h
  | (k0, d0) :: kvs, (k1, v1) :: kk, h, r => by
    simp only [List.map_cons, List.cons.injEq] at h
    obtain ⟨rfl, h⟩ := h
    rw [List.map_cons, Repk] at r
    obtain ⟨v', r', e1, r1, r2⟩ := r
    cases e1
    obtain ⟨i1, i2⟩ := kmap_rel j hj k hd h r2
    simp only [List.map_cons]
    by_cases e : k1 = k
    · subst e
      simp only [if_true]
      refine ⟨by rw [i1], ?_⟩
      rw [Repk]; exact ⟨_, _, rfl, hd, i2⟩
    · have : ¬ j k1 = j k := fun z => e ((hj _ _).1 z)
      simp only [e, this, if_false]
      refine ⟨by rw [i1], ?_⟩
      rw [Repk]; exact ⟨_, _, rfl, r1, i2⟩
theorem repk_app : ∀ {kvs kvs' : List (Ky × D)} {vs vs' : List V}, Repk U y H kvs vs → Repk U y H kvs' vs' → Repk U y H (kvs ++ kvs') (vs ++ vs')
  | [], _, vs, _, h, g => by rw [Repk] at h; subst h; exact g
  | (k, d) :: r, kvs', vs, vs', h, g => by
    rw [Repk] at h
    obtain ⟨v, r', rfl, h1, h2⟩ := h
    rw [List.cons_append, Repk]
    exact ⟨v, _, rfl, h1, repk_app h2 g⟩
theorem kput_rel (j : κ → Ky) (hj : ∀ a b, j a = j b ↔ a = b) (k : κ) (hd : Rep U y H d v) {kvs : List (Ky × D)} {kk : List (κ × V)} (h : kvs.map (·.1) = kk.map (fun p => j p.1)) (r : Repk U y H kvs (kk.map (·.2))) :
    (kPut kvs (j k) d).map (·.1) = (putK kk k v).map (fun p => j p.1) ∧ Repk U y H (kPut kvs (j k) d) ((putK kk k v).map (·.2)) := by
  unfold kPut putK
  rw [kany_rel j hj k h]
  split
  · exact kmap_rel j hj k hd h r
  · refine ⟨by rw [List.map_append, List.map_append, h]; rfl, ?_⟩
    rw [List.map_append]
    refine repk_app r ?_
    rw [Repk]
    exact ⟨v, [], rfl, hd, by rw [Repk]⟩
theorem kdrop_rel (j : κ → Ky) (hj : ∀ a b, j a = j b ↔ a = b) (k : κ) : ∀ {kvs : List (Ky × D)} {kk : List (κ × V)}, kvs.map (·.1) = kk.map (fun p => j p.1) → Repk U y H kvs (kk.map (·.2)) →
    (kDrop kvs (j k)).map (·.1) = (dropK kk k).map (fun p => j p.1) ∧ Repk U y H (kDrop kvs (j k)) ((dropK kk k).map (·.2))
  | [], [], _, _ => ⟨rfl, by simp [kDrop, dropK, Repk]⟩
  | [], _ :: _, h, _ => by simp at h
  | _ :: _, [], h, _ => by simp at h
  | (k0, d0) :: kvs, (k1, v1) :: kk, h, r => by
    simp only [List.map_cons, List.cons.injEq] at h
    obtain ⟨rfl, h⟩ := h
    rw [List.map_cons, Repk] at r
    obtain ⟨v', r', e1, r1, r2⟩ := r
    cases e1
    obtain ⟨i1, i2⟩ := kdrop_rel j hj k h r2
    unfold kDrop dropK at i1 i2 ⊢
    by_cases e : k1 = k
    · subst e
      simp only [List.filter_cons, ne_eq, not_true_eq_false, decide_false, Bool.false_eq_true, if_false]
      exact ⟨i1, i2⟩
    · have : ¬ j k1 = j k := fun z => e ((hj _ _).1 z)
      simp only [List.filter_cons, ne_eq, e, this, not_false_eq_true, decide_true, if_true, List.map_cons]
      refine ⟨by rw [i1], ?_⟩
      rw [Repk]; exact ⟨_, _, rfl, r1, i2⟩
theorem putK_ne {kk : List (κ × V)} {k : κ} {v : V} (h : kk ≠ []) : putK kk k v ≠ [] := by
  unfold putK
  split
  · simpa using h
  · simp
theorem inl_j : ∀ a b : Key, (Sum.inl a : Ky) = Sum.inl b ↔ a = b := fun a b => by simp
theorem inr_j : ∀ a b : List Key, (Sum.inr a : Ky) = Sum.inr b ↔ a = b := fun a b => by simp
section
variable {pins : List (Addr × Obj)} {s : Shared} {σ : L2.St} {a : Addr} {u r : Value} {kvs : List (Ky × D)} {k : Ky} {w : V}
/-- d[k] = v -/
theorem x_set {Q : Unit → Shared → Prop} (hu : X.A.units + 1 < cLine) (I : L2.Inv X pins σ H s) (c : Cont U y H (fun z => H a = some z) (.dct kvs)) (hk : KyV H k v) (ok : kOk kvs k = true) (hl : kvs.length < LIM) (hd : Rep U y H d w) (rk : RelV v u) (rw' : RelV w r)
    (h : ∀ z s', Cnt z → Cont U y H (fun x => x = z) (.dct (kPut kvs k d)) → L2.Inv X pins σ (upd H a z) s' → Q () s') : wpAny (model X.prog X.w) X.A (setItem (.ref a) u r) Q X.xe s := by
  obtain ⟨vs, c, hr⟩ := c
  have hl' : kvs.length < sizeLine := Nat.lt_of_lt_of_le hl lim_line
  rcases c with ⟨kk, h1, h2, rfl⟩ | ⟨kk, h1, h2, rfl, hne⟩
  · have hkl : kk.length < sizeLine := by have := congrArg List.length h2; simp at this; omega
    cases k with
    | inl k =>
      obtain ⟨i1, i2⟩ := kput_rel (fun k => (Sum.inl k : Ky)) inl_j k hd h2 hr
      refine d_setItem hu I (.inl ⟨kk, k, h1, hk, hkl, rfl⟩) rk rw' fun s' I' => h (.dK (putK kk k w)) s' True.intro ?_ I'
      exact ⟨_, .inl ⟨_, rfl, i1, rfl⟩, i2⟩
    | inr ks =>
      obtain ⟨rfl, rfl⟩ := kOk_l h2 ok
      obtain ⟨b, rfl, hb⟩ := hk
      cases (show u = Value.ref b from rk)
      obtain ⟨hs, dd⟩ := empty_k I (.inl h1)
      refine wpAny_setItem_heap (hsz := Nat.zero_le _) (tupleKind_room_in1 hu) (key_of I.hok hb) dd fun h' dd' hs' => h (.dT [(ks, w)]) _ True.intro ?_ ?_
      · refine ⟨[w], .inr ⟨[(ks, w)], rfl, rfl, rfl, by simp⟩, ?_⟩
        show Repk U y H [(_, d)] [w]
        rw [Repk]; exact ⟨w, [], rfl, hd, by rw [Repk]⟩
      · obtain ⟨q, es, ep, hq, g2, g3, g4, _, g5⟩ := dd'
        refine d_write I (by rw [h1]; exact True.intro) hs' ⟨q, hq⟩ ⟨?_, hs, [(ks, b, r)], .cons ⟨rfl, ?_, rw'⟩ .nil, q, es, ep, hq, g2, g3, g4, g5⟩
        · show 1 ≤ sizeLine
          decide
        · rw [upd_ne (ne_of hb h1 (fun z => nomatch z))]
          exact hb
  · have hkl : kk.length < sizeLine := by have := congrArg List.length h2; simp at this; omega
    cases k with
    | inl k =>
      obtain ⟨rfl, rfl⟩ := kOk_r h2 ok
      obtain ⟨hs, dd⟩ := empty_t I (.inl h1)
      have hk : v = kV k := hk
      subst hk
      refine wpAny_setItem_pairs (hsz := Nat.zero_le _) (kV_is rk) dd fun h' dd' hs' => h (.dK [(k, w)]) _ True.intro ?_ ?_
      · refine ⟨[w], .inl ⟨[(k, w)], rfl, rfl, rfl⟩, ?_⟩
        show Repk U y H [(_, d)] [w]
        rw [Repk]; exact ⟨w, [], rfl, hd, by rw [Repk]⟩
      · have he : ∃ q, h'.get? a = some q := let ⟨q, _, _, hq, _⟩ := dd'; ⟨q, hq⟩
        exact d_write I (by rw [h1]; exact True.intro) hs' he (dk_new (show 1 ≤ sizeLine by decide) hs (.cons ⟨rfl, rw'⟩ .nil) dd')
    | inr ks =>
      obtain ⟨b, rfl, hb⟩ := hk
      obtain ⟨i1, i2⟩ := kput_rel (fun k => (Sum.inr k : Ky)) inr_j ks hd h2 hr
      refine d_setItem hu I (.inr ⟨kk, ks, b, h1, rfl, hb, hkl, rfl⟩) rk rw' fun s' I' => h (.dT (putK kk ks w)) s' True.intro ?_ I'
      exact ⟨_, .inr ⟨_, rfl, i1, rfl, putK_ne hne⟩, i2⟩
/-- del d[k] -/
theorem x_del {Q : Unit → Shared → Prop} (hu : X.A.units + 1 < cLine) (I : L2.Inv X pins σ H s) (c : Cont U y H (fun z => H a = some z) (.dct kvs)) (hk : KyV H k v) (ok : kOk kvs k = true) (hg : ∃ d, kGet kvs k = some d) (rk : RelV v u)
    (h : ∀ z s', Cnt z → Cont U y H (fun x => x = z) (.dct (kDrop kvs k)) → L2.Inv X pins σ (upd H a z) s' → Q () s') : wpAny (model X.prog X.w) X.A (delItem (.ref a) u) Q X.xe s := by
  obtain ⟨vs, c, hr⟩ := c
  obtain ⟨d, hg⟩ := hg
  rcases c with ⟨kk, h1, h2, rfl⟩ | ⟨kk, h1, h2, rfl, hne⟩
  · cases k with
    | inl k =>
      obtain ⟨i1, i2⟩ := kdrop_rel (fun k => (Sum.inl k : Ky)) inl_j k h2 hr
      have hk : v = kV k := hk
      subst hk
      refine d_delItem I h1 rk ?_ fun s' I' => h (.dK (dropK kk k)) s' True.intro ⟨_, .inl ⟨_, rfl, i1, rfl⟩, i2⟩ I'
      rcases kGet_valV (fun k => (Sum.inl k : Ky)) inl_j k h2 hr with ⟨h3, h4⟩ | ⟨d', w, h3, h4, h5⟩
      · rw [hg] at h3; cases h3
      · rw [h4]; rfl
    | inr ks =>
      obtain ⟨rfl, rfl⟩ := kOk_l h2 ok
      cases hg
  · cases k with
    | inl k =>
      obtain ⟨rfl, rfl⟩ := kOk_r h2 ok
      cases hg
    | inr ks =>
      obtain ⟨b, rfl, hb⟩ := hk
      cases (show u = Value.ref b from rk)
      obtain ⟨i1, i2⟩ := kdrop_rel (fun k => (Sum.inr k : Ky)) inr_j ks h2 hr
      obtain ⟨z, hs, xs, rel, dd⟩ := dt_of I.hok h1
      have hz : xs.length ≤ sizeLine := by rw [← Paired.length rel]; exact z
      rcases kGet_valV (fun k => (Sum.inr k : Ky)) inr_j ks h2 hr with ⟨h3, h4⟩ | ⟨d', w, h3, h4, h5⟩
      · rw [hg] at h3; cases h3
      · have r := KT.val rel ks
        rw [h4] at r
        obtain ⟨u', e', _⟩ := r.some_of
        cases ea : atKey xs ks with
        | none => rw [ea] at e'; cases e'
        | some p =>
          refine wpAny_delItem_heap (p := p) (tupleKind_room_in1 hu) (key_of I.hok hb) hs dd ea (fun h' dd' hs' => ?_) hz
          obtain ⟨o, es, ep, hq, g2, g3, g4, g6, g5⟩ := dd'
          have e : withoutH xs ks = DT.dropH xs ks := rfl
          rw [e] at g4 g5
          have rel' := DX.KT_drop ks rel
          cases hd : dropK kk ks with
          | nil =>
            rw [hd] at i1 i2 rel'
            refine h (.dK []) _ True.intro ⟨_, .inl ⟨[], rfl, i1, rfl⟩, i2⟩ ?_
            have hes : es = #[] := by
              cases hxs : DT.dropH xs ks with
              | nil => rw [hxs] at g4; apply Array.ext'; rw [g4]; rfl
              | cons a b => rw [hxs] at rel'; cases rel'
            subst hes
            exact d_write I (by rw [h1]; exact True.intro) hs' ⟨o, hq⟩ ⟨Nat.zero_le _, hs, [], .nil, o, _, ep, hq, g2, g3, fun e he => by simp at he, .nil, by simp⟩
          | cons c0 r0 =>
            refine h (.dT (dropK kk ks)) _ True.intro ⟨_, .inr ⟨_, rfl, i1, rfl, by rw [hd]; simp⟩, i2⟩ ?_
            exact d_write I (by rw [h1]; exact True.intro) hs' ⟨o, hq⟩ ⟨Nat.le_trans (dropK_le kk ks) z, hs, _, (DX.KT_drop ks rel).keeps (fun c ys ec => by rw [upd_ne (ne_of ec h1 (fun z => nomatch z))]; exact ec), o, es, ep, hq, g2, g3, g4, g5⟩
/-- d.pop(k) of an int or a text -/
theorem x_pop {Q : Value → Shared → Prop} {d' : D} {k1 : K1} (I : L2.Inv X pins σ H s) (c : Cont U y H (fun z => H a = some z) (.dct kvs)) (hk : KyV H (.inl k1) v) (ok : kOk kvs (.inl k1) = true) (hg : kGet kvs (.inl k1) = some d') (rk : RelV v u)
    (h : ∀ z w r s', Cnt z → Cont U y H (fun x => x = z) (.dct (kDrop kvs (.inl k1))) → Rep U y H d' w → RelV w r → L2.Inv X pins σ (upd H a z) s' → Q r s') : wpAny (model X.prog X.w) X.A (call (.builtin "dict.pop") [.ref a, u]) Q X.xe s := by
  obtain ⟨vs, c, hr⟩ := c
  rcases c with ⟨kk, h1, h2, rfl⟩ | ⟨kk, h1, h2, rfl, hne⟩
  · obtain ⟨i1, i2⟩ := kdrop_rel (fun k => (Sum.inl k : Ky)) inl_j k1 h2 hr
    have hk : v = kV k1 := hk
    subst hk
    rcases kGet_valV (fun k => (Sum.inl k : Ky)) inl_j k1 h2 hr with ⟨h3, h4⟩ | ⟨d2, w, h3, h4, h5⟩
    · rw [hg] at h3; cases h3
    · rw [hg] at h3; cases h3
      exact d_pop I h1 rk h4 (.inl rfl) fun r s' I' rw' => h (.dK (dropK kk k1)) w r s' True.intro ⟨_, .inl ⟨_, rfl, i1, rfl⟩, i2⟩ h5 rw' I'
  · obtain ⟨rfl, rfl⟩ := kOk_r h2 ok
    cases hg
end
/-! ### reading places -/
theorem items_of {σ : L2.St} {s : St} {sto : List Cell} {ds : List D} (S : StoR U y H s.sto) (h : items s d = some ds) (p : PV U y H d v) : ∃ a xs, v = .ref a ∧ (SqL U.K H a xs ∨ SqT U.K H a xs) ∧ Reps U y H ds xs := by
  unfold items at h
  split at h
  · cases h; obtain ⟨a, xs, e, h1, h2⟩ := p.lst; exact ⟨a, xs, e, .inl (.of h1), h2⟩
  · cases h; obtain ⟨a, xs, e, h1, h2⟩ := p.tup; exact ⟨a, xs, e, .inr h1, h2⟩
  · cases h; obtain ⟨a, xs, e, h1, h2⟩ := p.kls; exact ⟨a, xs, e, .inl h1, h2⟩
  · cases h; obtain ⟨a, xs, e, h1, h2⟩ := p.ktp; exact ⟨a, xs, e, .inr h1, h2⟩
  · rename_i n
    split at h
    · rename_i ds' e
      cases h
      have p : Rep U y H (.loc n) v := p
      obtain ⟨a, rfl, h1⟩ := Rep.loc_.1 p
      obtain ⟨a', xs, h2, _, h3, h4⟩ := S.lst e
      rw [h1] at h2; cases h2
      exact ⟨a, xs, rfl, .inl (.of h3), h4⟩
    · cases h
  · cases h
theorem atI_rep {ds : List D} {xs : List V} {i : Int} {r : D} (h : Reps U y H ds xs) (e : atI ds i = some r) : ∃ w, L2.atI xs i = some w ∧ Rep U y H r w := by
  unfold atI at e
  cases hi : ixN ds.length i with
  | none => rw [hi] at e; cases e
  | some j =>
    rw [hi] at e
    obtain ⟨w, e1, e2⟩ := h.get e
    refine ⟨w, ?_, e2⟩
    unfold L2.atI
    rw [h.length]
    have : L2.ixN ds.length i = some j := hi
    rw [this]; exact e1
/-- what is wanted of o[i] -/
def rGet (U : Uni) : R2 := fun x x' H Q => ∃ y s d e r, StoR U y H (St.sto s) ∧ PV U y H d x ∧ PV U y H e x' ∧ idxOp s d e = some r ∧ ∀ w, Rep U y H r w → Q w H
theorem ix_any (hK : U.K = X.K) (hu : X.A.units + 64 < cLine) : IxR X (rGet U) := by
  intro value slice pins s σ H x x' v u Q I rx ry h hs
  obtain ⟨y, st, d, e, r, S, pd, pe, hr, q⟩ := h
  unfold idxOp at hr
  split at hr
  · split at hr
    · rename_i k ek
      split at hr
      · rename_i ok
        obtain ⟨a, vs, rfl, h1, h2⟩ := pd.dct
        obtain ⟨o, g, ro⟩ := dct_get h1 h2 (ky_pv ek pe).1 ok
        obtain rfl : v = .ref a := rx
        rcases ro with ⟨z, _⟩ | ⟨d', w, z, rfl, rw'⟩
        · rw [hr] at z; cases z
        · rw [hr] at z; cases z
          rcases g with g | ⟨z, _⟩
          · exact tail_any (dict_typeIs I g) slot_dict_getitem.lookup (d_getItem (by omega) I g ry fun w' s' I' rw' => ⟨w, H, I', rw', q _ (by assumption)⟩) hs
          · cases z
      · cases hr
    · cases hr
  · rename_i z j
    split at hr
    · rename_i hl
      cases hc : atI z.cps.toList j with
      | none => rw [hc] at hr; cases hr
      | some c =>
        rw [hc] at hr; cases hr
        exact ix_str value slice pins s σ H _ _ v u Q I rx ry ⟨z, j, c, pd.str, pe.int, Nat.le_trans hl lim_line, hc, q _ (Rep.str_.2 rfl)⟩ hs
    · cases hr
  · rename_i j _ _
    split at hr
    · rename_i ds es
      obtain ⟨a, xs, rfl, h1, h2⟩ := items_of (σ := σ) (sto := []) S es pd
      obtain ⟨w, h3, h4⟩ := atI_rep h2 hr
      rw [hK] at h1
      rcases h1 with h1 | h1
      · exact ix_list value slice pins s σ H _ _ v u Q I rx ry ⟨a, xs, j, w, rfl, pe.int, h1, h3, q w h4⟩ hs
      · exact ix_tup value slice pins s σ H _ _ v u Q I rx ry ⟨a, xs, j, w, rfl, pe.int, h1, h3, q w h4⟩ hs
    · cases hr
  · cases hr
/-- .. where it is to be written: a list, a dict -/
def rGetM (U : Uni) : R2 := fun x x' H Q => ∃ y s d e r, StoR U y H (St.sto s) ∧ PV U y H d x ∧ PV U y H e x' ∧ ((∃ ds, d = .lst ds) ∨ (∃ n, d = .loc n) ∨ ∃ kvs, d = .dct kvs) ∧ idxOp s d e = some r ∧ ∀ w, Rep U y H r w → Q w H
theorem pget_any (hK : U.K = X.K) (hu : X.A.units + 64 < cLine) : PGet X (rGetM U) := by
  intro pins s σ H x x' v u Q I rx ry h
  obtain ⟨y, st, d, e, r, S, pd, pe, hm, hr, q⟩ := h
  have onlist : ∀ {ds : List D} {j : Int}, items st d = some ds → e = .int j → atI ds j = some r → (∃ a xs, x = .ref a ∧ SqL U.K H a xs ∧ Reps U y H ds xs) → wpAny (model X.prog X.w) X.A (getItem v u) (EP X pins σ Q) X.xe s := by
    rintro ds j es rfl hr ⟨a, xs, rfl, h1, h2⟩
    obtain ⟨w, h3, h4⟩ := atI_rep h2 hr
    rw [hK] at h1
    cases rx
    have := pe.int
    subst this
    obtain ⟨t, rfl⟩ := ry
    obtain ⟨its, r, pl, hz⟩ := I.list h1
    obtain ⟨i, g1, g2, g3, g4, g5⟩ := atI_get h3
    obtain ⟨w', ew, rw'⟩ := r.get g2
    have hl := r.length
    have hn := line63
    have fin : EP X pins σ Q w' s := ⟨w, H, I, rw', q w h4⟩
    by_cases h0 : 0 ≤ j
    · have hj : j.toNat = i := by
        rw [seqIndex_of h0 g5] at g1
        exact Option.some.inj g1
      exact wpAny_getItem_list pl.isList h0 (by omega) (by rw [hj]; simpa using ew) fin
    · have hj : (j + (its.toArray.size : Int)).toNat = i := by
        rw [seqIndex_neg (by omega) g4] at g1
        rw [List.size_toArray, ← hl]
        exact Option.some.inj g1
      exact wpAny_getItem_list_neg pl.isList (by omega) (by rw [List.size_toArray] <;> omega) (by omega) (by rw [hj]; simpa using ew) fin
  rcases hm with ⟨ds, rfl⟩ | ⟨n, rfl⟩ | ⟨kvs, rfl⟩
  · unfold idxOp at hr
    split at hr
    · rename_i z; cases z
    · rename_i z; cases z
    · split at hr
      · rename_i es
        obtain ⟨a, xs, e1, e2, e3⟩ := pd.lst
        have es' := es
        simp only [items] at es'
        cases es'
        exact onlist es rfl hr ⟨a, xs, e1, .of e2, e3⟩
      · cases hr
    · cases hr
  · unfold idxOp at hr
    split at hr
    · rename_i z; cases z
    · rename_i z; cases z
    · split at hr
      · rename_i es
        obtain ⟨a, xs, e1, e2, e3⟩ := items_of (σ := σ) (sto := []) S es pd
        have es' := es
        simp only [items] at es'
        split at es'
        · rename_i ds' ec
          cases es'
          obtain ⟨a', xs', g1, _, g3, g4⟩ := S.lst ec
          have p : Rep U y H (.loc n) x := pd
          obtain ⟨a2, rfl, g5⟩ := Rep.loc_.1 p
          rw [g5] at g1; cases g1
          exact onlist es rfl hr ⟨_, xs', rfl, .of g3, g4⟩
        · cases es'
      · cases hr
    · cases hr
  · simp only [idxOp] at hr
    split at hr
    · rename_i k ek
      split at hr
      · rename_i ok
        obtain ⟨a, vs, rfl, h1, h2⟩ := pd.dct
        obtain ⟨o, g, ro⟩ := dct_get h1 h2 (ky_pv ek pe).1 ok
        obtain rfl : v = .ref a := rx
        rcases ro with ⟨z, _⟩ | ⟨d', w, z, rfl, rw'⟩
        · rw [hr] at z; cases z
        · rw [hr] at z; cases z
          rcases g with g | ⟨z, _⟩
          · exact d_getItem (by omega) I g ry fun w' s' I' rw' => ⟨w, H, I', rw', q _ (by assumption)⟩
          · cases z
      · cases hr
    · cases hr
/-- slices -/
theorem sl_any (hK : U.K = X.K) : SlR X (fun x lo hi H Q => ∃ y s d r, Trk y H ∧ PV U y H d x ∧ slcOp s d lo hi = some r ∧ NewQ U y H r Q) := by
  intro pins s σ H x v vl vu lo hi sl Q I rx hs pl pu h
  obtain ⟨y, st, d, r, t, pd, hr, q⟩ := h
  unfold slcOp at hr
  split at hr
  · cases hr
    obtain ⟨a, xs, rfl, h1, h2⟩ := pd.lst
    exact sl_list pins s σ H _ v vl vu lo hi sl Q I rx hs pl pu ⟨a, xs, rfl, .of h1, fun p hp => q.lst t (h2.cut lo hi) hp⟩
  · cases hr
    obtain ⟨a, xs, rfl, h1, h2⟩ := pd.kls
    rw [hK] at h1
    exact sl_list pins s σ H _ v vl vu lo hi sl Q I rx hs pl pu ⟨a, xs, rfl, h1, fun p hp => q.lst t (h2.cut lo hi) hp⟩
  · cases hr
    obtain ⟨a, xs, rfl, h1, h2⟩ := pd.tup
    rw [hK] at h1
    refine sl_tupA pins s σ H _ v vl vu lo hi sl Q I rx hs pl pu ⟨a, xs, rfl, h1, fun z => ?_, fun _ p hp => q.tup t (h2.cut lo hi) hp⟩
    have e : ∀ (n d : Nat) (o : Option Int), HT.sIx n d o = Pyl.sIx n d o := fun n d o => by cases o <;> rfl
    rw [h2.length, e, e] at z
    rename_i ds
    have : cut ds lo hi = ds := by
      unfold cut
      rw [z.1, z.2]; simp
    rw [this] at q
    exact q.rep t pd
  · split at hr
    · rename_i z hl
      cases hr
      exact sl_str pins s σ H _ v vl vu lo hi sl Q I rx hs pl pu ⟨z, pd.str, Nat.le_trans hl lim_line, by
        have e : cutS z lo hi = ⟨(cut z.cps.toList lo hi).toArray⟩ := by
          have e : ∀ (n d : Nat) (o : Option Int), HT.sIx n d o = Pyl.sIx n d o := fun n d o => by cases o <;> rfl
          unfold cutS cut
          simp only [e, Array.length_toList]
          rfl
        rw [e]; exact q.str t⟩
    · cases hr
  · cases hr
end
end Pyl
set_option Elab.async false
set_option linter.all false
set_option maxRecDepth 100000
set_option maxHeartbeats 2000000
/-! SndExpr: expressions do what rE says. -/
namespace Pyl
open PySem PySem.Spec PyProof.Rows L2

/-! ### which expressions change nothing that stands -/
mutual
def qE : Ex → Bool
  | .var _ | .int _ | .str _ | .bl _ | .non | .glo _ => true
  | .bin _ a b => qO a && qO b
  | .neg a => qE a
  | .cmp _ a b => qO a && qO b
  | .isn _ a => qE a
  | .chn _ _ a b c => qE a && (qE b && qE c)
  | .andE es | .orE es => qEs es
  | .notE a => qE a
  | .ite t a b => qE t && (qE a && qE b)
  | .tupD es | .lstD es | .lsD es => qEs es
  | .dctD r => qKv r
  | .idx o i => qO o && qE i
  | .slc o l h => qO o && (qX l && qX h)
  | .atr o _ => qO o
  | .b1 _ o => qO o
  | .mm _ es => qEs es
  | .lI i | .tI i | .suI i | .dI i => qI i
  | .sI _ i => qI i
  | .mmI _ i d => qI i && qX d
  | .get o k d => qO o && (qE k && qX d)
  | .cnt o e | .ind o e => qO o && qE e
  | _ => false
def qX : Exo → Bool
  | .no => true
  | .yes e => qE e
def qEs : Exs → Bool
  | .nil => true
  | .cons e es => qE e && qEs es
def qKv : Kvs → Bool
  | .nil => true
  | .cons k v r => qE k && (qE v && qKv r)
def qO : On → Bool
  | .ex e => qE e
  | _ => true
def qI : It → Bool
  | .on o | .itm o | .vls o | .rv o => qO o
  | .r1 a => qE a
  | .r2 a b => qE a && qE b
  | .r3 a b c => qE a && (qE b && qE c)
  | .enu o => qO o
  | .zp a b => qO a && qO b
end
def On.isPf : On → Bool
  | .pf _ _ => true
  | _ => false
def Exs.len : Exs → Nat
  | .nil => 0
  | .cons _ r => r.len + 1
/-- the exception that is told -/
def ExR (U : Uni) (x : Xn) (cls : Value) (dd : Option Addr) (H : Hp) : Prop := cls = .ref (U.exc x.c)
section
variable {U : Uni} {W : WX} {q q1 q2 : Bool} {y y' : Ly} {H H' H0 : Hp} {σ : L2.St} {s : St} {α β : Type}
def wp (U : Uni) (W : WX) (q : Bool) (y : Ly) (H : Hp) (σ : L2.St) (r : R α) (P : α → St → Ly → Hp → Prop) : Prop := match r with
  | .ok a s' => ∀ y' H', Ext q y H y' H' → StR U y' σ H' s' → P a s' y' H'
  | .er x s' => ∀ y' H' cls dd, Ext false y H y' H' → StR U y' σ H' s' → ExR U x cls dd H' → W cls dd σ H'
  | .sk => False
theorem wp.mono {r : R α} {P P' : α → St → Ly → Hp → Prop} (h : wp U W q y H σ r P) (f : ∀ a s' y' H', r = .ok a s' → Ext q y H y' H' → StR U y' σ H' s' → P a s' y' H' → P' a s' y' H') : wp U W q y H σ r P' := by
  cases r with
  | ok a s' => exact fun y' H' e S => f a s' y' H' rfl e S (h y' H' e S)
  | er x s' => exact h
  | sk => exact h
theorem wp.base {r : R α} {P : α → St → Ly → Hp → Prop} (h : wp U W q y H σ r P) (e : Ext q1 y H y' H') (hq : q = true → q1 = true ∧ q2 = true) : wp U W q2 y' H' σ r P := by
  have ee : ∀ {y2 H2}, Ext q2 y' H' y2 H2 → Ext q y H y2 H2 := fun e2 => (e.trans e2).weak (by intro h; obtain ⟨a, b⟩ := hq h; simp [a, b])
  cases r with
  | ok a s' => exact fun y2 H2 e2 S => h y2 H2 (ee e2) S
  | er x s' => exact fun y2 H2 cls dd e2 S x => h y2 H2 cls dd (e.any.trans e2) S x
  | sk => exact h
/-- .. where nothing that stood before is touched by what follows -/
theorem wp.qt {r : R α} {P : α → St → Ly → Hp → Prop} (h : wp U W q y H σ r P) (e : Ext q y H y' H') : wp U W true y' H' σ r P := h.base e fun z => ⟨z, rfl⟩
theorem wp.ok {a : α} {P : α → St → Ly → Hp → Prop} (h : wp U W q y H σ (.ok a s) P) (S : StR U y σ H s) : P a s y H := h y H (Ext.refl _ _ _) S
theorem wp.at {a : α} {P : α → St → Ly → Hp → Prop} (h : wp U W q y H σ (.ok a s) P) (e : Ext q y H y' H') (S : StR U y' σ H' s) : P a s y' H' := h y' H' e S
theorem wp.er {x : Xn} {P : α → St → Ly → Hp → Prop} (h : wp U W q y H σ (.er x s : R α) P) (S : StR U y σ H s) {cls : Value} {dd : Option Addr} (hx : ExR U x cls dd H) : W cls dd σ H := h y H cls dd (Ext.refl _ _ _) S hx
/-- the wish behind an expression -/
abbrev QE (U : Uni) (H0 : Hp) (Q : VK) : D × Bool → St → Ly → Hp → Prop := fun p _ y' H' => ∀ v, VR U H0 y' H' p v → Q v H'
theorem VR.int {i : Int} {fr : Bool} {v : V} (h : VR U H0 y H (.int i, fr) v) : v = .int i := h.pv.int
theorem VR.bl {i : Bool} {fr : Bool} {v : V} (h : VR U H0 y H (.bl i, fr) v) : v = .bl i := h.pv.bl
theorem VR.str {i : Str} {fr : Bool} {v : V} (h : VR U H0 y H (.str i, fr) v) : v = .str i := h.pv.str
theorem VR.of_int (i : Int) : VR U H0 y H (.int i, false) (.int i) := VR.fz (by rw [Rep])
theorem VR.of_bl (i : Bool) : VR U H0 y H (.bl i, false) (.bl i) := VR.fz (by rw [Rep])
theorem VR.of_str (i : Str) : VR U H0 y H (.str i, false) (.str i) := VR.fz (by rw [Rep])
theorem VR.of_non : VR U H0 y H (.non, false) .non := VR.fz (by rw [Rep])
theorem VR.lower {p : D × Bool} {v : V} {H1 : Hp} (h : VR U H1 y H p v) (k : ∀ a, H0 a ≠ none → H1 a ≠ none) : VR U H0 y H p v := by
  obtain ⟨d, fr⟩ := p
  cases fr with
  | false => exact VR.fz h.of_fz
  | true =>
    obtain ⟨a, rfl, h0, r, c⟩ := h.to_new
    refine VR.of_new ?_ r c
    cases hz : H0 a with
    | none => rfl
    | some o => exact absurd h0 (k a (by rw [hz]; intro z; cases z))
/-- what an operation gives, as it is wanted -/
theorem wp.new {r : D × Bool} {Q : VK} {H1 : Hp} (w : wp U W q y H σ (.ok r s) (QE U H1 Q)) (S : StR U y σ H s) (kt : ∀ a, H1 a ≠ none → H a ≠ none) : NewQ U y H r Q :=
  fun y' H' v ex fr vr => w y' H' (ex.weak fun _ => rfl) (S.fr fr) v (vr.lower kt)
end
theorem PE.imp {X : Cx} {e : Expr} {t t' : TE} (h : PE X e t) (f : ∀ σ H Q, t' σ H Q → t σ H Q) : PE X e t' := ⟨fun pins s σ H Q I w => h.run pins s σ H Q I (f σ H Q w)⟩
theorem PT.imp {X : Cx} {e : Expr} {t t' : TT} (h : PT X e t) (f : ∀ σ H Q, t' σ H Q → t σ H Q) : PT X e t' := ⟨fun pins s σ H Q I w => h.run pins s σ H Q I (f σ H Q w)⟩
theorem PW.imp {X : Cx} {e : Expr} {t t' : TT} (h : PW X e t) (f : ∀ σ H Q, t' σ H Q → t σ H Q) : PW X e t' := ⟨fun whole pins s σ H Q I w => h.run whole pins s σ H Q I (f σ H Q w)⟩
theorem PA.imp {X : Cx} {e : List Expr} {t t' : TA} (h : PA X e t) (f : ∀ σ H Q, t' σ H Q → t σ H Q) : PA X e t' := ⟨fun pos pins s σ H Q I w => h.run pos pins s σ H Q I (f σ H Q w)⟩
theorem PE.or {X : Cx} {e : Expr} {t t' : TE} (h : PE X e t) (h' : PE X e t') : PE X e (fun σ H Q => t σ H Q ∨ t' σ H Q) :=
  ⟨fun pins s σ H Q I w => by rcases w with w | w; exact h.run pins s σ H Q I w; exact h'.run pins s σ H Q I w⟩
/-- readings -/
def rdE (U : Uni) (W : WX) (Γ : Env) (e : Ex) : TE := fun σ H Q => ∃ y s, StR U y σ H s ∧ wp U W (qE e) y H σ (rE Γ e s) (QE U H Q)
def truR (r : R (D × Bool)) : R Bool := r.bind fun p s => match p.1.tru with | some b => .ok b s | none => .sk
/-- a test -/
def rdT (U : Uni) (W : WX) (Γ : Env) (e : Ex) : TT := fun σ H Q => ∃ y s, StR U y σ H s ∧ wp U W (qE e) y H σ (truR (rE Γ e s)) (fun b _ y' H' => Q b H')
def rdA (U : Uni) (W : WX) (Γ : Env) (es : Exs) : TA := fun σ H Q => ∃ y s, StR U y σ H s ∧ wp U W (qEs es) y H σ (rEs Γ es s) (fun ds _ y' H' => ∀ vs, Reps U y' H' ds vs → Q vs H')
def rdO (U : Uni) (W : WX) (Γ : Env) (o : On) : TE := fun σ H Q => ∃ y s, StR U y σ H s ∧ wp U W (qO o) y H σ (rO Γ o s) (fun x _ y' H' => ∀ v, ODR U H y' H' σ x v → Q v H')
/-- and, or -/
def rdN (U : Uni) (W : WX) (Γ : Env) (k : Bool) (es : Exs) : TE := fun σ H Q => ∃ y s, StR U y σ H s ∧ wp U W (qEs es) y H σ (rAnd Γ k es s) (QE U H Q)
def rdNT (U : Uni) (W : WX) (Γ : Env) (k : Bool) (es : Exs) : TT := fun σ H Q => ∃ y s, StR U y σ H s ∧ wp U W (qEs es) y H σ (truR (rAnd Γ k es s)) (fun b _ y' H' => Q b H')
section
variable {U : Uni} {W : WX} {Γ : Env} {X : Cx} {σ : L2.St} {H : Hp} {Q : VK} {β : Type} {P : β → St → Ly → Hp → Prop} {y : Ly} {s : St} {q : Bool}
/-- the first part of a reading -/
theorem rdE.seq {e : Ex} {f : D × Bool → St → R β} {R' : VK} (S : StR U y σ H s) (h : wp U W q y H σ ((rE Γ e s).bind f) P) (hq : q = true → qE e = true)
    (k : ∀ p s' y' H', rE Γ e s = .ok p s' → Ext (qE e) y H y' H' → StR U y' σ H' s' → wp U W q y H σ (f p s') P → ∀ v, VR U H y' H' p v → R' v H') : rdE U W Γ e σ H R' := by
  refine ⟨y, s, S, ?_⟩
  cases hr : rE Γ e s with
  | ok p s' => rw [hr] at h; exact fun y' H' ex S' v hv => k p s' y' H' hr ex S' h v hv
  | er x s' => rw [hr] at h; exact h
  | sk => rw [hr] at h; exact h
theorem rdA.seq {es : Exs} {f : List D → St → R β} {R' : List V → Hp → Prop} (S : StR U y σ H s) (h : wp U W q y H σ ((rEs Γ es s).bind f) P) (hq : q = true → qEs es = true)
    (k : ∀ ds s' y' H', rEs Γ es s = .ok ds s' → Ext (qEs es) y H y' H' → StR U y' σ H' s' → wp U W q y H σ (f ds s') P → ∀ vs, Reps U y' H' ds vs → R' vs H') : rdA U W Γ es σ H R' := by
  refine ⟨y, s, S, ?_⟩
  cases hr : rEs Γ es s with
  | ok p s' => rw [hr] at h; exact fun y' H' ex S' v hv => k p s' y' H' hr ex S' h v hv
  | er x s' => rw [hr] at h; exact h
  | sk => rw [hr] at h; exact h
theorem rO_fd {o : On} {n f : Nat} {s' : St} (h : rO Γ o s = .ok (.fd n f) s') : o.isPf = true := by
  cases o with
  | ex e =>
    simp only [rO] at h
    cases hr : rE Γ e s with
    | ok p t => rw [hr] at h; cases h
    | er x t => rw [hr] at h; cases h
    | sk => rw [hr] at h; cases h
  | pk i =>
    simp only [rO] at h
    split at h <;> cases h
  | pf i g => rfl
theorem rdO.seq {o : On} {f : OD → St → R β} {R' : VK} (S : StR U y σ H s) (h : wp U W q y H σ ((rO Γ o s).bind f) P) (hq : q = true → qO o = true)
    (k : ∀ x s' y' H', ((∃ n f, x = .fd n f) → o.isPf = true) → Ext (qO o) y H y' H' → StR U y' σ H' s' → wp U W q y H σ (f x s') P → ∀ v, ODR U H y' H' σ x v → R' v H') : rdO U W Γ o σ H R' := by
  refine ⟨y, s, S, ?_⟩
  cases hr : rO Γ o s with
  | ok p s' => rw [hr] at h; exact fun y' H' ex S' v hv => k p s' y' H' (by rintro ⟨n, f, rfl⟩; exact rO_fd hr) ex S' h v hv
  | er x s' => rw [hr] at h; exact h
  | sk => rw [hr] at h; exact h
/-- a test that is a value -/
theorem rdT.seq {e : Ex} {f : Bool → St → R β} {R' : Bool → Hp → Prop} (S : StR U y σ H s) (h : wp U W q y H σ ((truR (rE Γ e s)).bind f) P) (hq : q = true → qE e = true)
    (k : ∀ b s' y' H', truR (rE Γ e s) = .ok b s' → Ext (qE e) y H y' H' → StR U y' σ H' s' → wp U W q y H σ (f b s') P → R' b H') : rdT U W Γ e σ H R' := by
  refine ⟨y, s, S, ?_⟩
  cases hr : truR (rE Γ e s) with
  | ok p s' => rw [hr] at h; exact fun y' H' ex S' => k p s' y' H' hr ex S' h
  | er x s' => rw [hr] at h; exact h
  | sk => rw [hr] at h; exact h
theorem wp.tru {r : R (D × Bool)} {Q : Bool → Hp → Prop} (w : wp U W q y H σ (truR r) (fun b _ y' H' => Q b H')) : wp U W q y H σ r (fun p _ _ H' => ∃ b, p.1.tru = some b ∧ Q b H') := by
  cases r with
  | ok p s' =>
    intro y' H' e S'
    unfold truR at w
    rw [R.bind_ok] at w
    cases h : p.1.tru with
    | none => rw [h] at w; exact w.elim
    | some b => rw [h] at w; exact ⟨b, rfl, w y' H' e S'⟩
  | er x s' => exact w
  | sk => exact w
/-! ### atoms -/
theorem snd_int {i : Int} {j pos} : PE X (.Constant (.int i) j pos) (rdE U W Γ (.int i)) := PE.imp pe_int fun σ H Q ⟨y, s, S, w⟩ => wp.ok (s := s) w S _ (VR.of_int i)
theorem snd_str {i : Str} {j pos} : PE X (.Constant (.str i) j pos) (rdE U W Γ (.str i)) := PE.imp pe_str fun σ H Q ⟨y, s, S, w⟩ => wp.ok (s := s) w S _ (VR.of_str i)
theorem snd_bl {i : Bool} {j pos} : PE X (.Constant (.bool i) j pos) (rdE U W Γ (.bl i)) := PE.imp pe_bl fun σ H Q ⟨y, s, S, w⟩ => wp.ok (s := s) w S _ (VR.of_bl i)
theorem snd_non {j pos} : PE X (.Constant .none j pos) (rdE U W Γ .non) := PE.imp pe_non fun σ H Q ⟨y, s, S, w⟩ => wp.ok (s := s) w S _ VR.of_non
theorem snd_var {i : Nat} {x : Str} {pos : Pos} (hN : X.N[i]? = some x) (hv : Vis X.env.scope x) (hd : (x == ("__debug__" : Str)) = false := by decide) (hcd : (x == ("__classdict__" : Str)) = false := by decide) : PE X (.Name x pos) (rdE U W Γ (.var i)) :=
  PE.imp (pe_var hN hv hd hcd) fun σ H Q ⟨y, s, S, w⟩ => by
    simp only [rE] at w
    split at w
    · rename_i d g
      obtain ⟨v, e, r⟩ := S.slot g (by intro z; cases z)
      exact ⟨v, e, w.ok S v (VR.fz r)⟩
    · rename_i d g
      obtain ⟨v, y', e, ex, S', r⟩ := S.freeze g
      exact ⟨v, e, w.at (ex.weak fun _ => rfl) S' v (VR.fz r)⟩
    · exact w.elim
theorem snd_ex {e : Expr} {ie : Ex} (h : PE X e (rdE U W Γ ie)) : PE X e (rdO U W Γ (.ex ie)) := PE.imp h fun σ H Q ⟨y, s, S, w⟩ => by
  simp only [rO] at w
  exact rdE.seq S w (fun z => z) fun p s' y' H' _ ex S' w' v hv => w'.at ex S' v hv
theorem snd_pk {i : Nat} {x : Str} {pos : Pos} (hN : X.N[i]? = some x) (hv : Vis X.env.scope x) (hd : (x == ("__debug__" : Str)) = false := by decide) (hcd : (x == ("__classdict__" : Str)) = false := by decide) : PE X (.Name x pos) (rdO U W Γ (.pk i)) :=
  PE.imp (pe_var hN hv hd hcd) fun σ H Q ⟨y, s, S, w⟩ => by
    simp only [rO] at w
    split at w
    · exact w.elim
    · rename_i n1
      obtain ⟨v, e, r⟩ := S.val (i := i) (fun z => n1 z)
      exact ⟨v, e, w.ok S v e⟩
/-- the classes: attributes are got and set plainly -/
structure ClsOk (U : Uni) : Prop where
  cls : ∀ c, Cls U.K (U.cls c)
theorem snd_atr {o : Expr} {io : On} {f : Nat} {x : Str} {pos : Pos} (hK : U.K = X.K) (hc : ClsOk U) (hn : ∀ c, NoAttr U.K (U.cls c) (U.fnm f)) (hx : U.fnm f = x) (ho : PE X o (rdO U W Γ io)) (hb : attributeBase o x X.env (eval o X.env) = eval o X.env := by rfl) :
    PE X (.Attribute o x pos) (rdE U W Γ (.atr io f)) := by
  subst hx
  refine PE.imp (pe_fld ho hb) fun σ H Q ⟨y, s, S, w⟩ => ?_
  simp only [rE] at w
  refine rdO.seq S w (fun z => z) fun x s1 y1 H1 hx ex S1 w1 v hv => ?_
  split at w1
  · rename_i c fs e
    split at w1
    · rename_i d g
      have p : Rep U y1 H1 (.obj c fs) v := hv.later (Ext.refl true _ _) S1 (fun _ => rfl) e
      obtain ⟨a, dx, vs, rfl, _, h1, h2⟩ := Rep.obj_.1 p
      obtain ⟨w', h3, h4⟩ := repf_look h2 g
      refine ⟨a, _, dx, vs, w', rfl, h1, hK ▸ hc.cls c, hK ▸ hn c, h3, w1.at ex S1 w' (VR.fz h4)⟩
    · exact w1.elim
  · rename_i n e
    split at w1
    · rename_i d g
      have p : Rep U y1 H1 (.loc n) v := hv.later (Ext.refl true _ _) S1 (fun _ => rfl) e
      obtain ⟨a, rfl, h1⟩ := Rep.loc_.1 p
      obtain ⟨c, fs, a', dx, vs, w', k1, k2, k3, k4, k5, k6, k7, k8, k9⟩ := S1.fldv g
      rw [h1] at k3; cases k3
      exact ⟨a, _, dx, vs, w', rfl, k5, hK ▸ hc.cls c, hK ▸ hn c, k8, w1.at ex S1 w' (VR.fz k9)⟩
    · exact w1.elim
  · exact w1.elim
where
  repf_look {y1 : Ly} {H1 : Hp} {f : Nat} {d : D} : ∀ {fs : List (Nat × D)} {vs : List (Str × V)}, Repf U y1 H1 fs vs → fg fs f = some d → ∃ w, vs.lookup (U.fnm f) = some w ∧ Rep U y1 H1 d w
    | [], _, _, e => by simp [fg] at e
    | (g, d0) :: fs, vs, h, e => by
      rw [Repf] at h
      obtain ⟨v, r, rfl, h1, h2⟩ := h
      by_cases hg : g = f
      · subst hg
        simp only [fg, if_true] at e
        cases e
        exact ⟨v, look_same, h1⟩
      · simp only [fg, hg, if_false] at e
        rw [look_ne (fun z => hg (U.inj _ _ z).symm)]
        exact repf_look h2 e
theorem snd_pf {i f : Nat} {x fx : Str} {p pos : Pos} (hK : U.K = X.K) (hc : ClsOk U) (hn : ∀ c, NoAttr U.K (U.cls c) (U.fnm f)) (hfx : U.fnm f = fx) (hN : X.N[i]? = some x) (hv : Vis X.env.scope x) (hd : (x == ("__debug__" : Str)) = false := by decide) (hcd : (x == ("__classdict__" : Str)) = false := by decide)
    (hb : attributeBase (.Name x p) fx X.env (eval (.Name x p) X.env) = eval (.Name x p) X.env := by rfl) : PE X (.Attribute (.Name x p) fx pos) (rdO U W Γ (.pf i f)) := by
  subst hfx
  refine PE.imp (pe_fld (pe_var hN hv hd hcd) hb) fun σ H Q ⟨y, s, S, w⟩ => ?_
  simp only [rO] at w
  split at w
  · rename_i n g
    split at w
    · exact w.elim
    · rename_i sv ne gf
      obtain ⟨vo, ho, ro⟩ := S.slot g (by intro z; cases z)
      have ro : Rep U y H (.loc n) vo := ro
      obtain ⟨a, rfl, ha⟩ := Rep.loc_.1 ro
      obtain ⟨c, fs, a', dx, vs, w', k1, k2, k3, k4, k5, k6, k7, k8, k9⟩ := S.fldv gf
      rw [ha] at k3; cases k3
      exact ⟨.ref a, ho, a, _, dx, vs, w', rfl, k5, hK ▸ hc.cls c, hK ▸ hn c, k8, w.ok S w' ⟨a, _, dx, vs, ha, k5, k8⟩⟩
    · exact w.elim
  · rename_i c fs g
    split at w
    · rename_i d gf
      obtain ⟨vo, ho, ro⟩ := S.slot g (by intro z; cases z)
      have ro : Rep U y H (.obj c fs) vo := ro
      obtain ⟨a, dx, vs, rfl, _, h1, h2⟩ := Rep.obj_.1 ro
      obtain ⟨w', h3, h4⟩ := snd_atr.repf_look h2 gf
      exact ⟨.ref a, ho, a, _, dx, vs, w', rfl, h1, hK ▸ hc.cls c, hK ▸ hn c, h3, w.ok S w' (VR.fz h4)⟩
    · exact w.elim
  · exact w.elim
/-! ### operators -/
theorem opt_wp {α : Type} {o : Option α} {P : α → St → Ly → Hp → Prop} (h : wp U W q y H σ (opt s o) P) : ∃ a, o = some a ∧ wp U W q y H σ (.ok a s) P := by
  cases o with
  | none => exact h.elim
  | some a => exact ⟨a, rfl, h⟩
theorem and_l {a b : Bool} (h : (a && b) = true) : a = true := by simp at h; exact h.1
theorem and_r {a b : Bool} (h : (a && b) = true) : b = true := by simp at h; exact h.2
theorem snd_bin {a b : Expr} {ia ib : On} {op : Op} {pos : Pos} (hK : U.K = X.K) (ha : PE X a (rdO U W Γ ia)) (hb : PE X b (rdO U W Γ ib)) (hp : (!ia.isPf || qO ib) = true := by decide) : PE X (.BinOp a op.m b pos) (rdE U W Γ (.bin op ia ib)) :=
  PE.imp (pe_op (op_bin hK op) ha hb) fun σ H Q ⟨y, s, S, w⟩ => by
    simp only [rE, qE] at w
    refine rdO.seq S w and_l fun x1 s1 y1 H1 hx1 e1 S1 w1 v1 hv1 => ?_
    refine rdO.seq (q := qO ib) S1 (w1.base e1 fun z => ⟨and_l z, and_r z⟩) (fun z => z) fun x2 s2 y2 H2 hx2 e2 S2 w2 v2 hv2 => ?_
    split at w2
    · rename_i d1 d2 g1 g2
      obtain ⟨r, hr, w3⟩ := opt_wp w2
      have p1 := hv1.later e2 S2 (fun z => by have := hx1 z; simp [this] at hp; exact hp) g1
      have p2 := hv2.later (Ext.refl true _ _) S2 (fun _ => rfl) g2
      exact ⟨y2, d1, d2, r, S2.trk, p1, p2, hr, (w3.qt e2).new S2 fun a h => e2.kt a (e1.kt a h)⟩
    · exact w2.elim
theorem snd_neg {a : Expr} {ia : Ex} {pos : Pos} (ha : PE X a (rdE U W Γ ia)) : PE X (.UnaryOp .USub a pos) (rdE U W Γ (.neg ia)) := PE.imp (pe_un un_neg ha) fun σ H Q ⟨y, s, S, w⟩ => by
  simp only [rE, qE] at w
  refine rdE.seq S w (fun z => z) fun p s' y' H' _ ex S' w v hv => ?_
  obtain ⟨d, fr⟩ := p
  cases d with
  | int i => exact ⟨i, hv.int, w.at ex S' _ (VR.of_int _)⟩
  | _ => exact w.elim
theorem snd_cmp {a b : Expr} {ia ib : On} {c : Cm} {pos : Pos} (hK : U.K = X.K) (hu : X.A.units + 64 < cLine) (ha : PE X a (rdO U W Γ ia)) (hb : PE X b (rdO U W Γ ib)) (hp : (!ia.isPf || qO ib) = true := by decide)
    (hm : behindInMarks c.m b = false := by first | exact nomark _ (by decide) (by decide) | rfl) : PE X (.Compare a [c.m] [b] pos) (rdE U W Γ (.cmp c ia ib)) :=
  PE.imp (pe_cmpR (op_cmp hK hu c) ha hb hm) fun σ H Q ⟨y, s, S, w⟩ => by
    simp only [rE, qE] at w
    refine rdO.seq S w and_l fun x1 s1 y1 H1 hx1 e1 S1 w1 v1 hv1 => ?_
    refine rdO.seq (q := qO ib) S1 (w1.base e1 fun z => ⟨and_l z, and_r z⟩) (fun z => z) fun x2 s2 y2 H2 hx2 e2 S2 w2 v2 hv2 => ?_
    split at w2
    · rename_i d1 d2 g1 g2
      split at w2
      · rename_i k hk
        have p1 := hv1.later e2 S2 (fun z => by have := hx1 z; simp [this] at hp; exact hp) g1
        have p2 := hv2.later (Ext.refl true _ _) S2 (fun _ => rfl) g2
        exact ⟨y2, d1, d2, k, p1, p2, hk, w2.at e2 S2 _ (VR.of_bl k)⟩
      · exact w2.elim
    · exact w2.elim
theorem snd_tcmp {a b : Expr} {ia ib : On} {c : Cm} {pos : Pos} (hK : U.K = X.K) (hu : X.A.units + 64 < cLine) (ha : PE X a (rdO U W Γ ia)) (hb : PE X b (rdO U W Γ ib)) (hp : (!ia.isPf || qO ib) = true := by decide)
    (hm : behindInMarks c.m b = false := by first | exact nomark _ (by decide) (by decide) | rfl) : PT X (.Compare a [c.m] [b] pos) (rdT U W Γ (.cmp c ia ib)) :=
  PT.imp (pt_cmpR (op_cmp hK hu c) ha hb hm) fun σ H Q ⟨y, s, S, w⟩ => by
    replace w := w.tru
    simp only [rE, qE] at w
    refine rdO.seq S w and_l fun x1 s1 y1 H1 hx1 e1 S1 w1 v1 hv1 => ?_
    refine rdO.seq (q := qO ib) S1 (w1.base e1 fun z => ⟨and_l z, and_r z⟩) (fun z => z) fun x2 s2 y2 H2 hx2 e2 S2 w2 v2 hv2 => ?_
    split at w2
    · rename_i d1 d2 g1 g2
      split at w2
      · rename_i k hk
        have p1 := hv1.later e2 S2 (fun z => by have := hx1 z; simp [this] at hp; exact hp) g1
        have p2 := hv2.later (Ext.refl true _ _) S2 (fun _ => rfl) g2
        obtain ⟨b, hb, w3⟩ := w2.at e2 S2
        cases hb
        exact ⟨y2, d1, d2, _, p1, p2, hk, _, rfl, w3⟩
      · exact w2.elim
    · exact w2.elim
end
end Pyl
set_option Elab.async false
set_option linter.all false
set_option maxRecDepth 100000
set_option maxHeartbeats 2000000
/-! SndExpr2: more expressions. -/
namespace Pyl
open PySem PySem.Spec PyProof.Rows L2
section
variable {U : Uni} {W : WX} {Γ : Env} {X : Cx} {σ : L2.St} {H : Hp} {Q : VK} {β : Type} {P : β → St → Ly → Hp → Prop} {y : Ly} {s : St} {q : Bool}
def D.isNon : D → Bool
  | .non => true
  | _ => false
theorem PV.is_non {d : D} {v : V} (h : PV U y H d v) : decide (v = .non) = d.isNon := by
  cases d with
  | non => rw [h.non]; rfl
  | bl b => rw [h.bl]; rfl
  | int i => rw [h.int]; rfl
  | str x => rw [h.str]; rfl
  | tup ds => obtain ⟨a, xs, rfl, _⟩ := h.tup; rfl
  | lst ds => obtain ⟨a, xs, rfl, _⟩ := h.lst; rfl
  | kls ds => obtain ⟨a, xs, rfl, _⟩ := h.kls; rfl
  | ktp ds => obtain ⟨a, xs, rfl, _⟩ := h.ktp; rfl
  | dct kvs => obtain ⟨a, xs, rfl, _⟩ := h.dct; rfl
  | obj c fs =>
    have h : Rep U y H (.obj c fs) v := h
    obtain ⟨a, _, _, rfl, _⟩ := Rep.obj_.1 h; rfl
  | loc n =>
    have h : Rep U y H (.loc n) v := h
    obtain ⟨a, rfl, _⟩ := Rep.loc_.1 h; rfl
theorem snd_isN {a : Expr} {ia : Ex} {j pos' pos} (ha : PE X a (rdE U W Γ ia)) : PE X (.Compare a [.Is] [.Constant .none j pos'] pos) (rdE U W Γ (.isn false ia)) :=
  PE.imp (pe_cmp (pc_isN ha)) fun σ H Q ⟨y, s, S, w⟩ => by
    simp only [rE, qE] at w
    refine rdE.seq S w (fun z => z) fun p s1 y1 H1 _ e1 S1 w1 v hv => ?_
    have z := w1.at e1 S1 _ (VR.of_bl _)
    rw [hv.pv.is_non]
    obtain ⟨d, fr⟩ := p
    cases d <;> exact z
theorem snd_notN {a : Expr} {ia : Ex} {j pos' pos} (ha : PE X a (rdE U W Γ ia)) : PE X (.Compare a [.IsNot] [.Constant .none j pos'] pos) (rdE U W Γ (.isn true ia)) :=
  PE.imp (pe_cmp (pc_notN ha)) fun σ H Q ⟨y, s, S, w⟩ => by
    simp only [rE, qE] at w
    refine rdE.seq S w (fun z => z) fun p s1 y1 H1 _ e1 S1 w1 v hv => ?_
    have z := w1.at e1 S1 _ (VR.of_bl _)
    rw [hv.pv.is_non]
    obtain ⟨d, fr⟩ := p
    cases d <;> exact z
theorem snd_tisN {a : Expr} {ia : Ex} {j pos' pos} (ha : PE X a (rdE U W Γ ia)) : PT X (.Compare a [.Is] [.Constant .none j pos'] pos) (rdT U W Γ (.isn false ia)) :=
  PT.imp (pt_cmp (pc_isN ha)) fun σ H Q ⟨y, s, S, w⟩ => by
    replace w := w.tru
    simp only [rE, qE] at w
    refine rdE.seq S w (fun z => z) fun p s1 y1 H1 _ e1 S1 w1 v hv => ?_
    obtain ⟨b, hb, z⟩ := w1.at e1 S1
    refine ⟨b, ?_, z⟩
    rw [hv.pv.is_non]
    obtain ⟨d, fr⟩ := p
    cases d <;> (cases hb; rfl)
theorem snd_tnotN {a : Expr} {ia : Ex} {j pos' pos} (ha : PE X a (rdE U W Γ ia)) : PT X (.Compare a [.IsNot] [.Constant .none j pos'] pos) (rdT U W Γ (.isn true ia)) :=
  PT.imp (pt_cmp (pc_notN ha)) fun σ H Q ⟨y, s, S, w⟩ => by
    replace w := w.tru
    simp only [rE, qE] at w
    refine rdE.seq S w (fun z => z) fun p s1 y1 H1 _ e1 S1 w1 v hv => ?_
    obtain ⟨b, hb, z⟩ := w1.at e1 S1
    refine ⟨b, ?_, z⟩
    rw [hv.pv.is_non]
    obtain ⟨d, fr⟩ := p
    cases d <;> (cases hb; rfl)
/-! ### a < b < c -/
theorem PV.of_int (i : Int) : PV U y H (.int i) (.int i) := by
  show Rep U y H (.int i) (.int i)
  exact Rep.int_.2 rfl
theorem chn_core {ia ib ic : Ex} {c1 c2 : Cm} {P' : D × Bool → St → Ly → Hp → Prop} (Q' : V → Hp → Prop) (S : StR U y σ H s) (w : wp U W q y H σ (rE Γ (.chn c1 c2 ia ib ic) s) P') (hq : q = true → (qE ia && (qE ib && qE ic)) = true)
    (hQ : ∀ k s' y' H', P' (D.bl k, false) s' y' H' → Q' (.bl k) H') :
    tChain (fun x x' H Q => ∃ y d e k, PV U y H d x ∧ PV U y H e x' ∧ cmpop c1 d e = some k ∧ Q (.bl k) H) (fun x x' H Q => ∃ y d e k, PV U y H d x ∧ PV U y H e x' ∧ cmpop c2 d e = some k ∧ Q (.bl k) H) (rdE U W Γ ia) (rdE U W Γ ib) (rdE U W Γ ic) σ H Q' := by
  simp only [rE] at w
  refine rdE.seq S w (fun z => and_l (hq z)) fun p s1 y1 H1 _ e1 S1 w1 v1 hv1 => ?_
  refine rdE.seq (q := qE ib && qE ic) S1 (w1.base e1 fun z => by have := hq z; simp at this; simp [this]) and_l fun p2 s2 y2 H2 _ e2 S2 w2 v2 hv2 => ?_
  obtain ⟨d1, f1⟩ := p
  obtain ⟨d2, f2⟩ := p2
  cases d1 with
  | int i =>
    cases d2 with
    | int j =>
      simp only at w2
      cases h1 : cmpop c1 (.int i) (.int j) with
      | none => rw [h1] at w2; exact w2.elim
      | some k =>
        rw [h1] at w2
        refine ⟨y2, .int i, .int j, k, by rw [hv1.int]; exact PV.of_int i, by rw [hv2.int]; exact PV.of_int j, h1, k, rfl, ?_⟩
        cases k with
        | false => exact hQ _ _ _ _ (w2.at (e2.weak and_l) S2)
        | true =>
          show rdE U W Γ ic σ H2 _
          refine rdE.seq (q := qE ic) S2 (w2.base e2 fun z => ⟨and_l z, and_r z⟩) (fun z => z) fun p3 s3 y3 H3 _ e3 S3 w3 v3 hv3 => ?_
          obtain ⟨d3, f3⟩ := p3
          cases d3 with
          | int k =>
            simp only at w3
            cases h2 : cmpop c2 (.int j) (.int k) with
            | none => rw [h2] at w3; exact w3.elim
            | some r =>
              rw [h2] at w3
              exact ⟨y3, .int j, .int k, r, by rw [hv2.int]; exact PV.of_int j, by rw [hv3.int]; exact PV.of_int k, h2, hQ _ _ _ _ (w3.at e3 S3)⟩
          | _ => exact w3.elim
    | _ => exact w2.elim
  | _ => exact w2.elim
theorem snd_chn {a b c : Expr} {ia ib ic : Ex} {c1 c2 : Cm} {pos : Pos} (hK : U.K = X.K) (hu : X.A.units + 64 < cLine) (ha : PE X a (rdE U W Γ ia)) (hb : PE X b (rdE U W Γ ib)) (hc : PE X c (rdE U W Γ ic)) (hm : lastMarks [c1.m, c2.m] [b, c] = false := by with_unfolding_all rfl) :
    PE X (.Compare a [c1.m, c2.m] [b, c] pos) (rdE U W Γ (.chn c1 c2 ia ib ic)) :=
  PE.imp (pe_chain (op_cmp hK hu c1) (op_cmp hK hu c2) ha hb hc hm) fun σ H Q ⟨y, s, S, w⟩ => chn_core Q S w (fun z => z) fun k s' y' H' h => h _ (VR.of_bl k)
theorem snd_tchn {a b c : Expr} {ia ib ic : Ex} {c1 c2 : Cm} {pos : Pos} (hK : U.K = X.K) (hu : X.A.units + 64 < cLine) (ha : PE X a (rdE U W Γ ia)) (hb : PE X b (rdE U W Γ ib)) (hc : PE X c (rdE U W Γ ic)) (hm : lastMarks [c1.m, c2.m] [b, c] = false := by with_unfolding_all rfl) :
    PT X (.Compare a [c1.m, c2.m] [b, c] pos) (rdT U W Γ (.chn c1 c2 ia ib ic)) :=
  PT.imp (pt_chain (op_cmp hK hu c1) (op_cmp hK hu c2) ha hb hc hm) fun σ H Q ⟨y, s, S, w⟩ => chn_core (fun x H' => ∃ k, x = .bl k ∧ Q k H') S w.tru (fun z => z) fun k s' y' H' ⟨b, hb, z⟩ => by cases hb; exact ⟨_, rfl, z⟩
/-! ### and, or, not, if -/
theorem snd_n1 {a : Expr} {ia : Ex} {op} {k : Bool} {pos : Pos} (ha : PE X a (rdE U W Γ ia)) : PE X (.BoolOp op [a] pos) (rdN U W Γ k (.cons ia .nil)) :=
  PE.imp (pe_one ha) fun σ H Q ⟨y, s, S, w⟩ => by
    simp only [rAnd, qEs, Bool.and_true] at w
    refine rdE.seq S w (fun z => z) fun p s1 y1 H1 _ e1 S1 w1 v hv => ?_
    obtain ⟨d, fr⟩ := p
    cases d with
    | bl b => rw [hv.bl]; exact w1.at e1 S1 _ (VR.of_bl b)
    | _ => exact w1.elim
theorem snd_andC {a b : Expr} {rest : List Expr} {ia ib : Ex} {ir : Exs} {pos : Pos} (ha : PE X a (rdE U W Γ ia)) (hb : PE X (.BoolOp .And (b :: rest) pos) (rdN U W Γ true (.cons ib ir))) : PE X (.BoolOp .And (a :: b :: rest) pos) (rdN U W Γ true (.cons ia (.cons ib ir))) :=
  PE.imp (pe_and ha hb) fun σ H Q ⟨y, s, S, w⟩ => by
    rw [rAnd] at w
    refine rdE.seq S w and_l fun p s1 y1 H1 _ e1 S1 w1 v hv => ?_
    obtain ⟨d, fr⟩ := p
    cases d with
    | bl b =>
      refine ⟨b, hv.bl, ?_⟩
      cases b with
      | true =>
        simp only [if_true] at w1 ⊢
        refine ⟨y1, s1, S1, (w1.base e1 fun z => ⟨and_l z, and_r z⟩).mono fun p s2 y2 H2 _ e2 S2 h v hv => h v (hv.lower e1.kt)⟩
      | false =>
        simp only [Bool.false_eq_true, if_false] at w1 ⊢
        exact w1.at (e1.weak and_l) S1 _ (VR.of_bl _)
    | _ => exact w1.elim
theorem snd_orC {a b : Expr} {rest : List Expr} {ia ib : Ex} {ir : Exs} {pos : Pos} (ha : PE X a (rdE U W Γ ia)) (hb : PE X (.BoolOp .Or (b :: rest) pos) (rdN U W Γ false (.cons ib ir))) : PE X (.BoolOp .Or (a :: b :: rest) pos) (rdN U W Γ false (.cons ia (.cons ib ir))) :=
  PE.imp (pe_or ha hb) fun σ H Q ⟨y, s, S, w⟩ => by
    rw [rAnd] at w
    refine rdE.seq S w and_l fun p s1 y1 H1 _ e1 S1 w1 v hv => ?_
    obtain ⟨d, fr⟩ := p
    cases d with
    | bl b =>
      refine ⟨b, hv.bl, ?_⟩
      cases b with
      | false =>
        simp only [if_true, Bool.false_eq_true, if_false] at w1 ⊢
        refine ⟨y1, s1, S1, (w1.base e1 fun z => ⟨and_l z, and_r z⟩).mono fun p s2 y2 H2 _ e2 S2 h v hv => h v (hv.lower e1.kt)⟩
      | true =>
        simp only [Bool.true_eq_false, if_true, if_false] at w1 ⊢
        exact w1.at (e1.weak and_l) S1 _ (VR.of_bl _)
    | _ => exact w1.elim
theorem snd_and {es : List Expr} {ies : Exs} {pos : Pos} (h : PE X (.BoolOp .And es pos) (rdN U W Γ true ies)) : PE X (.BoolOp .And es pos) (rdE U W Γ (.andE ies)) :=
  PE.imp h fun σ H Q ⟨y, s, S, w⟩ => ⟨y, s, S, by simp only [rE, qE] at w; exact w⟩
theorem snd_or {es : List Expr} {ies : Exs} {pos : Pos} (h : PE X (.BoolOp .Or es pos) (rdN U W Γ false ies)) : PE X (.BoolOp .Or es pos) (rdE U W Γ (.orE ies)) :=
  PE.imp h fun σ H Q ⟨y, s, S, w⟩ => ⟨y, s, S, by simp only [rE, qE] at w; exact w⟩
theorem snd_not {a : Expr} {ia : Ex} {pos : Pos} (ha : PE X a (rdE U W Γ ia)) : PE X (.UnaryOp .Not a pos) (rdE U W Γ (.notE ia)) :=
  PE.imp (pe_not ha) fun σ H Q ⟨y, s, S, w⟩ => by
    simp only [rE, qE] at w
    refine rdE.seq S w (fun z => z) fun p s1 y1 H1 _ e1 S1 w1 v hv => ?_
    obtain ⟨d, fr⟩ := p
    cases d with
    | bl b => exact ⟨b, hv.bl, w1.at e1 S1 _ (VR.of_bl _)⟩
    | _ => exact w1.elim
/-! .. as tests -/
theorem truR_bind {f : D × Bool → St → R (D × Bool)} {r : R (D × Bool)} : truR (r.bind f) = r.bind fun p s => truR (f p s) := by
  cases r <;> rfl
theorem rdT_bl {β : Type} {ia : Ex} {f : D × Bool → St → R β} {R' : Bool → Hp → Prop} {P' : β → St → Ly → Hp → Prop} (S : StR U y σ H s) (w : wp U W q y H σ ((rE Γ ia s).bind f) P') (hq : q = true → qE ia = true) (hf : ∀ d fr s, (∀ b, d ≠ .bl b) → f (d, fr) s = .sk)
    (k : ∀ b fr s' y' H', Ext (qE ia) y H y' H' → StR U y' σ H' s' → wp U W q y H σ (f (.bl b, fr) s') P' → R' b H') : rdT U W Γ ia σ H R' := by
  refine ⟨y, s, S, ?_⟩
  unfold truR
  cases hr : rE Γ ia s with
  | ok p s' =>
    rw [hr] at w
    obtain ⟨d, fr⟩ := p
    rw [R.bind_ok] at w ⊢
    cases d with
    | bl b => exact fun y' H' ex S' => k b fr s' y' H' ex S' w
    | _ => rw [hf _ _ _ (by intro b z; cases z)] at w; exact w.elim
  | er x s' => rw [hr] at w; exact w
  | sk => rw [hr] at w; exact w
theorem snd_tn1 {a : Expr} {ia : Ex} {op} {k : Bool} {pos : Pos} (hw : PT X a (rdT U W Γ ia) → PW X (.BoolOp op [a] pos) (rdT U W Γ ia)) (ha : PT X a (rdT U W Γ ia)) : PW X (.BoolOp op [a] pos) (rdNT U W Γ k (.cons ia .nil)) :=
  PW.imp (hw ha) fun σ H Q ⟨y, s, S, w⟩ => by
    simp only [rAnd, qEs, Bool.and_true, truR_bind] at w
    refine rdT_bl S w (fun z => z) (fun d fr s h => by cases d <;> first | rfl | exact absurd rfl (h _)) fun b fr s1 y1 H1 e1 S1 w1 => w1.at e1 S1
theorem snd_tand1 {a : Expr} {ia : Ex} {pos : Pos} (ha : PT X a (rdT U W Γ ia)) : PW X (.BoolOp .And [a] pos) (rdNT U W Γ true (.cons ia .nil)) := snd_tn1 pw_and1 ha
theorem snd_tor1 {a : Expr} {ia : Ex} {pos : Pos} (ha : PT X a (rdT U W Γ ia)) : PW X (.BoolOp .Or [a] pos) (rdNT U W Γ false (.cons ia .nil)) := snd_tn1 pw_or1 ha
theorem snd_tandC {a b : Expr} {rest : List Expr} {ia ib : Ex} {ir : Exs} {pos : Pos} (ha : PT X a (rdT U W Γ ia)) (hb : PW X (.BoolOp .And (b :: rest) pos) (rdNT U W Γ true (.cons ib ir))) : PW X (.BoolOp .And (a :: b :: rest) pos) (rdNT U W Γ true (.cons ia (.cons ib ir))) :=
  PW.imp (pw_and ha hb) fun σ H Q ⟨y, s, S, w⟩ => by
    rw [rAnd, truR_bind] at w
    refine rdT_bl S w and_l (fun d fr s h => by cases d <;> first | rfl | exact absurd rfl (h _)) fun b fr s1 y1 H1 e1 S1 w1 => ?_
    cases b with
    | true =>
      simp only [if_true] at w1 ⊢
      exact ⟨y1, s1, S1, w1.base e1 fun z => ⟨and_l z, and_r z⟩⟩
    | false =>
      simp only [Bool.false_eq_true, if_false] at w1 ⊢
      exact w1.at (e1.weak and_l) S1
theorem snd_torC {a b : Expr} {rest : List Expr} {ia ib : Ex} {ir : Exs} {pos : Pos} (ha : PT X a (rdT U W Γ ia)) (hb : PW X (.BoolOp .Or (b :: rest) pos) (rdNT U W Γ false (.cons ib ir))) : PW X (.BoolOp .Or (a :: b :: rest) pos) (rdNT U W Γ false (.cons ia (.cons ib ir))) :=
  PW.imp (pw_or ha hb) fun σ H Q ⟨y, s, S, w⟩ => by
    rw [rAnd, truR_bind] at w
    refine rdT_bl S w and_l (fun d fr s h => by cases d <;> first | rfl | exact absurd rfl (h _)) fun b fr s1 y1 H1 e1 S1 w1 => ?_
    cases b with
    | false =>
      simp only [if_true, Bool.false_eq_true, if_false] at w1 ⊢
      exact ⟨y1, s1, S1, w1.base e1 fun z => ⟨and_l z, and_r z⟩⟩
    | true =>
      simp only [Bool.true_eq_false, if_true, if_false] at w1 ⊢
      exact w1.at (e1.weak and_l) S1
theorem snd_tand {es : List Expr} {ies : Exs} {pos : Pos} (h : PW X (.BoolOp .And es pos) (rdNT U W Γ true ies)) : PT X (.BoolOp .And es pos) (rdT U W Γ (.andE ies)) :=
  PT.imp h.pt fun σ H Q ⟨y, s, S, w⟩ => ⟨y, s, S, by simp only [rE, qE] at w; exact w⟩
theorem snd_tor {es : List Expr} {ies : Exs} {pos : Pos} (h : PW X (.BoolOp .Or es pos) (rdNT U W Γ false ies)) : PT X (.BoolOp .Or es pos) (rdT U W Γ (.orE ies)) :=
  PT.imp h.pt fun σ H Q ⟨y, s, S, w⟩ => ⟨y, s, S, by simp only [rE, qE] at w; exact w⟩
theorem snd_tnot {a : Expr} {ia : Ex} {pos : Pos} (ha : PT X a (rdT U W Γ ia)) : PT X (.UnaryOp .Not a pos) (rdT U W Γ (.notE ia)) :=
  PT.imp (pt_not ha) fun σ H Q ⟨y, s, S, w⟩ => by
    simp only [rE, qE, truR_bind] at w
    exact rdT_bl S w (fun z => z) (fun d fr s h => by cases d <;> first | rfl | exact absurd rfl (h _)) fun b fr s1 y1 H1 e1 S1 w1 => w1.at e1 S1
/-- the truth of any value -/
theorem tru_v {d : D} {v : V} {b : Bool} {K : PySem.W.Frag} (h : PV U y H d v) (e : d.tru = some b) : TruV K v H b := by
  cases d with
  | bl c => cases e; rw [h.bl]; exact rfl
  | int i => cases e; rw [h.int]; exact rfl
  | non => cases e; rw [h.non]; exact rfl
  | _ => cases e
theorem snd_tval {a : Expr} {ia : Ex} (ha : PE X a (rdE U W Γ ia)) (he : ∀ whole, isTrue a X.env whole = (do let v ← whole; standAt a.pos; holding [v] (truthy v)) := by intro _; rfl) : PT X a (rdT U W Γ ia) :=
  PT.imp (pt_truth ha he) fun σ H Q ⟨y, s, S, w⟩ => by
    replace w := w.tru
    refine ⟨y, s, S, w.mono fun p s1 y1 H1 _ e1 S1 ⟨b, hb, z⟩ v hv => ⟨b, tru_v hv.pv hb, z⟩⟩
theorem snd_ite {c a b : Expr} {ic ia ib : Ex} {pos : Pos} (hc : PT X c (rdT U W Γ ic)) (ha : PE X a (rdE U W Γ ia)) (hb : PE X b (rdE U W Γ ib)) : PE X (.IfExp c a b pos) (rdE U W Γ (.ite ic ia ib)) :=
  PE.imp (pe_ifExp hc ha hb) fun σ H Q ⟨y, s, S, w⟩ => by
    have w : wp U W (qE ic && (qE ia && qE ib)) y H σ ((truR (rE Γ ic s)).bind fun b s => if b = true then rE Γ ia s else rE Γ ib s) (QE U H Q) := by
      have e : rE Γ (.ite ic ia ib) s = (truR (rE Γ ic s)).bind fun b s => if b = true then rE Γ ia s else rE Γ ib s := by
        simp only [rE]
        unfold truR
        cases rE Γ ic s with
        | er x t => rfl
        | sk => rfl
        | ok p t =>
          simp only [R.bind_ok]
          cases p.1.tru with
          | none => rfl
          | some b => cases b <;> rfl
      rw [← e]; exact w
    refine rdT.seq S w and_l fun b s1 y1 H1 _ e1 S1 w1 => ?_
    cases b with
    | true =>
      simp only [if_true] at w1 ⊢
      exact ⟨y1, s1, S1, (w1.base e1 fun z => ⟨and_l z, and_l (and_r z)⟩).mono fun p s2 y2 H2 _ e2 S2 h v hv => h v (hv.lower e1.kt)⟩
    | false =>
      simp only [Bool.false_eq_true, if_false] at w1 ⊢
      exact ⟨y1, s1, S1, (w1.base e1 fun z => ⟨and_l z, and_r (and_r z)⟩).mono fun p s2 y2 H2 _ e2 S2 h v hv => h v (hv.lower e1.kt)⟩
/-! ### rows of expressions -/
theorem snd_a0 : PA X [] (rdA U W Γ .nil) := PA.imp pa_nil fun σ H Q ⟨y, s, S, w⟩ => by
  simp only [rEs] at w
  exact w.ok S [] (by rw [Reps])
theorem snd_ac {e : Expr} {es : List Expr} {ie : Ex} {ies : Exs} (h : PE X e (rdE U W Γ ie)) (hr : PA X es (rdA U W Γ ies)) (hs : starEach (e :: es) X.env = (false, eval e X.env) :: starEach es X.env := by rfl) : PA X (e :: es) (rdA U W Γ (.cons ie ies)) :=
  PA.imp (pa_cons h hr hs) fun σ H Q ⟨y, s, S, w⟩ => by
    simp only [rEs, qEs] at w
    refine rdE.seq S w and_l fun p s1 y1 H1 _ e1 S1 w1 v hv => ?_
    obtain ⟨y1', e1', f1, r1⟩ := hv.thaw e1 S.trk S1.trk
    refine rdA.seq (q := qEs ies) (S1.fr f1) (w1.base e1' fun z => ⟨and_l z, and_r z⟩) (fun z => z) fun ds s2 y2 H2 _ e2 S2 w2 vs hr => ?_
    refine w2.at e2 S2 (v :: vs) ?_
    rw [Reps]
    exact ⟨v, vs, rfl, Rep.tr e2.tr _ _ r1, hr⟩
theorem rEs_len : ∀ {es : Exs} {s s' : St} {ds : List D}, rEs Γ es s = .ok ds s' → ds.length = es.len
  | .nil, s, s', ds, h => by simp only [rEs] at h; cases h; rfl
  | .cons e es, s, s', ds, h => by
    simp only [rEs] at h
    cases he : rE Γ e s with
    | ok p t =>
      rw [he, R.bind_ok] at h
      cases hr : rEs Γ es t with
      | ok r t' =>
        rw [hr, R.bind_ok] at h
        cases h
        simp [Exs.len, rEs_len hr]
      | er x t' => rw [hr] at h; cases h
      | sk => rw [hr] at h; cases h
    | er x t => rw [he] at h; cases h
    | sk => rw [he] at h; cases h
theorem snd_tup {es : List Expr} {ies : Exs} {x1} {pos : Pos} (h : PA X es (rdA U W Γ ies)) (hl : ies.len ≤ LIM := by decide) : PE X (.Tuple es x1 pos) (rdE U W Γ (.tupD ies)) :=
  PE.imp (pe_tup h) fun σ H Q ⟨y, s, S, w⟩ => by
    simp only [rE, qE] at w
    refine rdA.seq S w (fun z => z) fun ds s1 y1 H1 hr e1 S1 w1 vs hv => ⟨?_, fun p hp => ((w1.qt e1).new S1 e1.kt).tup S1.trk hv hp⟩
    rw [hv.length, rEs_len hr]
    exact Nat.le_trans hl lim_line
theorem snd_lst {es : List Expr} {ies : Exs} {pos : Pos} (h : PA X es (rdA U W Γ ies)) (hl : ies.len ≤ LIM := by decide) : PE X (.List es pos) (rdE U W Γ (.lstD ies)) :=
  PE.imp (pe_lst h) fun σ H Q ⟨y, s, S, w⟩ => by
    simp only [rE, qE] at w
    refine rdA.seq S w (fun z => z) fun ds s1 y1 H1 hr e1 S1 w1 vs hv => ⟨?_, fun p hp => ((w1.qt e1).new S1 e1.kt).lst S1.trk hv hp⟩
    rw [hv.length, rEs_len hr]
    exact Nat.le_trans hl lim_line
/-- a list that is shared -/
theorem snd_ls {es : List Expr} {ies : Exs} {pos : Pos} (h : PA X es (rdA U W Γ ies)) (hl : ies.len ≤ LIM := by decide) : PE X (.List es pos) (rdE U W Γ (.lsD ies)) :=
  PE.imp (pe_lst h) fun σ H Q ⟨y, s, S, w⟩ => by
    simp only [rE, qE] at w
    refine rdA.seq S w (fun z => z) fun ds s1 y1 H1 hr e1 S1 w1 vs hv => ⟨?_, fun p hp => ?_⟩
    · rw [hv.length, rEs_len hr]
      exact Nat.le_trans hl lim_line
    · have e2 := Ext.cell (q := true) (o := .lst vs) S1.sto hp
      have S2 := S1.cell (c := .ls ds) (o := .lst vs) hp ⟨vs, upd_same, hv.tr e2.tr⟩
      refine w1.at (Ext.tail (q' := true) e1 e2) S2 _ (VR.fz (Rep.loc_.2 ⟨p, rfl, ?_⟩))
      show (if _ then _ else _) = _
      rw [if_pos rfl]
end
end Pyl
set_option Elab.async false
set_option linter.all false
set_option maxRecDepth 100000
set_option maxHeartbeats 2000000
/-! SndExpr3: places, slices, built-in calls, methods of lists and dicts. -/
namespace Pyl
open PySem PySem.Spec PyProof.Rows L2
section
variable {U : Uni} {W : WX} {Γ : Env} {X : Cx} {σ : L2.St} {H : Hp} {Q : VK} {β : Type} {P : β → St → Ly → Hp → Prop} {y : Ly} {s : St} {q : Bool}
theorem snd_idx {o i : Expr} {io : On} {ii : Ex} {pos : Pos} (hK : U.K = X.K) (hu : X.A.units + 64 < cLine) (ho : PE X o (rdO U W Γ io)) (hi : PE X i (rdE U W Γ ii)) (hs : PlainIx i := by intro _ _; rfl) (hp : (!io.isPf || qE ii) = true := by decide) :
    PE X (.Subscript o i pos) (rdE U W Γ (.idx io ii)) :=
  PE.imp (pe_ix (ix_any hK hu) ho hi hs) fun σ H Q ⟨y, s, S, w⟩ => by
    simp only [rE, qE] at w
    refine rdO.seq S w and_l fun x1 s1 y1 H1 hx1 e1 S1 w1 v1 hv1 => ?_
    refine rdE.seq (q := qE ii) S1 (w1.base e1 fun z => ⟨and_l z, and_r z⟩) (fun z => z) fun p s2 y2 H2 _ e2 S2 w2 v2 hv2 => ?_
    split at w2
    · rename_i d g
      split at w2
      · rename_i r hr
        exact ⟨y2, s2, d, p.1, r, S2.sto, hv1.later e2 S2 (fun z => by have := hx1 z; simp [this] at hp; exact hp) g, hv2.pv, hr, fun w hw => w2.at e2 S2 w (VR.fz hw)⟩
      · exact w2.elim
    · exact w2.elim
def rdXI (U : Uni) (W : WX) (Γ : Env) (e : Exo) : TO := fun σ H Q => ∃ y s, StR U y σ H s ∧ wp U W (qX e) y H σ (rXI Γ e s) (fun o _ _ H' => Q o H')
theorem PO.imp {e : Option Expr} {t t' : TO} (h : PO X e t) (f : ∀ σ H Q, t' σ H Q → t σ H Q) : PO X e t' := ⟨fun pins s σ H Q I w => h.run pins s σ H Q I (f σ H Q w)⟩
theorem snd_po0 : PO X none (rdXI U W Γ .no) := PO.imp po_none fun σ H Q ⟨y, s, S, w⟩ => wp.ok (s := s) w S
theorem snd_po1 {e : Expr} {ie : Ex} (h : PE X e (rdE U W Γ ie)) : PO X (some e) (rdXI U W Γ (.yes ie)) := PO.imp (po_some h) fun σ H Q ⟨y, s, S, w⟩ => by
  simp only [rXI, qX] at w
  refine rdE.seq S w (fun z => z) fun p s1 y1 H1 _ e1 S1 w1 v hv => ?_
  obtain ⟨d, fr⟩ := p
  cases d with
  | int i => exact ⟨i, hv.int, w1.at e1 S1⟩
  | _ => exact w1.elim
theorem rdXI.seq {β : Type} {e : Exo} {f : Option Int → St → R β} {R' : Option Int → Hp → Prop} {P : β → St → Ly → Hp → Prop} (S : StR U y σ H s) (h : wp U W q y H σ ((rXI Γ e s).bind f) P) (hq : q = true → qX e = true)
    (k : ∀ o s' y' H', Ext (qX e) y H y' H' → StR U y' σ H' s' → wp U W q y H σ (f o s') P → R' o H') : rdXI U W Γ e σ H R' := by
  refine ⟨y, s, S, ?_⟩
  cases hr : rXI Γ e s with
  | ok p s' => rw [hr] at h; exact fun y' H' ex S' => k p s' y' H' ex S' h
  | er x s' => rw [hr] at h; exact h
  | sk => rw [hr] at h; exact h
theorem snd_slc {o : Expr} {lo hi : Option Expr} {io : On} {il ih : Exo} {p2 pos : Pos} (hK : U.K = X.K) (ho : PE X o (rdO U W Γ io)) (hl : PO X lo (rdXI U W Γ il)) (hh : PO X hi (rdXI U W Γ ih)) (hp : (!io.isPf || (qX il && qX ih)) = true := by decide) :
    PE X (.Subscript o (.Slice lo hi none p2) pos) (rdE U W Γ (.slc io il ih)) :=
  PE.imp (pe_slice (sl_any hK) ho hl hh) fun σ H Q ⟨y, s, S, w⟩ => by
    simp only [rE, qE] at w
    refine rdO.seq S w and_l fun x1 s1 y1 H1 hx1 e1 S1 w1 v1 hv1 => ?_
    refine rdXI.seq (q := qX il && qX ih) S1 (w1.base e1 fun z => ⟨and_l z, and_r z⟩) and_l fun o2 s2 y2 H2 e2 S2 w2 => ?_
    refine rdXI.seq (q := qX ih) S2 (w2.base e2 fun z => ⟨and_l z, and_r z⟩) (fun z => z) fun o3 s3 y3 H3 e3 S3 w3 => ?_
    split at w3
    · rename_i d g
      obtain ⟨r, hr, w4⟩ := opt_wp w3
      have p1 := hv1.later (q := qX il && qX ih) (e2.trans e3) S3 (fun z => by have := hx1 z; simp [this] at hp; simp [hp]) g
      exact ⟨y3, s3, d, r, S3.trk, p1, hr, (w4.qt e3).new S3 fun a h => e3.kt a (e2.kt a (e1.kt a h))⟩
    · exact w3.elim
/-! ### built-in functions of one operand -/
def B1.f : B1 → Value
  | .len => .builtin "len" | .abs => .builtin "abs" | .int => .type "int" | .str => .type "str" | .dct => .type "dict" | .lst => .type "list" | .tup => .type "tuple" | .rvl => .builtin "reversed"
abbrev rB1 (U : Uni) (f : B1) : List V → Hp → VK → Prop := fun xs H Q => ∃ y s d x r, xs = [x] ∧ Trk y H ∧ PV U y H d x ∧ b1op s f d = some r ∧ NewQ U y H r Q
theorem cr_b1 (hK : U.K = X.K) (f : B1) : CallR X f.f (rB1 U f) := by
  intro pins s σ H xs us Q I rx h
  obtain ⟨y, st, d, x, r, rfl, t, p, hr, q⟩ := h
  unfold b1op at hr
  split at hr
  · cases hr
    obtain ⟨a, xs, rfl, h1, h2⟩ := p.lst
    rw [← h2.length] at q
    exact call_len_seq pins s σ H _ us Q I rx ⟨a, xs, rfl, .inl (.of h1), q.int t⟩
  · cases hr
    obtain ⟨a, xs, rfl, h1, h2⟩ := p.tup
    rw [hK] at h1
    rw [← h2.length] at q
    exact call_len_seq pins s σ H _ us Q I rx ⟨a, xs, rfl, .inr h1, q.int t⟩
  · cases hr
    obtain ⟨a, xs, rfl, h1, h2⟩ := p.kls
    rw [hK] at h1
    rw [← h2.length] at q
    exact call_len_seq pins s σ H _ us Q I rx ⟨a, xs, rfl, .inl h1, q.int t⟩
  · cases hr
    obtain ⟨a, xs, rfl, h1, h2⟩ := p.ktp
    rw [hK] at h1
    rw [← h2.length] at q
    exact call_len_seq pins s σ H _ us Q I rx ⟨a, xs, rfl, .inr h1, q.int t⟩
  · cases hr
    obtain ⟨a, vs, rfl, h1, h2⟩ := p.dct
    obtain ⟨u, rfl, rv⟩ := vals1 rx
    obtain rfl : u = .ref a := rv
    rename_i kvs
    rcases h1 with ⟨kk, h1, hk, rfl⟩ | ⟨kk, h1, hk, rfl, hne⟩
    · have hl : kvs.length = kk.length := by simpa using congrArg List.length hk
      rw [hl] at q
      exact d_len I h1 fun t' s' I' => ⟨.int kk.length, H, I', ⟨_, rfl⟩, q.int t⟩
    · have hl : kvs.length = kk.length := by simpa using congrArg List.length hk
      rw [hl] at q
      obtain ⟨z, hd, ys, rel, dd⟩ := dt_rd I.hok h1
      have hl : kk.length = ys.length := Paired.length rel
      refine call_len_dictH hd dd (by rw [← hl]; rw [sizeLine_eq] at z; omega) ?_
      rw [← hl]
      exact ⟨.int ((kk.length : Nat) : Int), H, I.tok _, ⟨_, rfl⟩, q.int t⟩
  · split at hr
    · rename_i hl
      cases hr
      rw [p.str] at rx
      exact call_len_str pins s σ H _ us Q I rx ⟨_, rfl, Nat.le_trans hl lim_line, q.int t⟩
    · cases hr
  · cases hr; rw [p.int] at rx; exact call_abs pins s σ H _ us Q I rx ⟨_, rfl, q.int t⟩
  · cases hr; rw [p.int] at rx; exact call_int1 pins s σ H _ us Q I rx (.inl ⟨_, rfl, q.int t⟩)
  · cases hr; rw [p.bl] at rx; exact call_int1 pins s σ H _ us Q I rx (.inr ⟨_, rfl, q.int t⟩)
  · split at hr
    · rename_i hl
      cases hr; rw [p.int] at rx
      exact call_str_int pins s σ H _ us Q I rx ⟨_, rfl, hl, q.str t⟩
    · cases hr
  · split at hr
    · rename_i hall
      cases hr
      obtain ⟨a, vs, rfl, h1, h2⟩ := p.dct
      obtain ⟨u, rfl, rv⟩ := vals1 rx
      obtain rfl : u = .ref a := rv
      rcases h1 with ⟨kk, h1, hk, rfl⟩ | ⟨kk, h1, hk, rfl, hne⟩
      · exact d_copyOf I h1 fun p s' hp I' => ⟨.ref p, _, I', rfl, q.dct t (.inl ⟨kk, rfl, hk, rfl⟩) h2 hp⟩
      · rename_i kvs
        cases kvs with
        | cons b r =>
          obtain ⟨k, d⟩ := b
          cases kk with
          | nil => simp at hk
          | cons c r' =>
            simp only [List.map_cons, List.cons.injEq] at hk
            obtain ⟨rfl, _⟩ := hk
            simp at hall
        | nil =>
          cases kk with
          | cons c r' => simp at hk
          | nil =>
            obtain ⟨hd, dd⟩ := empty_t I h1
            refine kt_call_dict hd dd (Nat.zero_le _) fun h' dd' hs => ?_
            refine ⟨.ref s.heap.objs.size, _, I.laid (a := s.heap.objs.size) (o := .dK []) (t' := s.toks) (fun b q hq => ?_) (Nat.le_refl _) (dk_new (Nat.zero_le _) (beq_eq_false_iff_ne.mpr (Ne.symm (Nat.ne_of_lt I.big))) .nil dd'), rfl, q.dct t (.inl ⟨[], rfl, rfl, rfl⟩) h2 (I.hok.fresh (Nat.le_refl _))⟩
            exact (hs.2 b (Nat.ne_of_lt (Heap.lt_size hq))).trans (Heap.get?_push_of_some _ hq)
    · cases hr
  · cases hr
/-- an operand alone as a row -/
theorem snd_o1 {o : Expr} {io : On} (h : PE X o (rdO U W Γ io)) (hs : starEach [o] X.env = (false, eval o X.env) :: starEach [] X.env := by rfl) : PA X [o] (tCons (rdO U W Γ io) tNil) := pa_cons h pa_nil hs
theorem b1_core {f : B1} {io : On} (S : StR U y σ H s) (w : wp U W q y H σ (rE Γ (.b1 f io) s) (QE U H Q)) (hq : q = true → qO io = true) : tCB (rB1 U f) (tCons (rdO U W Γ io) tNil) σ H Q := by
  simp only [rE] at w
  refine rdO.seq S w hq fun x1 s1 y1 H1 hx1 e1 S1 w1 v1 hv1 => ?_
  split at w1
  · rename_i d g
    obtain ⟨r, hr, w2⟩ := opt_wp w1
    exact ⟨y1, s1, d, v1, r, rfl, S1.trk, hv1.later (Ext.refl true _ _) S1 (fun _ => rfl) g, hr, (w2.base (q2 := true) e1 fun z => ⟨hq z, rfl⟩).new S1 e1.kt⟩
  · exact w1.elim
theorem snd_b1B {o : Expr} {io : On} {f : B1} {x : Str} {id : String} {p pos : Pos} (hK : U.K = X.K) (hf : f.f = .builtin id) (hg : Gl X x) (hm : X.mg x = none) (hv : bootBuiltins x = some (.builtin id)) (ho : PE X o (rdO U W Γ io)) (hn : x ≠ "__name__" := by decide) (hdb : (x == ("__debug__" : Str)) = false := by decide)
    (he : starEach [o] X.env = (false, eval o X.env) :: starEach [] X.env := by rfl) (hpl : (backTo pos (starEach [] X.env)).any (·.1) = false := by rfl) : PE X (.Call (.Name x p) [o] [] pos) (rdE U W Γ (.b1 f io)) :=
  PE.imp (pe_callB (r := rB1 U f) (hf ▸ cr_b1 hK f) hg hm hv (snd_o1 ho he) hn hdb he hpl) fun σ H Q ⟨y, s, S, w⟩ => b1_core S w fun z => by simpa only [qE] using z
theorem snd_b1T {o : Expr} {io : On} {f : B1} {x : Str} {id : String} {p pos : Pos} (hK : U.K = X.K) (hf : f.f = .type id) (hg : Gl X x) (hm : X.mg x = none) (hv : bootBuiltins x = some (.type id)) (ho : PE X o (rdO U W Γ io)) (hn : x ≠ "__name__" := by decide) (hdb : (x == ("__debug__" : Str)) = false := by decide)
    (he : starEach [o] X.env = (false, eval o X.env) :: starEach [] X.env := by rfl) (hpl : (backTo pos (starEach [] X.env)).any (·.1) = false := by rfl) : PE X (.Call (.Name x p) [o] [] pos) (rdE U W Γ (.b1 f io)) :=
  PE.imp (pe_callTy (r := rB1 U f) (hf ▸ cr_b1 hK f) hg hm hv (snd_o1 ho he) hn hdb he hpl) fun σ H Q ⟨y, s, S, w⟩ => b1_core S w fun z => by simpa only [qE] using z
end
end Pyl
set_option Elab.async false
set_option linter.all false
set_option maxRecDepth 100000
set_option maxHeartbeats 2000000
/-! SndCall: calls of defs, methods, classes. -/
namespace Pyl
open PySem PySem.Spec PyProof.Rows L2
def fnP (U : Uni) (y : Ly) (H : Hp) (r : FR) (Q : VK) (E : XK) : Prop := match r with
  | .ok d fr sto' => ∀ y' H' v, Ext false y H y' H' → StoR U y' H' sto' → VR U H y' H' (d, fr) v → Q v H'
  | .er x sto' => ∀ y' H' cls dd, Ext false y H y' H' → StoR U y' H' sto' → ExR U x cls dd H' → E cls dd H'
  | .sk => False
/-- what a def promises -/
def spOf (U : Uni) (f : Sem) : Sp := fun vs H Q E => ∃ y ds sto, Reps U y H ds vs ∧ StoR U y H sto ∧ (∀ a i, y.own a ≠ some (.lks i)) ∧ fnP U y H (f ds sto) Q E
/-- an exception's wish does not look at the slots -/
def Blind (W : WX) : Prop := ∀ c d σ σ' H, W c d σ H → W c d σ' H
section
variable {U : Uni} {W : WX} {Γ : Env} {X : Cx} {σ : L2.St} {H : Hp} {Q : VK} {β : Type} {P : β → St → Ly → Hp → Prop} {y : Ly} {s : St} {q : Bool}
theorem out_lks (y : Ly) : ∀ a i, y.out.own a ≠ some (.lks i) := fun a i h => by
  cases z : y.own a with
  | none => rw [Ly.out_none z] at h; cases h
  | some w =>
    cases f : Frm w with
    | true => rw [Ly.out_frm z f] at h; cases h
    | false => rw [Ly.out_not z f] at h; cases h; cases f
theorem call_core {f : Sem} {ds : List D} {vs : List V} {y1 : Ly} {H1 : Hp} {s1 : St} (hb : Blind W) (S1 : StR U y1 σ H1 s1) (e1 : Ext false y H y1 H1) (hv : Reps U y1 H1 ds vs) (w : wp U W false y H σ (f.run ds s1) (QE U H Q)) : spOf U f vs H1 Q (fun c d H => W c d [] H) := by
  refine ⟨y1.out, ds, s1.sto, hv.tr tr_out, S1.sto.out, out_lks y1, ?_⟩
  unfold Sem.run at w
  cases hr : f ds s1.sto with
  | ok d fr sto' =>
    rw [hr] at w
    intro y2 H2 v e2 S2 hv2
    obtain ⟨e3, S3, _, k⟩ := call_back S1 e2 S2
    exact w.at (e1.trans e3) S3 v ((k _ _ hv2).lower e1.kt)
  | er x sto' =>
    rw [hr] at w
    intro y2 H2 cls dd e2 S2 hx
    obtain ⟨e3, S3, _, k⟩ := call_back S1 e2 S2
    exact hb _ _ _ _ _ (w _ _ cls dd (e1.trans e3) S3 hx)
  | sk => rw [hr] at w; exact w.elim
theorem snd_call {CX' : CXT} {k : Nat} {f : Addr} {fd : FuncData} {ps : List Str} {j : Nat} {fs : Sem} {x : Str} {p pos : Pos} {e : Expr} {es : List Expr} {ies : Exs} (hbl : Blind W) (F : FnOk X.prog X.w X.K X.mg X.base (CX X.prog X.w) k f fd ps (spOf U fs)) (hj : Γ.fns[j]? = some fs) (hr : Room k X.A) (hg : Gl X x) (hm : X.mg x = some (.ref f))
    (hk : PySem.W.keepIn X.K (.ref f) = true) (hb : Binds X.K fd ps []) (tk : Takes X W) (ha : PA X (e :: es) (rdA U W Γ ies)) (hdb : (x == ("__debug__" : Str)) = false := by decide) (he : starEach (e :: es) X.env = (false, eval e X.env) :: starEach es X.env := by rfl) (hpl : (backTo pos (starEach es X.env)).any (·.1) = false := by rfl) :
    PE X (.Call (.Name x p) (e :: es) [] pos) (rdE U W Γ (.call j ies)) :=
  PE.imp (pe_call (dvs := []) (E := fun c d H => W c d [] H) F hr hg hm hk hb .nil (passes_call tk fun c d σ H h => hbl _ _ _ _ _ h) ha hdb he hpl) fun σ H Q ⟨y, s, S, w⟩ => by
    simp only [rE, qE] at w
    refine rdA.seq S w (fun z => by cases z) fun ds s1 y1 H1 _ e1 S1 w1 vs hv => ?_
    rw [hj] at w1
    rw [List.append_nil]
    exact call_core hbl S1 e1.any hv w1
theorem snd_call0 {k : Nat} {f : Addr} {fd : FuncData} {ps : List Str} {j : Nat} {fs : Sem} {x : Str} {p pos : Pos} (hbl : Blind W) (F : FnOk X.prog X.w X.K X.mg X.base (CX X.prog X.w) k f fd ps (spOf U fs)) (hj : Γ.fns[j]? = some fs) (hr : Room k X.A) (hg : Gl X x) (hm : X.mg x = some (.ref f))
    (hk : PySem.W.keepIn X.K (.ref f) = true) (hb : Binds X.K fd ps []) (tk : Takes X W) (hdb : (x == ("__debug__" : Str)) = false := by decide) :
    PE X (.Call (.Name x p) [] [] pos) (rdE U W Γ (.call j .nil)) :=
  PE.imp (pe_call0 (dvs := []) (E := fun c d H => W c d [] H) F hr hg hm hk hb .nil (passes_call tk fun c d σ H h => hbl _ _ _ _ _ h) hdb) fun σ H Q ⟨y, s, S, w⟩ => by
    simp only [rE, qE, rEs, R.bind_ok] at w
    rw [hj] at w
    show spOf U fs [] H Q _
    exact call_core hbl S (Ext.refl _ _ _) (Reps.nil_.2 rfl) w
/-- the class of an object -/
theorem cls_at {d : D} {c : Nat} {v : V} {m : Str} (hmn : ∀ f, U.fnm f ≠ m) (S : StR U y σ H s) (h : clsIs s d c = true) (r : Rep U y H d v) : ∃ a dx fs, v = .ref a ∧ H a = some (.ins (U.cls c) dx fs) ∧ fs.lookup m = none := by
  have nl : ∀ {n : Nat} {fs : List (Nat × SV)} {vs : List (Str × V)}, FdsR U y H n fs vs → vs.lookup m = none := by
    intro n fs
    induction fs with
    | nil => intro vs h; cases h; rfl
    | cons p r ih =>
      intro vs h
      obtain ⟨g, sv⟩ := p
      obtain ⟨v', r', rfl, _, h2⟩ := h
      rw [look_ne (fun z => hmn g z.symm)]
      exact ih h2
  have nf : ∀ {fs : List (Nat × D)} {vs : List (Str × V)}, Repf U y H fs vs → vs.lookup m = none := by
    intro fs
    induction fs with
    | nil => intro vs h; rw [Repf] at h; subst h; rfl
    | cons p r ih =>
      intro vs h
      obtain ⟨g, sv⟩ := p
      rw [Repf] at h
      obtain ⟨v', r', rfl, _, h2⟩ := h
      rw [look_ne (fun z => hmn g z.symm)]
      exact ih h2
  unfold clsIs at h
  split at h
  · obtain ⟨a, dx, vs, rfl, _, h1, h2⟩ := Rep.obj_.1 r
    have := beq_iff_eq.1 h
    subst this
    exact ⟨a, dx, vs, rfl, h1, nf h2⟩
  · split at h
    · rename_i c' fs e
      have := beq_iff_eq.1 h
      subst this
      obtain ⟨a, rfl, h1⟩ := Rep.loc_.1 r
      obtain ⟨a', dx, vs, k1, _, k2, _, k3⟩ := S.sto.ins e
      rw [h1] at k1; cases k1
      exact ⟨a, dx, vs, rfl, k2, nl k3⟩
    · cases h
  · cases h
theorem mth_core {io : Ex} {ies : Exs} {c j : Nat} {fs : Sem} {m : Str} (hmn : ∀ f, U.fnm f ≠ m) (hbl : Blind W) (hj : Γ.fns[j]? = some fs) (S : StR U y σ H s) (w : wp U W false y H σ (rE Γ (.mth c j io ies) s) (QE U H Q)) :
    tMeth (U.cls c) m (spOf U fs) [] (fun c d H => W c d [] H) (rdE U W Γ io) (rdA U W Γ ies) σ H Q := by
  simp only [rE] at w
  refine rdE.seq S w (fun z => by cases z) fun p s1 y1 H1 _ e1 S1 w1 v hv => ?_
  split at w1
  · rename_i hc
    obtain ⟨y1', e1', f1, r1⟩ := hv.thaw e1 S.trk S1.trk
    have S1' := S1.fr f1
    obtain ⟨a, dx, fs', rfl, h1, h2⟩ := cls_at hmn S1' hc r1
    refine ⟨a, dx, fs', rfl, h1, h2, ?_⟩
    refine rdA.seq (q := false) S1' (w1.base e1'.any fun z => by cases z) (fun z => by cases z) fun ds s2 y2 H2 _ e2 S2 w2 vs hv2 => ?_
    rw [hj] at w2
    rw [List.append_nil]
    refine call_core hbl S2 (y := y1') (H := H1) e2.any ?_ (w2.mono fun p s3 y3 H3 _ e3 S3 h v hv => h v (hv.lower e1.kt))
    rw [Reps]
    exact ⟨_, vs, rfl, Rep.tr e2.tr _ _ r1, hv2⟩
  · exact w1.elim
theorem snd_mth {k : Nat} {f : Addr} {fd : FuncData} {ps : List Str} {c j : Nat} {fs : Sem} {m : Str} {pl : PySem.Sem Bool} {apos pos : Pos} {o e : Expr} {es : List Expr} {io : Ex} {ies : Exs} (hK : U.K = X.K) (hc : ClsOk U) (hmn : ∀ f, U.fnm f ≠ m) (hbl : Blind W) (hm : Meth X.K (U.cls c) m f)
    (F : FnOk X.prog X.w X.K X.mg X.base (CX X.prog X.w) k f fd ps (spOf U fs)) (hj : Γ.fns[j]? = some fs) (hr : Room k X.A) (hb : Binds X.K fd ps []) (tk : Takes X W) (ho : PE X o (rdE U W Γ io)) (ha : PA X (e :: es) (rdA U W Γ ies))
    (hst : starEach (e :: es) X.env = (false, eval e X.env) :: starEach es X.env := by rfl) (hpl : (backTo pos (starEach es X.env)).any (·.1) = false := by rfl)
    (ht : eval (.Call (.Attribute o m apos) (e :: es) [] pos) X.env = (do
      let ov ← eval o X.env
      standAt apos.atName
      let (f, first) ← holding [ov] (getMethod ov m pl)
      callWith pos f first (backTo pos (starEach (e :: es) X.env)) (backToKw pos (keywordEach [] X.env))) := by rfl) :
    PE X (.Call (.Attribute o m apos) (e :: es) [] pos) (rdE U W Γ (.mth c j io ies)) :=
  PE.imp (pe_meth (dvs := []) (E := fun c d H => W c d [] H) ho (hK ▸ hc.cls c) hm F hr hb .nil (passes_call tk fun c d σ H h => hbl _ _ _ _ _ h) ha hst hpl ht) fun σ H Q ⟨y, s, S, w⟩ => mth_core hmn hbl hj S w
theorem snd_mth0 {k : Nat} {f : Addr} {fd : FuncData} {ps : List Str} {c j : Nat} {fs : Sem} {m : Str} {pl : PySem.Sem Bool} {apos pos : Pos} {o : Expr} {io : Ex} (hK : U.K = X.K) (hc : ClsOk U) (hmn : ∀ f, U.fnm f ≠ m) (hbl : Blind W) (hm : Meth X.K (U.cls c) m f)
    (F : FnOk X.prog X.w X.K X.mg X.base (CX X.prog X.w) k f fd ps (spOf U fs)) (hj : Γ.fns[j]? = some fs) (hr : Room k X.A) (hb : Binds X.K fd ps []) (tk : Takes X W) (ho : PE X o (rdE U W Γ io))
    (ht : eval (.Call (.Attribute o m apos) [] [] pos) X.env = (do
      let ov ← eval o X.env
      standAt apos.atName
      let (f, first) ← holding [ov] (getMethod ov m pl)
      callWith pos f first (backTo pos (starEach [] X.env)) (backToKw pos (keywordEach [] X.env))) := by rfl) :
    PE X (.Call (.Attribute o m apos) [] [] pos) (rdE U W Γ (.mth c j io .nil)) :=
  PE.imp (pe_meth0 (dvs := []) (E := fun c d H => W c d [] H) ho (hK ▸ hc.cls c) hm F hr hb .nil (passes_call tk fun c d σ H h => hbl _ _ _ _ _ h) ht) fun σ H Q ⟨y, s, S, w⟩ => by
    have k := mth_core hmn hbl hj S w
    unfold tMeth at k ⊢
    obtain ⟨y, s, S, w⟩ := k
    refine ⟨y, s, S, w.mono fun p s1 y1 H1 _ e1 S1 h v hv => ?_⟩
    obtain ⟨a, dx, fs', e, h1, h2, y2, s2, S2, w2⟩ := h v hv
    refine ⟨a, dx, fs', e, h1, h2, ?_⟩
    simp only [rEs] at w2
    exact w2.ok S2 [] (Reps.nil_.2 rfl)
theorem mk_core {ies : Exs} {c j : Nat} {fs : Sem} (hbl : Blind W) (hj : Γ.fns[j]? = some fs) (S : StR U y σ H s) (w : wp U W false y H σ (rE Γ (.mk c j ies) s) (QE U H Q)) :
    tMake (U.cls c) (spOf U fs) [] (fun c d H => W c d [] H) (rdA U W Γ ies) σ H Q := by
  simp only [rE] at w
  refine rdA.seq S w (fun z => by cases z) fun ds s1 y1 H1 _ e1 S1 w1 vs hv x dx hx hdx hne => ?_
  rw [hj] at w1
  rw [List.append_nil]
  simp only at w1
  have f1 := Fr1.new (o := .own x) S1.trk hdx none (.inl rfl)
  have x1 := Ext.new (q := true) (o := .own x) S1.trk hdx none
  have S2 := S1.fr f1
  have hx' : upd H1 dx (.own x) x = none := by rw [upd_ne (fun z => hne z.symm)]; exact hx
  have x2 := Ext.cell (q := true) (o := .ins (U.cls c) dx []) S2.sto hx'
  have S3 := S2.cell (c := .ins c []) (o := .ins (U.cls c) dx []) hx' ⟨dx, [], upd_same, List.nodup_nil, rfl⟩
  have hA : ((y1.set dx none).cell s1.sto.length x).A s1.sto.length = some x := by
    show (if _ then _ else _) = _
    rw [if_pos rfl]
  refine ⟨((y1.set dx none).cell s1.sto.length x).out, .loc s1.sto.length :: ds, s1.sto ++ [.ins c []], ?_, S3.sto.out, out_lks _, ?_⟩
  · rw [Reps]
    exact ⟨.ref x, vs, rfl, Rep.loc_.2 ⟨x, rfl, hA⟩, (hv.tr (x1.tr.trans x2.tr)).tr tr_out⟩
  · cases hr : fs (.loc s1.sto.length :: ds) (s1.sto ++ [.ins c []]) with
    | ok d fr sto' =>
      rw [hr] at w1
      cases d with
      | non =>
        intro y4 H4 v e4 S4 hv4
        obtain ⟨e5, S5, t5, k⟩ := call_back S3 e4 S4
        refine ⟨hv4.pv.non, w1.at ((((e1.trans x1).trans x2).trans e5).any) S5 _ (VR.fz (Rep.loc_.2 ⟨x, rfl, e5.tr.A _ _ hA⟩))⟩
      | _ => exact w1.elim
    | er z sto' =>
      rw [hr] at w1
      intro y4 H4 cls dd e4 S4 hz
      obtain ⟨e5, S5, _, k⟩ := call_back S3 e4 S4
      exact hbl _ _ _ _ _ (w1 _ _ cls dd ((((e1.trans x1).trans x2).trans e5).any) S5 hz)
    | sk => rw [hr] at w1; exact w1.elim
theorem snd_mk {k : Nat} {f : Addr} {fd : FuncData} {ps : List Str} {c j : Nat} {fs : Sem} {x : Str} {p pos : Pos} {e : Expr} {es : List Expr} {ies : Exs} (hbl : Blind W) (M : Mk X.K (U.cls c) f) (F : FnOk X.prog X.w X.K X.mg X.base (CX X.prog X.w) k f fd ps (spOf U fs)) (hj : Γ.fns[j]? = some fs)
    (hr : Room (k + 1) X.A) (hg : Gl X x) (hm : X.mg x = some (.ref (U.cls c))) (hb : Binds X.K fd ps []) (tk : Takes X W) (ha : PA X (e :: es) (rdA U W Γ ies)) (hdb : (x == ("__debug__" : Str)) = false := by decide)
    (he : starEach (e :: es) X.env = (false, eval e X.env) :: starEach es X.env := by rfl) (hpl : (backTo pos (starEach es X.env)).any (·.1) = false := by rfl) : PE X (.Call (.Name x p) (e :: es) [] pos) (rdE U W Γ (.mk c j ies)) :=
  PE.imp (pe_make (dvs := []) (E := fun c d H => W c d [] H) M F hr hg hm hb .nil (passes_call tk fun c d σ H h => hbl _ _ _ _ _ h) ha hdb he hpl) fun σ H Q ⟨y, s, S, w⟩ => mk_core hbl hj S w
theorem snd_mk0 {k : Nat} {f : Addr} {fd : FuncData} {ps : List Str} {c j : Nat} {fs : Sem} {x : Str} {p pos : Pos} (hbl : Blind W) (M : Mk X.K (U.cls c) f) (F : FnOk X.prog X.w X.K X.mg X.base (CX X.prog X.w) k f fd ps (spOf U fs)) (hj : Γ.fns[j]? = some fs)
    (hr : Room (k + 1) X.A) (hg : Gl X x) (hm : X.mg x = some (.ref (U.cls c))) (hb : Binds X.K fd ps []) (tk : Takes X W) (hdb : (x == ("__debug__" : Str)) = false := by decide) : PE X (.Call (.Name x p) [] [] pos) (rdE U W Γ (.mk c j .nil)) :=
  PE.imp (pe_make0 (dvs := []) (E := fun c d H => W c d [] H) M F hr hg hm hb .nil (passes_call tk fun c d σ H h => hbl _ _ _ _ _ h) hdb) fun σ H Q ⟨y, s, S, w⟩ => by
    have k := mk_core (ies := .nil) hbl hj S w
    unfold tMake at k ⊢
    obtain ⟨y, s, S, w⟩ := k
    simp only [rEs] at w
    exact w.ok S [] (Reps.nil_.2 rfl)
end
end Pyl
set_option Elab.async false
set_option linter.all false
set_option maxRecDepth 100000
set_option maxHeartbeats 2000000
/-! SndStmt: targets and statements. -/
namespace Pyl
open PySem PySem.Spec PyProof.Rows L2
/-! ### values -/
section
variable {U : Uni} {y : Ly} {H : Hp} {Q : VK} {X : Cx}
theorem op_aug (op : Op) : OpR X (inplaceOp op.m) (fun x x' H Q => ∃ y d e r, PV U y H d x ∧ PV U y H e x' ∧ augop op d e = some r ∧ ∀ w, Rep U y H r w → Q w H) := by
  intro pins s σ H x x' v u Q I rx ry h
  obtain ⟨y, d, e, r, pd, pe, hr, q⟩ := h
  unfold augop at hr
  split at hr
  · cases hr; exact iop_add pins s σ H _ _ v u Q I rx ry ⟨_, _, pd.int, pe.int, q _ (Rep.int_.2 rfl)⟩
  · split at hr
    · rename_i hl
      cases hr; exact iop_add_str pins s σ H _ _ v u Q I rx ry ⟨_, _, pd.str, pe.str, Nat.le_trans hl lim_line, q _ (Rep.str_.2 rfl)⟩
    · cases hr
  · cases hr; exact iop_sub pins s σ H _ _ v u Q I rx ry ⟨_, _, pd.int, pe.int, q _ (Rep.int_.2 rfl)⟩
  · split at hr
    · rename_i hl
      cases hr; exact iop_mul pins s σ H _ _ v u Q I rx ry ⟨_, _, pd.int, pe.int, hl, q _ (Rep.int_.2 rfl)⟩
    · cases hr
  · split at hr
    · rename_i hl
      cases hr; exact iop_fdiv pins s σ H _ _ v u Q I rx ry ⟨_, _, pd.int, pe.int, hl, q _ (Rep.int_.2 rfl)⟩
    · cases hr
  · split at hr
    · rename_i hl
      cases hr; exact iop_mod pins s σ H _ _ v u Q I rx ry ⟨_, _, pd.int, pe.int, hl, q _ (Rep.int_.2 rfl)⟩
    · cases hr
  · cases hr
def rSet (U : Uni) : TSet := fun o i w H Q => ∃ y a d k dv d' r, o = .ref a ∧ Cont U y H (fun u => H a = some u) d ∧ PV U y H k i ∧ Rep U y H dv w ∧ setG k dv d = some (d', r) ∧ ∀ z, Cnt z → Cont U y H (fun x => x = z) d' → Q (upd H a z)
theorem set_any (hu : X.A.units + 64 < cLine) : PSet X (rSet U) := by
  intro pins s σ H o i w ov iv u Q I ro ri rw' h
  obtain ⟨y, a, d, k, dv, d', r, rfl, c, pk, rv, hg, q⟩ := h
  obtain rfl : ov = .ref a := ro
  unfold setG at hg
  split at hg
  · rename_i ds
    obtain ⟨xs, h1, h2⟩ := c
    split at hg
    · rename_i i'
      split at hg
      · rename_i j hj
        cases hg
        have := pk.int
        subst this
        refine set_list pins s σ H (V.ref a) _ w _ iv u Q I rfl ri rw' ⟨a, xs, i', j, rfl, rfl, h1, ?_, q (.lst (xs.set j w)) True.intro ⟨_, rfl, h2.set rv⟩⟩
        rw [h2.length]; exact hj
      · cases hg
    · cases hg
  · rename_i kvs
    split at hg
    · rename_i k' ek
      split at hg
      · rename_i hl
        simp only [Bool.and_eq_true, decide_eq_true_eq] at hl
        cases hg
        obtain ⟨hk, _⟩ := ky_pv ek pk
        exact x_set (by omega) I c hk hl.2 hl.1 rv ri rw' fun z s' cz cc I' => ⟨_, I', q z cz cc⟩
      · cases hg
    · cases hg
  · cases hg
end
/-! ### targets -/
/-- going on, but for what is just made and is now given away -/
structure ExtN (N : Addr → Prop) (y : Ly) (H : Hp) (y' : Ly) (H' : Hp) : Prop where
  tr : Tr y H y' H'
  ex : ∀ a w, Out w → ¬ N a → y.own a = some w → y'.own a = some w ∧ H' a = H a
  kt : ∀ a, H a ≠ none → H' a ≠ none
theorem Ext.n {q : Bool} {N : Addr → Prop} {y y' : Ly} {H H' : Hp} (e : Ext q y H y' H') : ExtN N y H y' H' := ⟨e.tr, fun a w o _ => e.ex a w o, e.kt⟩
theorem ExtN.trans {N : Addr → Prop} {y y' y'' : Ly} {H H' H'' : Hp} (a : ExtN N y H y' H') (b : ExtN N y' H' y'' H'') : ExtN N y H y'' H'' :=
  ⟨a.tr.trans b.tr, fun p w o n h => let ⟨h1, e1⟩ := a.ex p w o n h; let ⟨h2, e2⟩ := b.ex p w o n h1; ⟨h2, e2.trans e1⟩, fun p h => b.kt p (a.kt p h)⟩
theorem ExtN.more {N N' : Addr → Prop} {y y' : Ly} {H H' : Hp} (e : ExtN N y H y' H') (h : ∀ a, N a → N' a) : ExtN N' y H y' H' := ⟨e.tr, fun a w o n => e.ex a w o fun z => n (h a z), e.kt⟩
/-- what is given away was not there at the start -/
theorem ExtN.close {q : Bool} {N : Addr → Prop} {y0 y y' : Ly} {H0 H H' : Hp} (e0 : Ext q y0 H0 y H) (e : ExtN N y H y' H') (t0 : Trk y0 H0) (hn : ∀ a, N a → H0 a = none) : Ext false y0 H0 y' H' := by
  refine ⟨e0.tr.trans e.tr, fun a w o h => ?_, fun a h => e.kt a (e0.kt a h), fun z => by cases z⟩
  obtain ⟨h1, e1⟩ := e0.ex a w o h
  obtain ⟨h2, e2⟩ := e.ex a w o (fun z => t0 a w h (hn a z)) h1
  exact ⟨h2, e2.trans e1⟩
/-- what is given away by binding v -/
def NW (fr : Bool) (v : V) : Addr → Prop := fun a => fr = true ∧ v = .ref a
section
variable {U : Uni} {W : WX} {Γ : Env} {X : Cx} {σ : L2.St} {H H' H0 : Hp} {y y' : Ly} {s : St} {q : Bool} {N : Addr → Prop}
/-- a value, whenever it came -/
abbrev VN (U : Uni) (y : Ly) (H : Hp) (p : D × Bool) (v : V) : Prop := VR U (fun _ => none) y H p v
theorem VR.vn {p : D × Bool} {v : V} (h : VR U H0 y H p v) : VN U y H p v := h.lower fun a z => absurd rfl z
def wpT (U : Uni) (W : WX) (N : Addr → Prop) (y : Ly) (H : Hp) (r : R Unit) (Q : L2.St → Hp → Prop) : Prop := match r with
  | .ok _ s' => ∀ y' H' σ', ExtN N y H y' H' → StR U y' σ' H' s' → Q σ' H'
  | .er x s' => ∀ y' H' σ' cls dd, ExtN N y H y' H' → StR U y' σ' H' s' → ExR U x cls dd H' → W cls dd σ' H'
  | .sk => False
theorem wpT.base {r : R Unit} {N' : Addr → Prop} {Q : L2.St → Hp → Prop} (h : wpT U W N y H r Q) (e : ExtN N y H y' H') (hn : ∀ a, N' a → N a) : wpT U W N' y' H' r Q := by
  cases r with
  | ok a s' => exact fun y2 H2 σ2 e2 S => h y2 H2 σ2 (e.trans (e2.more hn)) S
  | er x s' => exact fun y2 H2 σ2 cls dd e2 S z => h y2 H2 σ2 cls dd (e.trans (e2.more hn)) S z
  | sk => exact h
/-- .. where slots are not touched -/
theorem wpT.wp {α : Type} {r : R α} {f : α → St → R Unit} {Q : L2.St → Hp → Prop} (h : wpT U W N y H (r.bind f) Q) : wp U W false y H σ (r.bind f) (fun _ _ _ H' => Q σ H') := by
  cases hr : r.bind f with
  | ok a s' => rw [hr] at h; exact fun y2 H2 e2 S => h y2 H2 σ e2.n S
  | er x s' => rw [hr] at h; exact fun y2 H2 cls dd e2 S z => h y2 H2 σ cls dd e2.n S z
  | sk => rw [hr] at h; exact h
theorem VR.thawN {p : D × Bool} {v : V} (h : VN U y H p v) (t : Trk y H) : ∃ y', ExtN (NW p.2 v) y H y' H ∧ Fr1 y H y' H ∧ Rep U y' H p.1 v := by
  obtain ⟨d, fr⟩ := p
  cases fr with
  | false => exact ⟨y, (Ext.refl true y H).n, Fr.refl t, h.of_fz⟩
  | true =>
    obtain ⟨a, rfl, h0, ha, c⟩ := h.to_new
    have f := Fr1.thaw ha t
    refine ⟨y.set a none, ⟨f.tr, fun b w o n e => ?_, fun a h => h⟩, f, (c.tr f.tr).frozen (Ly.set_same _ _ _)⟩
    have hb : b ≠ a := fun z => by subst z; exact n ⟨rfl, rfl⟩
    rw [Ly.set_ne _ _ hb]; exact ⟨e, rfl⟩
def rdG (U : Uni) (W : WX) (Γ : Env) (t : Tg) : TG := fun v σ H Q => ∃ y s d fr, StR U y σ H s ∧ VN U y H (d, fr) v ∧ wpT U W (NW fr v) y H (rT Γ t d fr s) Q
theorem PG.imp {e : Expr} {t t' : TG} (h : PG X e t) (f : ∀ v σ H Q, t' v σ H Q → t v σ H Q) : PG X e t' := ⟨fun pins s σ H v u Q I r w => h.run pins s σ H v u Q I r (f v σ H Q w)⟩
theorem PGs.imp {e : List Expr} {t t' : TGs} (h : PGs X e t) (f : ∀ v σ H Q, t' v σ H Q → t v σ H Q) : PGs X e t' := ⟨fun pins s σ H v u Q I r w => h.run pins s σ H v u Q I r (f v σ H Q w)⟩
theorem snd_gnm {i : Nat} {x : Str} {pos : Pos} (hN : X.N.Nodup) (hi : X.N[i]? = some x) (hx : Loc X.env.scope x) (hf : X.fn x = true ∨ X.env.scope.names.lookup x = some .local) : PG X (.Name x pos) (rdG U W Γ (.nm i)) :=
  PG.imp (pg_name hN hi hx hf) fun v σ H Q ⟨y, s, d, fr, S, hv, w⟩ => by
    simp only [rT] at w
    split at w
    · exact w.elim
    · rename_i n
      obtain ⟨y', e, f, r⟩ := hv.thawN S.trk
      exact w y' H _ e ((S.fr f).bindv r (fun d z => n d z))
theorem snd_gnb {i : Nat} {x : Str} {pos : Pos} (hN : X.N.Nodup) (hi : X.N[i]? = some x) (hx : Loc X.env.scope x) (hf : X.fn x = true ∨ X.env.scope.names.lookup x = some .local) : PG X (.Name x pos) (rdG U W Γ (.nb i)) :=
  PG.imp (pg_name hN hi hx hf) fun v σ H Q ⟨y, s, d, fr, S, hv, w⟩ => by
    simp only [rT] at w
    split at w
    · exact w.elim
    · rename_i n
      obtain ⟨a, rfl, h0, ha, c⟩ := hv.to_new
      have f := Fr.reown (w := some (.sl i)) ha (fun v z => by cases z; rintro (⟨_, z⟩ | ⟨_, _, z⟩) <;> cases z) S.trk
      have n' : ∀ e, gt s.sl i ≠ .lk e := fun e z => n e z
      refine w (y.set a (some (.sl i))) H _ ⟨f.tr, fun b w o nb e => ?_, fun a h => h⟩ (S.chgS f (fun w hw => .inl hw) (fun _ => ⟨a, rfl, Ly.set_same _ _ _, c.tr f.tr⟩) (fun b hb => ?_) (.inr fun e z => by cases z))
      · have hb : b ≠ a := fun z => by subst z; exact nb ⟨rfl, rfl⟩
        rw [Ly.set_ne _ _ hb]; exact ⟨e, rfl⟩
      · by_cases hb' : b = a
        · rw [hb', Ly.set_same] at hb; cases hb
        · rw [Ly.set_ne _ _ hb'] at hb; exact absurd hb (S.nolks n' b)
    · exact w.elim
/-- targets of frozen values -/
def rdGs (U : Uni) (W : WX) (Γ : Env) (ts : Tgs) : TGs := fun vs σ H Q => ∃ y s ds, StR U y σ H s ∧ Reps U y H ds vs ∧ wpT U W (fun _ => False) y H (rTs Γ ts ds s) Q
theorem wpT.bind {α : Unit → St → R Unit} {r : R Unit} {Q : L2.St → Hp → Prop} (h : wpT U W N y H (r.bind α) Q) : wpT U W N y H r (fun σ' H' => ∃ s' y', r = .ok () s' ∧ ExtN N y H y' H' ∧ StR U y' σ' H' s' ∧ wpT U W N y H (α () s') Q) := by
  cases r with
  | ok a s' => exact fun y' H' σ' e S => ⟨s', y', rfl, e, S, h⟩
  | er x s' => exact h
  | sk => exact h
theorem wpT.none {v : V} {r : R Unit} {Q : L2.St → Hp → Prop} (h : wpT U W (fun _ => False) y H r Q) : wpT U W (NW false v) y H r Q := h.base (Ext.refl true y H).n fun a z => by cases z.1
theorem snd_gs0 : PGs X [] (rdGs U W Γ .nil) := PGs.imp pgs_nil fun vs σ H Q ⟨y, s, ds, S, r, w⟩ => by
  cases ds with
  | nil =>
    simp only [rTs] at w
    rw [Reps] at r
    exact ⟨r, w y H σ (Ext.refl true y H).n S⟩
  | cons d ds => simp only [rTs] at w; exact w.elim
theorem snd_gsc {e : Expr} {es : List Expr} {t : Tg} {ts : Tgs} (h : PG X e (rdG U W Γ t)) (hr : PGs X es (rdGs U W Γ ts)) (hs : (assignEach (e :: es) X.env).map (·.2) = assign e X.env :: (assignEach es X.env).map (·.2) := by rfl) : PGs X (e :: es) (rdGs U W Γ (.cons t ts)) :=
  PGs.imp (pgs_cons h hr hs) fun vs σ H Q ⟨y, s, ds, S, r, w⟩ => by
    cases ds with
    | nil => simp only [rTs] at w; exact w.elim
    | cons d ds =>
      simp only [rTs] at w
      obtain ⟨v, vs', rfl, r1, r2⟩ := Reps.cons_.1 r
      refine ⟨v, vs', rfl, y, s, d, false, S, VR.fz r1, ?_⟩
      have w2 := w.bind.none (v := v)
      cases hr : rT Γ t d false s with
      | ok a s' =>
        rw [hr] at w2
        intro y' H' σ' e S'
        obtain ⟨s2, y2, e2, ex, S2, w3⟩ := w2 y' H' σ' e S'
        cases e2
        exact ⟨y', _, ds, S', r2.tr e.tr, w3.base (e.more fun a z => by cases z.1) fun a z => z⟩
      | er x s' => rw [hr] at w2; exact w2
      | sk => rw [hr] at w2; exact w2
theorem snd_gtp {es : List Expr} {ts : Tgs} {k : Nat} {pos : Pos} {n : Nat} (hK : U.K = X.K) (hc : X.calm = true) (h : PGs X es (rdGs U W Γ ts)) (hl : ts.len = n := by rfl) (hn : (assignEach es X.env).length = n := by rfl) (hst : (assignEach es X.env).findIdx? (·.1) = none := by rfl) :
    PG X (.Tuple es k pos) (rdG U W Γ (.tp ts)) :=
  PG.imp (pg_tup hc h hn hst) fun v σ H Q ⟨y, s, d, fr, S, hv, w⟩ => by
    simp only [rT] at w
    split at w
    · rename_i ds
      split at w
      · rename_i hlen
        obtain ⟨y', e, f, r⟩ := hv.thawN S.trk
        obtain ⟨a, xs, rfl, h1, h2⟩ := Rep.tup_.1 r
        refine ⟨a, xs, rfl, hK ▸ sqT_of h1, by rw [h2.length, hlen, hl], y', s, ds, S.fr f, h2, w.base e fun a z => z.elim⟩
      · exact w.elim
    · exact w.elim
theorem snd_gsb {o i : Expr} {io : On} {ii : Ex} {pos : Pos} (hu : X.A.units + 64 < cLine) (ho : PE X o (rdO U W Γ io)) (hi : PE X i (rdE U W Γ ii)) (hp : (!io.isPf || qE ii) = true := by decide)
    (ha : ∀ v, assign (.Subscript o i pos) X.env v = (do
      let ov ← holding [v] (eval o X.env)
      let iv ← holding [v, ov] (eval i X.env)
      standAt pos
      holding [v, ov, iv] (setItem ov iv v)
      release [v, ov, iv] []) := by intro _; rfl) : PG X (.Subscript o i pos) (rdG U W Γ (.sb io ii)) :=
  PG.imp (pg_sub ho hi (set_any (U := U) hu) ha) fun v σ H Q ⟨y, s, d, fr, S, hv, w⟩ => by
    simp only [rT] at w
    obtain ⟨y', e, f, r⟩ := hv.thawN S.trk
    have w := (w.base (N' := fun _ => False) e fun a z => z.elim).wp (σ := σ)
    refine rdO.seq (S.fr f) w (fun z => by cases z) fun x1 s1 y1 H1 hx1 e1 S1 w1 v1 hv1 => ?_
    refine rdE.seq (q := false) S1 (w1.base e1 fun z => by cases z) (fun z => by cases z) fun p s2 y2 H2 _ e2 S2 w2 v2 hv2 => ?_
    cases hm : mutO s2 x1 (setG p.1 d) with
    | ok r' s3 =>
      rw [hm] at w2
      have o2 : ODR U H2 y2 H2 σ x1 v1 := by
        cases x1 with
        | im d fr => simp only [mutO] at hm; cases hm
        | sl i => exact hv1
        | fd n f =>
          obtain ⟨a, C, dx, vs, k1, k2, k3⟩ := hv1
          have hq : qE ii = true := by have := hx1 ⟨n, f, rfl⟩; simp [this] at hp; exact hp
          exact ⟨a, C, dx, vs, e2.tr.A _ _ k1, e2.q hq _ _ k2 (by rintro ⟨ps, z⟩; cases z), k3⟩
      obtain ⟨a, d0, d', rfl, c, hg, Wr⟩ := mutO_snd hm S2 o2
      refine ⟨y2, a, d0, p.1, d, d', r', rfl, c, hv2.pv, Rep.tr (e1.tr.trans e2.tr) _ _ r, hg, fun z cz cc => ?_⟩
      obtain ⟨e3, S3⟩ := Wr z cz cc
      exact w2.at (e2.any.trans e3) S3
    | er x s3 =>
      exfalso
      unfold mutO at hm
      repeat' split at hm
      all_goals cases hm
    | sk => rw [hm] at w2; exact w2.elim
end
end Pyl
set_option Elab.async false
set_option linter.all false
set_option maxRecDepth 100000
set_option maxHeartbeats 2000000
/-! SndStmt2: statements. -/
namespace Pyl
open PySem PySem.Spec PyProof.Rows L2
section
variable {U : Uni} {W : WX} {Γ : Env} {X : Cx} {σ : L2.St} {H H' H0 : Hp} {y y' : Ly} {s : St} {q : Bool} {D : Ends}
def wpS (U : Uni) (W : WX) (y : Ly) (H : Hp) (r : RS) (D : Ends) : Prop := match r with
  | .nx s' => ∀ y' H' σ', Ext false y H y' H' → StR U y' σ' H' s' → D.nx σ' H'
  | .bk s' => ∀ y' H' σ', Ext false y H y' H' → StR U y' σ' H' s' → D.bk σ' H'
  | .ct s' => ∀ y' H' σ', Ext false y H y' H' → StR U y' σ' H' s' → D.ct σ' H'
  | .rt d fr s' => ∀ y' H' σ' v, Ext false y H y' H' → StR U y' σ' H' s' → VR U H y' H' (d, fr) v → D.rt v H'
  | .er x s' => ∀ y' H' σ' cls dd, Ext false y H y' H' → StR U y' σ' H' s' → ExR U x cls dd H' → W cls dd σ' H'
  | .sk => False
theorem wpS.base {r : RS} (h : wpS U W y H r D) (e : Ext false y H y' H') : wpS U W y' H' r D := by
  cases r with
  | nx s' => exact fun y2 H2 σ2 e2 S => h y2 H2 σ2 (e.trans e2) S
  | bk s' => exact fun y2 H2 σ2 e2 S => h y2 H2 σ2 (e.trans e2) S
  | ct s' => exact fun y2 H2 σ2 e2 S => h y2 H2 σ2 (e.trans e2) S
  | rt d fr s' => exact fun y2 H2 σ2 v e2 S hv => h y2 H2 σ2 v (e.trans e2) S (hv.lower e.kt)
  | er x s' => exact fun y2 H2 σ2 cls dd e2 S z => h y2 H2 σ2 cls dd (e.trans e2) S z
  | sk => exact h
/-- readings of statements -/
def rdS (U : Uni) (W : WX) (Γ : Env) (st : Sm) : TS := fun D σ H => ∃ y s, StR U y σ H s ∧ wpS U W y H (rS Γ st s) D
def rdSs (U : Uni) (W : WX) (Γ : Env) (st : Sms) : TS := fun D σ H => ∃ y s, StR U y σ H s ∧ wpS U W y H (rSs Γ st s) D
theorem PS.imp {st : Stmt} {t t' : TS} (h : PS X st t) (f : ∀ D σ H, t' D σ H → t D σ H) : PS X st t' := ⟨fun pins s σ H D I w => h.run pins s σ H D I (f D σ H w)⟩
theorem PSs.imp {st : List Stmt} {t t' : TS} (h : PSs X st t) (f : ∀ D σ H, t' D σ H → t D σ H) : PSs X st t' := ⟨fun pins s σ H D I w => h.run pins s σ H D I (f D σ H w)⟩
theorem PS.or {st : Stmt} {t t' : TS} (h : PS X st t) (h' : PS X st t') : PS X st (fun D σ H => t D σ H ∨ t' D σ H) :=
  ⟨fun pins s σ H D I w => by rcases w with w | w; exact h.run pins s σ H D I w; exact h'.run pins s σ H D I w⟩
theorem snd_ss0 : PSs X [] (rdSs U W Γ .nil) := PSs.imp pss_nil fun D σ H ⟨y, s, S, w⟩ => by
  simp only [rSs] at w
  exact w y H σ (Ext.refl _ _ _) S
theorem snd_ssc {st : Stmt} {rest : List Stmt} {i : Sm} {is : Sms} (h : PS X st (rdS U W Γ i)) (hr : PSs X rest (rdSs U W Γ is)) : PSs X (st :: rest) (rdSs U W Γ (.cons i is)) :=
  PSs.imp (pss_cons h hr) fun D σ H ⟨y, s, S, w⟩ => by
    simp only [rSs] at w
    refine ⟨y, s, S, ?_⟩
    cases hr : rS Γ i s with
    | nx s' => rw [hr] at w; exact fun y' H' σ' e S' => ⟨y', s', S', w.base e⟩
    | bk s' => rw [hr] at w; exact w
    | ct s' => rw [hr] at w; exact w
    | rt d fr s' => rw [hr] at w; exact w
    | er x s' => rw [hr] at w; exact w
    | sk => rw [hr] at w; exact w
theorem snd_ss1 {st : Stmt} {i : Sm} (h : PS X st (rdS U W Γ i)) : PSs X [st] (rdSs U W Γ (.cons i .nil)) := snd_ssc h snd_ss0
/-! ### from expressions to statements -/
theorem rdE.seqS {e : Ex} {f : Pyl.D × Bool → St → RS} {R' : VK} (S : StR U y σ H s) (h : wpS U W y H ((rE Γ e s).andS f) D)
    (k : ∀ p s' y' H', Ext (qE e) y H y' H' → StR U y' σ H' s' → wpS U W y H (f p s') D → ∀ v, VR U H y' H' p v → R' v H') : rdE U W Γ e σ H R' := by
  refine ⟨y, s, S, ?_⟩
  cases hr : rE Γ e s with
  | ok p s' => rw [hr] at h; exact fun y' H' ex S' v hv => k p s' y' H' ex S' h v hv
  | er x s' => rw [hr] at h; exact fun y' H' cls dd ex S' hx => h y' H' σ cls dd ex S' hx
  | sk => rw [hr] at h; exact h
theorem rdO.seqS {o : On} {f : OD → St → RS} {R' : VK} (S : StR U y σ H s) (h : wpS U W y H ((rO Γ o s).andS f) D)
    (k : ∀ x s' y' H', ((∃ n f, x = .fd n f) → o.isPf = true) → Ext (qO o) y H y' H' → StR U y' σ H' s' → wpS U W y H (f x s') D → ∀ v, ODR U H y' H' σ x v → R' v H') : rdO U W Γ o σ H R' := by
  refine ⟨y, s, S, ?_⟩
  cases hr : rO Γ o s with
  | ok p s' => rw [hr] at h; exact fun y' H' ex S' v hv => k p s' y' H' (by rintro ⟨n, f, rfl⟩; exact rO_fd hr) ex S' h v hv
  | er x s' => rw [hr] at h; exact fun y' H' cls dd ex S' hx => h y' H' σ cls dd ex S' hx
  | sk => rw [hr] at h; exact h
theorem rdA.seqS {es : Exs} {f : List Pyl.D → St → RS} {R' : List V → Hp → Prop} (S : StR U y σ H s) (h : wpS U W y H ((rEs Γ es s).andS f) D)
    (k : ∀ ds s' y' H', rEs Γ es s = .ok ds s' → Ext (qEs es) y H y' H' → StR U y' σ H' s' → wpS U W y H (f ds s') D → ∀ vs, Reps U y' H' ds vs → R' vs H') : rdA U W Γ es σ H R' := by
  refine ⟨y, s, S, ?_⟩
  cases hr : rEs Γ es s with
  | ok p s' => rw [hr] at h; exact fun y' H' ex S' v hv => k p s' y' H' hr ex S' h v hv
  | er x s' => rw [hr] at h; exact fun y' H' cls dd ex S' hx => h y' H' σ cls dd ex S' hx
  | sk => rw [hr] at h; exact h
theorem rdT.seqS {e : Ex} {f : Bool → St → RS} {R' : Bool → Hp → Prop} (S : StR U y σ H s) (h : wpS U W y H ((truR (rE Γ e s)).andS f) D)
    (k : ∀ b s' y' H', Ext (qE e) y H y' H' → StR U y' σ H' s' → wpS U W y H (f b s') D → R' b H') : rdT U W Γ e σ H R' := by
  refine ⟨y, s, S, ?_⟩
  cases hr : truR (rE Γ e s) with
  | ok p s' => rw [hr] at h; exact fun y' H' ex S' => k p s' y' H' ex S' h
  | er x s' => rw [hr] at h; exact fun y' H' cls dd ex S' hx => h y' H' σ cls dd ex S' hx
  | sk => rw [hr] at h; exact h
/-- a target's part of a statement -/
theorem wpS.tg {v : V} {fr : Bool} {r : R Unit} {f : Unit → St → RS} {y1 : Ly} {H1 : Hp} {Q : L2.St → Hp → Prop} (h : wpS U W y H (r.andS f) D) (e : Ext q y H y1 H1) (t : Trk y H) (hn : ∀ a, fr = true → v = .ref a → H a = none)
    (k : ∀ s' y' H' σ', ExtN (NW fr v) y1 H1 y' H' → Ext false y H y' H' → StR U y' σ' H' s' → wpS U W y H (f () s') D → Q σ' H') : wpT U W (NW fr v) y1 H1 r Q := by
  cases r with
  | ok a s' => exact fun y' H' σ' ex S' => k s' y' H' σ' ex (ex.close e t fun a z => hn a z.1 z.2) S' h
  | er x s' => exact fun y' H' σ' cls dd ex S' hx => h y' H' σ' cls dd (ex.close e t fun a z => hn a z.1 z.2) S' hx
  | sk => exact h
theorem VR.fresh {p : Pyl.D × Bool} {v : V} (h : VR U H0 y H p v) : ∀ a, p.2 = true → v = .ref a → H0 a = none := by
  intro a hp hv
  obtain ⟨d, fr⟩ := p
  cases hp
  obtain ⟨b, e, h0, _⟩ := h.to_new
  subst hv
  cases e
  exact h0
theorem asg_core {t : Tg} {e : Ex} (S : StR U y σ H s) (w : wpS U W y H (rS Γ (.asg t e) s) D) : tAsg (rdE U W Γ e) (rdG U W Γ t) D σ H := by
  simp only [rS] at w
  refine rdE.seqS S w fun p s1 y1 H1 e1 S1 w1 v hv => ?_
  exact ⟨y1, s1, p.1, p.2, S1, hv.vn, w1.tg e1 S.trk hv.fresh fun s' y' H' σ' _ ex S' w2 => w2 y' H' σ' ex S'⟩
theorem snd_asg {tg e : Expr} {t : Tg} {ie : Ex} {pos : Pos} (he : PE X e (rdE U W Γ ie)) (hg : PG X tg (rdG U W Γ t)) (hs : swapsWithSole [tg] e pos.line X.env = pure false := by rfl) (hw : swappedStores [tg] e X.env = pure none := by rfl)
    (h1 : (assignEach [tg] X.env).map (·.2) = [assign tg X.env] := by rfl) : PS X (.Assign [tg] e pos) (rdS U W Γ (.asg t ie)) :=
  PS.imp (ps_asg he hg hs hw h1) fun D σ H ⟨y, s, S, w⟩ => asg_core S w
theorem snd_asg2 {t1 t2 e : Expr} {it iu : Tg} {ie : Ex} {pos : Pos} (he : PE X e (rdE U W Γ ie)) (h1 : PG X t1 (rdG U W Γ it)) (h2 : PG X t2 (rdG U W Γ iu)) (ha : (assignEach [t1, t2] X.env).map (·.2) = [assign t1 X.env, assign t2 X.env] := by rfl) (hw : swappedStores [t1, t2] e X.env = pure none := by rfl) :
    PS X (.Assign [t1, t2] e pos) (rdS U W Γ (.asg2 it iu ie)) :=
  PS.imp (ps_asg2 he h1 h2 ha hw) fun D σ H ⟨y, s, S, w⟩ => by
    simp only [rS] at w
    refine rdE.seqS S w fun p s1 y1 H1 e1 S1 w1 v hv => ?_
    obtain ⟨y2, e2, f, r⟩ := hv.thaw e1 S.trk S1.trk
    refine ⟨y2, s1, p.1, false, S1.fr f, VR.fz r, w1.tg e2 S.trk (fun a z => by cases z) fun s2 y3 H3 σ3 en ex S3 w2 => ?_⟩
    exact ⟨y3, s2, p.1, false, S3, VR.fz (Rep.tr en.tr _ _ r), w2.tg ex S.trk (fun a z => by cases z) fun s' y' H' σ' _ ex S' w2 => w2 y' H' σ' ex S'⟩
/-! ### plain statements -/
theorem snd_expr {e : Expr} {ie : Ex} {pos : Pos} (he : PE X e (rdE U W Γ ie)) (hs : swapsWith e none pos.line X.env = pure false := by rfl) : PS X (.Expr e pos) (rdS U W Γ (.ex ie)) :=
  PS.imp (ps_expr he hs) fun D σ H ⟨y, s, S, w⟩ => by
    simp only [rS] at w
    exact rdE.seqS S w fun p s1 y1 H1 e1 S1 w1 v hv => w1 y1 H1 σ e1.any S1
theorem snd_ret {e : Expr} {ie : Ex} {pos : Pos} (he : PE X e (rdE U W Γ ie)) : PS X (.Return (some e) pos) (rdS U W Γ (.ret ie)) :=
  PS.imp (ps_ret he) fun D σ H ⟨y, s, S, w⟩ => by
    simp only [rS] at w
    exact rdE.seqS S w fun p s1 y1 H1 e1 S1 w1 v hv => w1 y1 H1 σ v e1.any S1 hv
theorem snd_retN {pos : Pos} : PS X (.Return none pos) (rdS U W Γ .retN) := PS.imp ps_retN fun D σ H ⟨y, s, S, w⟩ => by
  simp only [rS] at w
  exact w y H σ .non (Ext.refl _ _ _) S VR.of_non
theorem snd_pass {pos : Pos} : PS X (.Pass pos) (rdS U W Γ .pas) := PS.imp ps_pass fun D σ H ⟨y, s, S, w⟩ => by
  simp only [rS] at w
  exact w y H σ (Ext.refl _ _ _) S
theorem snd_brk {pos : Pos} : PS X (.Break pos) (rdS U W Γ .brk) := PS.imp ps_break fun D σ H ⟨y, s, S, w⟩ => by
  simp only [rS] at w
  exact w y H σ (Ext.refl _ _ _) S
theorem snd_cnt {pos : Pos} : PS X (.Continue pos) (rdS U W Γ .cnt) := PS.imp ps_continue fun D σ H ⟨y, s, S, w⟩ => by
  simp only [rS] at w
  exact w y H σ (Ext.refl _ _ _) S
theorem snd_if {c : Expr} {a b : List Stmt} {ic : Ex} {ia ib : Sms} {pos : Pos} (hc : PT X c (rdT U W Γ ic)) (ha : PSs X a (rdSs U W Γ ia)) (hb : PSs X b (rdSs U W Γ ib)) : PS X (.If c a b pos) (rdS U W Γ (.iff ic ia ib)) :=
  PS.imp (ps_if hc ha hb) fun D σ H ⟨y, s, S, w⟩ => by
    have w : wpS U W y H ((truR (rE Γ ic s)).andS fun b s => if b = true then rSs Γ ia s else rSs Γ ib s) D := by
      have e : rS Γ (.iff ic ia ib) s = (truR (rE Γ ic s)).andS fun b s => if b = true then rSs Γ ia s else rSs Γ ib s := by
        simp only [rS]
        unfold truR
        cases rE Γ ic s with
        | er x t => rfl
        | sk => rfl
        | ok p t =>
          simp only [R.bind_ok, R.andS_ok]
          cases p.1.tru with
          | none => rfl
          | some b => cases b <;> rfl
      rw [← e]; exact w
    refine rdT.seqS S w fun b s1 y1 H1 e1 S1 w1 => ?_
    cases b with
    | true =>
      simp only [if_true] at w1 ⊢
      exact ⟨y1, s1, S1, w1.base e1.any⟩
    | false =>
      simp only [Bool.false_eq_true, if_false] at w1 ⊢
      exact ⟨y1, s1, S1, w1.base e1.any⟩
/-! ### x op= e -/
theorem snd_aug {i : Nat} {x : Str} {e : Expr} {ie : Ex} {op : Op} {pos pos' : Pos} (hN : X.N.Nodup) (hi : X.N[i]? = some x) (hx : Loc X.env.scope x) (he : PE X e (rdE U W Γ ie)) (hf : X.fn x = true ∨ X.env.scope.names.lookup x = some .local) :
    PS X (.AugAssign (.Name x pos') op.m e pos) (rdS U W Γ (.aug op i ie)) :=
  PS.imp (ps_aug hN hi hx he (op_aug (U := U) op) hf) fun D σ H ⟨y, s, S, w⟩ => by
    simp only [rS] at w
    split at w
    · rename_i d g
      obtain ⟨v, e0, r0⟩ := S.slot g (by intro z; cases z)
      refine ⟨v, e0, rdE.seqS S w fun p s1 y1 H1 e1 S1 w1 v2 hv => ?_⟩
      split at w1
      · rename_i r hr
        refine ⟨y1, d, p.1, r, Rep.pv (Rep.tr e1.tr _ _ r0), hv.pv, hr, fun w' hw => ?_⟩
        split at w1
        · rename_i d1 g1
          exact w1 y1 H1 _ e1.any (S1.bindv hw fun e z => by rw [g1] at z; cases z)
        · exact w1.elim
      · exact w1.elim
    · exact w.elim
end
end Pyl
set_option Elab.async false
set_option linter.all false
set_option maxRecDepth 100000
set_option maxHeartbeats 2000000
/-! SndStmt3: attributes, augmented places, parallel stores, raise, del, while. -/
namespace Pyl
open PySem PySem.Spec PyProof.Rows L2
section
variable {U : Uni} {W : WX} {Γ : Env} {X : Cx} {σ : L2.St} {H H' H0 : Hp} {y y' : Ly} {s : St} {q : Bool} {D : Ends}
/-! ### attributes -/
theorem snd_asgA {o value : Expr} {i f : Nat} {x fx : Str} {e : Ex} {p pos pos' : Pos} (hK : U.K = X.K) (hc : ClsOk U) (hn : ∀ c, NoAttr U.K (U.cls c) (U.fnm f)) (hfx : U.fnm f = fx) (hN : X.N[i]? = some x) (hv : Vis X.env.scope x)
    (he : PE X value (rdE U W Γ e)) (hs : swapsWith value (some (.Attribute (.Name x p) fx pos')) pos.line X.env = pure false := by rfl) (hd : (x == ("__debug__" : Str)) = false := by decide) (hcd : (x == ("__classdict__" : Str)) = false := by decide) :
    PS X (.Assign [.Attribute (.Name x p) fx pos'] value pos) (rdS U W Γ (.asg (.at i f) e)) := by
  subst hfx
  refine PS.imp (ps_fld (pe_var hN hv hd hcd) he hs) fun D σ H ⟨y, s, S, w⟩ => ?_
  simp only [rS] at w
  refine rdE.seqS S w fun p s1 y1 H1 e1 S1 w1 v hv => ?_
  simp only [rT] at w1
  split at w1
  · rename_i n g
    split at w1
    · rename_i c fs es
      split at w1
      · rename_i hl
        split at w1
        · exact w1.elim
        · rename_i nl
          obtain ⟨y2, e2, f2, r⟩ := hv.thaw e1 S.trk S1.trk
          have S2 := S1.fr f2
          obtain ⟨vo, ho, ro⟩ := S2.slot g (by intro z; cases z)
          have ro : Rep U y2 H1 (.loc n) vo := ro
          obtain ⟨a, rfl, ha⟩ := Rep.loc_.1 ro
          obtain ⟨a', dx, vs, k1, k2, k3, k4, S3⟩ := S2.setfv es r (f := f) (fun d z => nl d z)
          rw [ha] at k1; cases k1
          refine ⟨.ref a, ho, a, _, dx, vs, rfl, k2, hK ▸ hc.cls c, hK ▸ hn c, by omega, ?_⟩
          exact w1 y2 _ σ (e2.trans k4).any S3
      · exact w1.elim
    · exact w1.elim
  · exact w1.elim
theorem snd_asgB {o value : Expr} {i f : Nat} {x fx : Str} {e : Ex} {p pos pos' : Pos} (hK : U.K = X.K) (hc : ClsOk U) (hn : ∀ c, NoAttr U.K (U.cls c) (U.fnm f)) (hfx : U.fnm f = fx) (hN : X.N[i]? = some x) (hv : Vis X.env.scope x)
    (he : PE X value (rdE U W Γ e)) (hs : swapsWith value (some (.Attribute (.Name x p) fx pos')) pos.line X.env = pure false := by rfl) (hd : (x == ("__debug__" : Str)) = false := by decide) (hcd : (x == ("__classdict__" : Str)) = false := by decide) :
    PS X (.Assign [.Attribute (.Name x p) fx pos'] value pos) (rdS U W Γ (.asg (.ab i f) e)) := by
  subst hfx
  refine PS.imp (ps_fld (pe_var hN hv hd hcd) he hs) fun D σ H ⟨y, s, S, w⟩ => ?_
  simp only [rS] at w
  refine rdE.seqS S w fun p s1 y1 H1 e1 S1 w1 v hv => ?_
  obtain ⟨d, fr⟩ := p
  simp only [rT] at w1
  split at w1
  · rename_i n g
    split at w1
    · rename_i c fs es
      split at w1
      · rename_i hl
        split at w1
        · exact w1.elim
        · rename_i nl
          obtain ⟨vo, ho, ro⟩ := S1.slot g (by intro z; cases z)
          have ro : Rep U y1 H1 (.loc n) vo := ro
          obtain ⟨a, rfl, ha⟩ := Rep.loc_.1 ro
          obtain ⟨a', dx, vs, y2, k1, k2, k3, k4, S3⟩ := S1.setfb e1 S.trk es hv (f := f) (fun d z => nl d z)
          rw [ha] at k1; cases k1
          refine ⟨.ref a, ho, a, _, dx, vs, rfl, k2, hK ▸ hc.cls c, hK ▸ hn c, by omega, ?_⟩
          exact w1 y2 _ σ k4 S3
      · exact w1.elim
    · exact w1.elim
  · exact w1.elim
theorem snd_augA {value : Expr} {i f : Nat} {x fx : Str} {e : Ex} {op : Op} {p pos tpos : Pos} (hK : U.K = X.K) (hc : ClsOk U) (hn : ∀ c, NoAttr U.K (U.cls c) (U.fnm f)) (hfx : U.fnm f = fx) (hN : X.N[i]? = some x) (hv : Vis X.env.scope x)
    (he : PE X value (rdE U W Γ e)) (hd : (x == ("__debug__" : Str)) = false := by decide) (hcd : (x == ("__classdict__" : Str)) = false := by decide) :
    PS X (.AugAssign (.Attribute (.Name x p) fx tpos) op.m value pos) (rdS U W Γ (.augA op i f e)) := by
  subst hfx
  refine PS.imp (ps_fldaug (pe_var hN hv hd hcd) he (op_aug (U := U) op)) fun D σ H ⟨y, s, S, w⟩ => ?_
  simp only [rS] at w
  split at w
  · rename_i n g
    split at w
    · rename_i c fs es
      split at w
      · rename_i d gf
        obtain ⟨vo, ho, ro⟩ := S.slot g (by intro z; cases z)
        have ro : Rep U y H (.loc n) vo := ro
        obtain ⟨a, rfl, ha⟩ := Rep.loc_.1 ro
        obtain ⟨a', dx, vs, k1, k2, k3, k4, k5⟩ := S.sto.ins es
        rw [ha] at k1; cases k1
        obtain ⟨vf, k6, k7⟩ := k5.look gf
        have k7 : Rep U y H d vf := k7
        refine ⟨.ref a, ho, a, _, dx, vs, vf, rfl, k3, hK ▸ hc.cls c, hK ▸ hn c, k6, ?_⟩
        refine rdE.seqS S w fun p s1 y1 H1 e1 S1 w1 v hv => ?_
        split at w1
        · rename_i r hr
          refine ⟨y1, d, p.1, r, Rep.pv (Rep.tr e1.tr _ _ k7), hv.pv, hr, fun w' hw => ?_⟩
          split at w1
          · rename_i c' fs' es'
            split at w1
            · rename_i hcc
              simp only [Bool.and_eq_true, decide_eq_true_eq] at hcc
              obtain ⟨rfl, hl⟩ := hcc
              split at w1
              · rename_i d2 g2
                obtain ⟨a2, dx2, vs2, m1, m2, m3, m4, S3⟩ := S1.setfv es' hw (f := f) (fun d z => by rw [g2] at z; cases z)
                have := e1.tr.A n a ha
                rw [m1] at this; cases this
                exact ⟨dx2, vs2, m2, by omega, w1 y1 _ σ (e1.trans m4).any S3⟩
              · exact w1.elim
            · exact w1.elim
          · exact w1.elim
        · exact w1.elim
      · exact w.elim
    · exact w.elim
  · exact w.elim
/-! ### places -/
theorem odr_later {x : OD} {v : V} {io : On} {q2 : Bool} (hv : ODR U H0 y H σ x v) (e : Ext q2 y H y' H') (hx : (∃ n f, x = .fd n f) → io.isPf = true) (hp : (!io.isPf || q2) = true) (him : ∀ d fr, x ≠ .im d fr) : ODR U H' y' H' σ x v := by
  cases x with
  | im d fr => exact absurd rfl (him d fr)
  | sl i => exact hv
  | fd n f =>
    obtain ⟨a, C, dx, vs, k1, k2, k3⟩ := hv
    have hq : q2 = true := by have := hx ⟨n, f, rfl⟩; simp [this] at hp; exact hp
    exact ⟨a, C, dx, vs, e.tr.A _ _ k1, e.q hq _ _ k2 (by rintro ⟨ps, z⟩; cases z), k3⟩
theorem mutO_im {s s' : St} {x : OD} {g : Pyl.D → Option (Pyl.D × Pyl.D)} {r : Pyl.D} (h : mutO s x g = .ok r s') : ∀ d fr, x ≠ .im d fr := by
  intro d fr z
  subst z
  simp only [mutO] at h
  cases h
theorem mutO_er {s s' : St} {x : OD} {g : Pyl.D → Option (Pyl.D × Pyl.D)} {z : Xn} (h : mutO s x g = .er z s') : False := by
  unfold mutO at h
  repeat' split at h
  all_goals cases h
theorem snd_augS {o i e : Expr} {io : On} {ii ie : Ex} {op : Op} {tpos pos : Pos} (hK : U.K = X.K) (hu : X.A.units + 64 < cLine) (ho : PE X o (rdO U W Γ io)) (hi : PE X i (rdE U W Γ ii)) (he : PE X e (rdE U W Γ ie)) (hp : (!io.isPf || (qE ii && qE ie)) = true := by decide)
    (ha : ∀ ov iv new, augStore i ov iv new = (do holding [new, ov, iv] (setItem ov iv new); release [new, ov, iv] []; pure .next) := by intros; rfl) : PS X (.AugAssign (.Subscript o i tpos) op.m e pos) (rdS U W Γ (.augS op io ii ie)) :=
  PS.imp (ps_augS ho hi (pget_any (U := U) hK hu) he (op_aug (U := U) op) (set_any (U := U) hu) ha) fun D σ H ⟨y, s, S, w⟩ => by
    simp only [rS] at w
    refine rdO.seqS S w fun x1 s1 y1 H1 hx1 e1 S1 w1 v1 hv1 => ?_
    refine rdE.seqS S1 (w1.base e1.any) fun k s2 y2 H2 e2 S2 w2 v2 hv2 => ?_
    split at w2
    · rename_i hL
      split at w2
      · rename_i c g
        split at w2
        · rename_i r hr
          have pc := hv1.later e2 S2 (fun z => by have := hx1 z; simp [this] at hp; exact hp.1) g
          refine ⟨y2, s2, c, k.1, r, S2.sto, pc, hv2.pv, ?_, hr, fun w' hw => ?_⟩
          · simp only [Bool.or_eq_true] at hL
            unfold OD.isL OD.isD at hL
            rw [g] at hL
            cases c with
            | lst ds => exact .inl ⟨ds, rfl⟩
            | loc n => exact .inr (.inl ⟨n, rfl⟩)
            | dct kvs => exact .inr (.inr ⟨kvs, rfl⟩)
            | _ => rcases hL with hL | hL <;> cases hL
          · refine rdE.seqS S2 (w2.base e2.any) fun p s3 y3 H3 e3 S3 w3 v3 hv3 => ?_
            split at w3
            · rename_i r2 hr2
              refine ⟨y3, r, p.1, r2, Rep.pv (Rep.tr e3.tr _ _ hw), hv3.pv, hr2, fun w4 hw4 => ?_⟩
              cases hm : mutO s3 x1 (setG k.1 r2) with
              | ok r' s4 =>
                rw [hm] at w3
                have o3 := odr_later hv1 (q2 := qE ii && qE ie) (e2.trans e3) hx1 hp (mutO_im hm)
                obtain ⟨a, d0, d', rfl, c', hg, Wr⟩ := mutO_snd hm S3 o3
                refine ⟨y3, a, d0, k.1, r2, d', r', rfl, c', ?_, hw4, hg, fun z cz cc => ?_⟩
                · exact (VR.ext hv2 e3).pv
                · obtain ⟨e4, S4⟩ := Wr z cz cc
                  exact w3 _ _ σ (e3.any.trans e4) S4
              | er x s4 => exact (mutO_er hm).elim
              | sk => rw [hm] at w3; exact w3.elim
            · exact w3.elim
        · exact w2.elim
      · exact w2.elim
    · exact w2.elim
theorem snd_ext {i : Nat} {x : Str} {e : Expr} {ie : Ex} {pos pos' : Pos} (hN : X.N.Nodup) (hi : X.N[i]? = some x) (hx : Loc X.env.scope x) (he : PE X e (rdE U W Γ ie)) (hf : X.fn x = true ∨ X.env.scope.names.lookup x = some .local) :
    PS X (.AugAssign (.Name x pos') .Add e pos) (rdS U W Γ (.ext i ie)) :=
  PS.imp (ps_aug hN hi hx he iop_ext hf) fun D σ H ⟨y, s, S, w⟩ => by
    simp only [rS] at w
    have hv : ∃ v, σ[i]? = some (some v) := by
      split at w
      · rename_i d g
        obtain ⟨v, e0, _⟩ := S.val (i := i) (fun z => by rw [z] at g; cases g)
        exact ⟨v, e0⟩
      · exact w.elim
    obtain ⟨v0, e0⟩ := hv
    refine ⟨v0, e0, ?_⟩
    split at w
    · refine rdE.seqS S w fun p s1 y1 H1 e1 S1 w1 v hv => ?_
      split at w1
      · rename_i ds es g1 g2
        split at w1
        · rename_i hl
          obtain ⟨a, k1, k2, k3⟩ := mut_slot S1 g1
          rw [e0] at k1; cases k1
          obtain ⟨xs, k4, k5⟩ := k2
          have pv := hv.pv
          rw [g2] at pv
          obtain ⟨b, zs, rfl, k6, k7⟩ := pv.lst
          refine ⟨a, b, xs, zs, rfl, rfl, k4, k6, by rw [k5.length, k7.length]; exact Nat.le_trans hl lim_line, ?_⟩
          obtain ⟨e2, S2⟩ := k3 (.lst (ds ++ es)) (.lst (xs ++ zs)) True.intro ⟨_, rfl, k5.app k7⟩
          rw [set_id e0]
          exact w1 y1 _ σ (e1.any.trans e2) S2
        · exact w1.elim
      · exact w1.elim
    · exact w.elim
/-! ### del -/
theorem snd_del {o i : Expr} {io : On} {ii : Ex} {tpos pos : Pos} (hu : X.A.units + 64 < cLine) (ho : PE X o (rdO U W Γ io)) (hi : PE X i (rdE U W Γ ii)) (hp : (!io.isPf || qE ii) = true := by decide) : PS X (.Delete [.Subscript o i tpos] pos) (rdS U W Γ (.del io ii)) := by
  let rDel : V → V → Hp → (Hp → Prop) → Prop := fun o i H Q => ∃ y a d k d' r, o = .ref a ∧ Cont U y H (fun u => H a = some u) d ∧ PV U y H k i ∧ delG k d = some (d', r) ∧ ∀ z, Cnt z → Cont U y H (fun x => x = z) d' → Q (upd H a z)
  have rule : ∀ (pins : List (Addr × Obj)) (s : Shared) (σ : L2.St) (H : Hp) (o i : V) (ov iv : Value) (Q : Hp → Prop), L2.Inv X pins σ H s → RelV o ov → RelV i iv → rDel o i H Q →
      wpAny (model X.prog X.w) X.A (delItem ov iv) (fun _ s' => ∃ H', L2.Inv X pins σ H' s' ∧ Q H') X.xe s := by
    intro pins s σ H o i ov iv Q I ro ri h
    obtain ⟨y, a, d, k, d', r, rfl, c, pk, hg, q⟩ := h
    obtain rfl : ov = .ref a := ro
    unfold delG at hg
    split at hg
    · rename_i kvs
      split at hg
      · rename_i k' ek
        split at hg
        · rename_i ok
          split at hg
          · rename_i d1 hd1
            cases hg
            exact x_del (by omega) I c (ky_pv ek pk).1 ok ⟨d1, hd1⟩ ri fun z s' cz cc I' => ⟨_, I', q z cz cc⟩
          · cases hg
        · cases hg
      · cases hg
    · cases hg
  have ps : PS X (.Delete [.Subscript o i tpos] pos) (fun D σ H => rdO U W Γ io σ H fun x H1 => rdE U W Γ ii σ H1 fun k H2 => rDel x k H2 fun H3 => D.nx σ H3) := by
    refine ⟨fun pins s σ H D I h => ?_⟩
    refine wpAny_Delete (wpAny_deleteEach_cons (wpAny_delete_Subscript (thn (ho.run pins s σ H _ I h) fun u s1 ⟨x, H1, I1, rx, q1⟩ => thn (hi.run pins s1 σ H1 _ I1 q1) fun iv s2 ⟨y, H2, I2, ry, q2⟩ => ?_)))
    exact thn (rule pins s2 σ H2 x y u iv _ I2 rx ry q2) fun _ s3 ⟨H3, I3, q3⟩ => wpAny_deleteEach_nil ⟨σ, H3, I3, q3⟩
  refine PS.imp ps fun D σ H ⟨y, s, S, w⟩ => ?_
  simp only [rS] at w
  refine rdO.seqS S w fun x1 s1 y1 H1 hx1 e1 S1 w1 v1 hv1 => ?_
  refine rdE.seqS S1 (w1.base e1.any) fun k s2 y2 H2 e2 S2 w2 v2 hv2 => ?_
  cases hm : mutO s2 x1 (delG k.1) with
  | ok r' s4 =>
    rw [hm] at w2
    have o3 := odr_later hv1 e2 hx1 hp (mutO_im hm)
    obtain ⟨a, d0, d', rfl, c', hg, Wr⟩ := mutO_snd hm S2 o3
    refine ⟨y2, a, d0, k.1, d', r', rfl, c', hv2.pv, hg, fun z cz cc => ?_⟩
    obtain ⟨e4, S4⟩ := Wr z cz cc
    exact w2 _ _ σ (e2.any.trans e4) S4
  | er x s4 => exact (mutO_er hm).elim
  | sk => rw [hm] at w2; exact w2.elim
/-! ### raise -/
theorem snd_rse {C : Addr} {bmB : List Value} {B newId initId : String} {x : Str} {p pos pos2 : Pos} {e : Expr} {es : List Expr} {c : Nat} {ies : Exs} (hc : X.calm = true) (tk : Takes X W) (hC : U.exc c = C) (F : ExcBaseFacts B newId initId bmB) (q : PySem.W.excIn X.K C bmB newId = true) (gC : X.mg x = some (.ref C))
    (kC : PySem.W.keepIn X.K (.ref C) = true) (r : Raises X (.ref C)) (hg : Gl X x) (ha : PA X (e :: es) (rdA U W Γ ies)) (hl : ies.len ≤ LIM := by decide) (hdb : (x == ("__debug__" : Str)) = false := by decide)
    (he : starEach (e :: es) X.env = (false, eval e X.env) :: starEach es X.env := by rfl) (hpl : (backTo pos2 (starEach es X.env)).any (·.1) = false := by rfl) : PS X (.Raise (some (.Call (.Name x p) (e :: es) [] pos2)) none pos) (rdS U W Γ (.rse c ies)) :=
  PS.imp (ps_raise hc tk (pmk_ownA F q gC kC r hg ha hdb he hpl)) fun D σ H ⟨y, s, S, w⟩ => by
    simp only [rS] at w
    refine rdA.seqS S w fun ds s1 y1 H1 hr e1 S1 w1 vs hv => ⟨by rw [hv.length, rEs_len hr]; exact Nat.le_trans hl lim_line, ?_⟩
    exact w1 y1 H1 σ _ _ e1.any S1 (by subst hC; rfl)
/-! ### while -/
theorem snd_whl {c : Expr} {body : List Stmt} {n : Nat} {ic : Ex} {ib : Sms} {pos : Pos} (hp : PassesOwn (model X.prog X.w) X.A X.env X.xe) (hc : PT X c (rdT U W Γ ic)) (hb : PSs X body (rdSs U W Γ ib)) : PS X (.While c body [] pos) (rdS U W Γ (.whl n ic ib)) :=
  PS.imp (ps_while hp hc hb) fun D σ H ⟨y, s, S, w⟩ => by
    simp only [rS] at w
    let cc : St → R Bool := fun s => truR (rE Γ ic s)
    let bb : St → RS := fun s => rSs Γ ib s
    have w : wpS U W y H (whlL cc bb n s) D := w
    refine ⟨fun m σ' H' => ∃ y' s', Ext false y H y' H' ∧ StR U y' σ' H' s' ∧ wpS U W y H (whlL cc bb m s') D, ⟨n, y, s, Ext.refl _ _ _, S, w⟩, ?_⟩
    intro m σ1 H1 ⟨y1, s1, e1, S1, w1⟩
    cases m with
    | zero => exact w1.elim
    | succ m =>
      have w1 : wpS U W y H (match cc s1 with
        | .ok true s' => match bb s' with
          | .nx s'' => whlL cc bb m s''
          | .ct s'' => whlL cc bb m s''
          | .bk s'' => .nx s''
          | .rt d fr s'' => .rt d fr s''
          | .er x s'' => .er x s''
          | .sk => .sk
        | .ok false s' => .nx s'
        | .er x s' => .er x s'
        | .sk => .sk) D := w1
      refine ⟨y1, s1, S1, ?_⟩
      have hcc : truR (rE Γ ic s1) = cc s1 := rfl
      rw [hcc]
      cases hc1 : cc s1 with
      | ok b s2 =>
        rw [hc1] at w1
        intro y2 H2 e2 S2
        cases b with
        | false =>
          simp only [Bool.false_eq_true, if_false]
          exact w1 y2 H2 σ1 (e1.trans e2.any) S2
        | true =>
          simp only [if_true]
          refine ⟨fun σ' H' => ∃ y' s', Ext false y H y' H' ∧ StR U y' σ' H' s' ∧ wpS U W y H (whlL cc bb m s') D, fun σ' H' h => ⟨m, Nat.lt_succ_self m, h⟩, y2, s2, S2, ?_⟩
          have hbb : rSs Γ ib s2 = bb s2 := rfl
          rw [hbb]
          have e12 := e1.trans e2.any
          cases hb1 : bb s2 with
          | nx s3 => simp only [hb1] at w1; exact fun y3 H3 σ3 e3 S3 => ⟨y3, s3, e12.trans e3, S3, w1⟩
          | ct s3 => simp only [hb1] at w1; exact fun y3 H3 σ3 e3 S3 => ⟨y3, s3, e12.trans e3, S3, w1⟩
          | bk s3 => simp only [hb1] at w1; exact fun y3 H3 σ3 e3 S3 => w1 y3 H3 σ3 (e12.trans e3) S3
          | rt d fr s3 => simp only [hb1] at w1; exact fun y3 H3 σ3 v e3 S3 hv => w1 y3 H3 σ3 v (e12.trans e3) S3 (hv.lower e12.kt)
          | er x s3 => simp only [hb1] at w1; exact fun y3 H3 σ3 cls dd e3 S3 z => w1 y3 H3 σ3 cls dd (e12.trans e3) S3 z
          | sk => simp only [hb1] at w1; exact w1.elim
      | er x s2 => rw [hc1] at w1; exact fun y2 H2 cls dd e2 S2 z => w1 y2 H2 σ1 cls dd (e1.trans e2.any) S2 z
      | sk => rw [hc1] at w1; exact w1.elim
end
end Pyl
set_option Elab.async false
set_option linter.all false
set_option maxRecDepth 100000
set_option maxHeartbeats 2000000
/-! SndPar: several stores at once. -/
namespace Pyl
open PySem PySem.Spec PyProof.Rows L2
section
variable {U : Uni} {W : WX} {Γ : Env} {X : Cx} {σ : L2.St} {H H' H0 : Hp} {y y' : Ly} {s : St} {q : Bool} {D : Ends}
/-- values in a row, each frozen or just made -/
def VRs (U : Uni) (y : Ly) (H : Hp) : List (Pyl.D × Bool) → List V → Prop
  | [], vs => vs = []
  | p :: ps, vs => ∃ v r, vs = v :: r ∧ VN U y H p v ∧ VRs U y H ps r ∧ (p.2 = true → ∀ (j : Nat) (q : Pyl.D × Bool) (w : V), ps[j]? = some q → q.2 = true → r[j]? = some w → w ≠ v)
def Frs (H : Hp) (ps : List (Pyl.D × Bool)) (vs : List V) : Prop := ∀ (j : Nat) (q : Pyl.D × Bool) (a : Addr), ps[j]? = some q → q.2 = true → vs[j]? = some (V.ref a) → H a = none
theorem VRs.length : ∀ {ps : List (Pyl.D × Bool)} {vs : List V}, VRs U y H ps vs → vs.length = ps.length
  | [], vs, h => by cases h; rfl
  | p :: ps, vs, ⟨v, r, e, _, h, _⟩ => by subst e; simp [VRs.length h]
theorem VRs.at : ∀ {ps : List (Pyl.D × Bool)} {vs : List V} {j : Nat} {q : Pyl.D × Bool} {w : V}, VRs U y H ps vs → ps[j]? = some q → vs[j]? = some w → VN U y H q w
  | [], vs, j, q, w, h, e, _ => by simp at e
  | p :: ps, vs, 0, q, w, ⟨v, r, e0, h1, _, _⟩, e, e' => by
    subst e0
    simp at e e'
    subst e; subst e'
    exact h1
  | p :: ps, vs, j + 1, q, w, ⟨v, r, e0, _, h, _⟩, e, e' => by
    subst e0
    exact VRs.at h (by simpa using e) (by simpa using e')
theorem VN.keep {p : Pyl.D × Bool} {v : V} (h : VN U y H p v) (tr : Tr y H y' H') (k : ∀ a, p.2 = true → v = .ref a → y.own a = some .nw → y'.own a = some .nw ∧ H' a = H a) : VN U y' H' p v := by
  obtain ⟨d, fr⟩ := p
  cases fr with
  | false => exact VR.fz (Rep.tr tr _ _ h.of_fz)
  | true =>
    obtain ⟨a, rfl, h0, w, c⟩ := h.to_new
    obtain ⟨w', e2⟩ := k a rfl rfl w
    exact VR.of_new h0 w' ((c.tr tr).imp fun u hu => e2.trans hu)
theorem VRs.keep (tr : Tr y H y' H') : ∀ {ps : List (Pyl.D × Bool)} {vs : List V}, VRs U y H ps vs → (∀ (j : Nat) (q : Pyl.D × Bool) (a : Addr), ps[j]? = some q → q.2 = true → vs[j]? = some (V.ref a) → y.own a = some .nw → y'.own a = some .nw ∧ H' a = H a) → VRs U y' H' ps vs
  | [], vs, h, _ => h
  | p :: ps, vs, ⟨v, r, e, h1, h2, h3⟩, k => by
    subst e
    refine ⟨v, r, rfl, h1.keep tr fun a z z2 w => k 0 p a rfl z (by rw [z2]; rfl) w, VRs.keep tr h2 fun j q a z1 z2 z3 w => k (j + 1) q a (by simpa using z1) z2 (by simpa using z3) w, h3⟩
theorem VRs.ext {q : Bool} {ps : List (Pyl.D × Bool)} {vs : List V} (h : VRs U y H ps vs) (e : Ext q y H y' H') : VRs U y' H' ps vs := h.keep e.tr fun j q a _ _ _ w => e.ex a .nw True.intro w
def rdAf (U : Uni) (W : WX) (Γ : Env) (es : Exs) : TA := fun σ H Q => ∃ y s, StR U y σ H s ∧ wp U W (qEs es) y H σ (rEf Γ es s) (fun ps _ y' H' => ∀ vs, VRs U y' H' ps vs → Frs H ps vs → Q vs H')
theorem snd_f0 : PA X [] (rdAf U W Γ .nil) := PA.imp pa_nil fun σ H Q ⟨y, s, S, w⟩ => by
  simp only [rEf] at w
  exact w.ok S [] rfl fun j q a e => by simp at e
theorem snd_fc {e : Expr} {es : List Expr} {ie : Ex} {ies : Exs} (h : PE X e (rdE U W Γ ie)) (hr : PA X es (rdAf U W Γ ies)) (hs : starEach (e :: es) X.env = (false, eval e X.env) :: starEach es X.env := by rfl) : PA X (e :: es) (rdAf U W Γ (.cons ie ies)) :=
  PA.imp (pa_cons h hr hs) fun σ H Q ⟨y, s, S, w⟩ => by
    simp only [rEf, qEs] at w
    refine rdE.seq S w and_l fun p s1 y1 H1 _ e1 S1 w1 v hv => ?_
    refine ⟨y1, s1, S1, ?_⟩
    have w1 := w1.base (q2 := qEs ies) e1 fun z => ⟨and_l z, and_r z⟩
    cases hr : rEf Γ ies s1 with
    | ok ps s2 =>
      rw [hr] at w1
      intro y2 H2 e2 S2 vs h1 h2
      have hv2 := VR.ext hv e2
      refine w1.at e2 S2 (v :: vs) ⟨v, vs, rfl, hv2.vn, h1, fun hp j q w z1 z2 z3 z4 => ?_⟩ fun j q a z1 z2 z3 => ?_
      · subst z4
        obtain ⟨d, fr⟩ := p
        cases hp
        obtain ⟨a, rfl, _, w', _⟩ := hv.to_new
        exact S1.trk a _ w' (h2 j q a z1 z2 z3)
      · cases j with
        | zero =>
          simp at z1 z3
          subst z1
          exact hv.fresh a z2 z3
        | succ j =>
          have := h2 j q a (by simpa using z1) z2 (by simpa using z3)
          cases hz : H a with
          | none => rfl
          | some o => exact absurd this (e1.kt a (by rw [hz]; intro z; cases z))
    | er x s2 => rw [hr] at w1; exact w1
    | sk => rw [hr] at w1; exact w1
/-- what the values of a row give away -/
def NWs (ps : List (Pyl.D × Bool)) (vs : List V) : Addr → Prop := fun a => ∃ (j : Nat) (q : Pyl.D × Bool), ps[j]? = some q ∧ q.2 = true ∧ vs[j]? = some (V.ref a)
def rdGf (U : Uni) (W : WX) (Γ : Env) (ts : Tgs) : TGs := fun vs σ H Q => ∃ y s ps, StR U y σ H s ∧ VRs U y H ps vs ∧ wpT U W (NWs ps vs) y H (rTf Γ ts ps s) Q
theorem wpT.bindN {N N' : Addr → Prop} {α : Unit → St → R Unit} {r : R Unit} {Q : L2.St → Hp → Prop} (h : wpT U W N y H (r.bind α) Q) (hn : ∀ a, N' a → N a) : wpT U W N' y H r (fun σ' H' => ∃ s' y', r = .ok () s' ∧ ExtN N' y H y' H' ∧ StR U y' σ' H' s' ∧ wpT U W N y H (α () s') Q) := by
  cases r with
  | ok a s' => exact fun y' H' σ' e S => ⟨s', y', rfl, e, S, h⟩
  | er x s' => exact fun y' H' σ' cls dd e S z => h y' H' σ' cls dd (e.more hn) S z
  | sk => exact h
theorem NWs.cons {p : Pyl.D × Bool} {v : V} {ps : List (Pyl.D × Bool)} {vs : List V} : (∀ a, NW p.2 v a → NWs (p :: ps) (v :: vs) a) ∧ ∀ a, NWs ps vs a → NWs (p :: ps) (v :: vs) a :=
  ⟨fun a ⟨h1, h2⟩ => ⟨0, p, rfl, h1, by rw [h2]; rfl⟩, fun a ⟨j, q, h1, h2, h3⟩ => ⟨j + 1, q, by simpa using h1, h2, by simpa using h3⟩⟩
/-- the rest of a row behind one store -/
theorem VRs.rest {p : Pyl.D × Bool} {v : V} {ps : List (Pyl.D × Bool)} {vs : List V} (h : VRs U y H (p :: ps) (v :: vs)) (e : ExtN (NW p.2 v) y H y' H') : VN U y H p v ∧ VRs U y' H' ps vs := by
  obtain ⟨v', r, e0, h1, h2, h3⟩ := h
  cases e0
  refine ⟨h1, h2.keep e.tr fun j q a z1 z2 z3 w => e.ex a .nw True.intro (fun n => ?_) w⟩
  exact h3 n.1 j q _ z1 z2 z3 n.2.symm
theorem snd_gf0 : PGs X [] (rdGf U W Γ .nil) := PGs.imp pgs_nil fun vs σ H Q ⟨y, s, ps, S, r, w⟩ => by
  cases ps with
  | nil =>
    simp only [rTf] at w
    exact ⟨r, w y H σ (Ext.refl true y H).n S⟩
  | cons d ds => simp only [rTf] at w; exact w.elim
theorem snd_gfc {e : Expr} {es : List Expr} {t : Tg} {ts : Tgs} (h : PG X e (rdG U W Γ t)) (hr : PGs X es (rdGf U W Γ ts)) (hs : (assignEach (e :: es) X.env).map (·.2) = assign e X.env :: (assignEach es X.env).map (·.2) := by rfl) : PGs X (e :: es) (rdGf U W Γ (.cons t ts)) :=
  PGs.imp (pgs_cons h hr hs) fun vs σ H Q ⟨y, s, ps, S, r, w⟩ => by
    cases ps with
    | nil => simp only [rTf] at w; exact w.elim
    | cons p ps =>
      simp only [rTf] at w
      obtain ⟨v, vs', rfl, r1, r2, r3⟩ := id r
      refine ⟨v, vs', rfl, y, s, p.1, p.2, S, r1, ?_⟩
      have w2 := w.bindN (N' := NW p.2 v) (NWs.cons (ps := ps) (vs := vs')).1
      cases hr : rT Γ t p.1 p.2 s with
      | ok a s' =>
        rw [hr] at w2
        intro y' H' σ' e S'
        obtain ⟨s2, y2, e2, ex, S2, w3⟩ := w2 y' H' σ' e S'
        cases e2
        exact ⟨y', _, ps, S', (r.rest e).2, w3.base (e.more (NWs.cons (ps := ps) (vs := vs')).1) (NWs.cons (p := p) (v := v)).2⟩
      | er x s' => rw [hr] at w2; exact w2
      | sk => rw [hr] at w2; exact w2
theorem rEf_len : ∀ {es : Exs} {s s' : St} {ps : List (Pyl.D × Bool)}, rEf Γ es s = .ok ps s' → ps.length = es.len
  | .nil, s, s', ds, h => by simp only [rEf] at h; cases h; rfl
  | .cons e es, s, s', ds, h => by
    simp only [rEf] at h
    cases he : rE Γ e s with
    | ok p t =>
      rw [he, R.bind_ok] at h
      cases hr : rEf Γ es t with
      | ok r t' =>
        rw [hr, R.bind_ok] at h
        cases h
        simp [Exs.len, rEf_len hr]
      | er x t' => rw [hr] at h; cases h
      | sk => rw [hr] at h; cases h
    | er x t => rw [he] at h; cases h
    | sk => rw [he] at h; cases h
theorem rdAf.seqS {es : Exs} {f : List (Pyl.D × Bool) → St → RS} {R' : List V → Hp → Prop} (S : StR U y σ H s) (h : wpS U W y H ((rEf Γ es s).andS f) D)
    (k : ∀ ps s' y' H', rEf Γ es s = .ok ps s' → Ext (qEs es) y H y' H' → StR U y' σ H' s' → wpS U W y H (f ps s') D → ∀ vs, VRs U y' H' ps vs → Frs H ps vs → R' vs H') : rdAf U W Γ es σ H R' := by
  refine ⟨y, s, S, ?_⟩
  cases hr : rEf Γ es s with
  | ok p s' => rw [hr] at h; exact fun y' H' ex S' v hv hf => k p s' y' H' hr ex S' h v hv hf
  | er x s' => rw [hr] at h; exact fun y' H' cls dd ex S' hx => h y' H' σ cls dd ex S' hx
  | sk => rw [hr] at h; exact h
/-- the last part -/
theorem wpS.tgs {N : Addr → Prop} {r : R Unit} {f : Unit → St → RS} {y1 : Ly} {H1 : Hp} {Q : L2.St → Hp → Prop} (h : wpS U W y H (r.andS f) D) (e : Ext q y H y1 H1) (t : Trk y H) (hn : ∀ a, N a → H a = none)
    (k : ∀ s' y' H' σ', Ext false y H y' H' → StR U y' σ' H' s' → wpS U W y H (f () s') D → Q σ' H') : wpT U W N y1 H1 r Q := by
  cases r with
  | ok a s' => exact fun y' H' σ' ex S' => k s' y' H' σ' (ex.close e t hn) S' h
  | er x s' => exact fun y' H' σ' cls dd ex S' hx => h y' H' σ' cls dd (ex.close e t hn) S' hx
  | sk => exact h
/-- a, b, .. = x, y, .. by way of a tuple -/
theorem snd_parT {tgs es : List Expr} {ts : Tgs} {ies : Exs} {k k2 n : Nat} {pt pt2 pos : Pos} (hK : U.K = X.K) (hc : X.calm = true) (he : PA X es (rdAf U W Γ ies)) (hg : PGs X tgs (rdGf U W Γ ts)) (hl : ies.len = n := by rfl) (hl2 : n ≤ LIM := by decide) (hn : (assignEach tgs X.env).length = n := by rfl) (hst : (assignEach tgs X.env).findIdx? (·.1) = none := by rfl)
    (hs : swapsWithSole [.Tuple tgs k pt] (.Tuple es k2 pt2) pos.line X.env = pure false := by rfl) (hw : swappedStores [.Tuple tgs k pt] (.Tuple es k2 pt2) X.env = pure none := by rfl)
    (h1 : (assignEach [.Tuple tgs k pt] X.env).map (·.2) = [assign (.Tuple tgs k pt) X.env] := by rfl) : PS X (.Assign [.Tuple tgs k pt] (.Tuple es k2 pt2) pos) (rdS U W Γ (.par ts ies)) :=
  PS.imp (ps_asg (pe_tup he) (pg_tup hc hg hn hst) hs hw h1) fun D σ H ⟨y, s, S, w⟩ => by
    simp only [rS] at w
    refine rdAf.seqS S w fun ps s1 y1 H1 hr e1 S1 w1 vs hv hf => ⟨by rw [hv.length, rEf_len hr, hl]; exact Nat.le_trans hl2 lim_line, fun p hp => ?_⟩
    have e2 := Ext.new (q := true) (o := .tup vs) S1.trk hp none
    have f2 := Fr1.new (o := .tup vs) S1.trk hp none (.inl rfl)
    exact ⟨p, vs, rfl, .of upd_same, by rw [hv.length, rEf_len hr, hl], y1.set p none, s1, ps, S1.fr f2, hv.ext e2, w1.tgs (Ext.tail (q' := true) e1 e2) S.trk (fun a ⟨j, q, z1, z2, z3⟩ => hf j q a z1 z2 z3) fun s' y' H' σ' ex S' w2 => w2 y' H' σ' ex S'⟩
/-! ### names of the frame, two or three, stored from the right -/
def Tg.nmIx : Tg → Option Nat
  | .nm i | .nb i => some i
  | _ => none
/-- a store into a slot -/
theorem bindT {t : Tg} {i : Nat} {p : Pyl.D × Bool} {v : V} {s' : St} (ht : t.nmIx = some i) (h : rT Γ t p.1 p.2 s = .ok () s') (S : StR U y σ H s) (hv : VN U y H p v) : ∃ y', ExtN (NW p.2 v) y H y' H ∧ StR U y' (σ.set i (some v)) H s' := by
  obtain ⟨d, fr⟩ := p
  cases t with
  | nm j =>
    cases ht
    simp only [rT] at h
    split at h
    · cases h
    · rename_i n
      cases h
      obtain ⟨y', e, f, r⟩ := hv.thawN S.trk
      exact ⟨y', e, (S.fr f).bindv r (fun d z => n d z)⟩
  | nb j =>
    cases ht
    simp only [rT] at h
    split at h
    · cases h
    · rename_i n
      cases h
      obtain ⟨a, rfl, h0, ha, c⟩ := hv.to_new
      have f := Fr.reown (w := some (.sl i)) ha (fun v z => by cases z; rintro (⟨_, z⟩ | ⟨_, _, z⟩) <;> cases z) S.trk
      have n' : ∀ e, gt s.sl i ≠ .lk e := fun e z => n e z
      refine ⟨y.set a (some (.sl i)), ⟨f.tr, fun b w o nb e => ?_, fun a h => h⟩, S.chgS f (fun w hw => .inl hw) (fun _ => ⟨a, rfl, Ly.set_same _ _ _, c.tr f.tr⟩) (fun b hb => ?_) (.inr fun e z => by cases z)⟩
      · have hb : b ≠ a := fun z => by subst z; exact nb ⟨rfl, rfl⟩
        rw [Ly.set_ne _ _ hb]; exact ⟨e, rfl⟩
      · by_cases hb' : b = a
        · rw [hb', Ly.set_same] at hb; cases hb
        · rw [Ly.set_ne _ _ hb'] at hb; exact absurd hb (S.nolks n' b)
    · cases h
  | _ => cases ht
theorem rT_nm {t : Tg} {i : Nat} {p : Pyl.D × Bool} {x : Xn} {s' : St} (ht : t.nmIx = some i) (h : rT Γ t p.1 p.2 s = .er x s') : False := by
  cases t with
  | nm j => simp only [rT] at h; split at h <;> cases h
  | nb j => simp only [rT] at h; split at h <;> cases h
  | _ => cases ht
theorem snd_par2 {i j : Nat} {x z : Str} {a b : Expr} {t1 t2 : Tg} {ies : Exs} {px py pt : Pos} {kt k2 pt2} {pos : Pos} (hc : X.calm = true) (hN : X.N.Nodup) (hi : X.N[i]? = some x) (hj : X.N[j]? = some z) (hij : i ≠ j) (h1 : t1.nmIx = some i) (h2 : t2.nmIx = some j)
    (hx : X.env.scope.names.lookup x = some .local) (hz : X.env.scope.names.lookup z = some .local) (ha : PA X [a, b] (rdAf U W Γ ies)) (hl : ies.len = 2 := by rfl)
    (hw : swappedStores [.Tuple [.Name x px, .Name z py] kt pt] (.Tuple [a, b] k2 pt2) X.env = pure (some [x, z]))
    (hs : swapsWithSole [.Tuple [.Name x px, .Name z py] kt pt] (.Tuple [a, b] k2 pt2) pos.line X.env = pure false := by rfl) :
    PS X (.Assign [.Tuple [.Name x px, .Name z py] kt pt] (.Tuple [a, b] k2 pt2) pos) (rdS U W Γ (.par (.cons t1 (.cons t2 .nil)) ies)) :=
  PS.imp (ps_par hc hN hi hj hij hx hz ha hw hs) fun D σ H ⟨y, s, S, w⟩ => by
    simp only [rS] at w
    refine rdAf.seqS S w fun ps s1 y1 H1 hr e1 S1 w1 vs hv hf => ?_
    have hlen := rEf_len hr
    rw [hl] at hlen
    match ps, hlen, hv, hf, w1 with
    | [p1, p2], _, hv, hf, w1 =>
      obtain ⟨v1, r1, rfl, _, ⟨v2, r2, rfl, _, r3, _⟩, _⟩ := id hv
      cases r3
      refine ⟨v1, v2, rfl, ?_⟩
      simp only [rTf] at w1
      cases q1 : rT Γ t1 p1.1 p1.2 s1 with
      | er x s' => exact (rT_nm h1 q1).elim
      | sk => rw [q1] at w1; exact w1.elim
      | ok u s2 =>
        rw [q1, R.bind_ok] at w1
        cases q2 : rT Γ t2 p2.1 p2.2 s2 with
        | er x s' => exact (rT_nm h2 q2).elim
        | sk => rw [q2] at w1; exact w1.elim
        | ok u s3 =>
          rw [q2, R.bind_ok] at w1
          obtain ⟨y2, x2, S2⟩ := bindT h1 q1 S1 (hv.at (j := 0) rfl rfl)
          obtain ⟨_, hv2⟩ := hv.rest x2
          obtain ⟨y3, x3, S3⟩ := bindT h2 q2 S2 (hv2.at (j := 0) rfl rfl)
          have c2 := (x2.more (NWs.cons (ps := [p2]) (vs := [v2])).1).trans (x3.more fun a n => (NWs.cons (p := p1) (v := v1)).2 a ((NWs.cons (ps := []) (vs := [])).1 a n))
          exact w1 y3 H1 _ (c2.close e1 S.trk fun a ⟨j, q, z1, z2, z3⟩ => hf j q a z1 z2 z3) S3
theorem ps_par3 {i j k : Nat} {x y z : Str} {a b c : Expr} {ta : TA} {px py pz pt : Pos} {kt k2 pt2} {pos : Pos} (hc : X.calm = true) (hN : X.N.Nodup) (hi : X.N[i]? = some x) (hj : X.N[j]? = some y) (hk : X.N[k]? = some z) (hij : i ≠ j) (hik : i ≠ k) (hjk : j ≠ k)
    (hx : X.env.scope.names.lookup x = some .local) (hy : X.env.scope.names.lookup y = some .local) (hz : X.env.scope.names.lookup z = some .local) (ha : PA X [a, b, c] ta)
    (hw : swappedStores [.Tuple [.Name x px, .Name y py, .Name z pz] kt pt] (.Tuple [a, b, c] k2 pt2) X.env = pure (some [x, y, z]))
    (hs : swapsWithSole [.Tuple [.Name x px, .Name y py, .Name z pz] kt pt] (.Tuple [a, b, c] k2 pt2) pos.line X.env = pure false := by rfl) :
    PS X (.Assign [.Tuple [.Name x px, .Name y py, .Name z pz] kt pt] (.Tuple [a, b, c] k2 pt2) pos) (fun D σ H => ta σ H fun vs H1 => ∃ u v w, vs = [u, v, w] ∧ D.nx (((σ.set i (some u)).set j (some v)).set k (some w)) H1) := by
  refine ⟨fun pins s σ H D I h => ?_⟩
  rw [exec_Assign_arm]
  refine wpAny_bind (wpAny_standAt ?_)
  rw [hs]
  refine wpAny_bind (wpAny_pure ?_)
  rw [if_neg (by decide)]
  refine wpAny_bind (Tuple_ (thn (ha.run _ pins s σ H _ I h) fun us s1 ⟨vs, H1, I1, r1, q1⟩ => ?_))
  obtain ⟨u, v, w, e1, q1⟩ := q1
  subst e1
  obtain ⟨u1, u2, u3, rfl, ru, rv, rw'⟩ : ∃ u1 u2 u3, us = [u1, u2, u3] ∧ RelV u u1 ∧ RelV v u2 ∧ RelV w u3 := by
    cases r1 with
    | cons p q =>
      cases q with
      | cons p' q' =>
        cases q' with
        | cons p'' q'' =>
          cases q''
          exact ⟨_, _, _, rfl, p, p', p''⟩
  refine wpAny_newObj_type ?_ (by show 3 ≤ sizeLine; decide)
  have I2 : L2.Inv X pins σ H1 { s1 with heap := s1.heap.push { cls := .type "tuple", data := .seq [u1, u2, u3].toArray } } := I1.kept (t' := s1.toks) fun b o e => Heap.get?_push_of_some _ e
  rw [hw]
  refine wpAny_bind (wpAny_pure ?_)
  show wpAny (model X.prog X.w) X.A (do rule "assign.swapped-stores"; let items ← unpackItems (.ref s1.heap.objs.size) 3 none; assignInOrder [fun v => bindName X.env z v, fun v => bindName X.env y v, fun v => bindName X.env x v] items.reverse; pure Flow.next) _ _ _
  refine wpAny_bind (wpAny_rule (wpAny_bind (unpackItems_tuple (items := #[u1, u2, u3]) (I.ok.hd hc) (IsTup.new s1.heap _) fun h' hx' => ?_)))
  have I3 := I2.kept (h' := h') (t' := s1.toks) fun b o e => hx' b o (Nat.ne_of_lt (Heap.lt_size e)) e
  show wpAny _ _ (assignInOrder [fun v => bindName X.env z v, fun v => bindName X.env y v, fun v => bindName X.env x v] [u3, u2, u1] >>= fun _ => pure Flow.next) _ _ _
  refine wpAny_bind (assignInOrder_cons (wpAny_bindName (store_ok I3 hN hk (.inl hz) rw' (fun s2 I4 => ?_) (.inr hz))))
  refine assignInOrder_cons (wpAny_bindName (store_ok I4 hN hj (.inl hy) rv (fun s3 I5 => ?_) (.inr hy)))
  refine assignInOrder_cons (wpAny_bindName (store_ok I5 hN hi (.inl hx) ru (fun s4 I6 => assignInOrder_nil (wpAny_pure ?_)) (.inr hx)))
  have e : ((σ.set k (some w)).set j (some v)).set i (some u) = ((σ.set i (some u)).set j (some v)).set k (some w) := by
    rw [List.set_comm _ _ (Ne.symm hij), List.set_comm _ _ (Ne.symm hik), List.set_comm _ _ (Ne.symm hjk)]
  rw [e] at I6
  exact ⟨_, H1, I6, q1⟩
theorem snd_par3 {i j k : Nat} {x z z3 : Str} {a b c : Expr} {t1 t2 t3 : Tg} {ies : Exs} {px py pz pt : Pos} {kt k2 pt2} {pos : Pos} (hc : X.calm = true) (hN : X.N.Nodup) (hi : X.N[i]? = some x) (hj : X.N[j]? = some z) (hk : X.N[k]? = some z3) (hij : i ≠ j) (hik : i ≠ k) (hjk : j ≠ k)
    (h1 : t1.nmIx = some i) (h2 : t2.nmIx = some j) (h3 : t3.nmIx = some k)
    (hx : X.env.scope.names.lookup x = some .local) (hz : X.env.scope.names.lookup z = some .local) (hz3 : X.env.scope.names.lookup z3 = some .local) (ha : PA X [a, b, c] (rdAf U W Γ ies)) (hl : ies.len = 3 := by rfl)
    (hw : swappedStores [.Tuple [.Name x px, .Name z py, .Name z3 pz] kt pt] (.Tuple [a, b, c] k2 pt2) X.env = pure (some [x, z, z3]))
    (hs : swapsWithSole [.Tuple [.Name x px, .Name z py, .Name z3 pz] kt pt] (.Tuple [a, b, c] k2 pt2) pos.line X.env = pure false := by rfl) :
    PS X (.Assign [.Tuple [.Name x px, .Name z py, .Name z3 pz] kt pt] (.Tuple [a, b, c] k2 pt2) pos) (rdS U W Γ (.par (.cons t1 (.cons t2 (.cons t3 .nil))) ies)) :=
  PS.imp (ps_par3 hc hN hi hj hk hij hik hjk hx hz hz3 ha hw hs) fun D σ H ⟨y, s, S, w⟩ => by
    simp only [rS] at w
    refine rdAf.seqS S w fun ps s1 y1 H1 hr e1 S1 w1 vs hv hf => ?_
    have hlen := rEf_len hr
    rw [hl] at hlen
    match ps, hlen, hv, hf, w1 with
    | [p1, p2, p3], _, hv, hf, w1 =>
      obtain ⟨v1, r1, rfl, _, ⟨v2, r2, rfl, _, ⟨v3, r3, rfl, _, r4, _⟩, _⟩, _⟩ := id hv
      cases r4
      refine ⟨v1, v2, v3, rfl, ?_⟩
      simp only [rTf] at w1
      cases q1 : rT Γ t1 p1.1 p1.2 s1 with
      | er x s' => exact (rT_nm h1 q1).elim
      | sk => rw [q1] at w1; exact w1.elim
      | ok u s2 =>
        rw [q1, R.bind_ok] at w1
        cases q2 : rT Γ t2 p2.1 p2.2 s2 with
        | er x s' => exact (rT_nm h2 q2).elim
        | sk => rw [q2] at w1; exact w1.elim
        | ok u s3 =>
          rw [q2, R.bind_ok] at w1
          cases q3 : rT Γ t3 p3.1 p3.2 s3 with
          | er x s' => exact (rT_nm h3 q3).elim
          | sk => rw [q3] at w1; exact w1.elim
          | ok u s4 =>
            rw [q3, R.bind_ok] at w1
            obtain ⟨y2, x2, S2⟩ := bindT h1 q1 S1 (hv.at (j := 0) rfl rfl)
            obtain ⟨_, hv2⟩ := hv.rest x2
            obtain ⟨y3, x3, S3⟩ := bindT h2 q2 S2 (hv2.at (j := 0) rfl rfl)
            obtain ⟨_, hv3⟩ := hv2.rest x3
            obtain ⟨y4, x4, S4⟩ := bindT h3 q3 S3 (hv3.at (j := 0) rfl rfl)
            have n2 : ∀ a, NWs [p2, p3] [v2, v3] a → NWs [p1, p2, p3] [v1, v2, v3] a := (NWs.cons (p := p1) (v := v1)).2
            have n3 : ∀ a, NWs [p3] [v3] a → NWs [p2, p3] [v2, v3] a := (NWs.cons (p := p2) (v := v2)).2
            have c2 := ((x2.more (NWs.cons (ps := [p2, p3]) (vs := [v2, v3])).1).trans (x3.more fun a n => n2 a ((NWs.cons (ps := [p3]) (vs := [v3])).1 a n))).trans (x4.more fun a n => n2 a (n3 a ((NWs.cons (ps := []) (vs := [])).1 a n)))
            exact w1 y4 H1 _ (c2.close e1 S.trk fun a ⟨j, q, z1, z2, z3⟩ => hf j q a z1 z2 z3) S4
end
end Pyl
set_option Elab.async false
set_option linter.all false
set_option maxRecDepth 100000
set_option maxHeartbeats 2000000
/-! SndLock: what a loop walks is locked. -/
namespace Pyl
open PySem PySem.Spec PyProof.Rows L2
section
variable {U : Uni} {W : WX} {Γ : Env} {X : Cx} {σ σ' : L2.St} {H H' H0 H1 H2 : Hp} {y y' : Ly} {s s' : St} {q : Bool} {D : Ends}
theorem Fr.own2 {a : Addr} {o : Ow} {w : Option Ow} (ha : y.own a = some o) (trk : Trk y H) : Fr (fun v => v = o ∨ w = some v) y H (y.set a w) H := by
  refine ⟨thaw_tr ha.symm (by intro z; cases z), fun b v hv e => ⟨?_, rfl⟩, fun b v e => ?_, fun n e => e, fun T t => t, fun b v hv l e => ?_⟩
  · have hb : b ≠ a := fun z => by subst z; rw [ha] at e; cases e; exact hv (.inl rfl)
    rw [Ly.set_ne _ _ hb]; exact e
  · by_cases hb : b = a
    · subst hb; exact trk _ _ ha
    · rw [Ly.set_ne _ _ hb] at e; exact trk b v e
  · by_cases hb : b = a
    · subst hb; rw [Ly.set_same] at e; exact absurd (Or.inr e) hv
    · rw [Ly.set_ne _ _ hb] at e; exact e
inductive Plc : OD → Ow → Ow → Prop
  | sl (i : Nat) : Plc (.sl i) (.sl i) (.lks i)
  | fd (n f : Nat) : Plc (.fd n f) (.fd n f) (.lkf n f)
def OD.sv (s : St) : OD → SV
  | .im _ _ => .em
  | .sl i => gt s.sl i
  | .fd n f => (s.fld n f).getD .em
theorem plc_sv {x : OD} (h : x.sv s ≠ .em) : ∃ o l, Plc x o l := by
  cases x with
  | im d fr => exact absurd rfl h
  | sl i => exact ⟨_, _, .sl i⟩
  | fd n f => exact ⟨_, _, .fd n f⟩
theorem fld_sv {n f : Nat} {sv : SV} (h : OD.sv s (.fd n f) = sv) (ne : sv ≠ .em) : s.fld n f = some sv := by
  simp only [OD.sv] at h
  cases hf : s.fld n f with
  | none => rw [hf] at h; exact absurd h.symm ne
  | some w => rw [hf] at h; exact congrArg some h
/-- what stands at a place -/
theorem at_plc {x : OD} {o l : Ow} {v : V} {sv : SV} (p : Plc x o l) (S : StR U y σ H s) (hv : ODR U H0 y H σ x v) (g : x.sv s = sv) (ne : sv ≠ .em) : SvR U y H o l sv v := by
  cases p with
  | sl i =>
    obtain ⟨w, e1, e2⟩ := S.slot g ne
    have hv : σ[i]? = some (some v) := hv
    rw [hv] at e1; cases e1
    exact e2
  | fd n f =>
    obtain ⟨a, C, dx, vs, k1, k2, k3⟩ := hv
    obtain ⟨c, fs, a', dx', vs', w, m1, m2, m3, m4, m5, m6, m7, m8, m9⟩ := S.fldv (fld_sv g ne)
    rw [k1] at m3; cases m3
    rw [k2] at m5; cases m5
    rw [k3] at m8; cases m8
    exact m9
theorem lock_pl {x : OD} {o l : Ow} {a : Addr} {d : Pyl.D} (p : Plc x o l) (S : StR U y σ H s) (hv : ODR U H0 y H σ x (.ref a)) (g : x.sv s = .bx d) (ha : y.own a = some o) (fr : Fr (fun v => v = o ∨ some l = some v) y H (y.set a (some l)) H1)
    (c : Cont U (y.set a (some l)) H1 (LkC H1 a) d) : StR U (y.set a (some l)) σ H1 (x.lock s).2 ∧ (x.lock s).1 = true := by
  cases p with
  | sl i =>
    have hv : σ[i]? = some (some (.ref a)) := hv
    have g : gt s.sl i = .bx d := g
    have e : OD.lock s (.sl i) = (true, s.put i (.lk d)) := by simp only [OD.lock, g]
    rw [e]
    refine ⟨?_, rfl⟩
    have S' := S.chgS (i := i) (sv := .lk d) (v := .ref a) fr (fun w hw => .inr (by rcases hw with hw | hw; exact .inl hw; cases hw; exact .inr rfl)) (fun _ => ⟨a, rfl, Ly.set_same _ _ _, c⟩) (fun b hb => ?_) (.inl (gt_lt (by rw [g]; intro z; cases z)))
    · rw [set_id hv] at S'; exact S'
    · by_cases hb' : b = a
      · exact ⟨d, rfl, by rw [hb']⟩
      · rw [Ly.set_ne _ _ hb'] at hb; exact absurd hb (S.nolks (by rw [g]; intro e z; cases z) b)
  | fd n f =>
    obtain ⟨b, C, dx, vs, k1, k2, k3⟩ := hv
    have gf := fld_sv g (by intro z; cases z)
    obtain ⟨c0, fs, b', dx', vs', w, m1, m2, m3, m4, m5, m6, m7, m8, m9⟩ := S.fldv gf
    rw [k1] at m3; cases m3
    rw [k2] at m5; cases m5
    have e : OD.lock s (.fd n f) = (true, s.setf n f (.lk d)) := by simp only [OD.lock, gf]
    have es : s.setf n f (.lk d) = { s with sto := s.sto.set n (.ins c0 (fp fs f (.lk d))) } := by unfold St.setf; rw [m1]
    rw [e]
    refine ⟨?_, rfl⟩
    show StR U _ σ H1 (s.setf n f (.lk d))
    rw [es]
    obtain ⟨w1, e1⟩ := fr.own b (.st n) (by rintro (z | z) <;> cases z) m4
    have hsv : SvR U (y.set a (some (.lkf n f))) H1 (.fd n f) (.lkf n f) (.lk d) (.ref a) := ⟨a, rfl, Ly.set_same _ _ _, c⟩
    refine S.chgC (m := n) fr (fun w hw => .inr (.inr ⟨f, by rcases hw with hw | hw; exact .inl hw; cases hw; exact .inr rfl⟩)) (by rw [List.getElem?_eq_some_iff] at m1; exact m1.1)
      ⟨b, k1, w1, dx, vs, e1.trans k2, fp_nd m6, FdsR.chg fr.tr (fun g' p w ne hw hp => fr.own p w (fun z => ?_) hp) hsv m6 k3 m7⟩ fun g' b' hb => ?_
    · rcases z with z | z
      · subst z; rcases hw with hw | hw <;> cases hw; exact ne rfl
      · cases z; rcases hw with hw | hw <;> cases hw; exact ne rfl
    · by_cases hb' : b' = a
      · subst hb'
        rw [Ly.set_same] at hb
        cases hb
        exact ⟨b, _, dx, vs, k1, e1.trans k2, k3, c0, _, d, rfl, fg_fp_same⟩
      · rw [Ly.set_ne _ _ hb'] at hb
        obtain ⟨b2, C2, dx2, vs2, n1, n2, n3, c2, fs2, d2, n4, n5⟩ := S.sto.lkf n g' b' hb
        rw [m1] at n4; cases n4
        rw [k1] at n1; cases n1
        rw [k2] at n2; cases n2
        have ne : g' ≠ f := fun z => by subst z; rw [n5] at m2; cases m2
        exact ⟨b, _, dx, vs, k1, e1.trans k2, n3, c0, _, d2, rfl, by rw [fg_fp_ne ne]; exact n5⟩
theorem unlock_pl {x : OD} {o l : Ow} {a : Addr} (p : Plc x o l) (S : StR U y σ H s) (ha : y.own a = some l) (fr : Fr (fun v => v = l ∨ some o = some v) y H (y.set a (some o)) H1)
    (c : ∀ d, Cont U y H (LkC H a) d → Cont U (y.set a (some o)) H1 (fun u => H1 a = some u) d) : StR U (y.set a (some o)) σ H1 (x.unlock s) := by
  cases p with
  | sl i =>
    obtain ⟨d, g, hv⟩ := S.lks i a ha
    have e : OD.unlock s (.sl i) = s.put i (.bx d) := by simp only [OD.unlock, g]
    rw [e]
    obtain ⟨v, e1, a', e2, e3, e4⟩ := S.slot g (by intro z; cases z)
    rw [hv] at e1; cases e1; cases e2
    have S' := S.chgS (i := i) (sv := .bx d) (v := .ref a) fr (fun w hw => .inr (by rcases hw with hw | hw; exact .inr hw; cases hw; exact .inl rfl)) (fun _ => ⟨a, rfl, Ly.set_same _ _ _, c d e4⟩) (fun b hb => ?_) (.inr fun e z => by cases z)
    · rw [set_id hv] at S'; exact S'
    · by_cases hb' : b = a
      · rw [hb', Ly.set_same] at hb; cases hb
      · rw [Ly.set_ne _ _ hb'] at hb
        obtain ⟨d', _, k⟩ := S.lks i b hb
        rw [hv] at k
        cases k
        exact absurd rfl hb'
  | fd n f =>
    obtain ⟨b, C, dx, vs, k1, k2, k3, c0, fs, d, k4, k5⟩ := S.sto.lkf n f a ha
    have gf : s.fld n f = some (.lk d) := by unfold St.fld; rw [k4]; exact k5
    obtain ⟨c1, fs1, b', dx', vs', w, m1, m2, m3, m4, m5, m6, m7, m8, m9⟩ := S.fldv gf
    rw [k4] at m1; cases m1
    rw [k1] at m3; cases m3
    rw [k2] at m5; cases m5
    rw [k3] at m8; cases m8
    obtain ⟨a', e2, e3, e4⟩ := m9
    cases e2
    have e : OD.unlock s (.fd n f) = s.setf n f (.bx d) := by simp only [OD.unlock, gf]
    have es : s.setf n f (.bx d) = { s with sto := s.sto.set n (.ins c0 (fp fs f (.bx d))) } := by unfold St.setf; rw [k4]
    rw [e, es]
    obtain ⟨w1, e1⟩ := fr.own b (.st n) (by rintro (z | z) <;> cases z) m4
    have hsv : SvR U (y.set a (some (.fd n f))) H1 (.fd n f) (.lkf n f) (.bx d) (.ref a) := ⟨a, rfl, Ly.set_same _ _ _, c d e4⟩
    refine S.chgC (m := n) fr (fun w hw => .inr (.inr ⟨f, by rcases hw with hw | hw; exact .inr hw; cases hw; exact .inl rfl⟩)) (by rw [List.getElem?_eq_some_iff] at k4; exact k4.1)
      ⟨b, k1, w1, dx, vs, e1.trans k2, fp_nd m6, FdsR.chg fr.tr (fun g' p w ne hw hp => fr.own p w (fun z => ?_) hp) hsv m6 k3 m7⟩ fun g' b' hb => ?_
    · rcases z with z | z
      · subst z; rcases hw with hw | hw <;> cases hw; exact ne rfl
      · cases z; rcases hw with hw | hw <;> cases hw; exact ne rfl
    · have hb' : b' ≠ a := fun z => by rw [z, Ly.set_same] at hb; cases hb
      rw [Ly.set_ne _ _ hb'] at hb
      obtain ⟨b2, C2, dx2, vs2, n1, n2, n3, c2, fs2, d2, n4, n5⟩ := S.sto.lkf n g' b' hb
      rw [k4] at n4; cases n4
      rw [k1] at n1; cases n1
      rw [k2] at n2; cases n2
      have ne : g' ≠ f := fun z => by subst z; rw [k3] at n3; cases n3; exact hb' rfl
      exact ⟨b, _, dx, vs, k1, e1.trans k2, n3, c0, _, d2, rfl, by rw [fg_fp_ne ne]; exact n5⟩
/-- from the lock to the unlocking -/
theorem Ext.unl {a : Addr} {o l : Ow} (ho : ¬ Out o) (ha : y.own a = some o) (h1 : ∀ b, b ≠ a → H1 b = H b) (e : Ext false (y.set a (some l)) H1 y' H') (h2 : ∀ b, b ≠ a → H2 b = H' b) (ht : H2 a ≠ none) (h0 : H1 a ≠ none) (nt : ∀ xs, H a ≠ some (.tup xs)) : Ext false y H (y'.set a (some o)) H2 := by
  have nn : ∀ b, y.own b = none → b ≠ a := fun b h z => by rw [z, ha] at h; cases h
  refine ⟨⟨fun n b h => e.tr.A n b h, fun b u h k f => ?_, fun b u h d k => ?_, fun b xs h => by
    have n : b ≠ a := fun z => nt xs (z ▸ h)
    rw [h2 b n]; exact e.tr.tp b xs (by rw [h1 b n]; exact h)⟩, fun b w hw h => ?_, fun b h => ?_, fun z => by cases z⟩
  · have n := nn b h
    obtain ⟨p, q⟩ := e.tr.fx b u (by rw [Ly.set_ne _ _ n]; exact h) (by rw [h1 b n]; exact k) f
    exact ⟨by rw [h2 b n]; exact p, by rw [Ly.set_ne _ _ n]; exact q⟩
  · have n := nn b h
    obtain ⟨p, q⟩ := e.tr.fd b u (by rw [Ly.set_ne _ _ n]; exact h) d (by rw [h1 b n]; exact k)
    refine ⟨?_, by rw [Ly.set_ne _ _ n]; exact q⟩
    unfold Rd; rw [h2 b n]; exact p
  · have n : b ≠ a := fun z => by rw [z, ha] at h; cases h; exact ho hw
    obtain ⟨p, q⟩ := e.ex b w hw (by rw [Ly.set_ne _ _ n]; exact h)
    exact ⟨by rw [Ly.set_ne _ _ n]; exact p, by rw [h2 b n, q, h1 b n]⟩
  · by_cases n : b = a
    · rw [n]; exact ht
    · rw [h2 b n]
      exact e.kt b (by rw [h1 b n]; exact h)
/-- a frozen dict is locked for good -/
theorem lockF_tr {a : Addr} {u : HO} {od : Obj} (hu : IsDct u) (h : H a = some u) : Tr y H y (upd H a (.frz od u)) := by
  refine ⟨fun _ _ e => e, fun b o n e f => ?_, fun b w n d e => ?_, fun b xs e => by rw [upd_ne (fun z => by rw [z, h] at e; cases e; exact hu)]; exact e⟩
  · have hb : b ≠ a := fun z => by subst z; rw [h] at e; cases e; cases u <;> first | exact f.elim | exact hu.elim
    rw [upd_ne hb]; exact ⟨e, n⟩
  · by_cases hb : b = a
    · subst hb
      rw [h] at e; cases e
      exact ⟨.inr ⟨od, upd_same⟩, n⟩
    · exact ⟨.inl (by rw [upd_ne hb]; exact e), n⟩
theorem lockF {a : Addr} {u : HO} {od : Obj} (S : StR U y σ H s) (ho : y.own a = none) (hu : IsDct u) (h : H a = some u) : StR U y σ (upd H a (.frz od u)) s ∧ Ext false y H y (upd H a (.frz od u)) := by
  have tr := lockF_tr (y := y) (od := od) hu h
  have ne : ∀ b w, y.own b = some w → b ≠ a := fun b w e z => by rw [z, ho] at e; cases e
  refine ⟨S.fr ⟨tr, fun b w _ e => ⟨e, by rw [upd_ne (ne b w e)]⟩, fun b w e => by rw [upd_ne (ne b w e)]; exact S.trk b w e, fun n e => e, fun T t => tabs_mut t h (by cases u <;> first | exact True.intro | exact hu.elim), fun _ _ _ _ e => e⟩, tr, fun b w _ e => ⟨e, by rw [upd_ne (ne b w e)]⟩, fun b hb => ?_, fun z => by cases z⟩
  by_cases n : b = a
  · rw [n, upd_same]; intro z; cases z
  · rw [upd_ne n]; exact hb
/-! ### locks by the rules -/
/-- a lock that is never undone -/
theorem ps_lockF {st : Stmt} {t : TS} (h : PS X st t) : PS X st (fun D σ H => ∃ d u, H d = some u ∧ Mut (some u) ∧ ∀ od, t D σ (upd H d (.frz od u))) := by
  refine ⟨fun pins s σ H D I w => ?_⟩
  obtain ⟨d, u, e, m, w⟩ := w
  obtain ⟨od, I'⟩ := I.lock e m
  exact h.run pins s σ _ D I' (w od)
theorem pe_lockF {ex : Expr} {t : TE} (h : PE X ex t) : PE X ex (fun σ H Q => ∃ d u, H d = some u ∧ Mut (some u) ∧ ∀ od, t σ (upd H d (.frz od u)) Q) := by
  refine ⟨fun pins s σ H Q I w => ?_⟩
  obtain ⟨d, u, e, m, w⟩ := w
  obtain ⟨od, I'⟩ := I.lock e m
  exact h.run pins s σ _ Q I' (w od)
/-- an exception's wish, once a lock is undone -/
def WU (H0 : Hp) (W : WX) : WX := fun cls dd σ H' => ∃ d od u, H' d = some (.frz od u) ∧ (∀ o' u', H0 d ≠ some (.frz o' u')) ∧ W cls dd σ (upd H' d u)
theorem Takes.unlock (tk : Takes X W) : Takes X (WU X.H_0 W) := fun u s' ⟨a, B, sI, pins, σ, H, cls, dd, e1, I, e2, e3, e4, e5, e6, e7, d, od, w, h1, h2, h3⟩ => by
  refine tk u s' ⟨a, B, sI, pins, σ, upd H d w, cls, dd, e1, I.unlock h1 h2, e2, e3, e4, ?_, e6, e7, h3⟩
  by_cases hd : a = d
  · subst hd; rw [h1] at e5; cases e5
  · rw [upd_ne hd]; exact e5
theorem Blind.unlock {H0 : Hp} (h : Blind W) : Blind (WU H0 W) := fun c d σ σ' H ⟨a, od, u, h1, h2, h3⟩ => ⟨a, od, u, h1, h2, h _ _ _ _ _ h3⟩
/-- as ps_lock, with what is known of the entry -/
theorem ps_lockX {st : Stmt} {t : TS} (h : PS X st t) : PS X st (fun D σ H => ∃ d u, H d = some u ∧ Mut (some u) ∧ ∀ od, (∀ o' u', X.H_0 d ≠ some (.frz o' u')) → t ⟨fun σ' H' => H' d = some (.frz od u) ∧ D.nx σ' (upd H' d u), fun v H' => H' d = some (.frz od u) ∧ D.rt v (upd H' d u), fun σ' H' => H' d = some (.frz od u) ∧ D.bk σ' (upd H' d u), fun σ' H' => H' d = some (.frz od u) ∧ D.ct σ' (upd H' d u)⟩ σ (upd H d (.frz od u))) := by
  refine ⟨fun pins s σ H D I w => ?_⟩
  obtain ⟨d, u, e, m, w⟩ := w
  have hn := I.nofrz e m
  refine (ps_lock h).run pins s σ H D I ⟨d, u, e, m, fun od => w od hn⟩
end
end Pyl
set_option Elab.async false
set_option linter.all false
set_option maxRecDepth 100000
set_option maxHeartbeats 2000000
/-! SndFor: for loops. -/
namespace Pyl
open PySem PySem.Spec PyProof.Rows L2
section
variable {U : Uni} {W : WX} {Γ : Env} {X : Cx} {σ σ' : L2.St} {H H' H0 H1 H2 : Hp} {y y' y1 y2 : Ly} {s s' s1 s2 : St} {q : Bool} {D : Ends} {ds : List Pyl.D}
/-- an iterator that yields ds whatever goes on -/
def Walk (U : Uni) (J : L2.It) (y : Ly) (H : Hp) (ds : List Pyl.D) : Prop := ∀ y' H', Ext false y H y' H' → Trk y' H' → ∀ i,
  (∀ d, ds[i]? = some d → J.go i H' ∧ ∀ x H'', J.yld i H' x H'' → ∃ y'', Ext true y' H' y'' H'' ∧ Fr1 y' H' y'' H'' ∧ Rep U y'' H'' d x) ∧ (ds.length ≤ i → J.stop i H')
theorem for_go {J : L2.It} {t : Tg} {b : Sms} (S : StR U y σ H s) (wk : Walk U J y H ds) (w : wpS U W y H (forL (fun x s => (rT Γ t x false s).andS fun _ s => rSs Γ b s) ds s) { D with bk := D.nx }) :
    ∃ W' : Nat → Nat → L2.St → Hp → Prop, (∃ m, W' 0 m σ H) ∧ ∀ i m σ H, W' i m σ H →
      (J.stop i H ∧ D.nx σ H) ∨ (J.go i H ∧ ∃ N : L2.St → Hp → Prop, (∀ σ' H', N σ' H' → ∃ m', m' < m ∧ W' (i + 1) m' σ' H') ∧ ∀ x H', J.yld i H x H' → rdG U W Γ t x σ H' fun σ2 H2 => rdSs U W Γ b { D with nx := N, ct := N, bk := D.nx } σ2 H2) := by
  let f : Pyl.D → St → RS := fun x s => (rT Γ t x false s).andS fun _ s => rSs Γ b s
  refine ⟨fun i m σ' H' => m = ds.length - i ∧ ∃ y' s', Ext false y H y' H' ∧ StR U y' σ' H' s' ∧ wpS U W y H (forL f (ds.drop i) s') { D with bk := D.nx }, ⟨ds.length, rfl, y, s, Ext.refl _ _ _, S, w⟩, ?_⟩
  rintro i m σ1 H1 ⟨rfl, y1, s1, e1, S1, w1⟩
  obtain ⟨k1, k2⟩ := wk y1 H1 e1 S1.trk i
  by_cases hi : ds.length ≤ i
  · rw [List.drop_eq_nil_of_le hi] at w1
    exact .inl ⟨k2 hi, w1 y1 H1 σ1 e1 S1⟩
  · have hi' : i < ds.length := by omega
    have hd : ds[i]? = some ds[i] := List.getElem?_eq_getElem hi'
    obtain ⟨g1, g2⟩ := k1 _ hd
    rw [List.drop_eq_getElem_cons hi'] at w1
    have w1 : wpS U W y H (match f ds[i] s1 with
      | .nx s' => forL f (ds.drop (i + 1)) s'
      | .ct s' => forL f (ds.drop (i + 1)) s'
      | .bk s' => .bk s'
      | .rt d fr s' => .rt d fr s'
      | .er x s' => .er x s'
      | .sk => .sk) { D with bk := D.nx } := w1
    refine .inr ⟨g1, fun σ' H' => ∃ y' s', Ext false y H y' H' ∧ StR U y' σ' H' s' ∧ wpS U W y H (forL f (ds.drop (i + 1)) s') { D with bk := D.nx }, fun σ' H' h => ⟨ds.length - (i + 1), by omega, rfl, h⟩, fun x H2 hy => ?_⟩
    obtain ⟨y2, e2, f2, r2⟩ := g2 x H2 hy
    have e12 := e1.trans e2.any
    refine ⟨y2, s1, ds[i], false, S1.fr f2, VR.fz r2, ?_⟩
    cases hr : rT Γ t ds[i] false s1 with
    | sk => simp only [f, hr, R.andS_sk] at w1; exact w1.elim
    | er z s3 =>
      simp only [f, hr, R.andS_er] at w1
      exact fun y3 H3 σ3 cls dd e3 S3 hz => w1 y3 H3 σ3 cls dd (e3.close e12 S.trk fun a z => by cases z.1) S3 hz
    | ok u s3 =>
      simp only [f, hr, R.andS_ok] at w1
      intro y3 H3 σ3 e3 S3
      have e13 := e3.close e12 S.trk fun a z => by cases z.1
      refine ⟨y3, s3, S3, ?_⟩
      cases hb : rSs Γ b s3 with
      | nx s4 => simp only [hb] at w1; exact fun y4 H4 σ4 e4 S4 => ⟨y4, s4, e13.trans e4, S4, w1⟩
      | ct s4 => simp only [hb] at w1; exact fun y4 H4 σ4 e4 S4 => ⟨y4, s4, e13.trans e4, S4, w1⟩
      | bk s4 => simp only [hb] at w1; exact fun y4 H4 σ4 e4 S4 => w1 y4 H4 σ4 (e13.trans e4) S4
      | rt d fr s4 => simp only [hb] at w1; exact fun y4 H4 σ4 v e4 S4 hv => w1 y4 H4 σ4 v (e13.trans e4) S4 (hv.lower e13.kt)
      | er z s4 => simp only [hb] at w1; exact fun y4 H4 σ4 cls dd e4 S4 hz => w1 y4 H4 σ4 cls dd (e13.trans e4) S4 hz
      | sk => simp only [hb] at w1; exact w1.elim
/-- behind the loop: what was locked is free again -/
abbrev Unl (U : Uni) (y1 : Ly) (H1 : Hp) (y2 : Ly) (H2 : Hp) (g : St → St) : Prop := ∀ y' H' σ' s', Ext false y2 H2 y' H' → StR U y' σ' H' s' → ∃ y3, Ext false y1 H1 y3 H' ∧ StR U y3 σ' H' (g s') ∧ ∀ p v, VR U H2 y' H' p v → VR U H1 y3 H' p v
theorem Unl.id : Unl U y H y H (fun s => s) := fun y' H' σ' s' e S => ⟨y', e, S, fun p v h => h⟩
theorem Unl.comp {y3 : Ly} {H3 : Hp} {g g' : St → St} (a : Unl U y1 H1 y2 H2 g) (b : Unl U y2 H2 y3 H3 g') : Unl U y1 H1 y3 H3 (fun s => g (g' s)) := fun y' H' σ' s' e S => by
  obtain ⟨y4, e4, S4, k4⟩ := b y' H' σ' s' e S
  obtain ⟨y5, e5, S5, k5⟩ := a y4 H' σ' (g' s') e4 S4
  exact ⟨y5, e5, S5, fun p v h => k5 p v (k4 p v h)⟩
theorem fr_unl {r : RS} {g : St → St} (hu : Unl U y1 H1 y2 H2 g) (w : wpS U W y1 H1 (match r.post g with
    | .nx s => rSs Γ .nil s
    | .bk s => .nx s
    | r => r) D) : wpS U W y2 H2 r { D with bk := D.nx } := by
  cases r with
  | nx s' =>
    simp only [RS.post, rSs] at w
    intro y' H' σ' e S
    obtain ⟨y3, e3, S3, _⟩ := hu y' H' σ' s' e S
    exact w y3 H' σ' e3 S3
  | bk s' =>
    intro y' H' σ' e S
    obtain ⟨y3, e3, S3, _⟩ := hu y' H' σ' s' e S
    exact w y3 H' σ' e3 S3
  | ct s' =>
    intro y' H' σ' e S
    obtain ⟨y3, e3, S3, _⟩ := hu y' H' σ' s' e S
    exact w y3 H' σ' e3 S3
  | rt d fr s' =>
    intro y' H' σ' v e S hv
    obtain ⟨y3, e3, S3, k⟩ := hu y' H' σ' s' e S
    exact w y3 H' σ' v e3 S3 (k _ _ hv)
  | er x s' =>
    intro y' H' σ' cls dd e S hx
    obtain ⟨y3, e3, S3, _⟩ := hu y' H' σ' s' e S
    exact w y3 H' σ' cls dd e3 S3 hx
  | sk => exact w
/-! ### what is walked stays -/
theorem walk_list {K : PySem.W.Frag} {a : Addr} {xs : List V} (hr : Reps U y H ds xs) (h : ∀ y' H', Ext false y H y' H' → SqL K H' a xs) (inj : ∀ {H' : Hp} {ys : List V}, SqL K H' a xs → SqL K H' a ys → ys = xs := by intros; assumption) : True := True.intro
theorem sqL_at {K : PySem.W.Frag} {a : Addr} {xs : List V} {i : Nat} {x : V} (h : SqL K H a xs) (k : ∀ ys, SqL K H a ys → ys[i]? = some x) : xs[i]? = some x := k xs h
theorem walk_l {K : PySem.W.Frag} {a : Addr} {xs : List V} (hr : Reps U y H ds xs) (h : ∀ y' H', Ext false y H y' H' → SqL K H' a xs) : Walk U (Itl K a) y H ds := by
  intro y' H' e t i
  have hs := h y' H' e
  refine ⟨fun d hd => ?_, fun hi => ⟨xs, hs, by rw [hr.length]; exact hi⟩⟩
  obtain ⟨x, hx, rx⟩ := hr.get hd
  refine ⟨⟨xs, x, hs, hx⟩, fun z H'' ⟨e1, e2⟩ => ?_⟩
  subst e1
  have := e2 xs hs
  rw [hx] at this; cases this
  exact ⟨y', Ext.refl _ _ _, Fr.refl t, Rep.tr e.tr _ _ rx⟩
theorem walk_t {K : PySem.W.Frag} {a : Addr} {xs : List V} (hr : Reps U y H ds xs) (h : ∀ y' H', Ext false y H y' H' → SqT K H' a xs) : Walk U (Itt K a) y H ds := by
  intro y' H' e t i
  have hs := h y' H' e
  refine ⟨fun d hd => ?_, fun hi => ⟨xs, hs, by rw [hr.length]; exact hi⟩⟩
  obtain ⟨x, hx, rx⟩ := hr.get hd
  refine ⟨⟨xs, x, hs, hx⟩, fun z H'' ⟨e1, e2⟩ => ?_⟩
  subst e1
  have := e2 xs hs
  rw [hx] at this; cases this
  exact ⟨y', Ext.refl _ _ _, Fr.refl t, Rep.tr e.tr _ _ rx⟩
theorem rangeL_get (a c : Int) : ∀ (n i : Nat), (rangeL a c n)[i]? = if i < n then some (.int (a + i * c)) else none
  | 0, i => by simp [rangeL]
  | n + 1, 0 => by simp [rangeL]
  | n + 1, i + 1 => by
    simp only [rangeL, List.getElem?_cons_succ, rangeL_get (a + c) c n i, Nat.add_lt_add_iff_right]
    split
    · congr 2
      push_cast
      rw [Int.add_mul]; omega
    · rfl
theorem rangeL_len (a c : Int) : ∀ n : Nat, (rangeL a c n).length = n
  | 0 => rfl
  | n + 1 => by simp [rangeL, rangeL_len (a + c) c n]
theorem walk_r {lo : Int} {n : Nat} : Walk U (Itr lo n) y H (rangeL lo 1 n) := by
  intro y' H' e t i
  refine ⟨fun d hd => ?_, fun hi => by rw [rangeL_len] at hi; exact hi⟩
  rw [rangeL_get] at hd
  split at hd
  · rename_i hi
    cases hd
    refine ⟨hi, fun z H'' ⟨e1, e2⟩ => ?_⟩
    subst e1; subst e2
    exact ⟨y', Ext.refl _ _ _, Fr.refl t, Rep.int_.2 (by rw [Int.mul_one])⟩
  · cases hd
theorem walk_rc {lo c : Int} {n : Nat} : Walk U (Itc lo c n) y H (rangeL lo c n) := by
  intro y' H' e t i
  refine ⟨fun d hd => ?_, fun hi => by rw [rangeL_len] at hi; exact hi⟩
  rw [rangeL_get] at hd
  split at hd
  · rename_i hi
    cases hd
    refine ⟨hi, fun z H'' ⟨e1, e2⟩ => ?_⟩
    subst e1; subst e2
    exact ⟨y', Ext.refl _ _ _, Fr.refl t, Rep.int_.2 rfl⟩
  · cases hd
theorem walk_s {x : Str} : Walk U (Its x) y H (x.cps.toList.map fun c => .str ⟨#[c]⟩) := by
  intro y' H' e t i
  refine ⟨fun d hd => ?_, fun hi => by
    have hi : x.cps.size ≤ i := by simpa using hi
    exact hi⟩
  rw [List.getElem?_map] at hd
  cases hc : x.cps.toList[i]? with
  | none => rw [hc] at hd; cases hd
  | some c =>
    rw [hc] at hd; cases hd
    have hi : i < x.cps.size := by
      have := List.getElem?_eq_some_iff.1 hc
      obtain ⟨h, _⟩ := this
      simpa using h
    refine ⟨hi, fun z H'' ⟨e1, c', e2, e3⟩ => ?_⟩
    subst e1; subst e3
    rw [← Array.getElem?_toList, hc] at e2; cases e2
    exact ⟨y', Ext.refl _ _ _, Fr.refl t, Rep.str_.2 rfl⟩
/-! ### an operand that holds a list -/
theorem get_lock (x z : OD) : x.get (z.lock s).2 = x.get s := by
  cases z with
  | im d fr => rfl
  | sl i =>
    simp only [OD.lock]
    split
    · rename_i d g
      cases x with
      | im d fr => rfl
      | sl j =>
        simp only [OD.get, St.put]
        by_cases e : i = j
        · subst e
          rw [gt_pt_same (gt_lt (by rw [g]; intro z; cases z)), g]; rfl
        · rw [gt_pt_ne e]
      | fd n f => rfl
    · rfl
  | fd n f =>
    simp only [OD.lock]
    split
    · rename_i d g
      obtain ⟨c, fs, e, g'⟩ := fld_ins g
      have es : s.setf n f (.lk d) = { s with sto := s.sto.set n (.ins c (fp fs f (.lk d))) } := by unfold St.setf; rw [e]
      rw [es]
      cases x with
      | im d fr => rfl
      | sl j => rfl
      | fd m h =>
        simp only [OD.get, St.fld]
        by_cases en : n = m
        · subst en
          rw [List.getElem?_set_self (by rw [List.getElem?_eq_some_iff] at e; exact e.1), e]
          by_cases eh : h = f
          · subst eh
            simp only [fg_fp_same, g', SV.d?]
          · simp only [fg_fp_ne eh]
        · rw [List.getElem?_set_ne en]
    · rfl
theorem get_sv {x : OD} (h : ∀ d fr, x ≠ .im d fr) : x.get s = (x.sv s).d? := by
  cases x with
  | im d fr => exact absurd rfl (h d fr)
  | sl i => rfl
  | fd n f =>
    simp only [OD.get, OD.sv]
    cases s.fld n f <;> rfl
theorem nolock_sv {x : OD} (h : ∀ d, x.sv s ≠ .bx d) : x.lock s = (false, s) := by
  cases x with
  | im d fr => rfl
  | sl i =>
    simp only [OD.lock]
    split
    · rename_i d g; exact absurd g (h d)
    · rfl
  | fd n f =>
    simp only [OD.lock]
    split
    · rename_i d g
      refine absurd ?_ (h d)
      simp only [OD.sv, g]; rfl
    · rfl
theorem Plc.nout {x : OD} {o l : Ow} (p : Plc x o l) : ¬ Out o := by cases p <;> exact fun z => z
theorem Plc.out {x : OD} {o l : Ow} (p : Plc x o l) : Out l ∧ l ≠ .nw := by cases p <;> exact ⟨True.intro, fun z => by cases z⟩
theorem VR.setown {a : Addr} {l : Ow} {w : Option Ow} {p : Pyl.D × Bool} {v : V} (h : VR U H0 y H p v) (ha : y.own a = some l) (hl : l ≠ .nw) : VR U H0 (y.set a w) H p v := by
  have tr : Tr y H (y.set a w) H := thaw_tr ha.symm (by intro z; cases z)
  obtain ⟨d, fr⟩ := p
  cases fr with
  | false => exact VR.fz (Rep.tr tr _ _ h.of_fz)
  | true =>
    obtain ⟨b, rfl, h0, hb, c⟩ := h.to_new
    have n : b ≠ a := fun z => by rw [z, ha] at hb; cases hb; exact hl rfl
    exact VR.of_new h0 (by rw [Ly.set_ne _ _ n]; exact hb) (c.tr tr)
/-- a list at an operand: as it stands while it is locked -/
def SrcL (U : Uni) (σ : L2.St) (y : Ly) (H : Hp) (s : St) (x : OD) (ds : List Pyl.D) (v : V) : Prop := ∃ a xs y2, v = .ref a ∧ Ext true y H y2 H ∧ StR U y2 σ H (lockAll [x] s).2 ∧ Reps U y2 H ds xs ∧
    (∀ y' H', Ext false y2 H y' H' → H' a = some (.lst xs)) ∧ Unl U y H y2 H (unlockAll (lockAll [x] s).1)
theorem src_list {x : OD} {v : V} (S : StR U y σ H s) (hv : ODR U H0 y H σ x v) (g : x.get s = some (.lst ds)) : SrcL U σ y H s x ds v := by
  have nolock : ∀ (hl : x.lock s = (false, s)) (a : Addr) (xs : List V), v = .ref a → Reps U y H ds xs → (∀ y' H', Ext false y H y' H' → H' a = some (.lst xs)) → SrcL U σ y H s x ds v := fun hl a xs e1 e3 e4 =>
    ⟨a, xs, y, e1, Ext.refl _ _ _, by simp only [lockAll, hl]; exact S, e3, e4, by simp only [lockAll, hl]; exact Unl.id⟩
  have frozen : ∀ (hl : x.lock s = (false, s)), Rep U y H (.lst ds) v → SrcL U σ y H s x ds v := fun hl r => by
    obtain ⟨a, xs, e1, ⟨e2, e3⟩, e4⟩ := Rep.lst_.1 r
    exact nolock hl a xs e1 e4 fun y' H' e => (e.tr.fx a _ e2 e3 True.intro).1
  by_cases him : ∃ d fr, x = .im d fr
  · obtain ⟨d, fr, rfl⟩ := him
    simp only [OD.get] at g
    cases g
    cases fr with
    | false => exact frozen rfl (VR.of_fz hv)
    | true =>
      obtain ⟨a, e1, _, e2, xs, e3, e4⟩ := VR.to_new hv
      exact nolock rfl a xs e1 e4 fun y' H' e => (e.ex a .nw True.intro e2).2.trans e3
  · have him : ∀ d fr, x ≠ .im d fr := fun d fr z => him ⟨d, fr, z⟩
    rw [get_sv him] at g
    have ne : x.sv s ≠ .em := fun z => by rw [z] at g; cases g
    obtain ⟨o, l, p⟩ := plc_sv ne
    have R' := at_plc p S hv rfl ne
    cases hs : x.sv s with
    | em => exact absurd hs ne
    | vl d =>
      rw [hs] at g R'
      cases g
      exact frozen (nolock_sv fun d z => by rw [hs] at z; cases z) R'
    | lk d =>
      rw [hs] at g R'
      cases g
      obtain ⟨a, e1, e2, xs, e3, e4⟩ := R'
      rcases e3 with ⟨e3, _⟩ | ⟨_, _, z⟩
      · exact nolock (nolock_sv fun d z => by rw [hs] at z; cases z) a xs e1 e4 fun y' H' e => (e.ex a l p.out.1 e2).2.trans e3
      · exact z.elim
    | bx d =>
      rw [hs] at g R'
      cases g
      obtain ⟨a, rfl, e2, xs, e3, e4⟩ := R'
      have fr := Fr.own2 (w := some l) e2 S.trk
      obtain ⟨S2, hl⟩ := lock_pl p S hv hs e2 fr ⟨xs, .inl ⟨e3, xs, rfl⟩, e4.tr fr.tr⟩
      have stay : ∀ y' H', Ext false (y.set a (some l)) H y' H' → y'.own a = some l ∧ H' a = some (.lst xs) := fun y' H' e => by
        obtain ⟨k1, k2⟩ := e.ex a l p.out.1 (Ly.set_same _ _ _)
        exact ⟨k1, k2.trans e3⟩
      refine ⟨a, xs, y.set a (some l), rfl, Ext.own e2 p.nout, by simp only [lockAll, hl]; exact S2, e4.tr fr.tr, fun y' H' e => (stay y' H' e).2, ?_⟩
      simp only [lockAll, hl, unlockAll, if_true]
      intro y' H' σ' s' e S'
      obtain ⟨k1, k2⟩ := stay y' H' e
      have fr' := Fr.own2 (w := some o) k1 S'.trk
      refine ⟨y'.set a (some o), Ext.unl p.nout e2 (fun b _ => rfl) e (fun b _ => rfl) (by rw [k2]; intro z; cases z) (by rw [e3]; intro z; cases z) (fun zs z => by rw [e3] at z; cases z), unlock_pl p S' k1 fr' fun d c => ?_, fun q v h => h.setown k1 p.out.2⟩
      cases d with
      | lst ds =>
        obtain ⟨zs, c1, c2⟩ := c
        rcases c1 with ⟨c1, _⟩ | ⟨_, _, z⟩
        · exact ⟨zs, c1, c2.tr fr'.tr⟩
        · exact z.elim
      | dct kvs =>
        obtain ⟨vs, c1, _⟩ := c
        rcases c1 with ⟨kk, c1, _⟩ | ⟨kk, c1, _⟩
        · rcases c1 with ⟨_, _, z⟩ | ⟨_, z, _⟩
          · cases z
          · rw [k2] at z; cases z
        · rcases c1 with ⟨_, _, z⟩ | ⟨_, z, _⟩
          · cases z
          · rw [k2] at z; cases z
      | _ => exact c.elim
end
end Pyl
set_option Elab.async false
set_option linter.all false
set_option maxRecDepth 100000
set_option maxHeartbeats 2000000
/-! SndFor2: dicts that are walked; the for statements. -/
namespace Pyl
open PySem PySem.Spec PyProof.Rows L2
section
variable {U : Uni} {W : WX} {Γ : Env} {X : Cx} {σ σ' : L2.St} {H H' H0 H1 H2 : Hp} {y y' y1 y2 : Ly} {s s' s1 s2 : St} {q : Bool} {D : Ends} {ds : List Pyl.D} {kvs : List (Ky × Pyl.D)}
/-- a dict that is locked, for good or by somebody that runs -/
def LkDct (U : Uni) (y : Ly) (H : Hp) (kvs : List (Ky × Pyl.D)) (v : V) : Prop := ∃ a o, v = .ref a ∧
  ((∃ kk : List (Key × V), (∀ y' H', Ext false y H y' H' → H' a = some (.frz o (.dK kk))) ∧ kvs.map (·.1) = kk.map (fun p => Sum.inl p.1) ∧ Repk U y H kvs (kk.map (·.2))) ∨
   (∃ kk : List (List Key × V), (∀ y' H', Ext false y H y' H' → H' a = some (.frz o (.dT kk))) ∧ kvs.map (·.1) = kk.map (fun p => Sum.inr p.1) ∧ Repk U y H kvs (kk.map (·.2)) ∧ kk ≠ []))
theorem k1_rep (k : K1) : Rep U y H (K1.d k) (kV k) := by
  cases k with
  | inl i => exact Rep.int_.2 rfl
  | inr x => exact Rep.str_.2 rfl
theorem k1s_rep : ∀ ks : List K1, Reps U y H (ks.map K1.d) (ks.map kV)
  | [] => Reps.nil_.2 rfl
  | k :: ks => Reps.cons_.2 ⟨kV k, ks.map kV, rfl, k1_rep k, k1s_rep ks⟩
theorem repk_at {κ : Type} {j : κ → Ky} : ∀ {kvs : List (Ky × Pyl.D)} {kk : List (κ × V)} {i : Nat} {p : Ky × Pyl.D}, kvs.map (·.1) = kk.map (fun p => j p.1) → Repk U y H kvs (kk.map (·.2)) → kvs[i]? = some p → ∃ k v, kk[i]? = some (k, v) ∧ p.1 = j k ∧ Rep U y H p.2 v
  | [], _, i, p, _, _, e => by simp at e
  | _ :: _, [], _, _, h, _, _ => by simp at h
  | (k0, d0) :: kvs, (k1, v1) :: kk, i, p, h, r, e => by
    simp only [List.map_cons, List.cons.injEq] at h
    obtain ⟨rfl, h⟩ := h
    rw [List.map_cons, Repk] at r
    obtain ⟨v', r', e1, r1, r2⟩ := r
    cases e1
    cases i with
    | zero => simp at e; subst e; exact ⟨k1, v1, rfl, rfl, r1⟩
    | succ i => exact repk_at (i := i) h r2 (by simpa using e)
theorem kk_len {κ : Type} {j : κ → Ky} {kk : List (κ × V)} (h : kvs.map (·.1) = kk.map (fun p => j p.1)) : kvs.length = kk.length := by simpa using congrArg List.length h
/-- the keys -/
theorem walk_keys {v : V} (h : LkDct U y H kvs v) : ∃ a o, v = .ref a ∧ ((∃ kk, H a = some (.frz o (.dK kk)) ∧ Walk U (Itk a o kk) y H (kvs.map fun p => Ky.d p.1)) ∨ ∃ kk, H a = some (.frz o (.dT kk)) ∧ Walk U (Itkt a o kk) y H (kvs.map fun p => Ky.d p.1)) := by
  obtain ⟨a, o, e, h⟩ := h
  refine ⟨a, o, e, ?_⟩
  rcases h with ⟨kk, h1, h2, h3⟩ | ⟨kk, h1, h2, h3⟩
  · refine .inl ⟨kk, h1 y H (Ext.refl _ _ _), fun y' H' e t i => ⟨fun d hd => ?_, fun hi => ⟨h1 y' H' e, by rw [List.length_map, kk_len h2] at hi; exact hi⟩⟩⟩
    rw [List.getElem?_map] at hd
    cases hp : kvs[i]? with
    | none => rw [hp] at hd; cases hd
    | some p =>
      rw [hp] at hd; cases hd
      obtain ⟨k, w, e1, e2, r⟩ := repk_at h2 h3 hp
      have hl : i < kk.length := by rw [List.getElem?_eq_some_iff] at e1; exact e1.1
      refine ⟨⟨h1 y' H' e, hl⟩, fun x H'' ⟨z1, k', v', z2, z3⟩ => ?_⟩
      subst z1; subst z3
      rw [e1] at z2; cases z2
      refine ⟨y', Ext.refl _ _ _, Fr.refl t, ?_⟩
      show Rep U y' _ (Ky.d p.1) _
      rw [e2]; exact k1_rep k
  · refine .inr ⟨kk, h1 y H (Ext.refl _ _ _), fun y' H' e t i => ⟨fun d hd => ?_, fun hi => ⟨h1 y' H' e, by rw [List.length_map, kk_len h2] at hi; exact hi⟩⟩⟩
    rw [List.getElem?_map] at hd
    cases hp : kvs[i]? with
    | none => rw [hp] at hd; cases hd
    | some p =>
      rw [hp] at hd; cases hd
      obtain ⟨k, w, e1, e2, r⟩ := repk_at h2 h3.1 hp
      have hl : i < kk.length := by rw [List.getElem?_eq_some_iff] at e1; exact e1.1
      refine ⟨⟨h1 y' H' e, hl⟩, fun x H'' ⟨z1, k', v', q', z2, z3, z4⟩ => ?_⟩
      subst z1; subst z3
      rw [e1] at z2; cases z2
      refine ⟨y', Ext.refl _ _ _, Fr.refl t, ?_⟩
      show Rep U y' _ (Ky.d p.1) _
      rw [e2]
      exact Rep.tup_.2 ⟨q', _, rfl, z4, k1s_rep k⟩
theorem all_left {kk : List (List Key × V)} (h : kvs.map (·.1) = kk.map (fun p => Sum.inr p.1)) (ha : (kvs.all fun p => p.1.isLeft) = true) : kvs = [] ∧ kk = [] := by
  cases kvs with
  | nil => cases kk with
    | nil => exact ⟨rfl, rfl⟩
    | cons c r => simp at h
  | cons b r =>
    obtain ⟨k, d⟩ := b
    cases kk with
    | nil => simp at h
    | cons c r' =>
      simp only [List.map_cons, List.cons.injEq] at h
      obtain ⟨rfl, _⟩ := h
      simp at ha
theorem walk_items {v : V} (h : LkDct U y H kvs v) (hk : ∃ a o kk, v = .ref a ∧ (∀ y' H', Ext false y H y' H' → H' a = some (.frz o (.dK kk))) ∧ kvs.map (·.1) = kk.map (fun p => Sum.inl p.1) ∧ Repk U y H kvs (kk.map (·.2))) :
    ∃ a o kk, v = .ref a ∧ H a = some (.frz o (.dK kk)) ∧ Walk U (Iti a o kk) y H (kvs.map fun p => .tup [Ky.d p.1, p.2]) ∧ Walk U (Itd a o kk) y H (kvs.map (·.2)) := by
  obtain ⟨a, o, kk, e, h1, h2, h3⟩ := hk
  refine ⟨a, o, kk, e, h1 y H (Ext.refl _ _ _), fun y' H' e t i => ⟨fun d hd => ?_, fun hi => ⟨h1 y' H' e, by rw [List.length_map, kk_len h2] at hi; exact hi⟩⟩, fun y' H' e t i => ⟨fun d hd => ?_, fun hi => ⟨h1 y' H' e, by rw [List.length_map, kk_len h2] at hi; exact hi⟩⟩⟩
  · rw [List.getElem?_map] at hd
    cases hp : kvs[i]? with
    | none => rw [hp] at hd; cases hd
    | some p =>
      rw [hp] at hd; cases hd
      obtain ⟨k, w, e1, e2, r⟩ := repk_at h2 h3 hp
      have hl : i < kk.length := by rw [List.getElem?_eq_some_iff] at e1; exact e1.1
      refine ⟨⟨h1 y' H' e, hl⟩, fun x H'' ⟨T, k', v', z2, z3, z4, z5⟩ => ?_⟩
      subst z3; subst z5
      rw [e1] at z2; cases z2
      have ex := Ext.new (q := true) (o := .tup [kV k, w]) t z4 none
      refine ⟨y'.set T none, ex, Fr1.new t z4 none (.inl rfl), Rep.tup_.2 ⟨T, _, rfl, upd_same, ?_⟩⟩
      refine Reps.cons_.2 ⟨_, _, rfl, ?_, Reps.one (Rep.tr ex.tr _ _ (Rep.tr e.tr _ _ r))⟩
      rw [e2]; exact k1_rep k
  · rw [List.getElem?_map] at hd
    cases hp : kvs[i]? with
    | none => rw [hp] at hd; cases hd
    | some p =>
      rw [hp] at hd; cases hd
      obtain ⟨k, w, e1, e2, r⟩ := repk_at h2 h3 hp
      have hl : i < kk.length := by rw [List.getElem?_eq_some_iff] at e1; exact e1.1
      refine ⟨⟨h1 y' H' e, hl⟩, fun x H'' ⟨z1, k', z2⟩ => ?_⟩
      subst z1
      rw [e1] at z2; cases z2
      exact ⟨y', Ext.refl _ _ _, Fr.refl t, Rep.tr e.tr _ _ r⟩
theorem lk_left {v : V} (h : LkDct U y H kvs v) (ha : (kvs.all fun p => p.1.isLeft) = true) : ∃ a o kk, v = .ref a ∧ (∀ y' H', Ext false y H y' H' → H' a = some (.frz o (.dK kk))) ∧ kvs.map (·.1) = kk.map (fun p => Sum.inl p.1) ∧ Repk U y H kvs (kk.map (·.2)) := by
  obtain ⟨a, o, e, h⟩ := h
  rcases h with ⟨kk, h1, h2, h3⟩ | ⟨kk, h1, h2, h3⟩
  · exact ⟨a, o, kk, e, h1, h2, h3⟩
  · exact absurd (all_left h2 ha).2 h3.2
/-! ### a dict at an operand -/
def UnlD (U : Uni) (y : Ly) (H : Hp) (y1 : Ly) (H1 : Hp) (a : Addr) (od : Obj) (u : HO) (g : St → St) : Prop := ∀ y' H' σ' s', Ext false y1 H1 y' H' → StR U y' σ' H' s' → H' a = some (.frz od u) ∧
  ∃ y3, Ext false y H y3 (upd H' a u) ∧ StR U y3 σ' (upd H' a u) (g s') ∧ ∀ p v, VR U H1 y' H' p v → VR U H y3 (upd H' a u) p v
theorem dct_u {a : Addr} {vs : List V} {ks : List Ky} (h : DctC (Rd H a) ks vs) : (∃ o u, H a = some (.frz o u) ∧ IsDct u ∧ DctC (fun w => w = u) ks vs) ∨ ∃ u, H a = some u ∧ IsDct u ∧ DctC (fun w => w = u) ks vs := by
  rcases h with ⟨kk, h1, h2, h3⟩ | ⟨kk, h1, h2, h3⟩
  · rcases h1 with h1 | ⟨o, h1⟩
    · exact .inr ⟨_, h1, True.intro, .inl ⟨kk, rfl, h2, h3⟩⟩
    · exact .inl ⟨o, _, h1, True.intro, .inl ⟨kk, rfl, h2, h3⟩⟩
  · rcases h1 with h1 | ⟨o, h1⟩
    · exact .inr ⟨_, h1, True.intro, .inr ⟨kk, rfl, h2, h3⟩⟩
    · exact .inl ⟨o, _, h1, True.intro, .inr ⟨kk, rfl, h2, h3⟩⟩
theorem lkDct_of {a : Addr} {o : Obj} {u : HO} {vs : List V} (h : DctC (fun w => w = u) (kvs.map (·.1)) vs) (r : Repk U y H kvs vs) (st : ∀ y' H', Ext false y H y' H' → H' a = some (.frz o u)) : LkDct U y H kvs (.ref a) := by
  rcases h with ⟨kk, rfl, h2, rfl⟩ | ⟨kk, rfl, h2, rfl, hne⟩
  · exact ⟨a, o, rfl, .inl ⟨kk, st, h2, r⟩⟩
  · exact ⟨a, o, rfl, .inr ⟨kk, st, h2, r, hne⟩⟩
theorem cnt2_dct {u : HO} (h : IsDct u) : Cnt2 u := by cases u <;> first | exact True.intro | exact h.elim
theorem mut_dct {u : HO} (h : IsDct u) : Mut (some u) := by cases u <;> first | exact True.intro | exact h.elim
theorem src_dict {x : OD} {v : V} (S : StR U y σ H s) (hv : ODR U H0 y H σ x v) (him : ∀ d fr, x ≠ .im d fr) (g : x.get s = some (.dct kvs)) :
    (x.lock s = (false, s) ∧ LkDct U y H kvs v) ∨
    (x.lock s = (false, s) ∧ ∃ a u, v = .ref a ∧ H a = some u ∧ IsDct u ∧ ∀ od, StR U y σ (upd H a (.frz od u)) s ∧ Ext false y H y (upd H a (.frz od u)) ∧ LkDct U y (upd H a (.frz od u)) kvs v) ∨
    ((x.lock s).1 = true ∧ ∃ a u l, v = .ref a ∧ H a = some u ∧ IsDct u ∧ ∀ od, StR U (y.set a (some l)) σ (upd H a (.frz od u)) (x.lock s).2 ∧ LkDct U (y.set a (some l)) (upd H a (.frz od u)) kvs v ∧ UnlD U y H (y.set a (some l)) (upd H a (.frz od u)) a od u x.unlock) := by
  rw [get_sv him] at g
  have ne : x.sv s ≠ .em := fun z => by rw [z] at g; cases g
  obtain ⟨o, l, p⟩ := plc_sv ne
  have R' := at_plc p S hv rfl ne
  cases hs : x.sv s with
  | em => exact absurd hs ne
  | vl d =>
    rw [hs] at g R'
    cases g
    have hl := nolock_sv (s := s) (x := x) fun d z => by rw [hs] at z; cases z
    have R' : Rep U y H (.dct kvs) v := R'
    obtain ⟨a, vs, rfl, e1, e2, e3⟩ := Rep.dct_.1 R'
    rcases dct_u e2 with ⟨od, u, k1, k2, k3⟩ | ⟨u, k1, k2, k3⟩
    · exact .inl ⟨hl, lkDct_of k3 e3 fun y' H' e => (e.tr.fx a _ e1 k1 True.intro).1⟩
    · refine .inr (.inl ⟨hl, a, u, rfl, k1, k2, fun od => ?_⟩)
      obtain ⟨S2, x2⟩ := lockF (od := od) S e1 k2 k1
      exact ⟨S2, x2, lkDct_of k3 (e3.tr x2.tr) fun y' H' e => (e.tr.fx a _ e1 upd_same True.intro).1⟩
  | lk d =>
    rw [hs] at g R'
    cases g
    have hl := nolock_sv (s := s) (x := x) fun d z => by rw [hs] at z; cases z
    obtain ⟨a, rfl, e1, vs, e2, e3⟩ := R'
    have k : ∃ od u, H a = some (.frz od u) ∧ DctC (fun w => w = u) (kvs.map (·.1)) vs := by
      rcases e2 with ⟨kk, h1, h2, h3⟩ | ⟨kk, h1, h2, h3⟩
      · rcases h1 with ⟨_, _, z⟩ | ⟨od, h1, _⟩
        · cases z
        · exact ⟨od, _, h1, .inl ⟨kk, rfl, h2, h3⟩⟩
      · rcases h1 with ⟨_, _, z⟩ | ⟨od, h1, _⟩
        · cases z
        · exact ⟨od, _, h1, .inr ⟨kk, rfl, h2, h3⟩⟩
    obtain ⟨od, u, k1, k2⟩ := k
    exact .inl ⟨hl, lkDct_of k2 e3 fun y' H' e => (e.ex a l p.out.1 e1).2.trans k1⟩
  | bx d =>
    rw [hs] at g R'
    cases g
    obtain ⟨a, rfl, e1, vs, e2, e3⟩ := R'
    have k : ∃ u, H a = some u ∧ IsDct u ∧ DctC (fun w => w = u) (kvs.map (·.1)) vs := by
      rcases e2 with ⟨kk, h1, h2, h3⟩ | ⟨kk, h1, h2, h3⟩
      · exact ⟨_, h1, True.intro, .inl ⟨kk, rfl, h2, h3⟩⟩
      · exact ⟨_, h1, True.intro, .inr ⟨kk, rfl, h2, h3⟩⟩
    obtain ⟨u, k1, k2, k3⟩ := k
    have lockit := fun od => Fr.mut (w := some l) (u := .frz od u) e1 k1 (cnt2_dct k2) S.trk
    have lp := fun od => lock_pl p S hv hs e1 (lockit od) ⟨vs, k3.imp fun w hw => by rw [hw]; exact .inr ⟨od, upd_same, k2⟩, e3.tr (lockit od).tr⟩
    refine .inr (.inr ⟨(lp { cls := .none, data := .fields #[] }).2, a, u, l, rfl, k1, k2, fun od => ⟨(lp od).1, lkDct_of k3 (e3.tr (lockit od).tr) fun y' H' e => (e.ex a l p.out.1 (Ly.set_same _ _ _)).2.trans upd_same, fun y' H' σ' s' e S' => ?_⟩⟩)
    obtain ⟨m1, m2⟩ := e.ex a l p.out.1 (Ly.set_same _ _ _)
    have m2 := m2.trans upd_same
    have fr' := Fr.mut (w := some o) (u := u) m1 m2 True.intro S'.trk
    refine ⟨m2, y'.set a (some o), Ext.unl p.nout e1 (fun b n => upd_ne n) e (fun b n => upd_ne n) (by rw [upd_same]; intro z; cases z) (by rw [upd_same]; intro z; cases z) (fun xs z => by rw [k1] at z; cases z; exact k2), unlock_pl p S' m1 fr' fun d c => ?_, fun q v h => ?_⟩
    · have conv : ∀ {w : HO}, LkC H' a w → upd H' a u a = some w := fun {w} h => by
        rw [upd_same]
        rcases h with ⟨h, _⟩ | ⟨o', h, _⟩
        · rw [m2] at h; cases h
          rename_i hh
          obtain ⟨xs, z⟩ := hh
          cases z
        · rw [m2] at h; cases h; rfl
      cases d with
      | lst ds => obtain ⟨zs, c1, c2⟩ := c; exact ⟨zs, conv c1, c2.tr fr'.tr⟩
      | dct kv2 => obtain ⟨vs2, c1, c2⟩ := c; exact ⟨vs2, c1.imp fun w hw => conv hw, c2.tr fr'.tr⟩
      | _ => exact c.elim
    · obtain ⟨d, f⟩ := q
      cases f with
      | false => exact VR.fz (Rep.tr fr'.tr _ _ h.of_fz)
      | true =>
        obtain ⟨b, rfl, h0, hb, c⟩ := h.to_new
        have n : b ≠ a := fun z => by rw [z, m1] at hb; cases hb; exact p.out.2 rfl
        exact VR.of_new (by rw [upd_ne n] at h0; exact h0) (by rw [Ly.set_ne _ _ n]; exact hb) ((c.tr fr'.tr).imp fun w hw => by rw [upd_ne n]; exact hw)
end
end Pyl
set_option Elab.async false
set_option linter.all false
set_option maxRecDepth 100000
set_option maxHeartbeats 2000000
/-! SndFor3: the for statements. -/
namespace Pyl
open PySem PySem.Spec PyProof.Rows L2
theorem PI.or {X : Cx} {tg iter : Expr} {wi wi' : TI} (h : PI X tg iter wi) (h' : PI X tg iter wi') : PI X tg iter (fun σ H R => wi σ H R ∨ wi' σ H R) :=
  ⟨fun pins s σ H R I w => by rcases w with w | w; exact h.run pins s σ H R I w; exact h'.run pins s σ H R I w⟩
theorem PI.imp {X : Cx} {tg iter : Expr} {wi wi' : TI} (h : PI X tg iter wi) (f : ∀ σ H R, wi' σ H R → wi σ H R) : PI X tg iter wi' := ⟨fun pins s σ H R I w => h.run pins s σ H R I (f σ H R w)⟩
section
variable {U : Uni} {W : WX} {Γ : Env} {X : Cx} {σ σ' : L2.St} {H H' H0 H1 H2 : Hp} {y y' y1 y2 : Ly} {s s' s1 s2 : St} {q : Bool} {D : Ends} {ds : List Pyl.D} {kvs : List (Ky × Pyl.D)}
def On.isOp : On → Bool
  | .ex _ => false
  | _ => true
theorem rO_op {io : On} (hio : io.isOp = true) : (∃ x, rO Γ io s = .ok x s) ∨ rO Γ io s = .sk := by
  cases io with
  | ex e => cases hio
  | pk i => simp only [rO]; split; exact .inr rfl; exact .inl ⟨_, rfl⟩
  | pf i f =>
    simp only [rO]
    split
    · split
      · exact .inr rfl
      · exact .inl ⟨_, rfl⟩
      · exact .inr rfl
    · split
      · exact .inl ⟨_, rfl⟩
      · exact .inr rfl
    · exact .inr rfl
theorem rO_odr {io : On} {x : OD} (hio : io.isOp = true) (S : StR U y σ H s) (h : rO Γ io s = .ok x s') : ∃ v, ODR U H0 y H σ x v := by
  cases io with
  | ex e => cases hio
  | pk i =>
    simp only [rO] at h
    split at h
    · cases h
    · rename_i n
      cases h
      obtain ⟨v, e, _⟩ := S.val (i := i) (fun z => n z)
      exact ⟨v, e⟩
  | pf i f =>
    simp only [rO] at h
    split at h
    · rename_i n g
      split at h
      · cases h
      · rename_i sv ne gf
        cases h
        obtain ⟨c, fs, a', dx, vs, w', k1, k2, k3, k4, k5, k6, k7, k8, k9⟩ := S.fldv gf
        exact ⟨w', a', _, dx, vs, k3, k5, k8⟩
      · cases h
    · rename_i c fs g
      split at h
      · rename_i d gf
        cases h
        obtain ⟨vo, ho, ro⟩ := S.slot g (by intro z; cases z)
        have ro : Rep U y H (.obj c fs) vo := ro
        obtain ⟨a, dx, vs, rfl, _, h1, h2⟩ := Rep.obj_.1 ro
        obtain ⟨w', h3, h4⟩ := snd_atr.repf_look h2 gf
        exact ⟨w', VR.fz h4⟩
      · cases h
    · cases h
theorem rO_lock {io : On} {x : OD} (hio : io.isOp = true) (h : rO Γ io s = .ok x s) (hl : (x.lock s).1 = true) : rO Γ io (x.lock s).2 = .ok x (x.lock s).2 := by
  cases io with
  | ex e => cases hio
  | pk i =>
    simp only [rO] at h
    split at h
    · cases h
    · rename_i n
      cases h
      simp only [OD.lock] at hl ⊢
      split at hl
      · rename_i d g
        have k : gt (s.put i (.lk d)).sl i = .lk d := gt_pt_same (gt_lt (by rw [g]; intro z; cases z))
        simp only [rO, k]
      · cases hl
  | pf i f =>
    simp only [rO] at h
    split at h
    · rename_i n g
      split at h
      · cases h
      · rename_i sv ne gf
        cases h
        simp only [OD.lock] at hl ⊢
        split at hl
        · rename_i d g2
          obtain ⟨c, fs, e, g'⟩ := fld_ins g2
          have es : s.setf n f (.lk d) = { s with sto := s.sto.set n (.ins c (fp fs f (.lk d))) } := by unfold St.setf; rw [e]
          have ef : St.fld { s with sto := s.sto.set n (.ins c (fp fs f (.lk d))) } n f = some (.lk d) := by
            unfold St.fld
            rw [List.getElem?_set_self (by rw [List.getElem?_eq_some_iff] at e; exact e.1)]
            exact fg_fp_same
          simp only [es, rO, g, ef]
        · cases hl
      · cases h
    · split at h
      · cases h; cases hl
      · cases h
    · cases h
/-- v is what an operand shows, wherever it is looked at -/
theorem odr_same {x : OD} {v v' : V} (hio : ∀ d fr, x ≠ .im d fr) (h : ODR U H0 y H σ x v) (e : Ext true y H y' H') (h' : ODR U H2 y' H' σ x v') : v' = v := by
  cases x with
  | im d fr => exact absurd rfl (hio d fr)
  | sl i =>
    have h : σ[i]? = some (some v) := h
    have h' : σ[i]? = some (some v') := h'
    rw [h] at h'; cases h'; rfl
  | fd n f =>
    obtain ⟨a, C, dx, vs, k1, k2, k3⟩ := h
    obtain ⟨a', C', dx', vs', m1, m2, m3⟩ := h'
    have := e.tr.A n a k1
    rw [m1] at this; cases this
    have := e.q rfl _ _ k2 (by rintro ⟨ps, z⟩; cases z)
    rw [m2] at this; cases this
    rw [k3] at m3; cases m3; rfl
abbrev loopOf (Γ : Env) (t : Tg) (b : Sms) : Pyl.D → St → RS := fun x s => (rT Γ t x false s).andS fun _ s => rSs Γ b s
/-- a loop over known items -/
def frB (Γ : Env) (t : Tg) (b : Sms) (ds : List Pyl.D) (ods : List OD) (s : St) : RS := match (forL (loopOf Γ t b) ds (lockAll ods s).2).post (unlockAll (lockAll ods s).1) with
  | .nx s => rSs Γ .nil s
  | .bk s => .nx s
  | r => r
theorem rS_fr {t : Tg} {it : Pyl.It} {b : Sms} : rS Γ (.fr t it b .nil) s = (rI Γ it s).andS fun p s => frB Γ t b p.1 p.2 s := by simp only [rS]; rfl
theorem R.bind_andS {α β : Type} {r : R α} {f : α → St → R β} {g : β → St → RS} : (r.bind f).andS g = r.andS fun a s => (f a s).andS g := by cases r <;> rfl
theorem fr_core {J : L2.It} {ods : List OD} {t : Tg} {b : Sms} (S2 : StR U y2 σ H2 (lockAll ods s).2) (hu : Unl U y1 H1 y2 H2 (unlockAll (lockAll ods s).1)) (wk : Walk U J y2 H2 ds) (w : wpS U W y1 H1 (frB Γ t b ds ods s) D) :
    ∃ W' : Nat → Nat → L2.St → Hp → Prop, (∃ m, W' 0 m σ H2) ∧ ∀ i m σ H, W' i m σ H →
      (J.stop i H ∧ D.nx σ H) ∨ (J.go i H ∧ ∃ N : L2.St → Hp → Prop, (∀ σ' H', N σ' H' → ∃ m', m' < m ∧ W' (i + 1) m' σ' H') ∧ ∀ x H', J.yld i H x H' → rdG U W Γ t x σ H' fun σ2 H2 => rdSs U W Γ b { D with nx := N, ct := N, bk := D.nx } σ2 H2) :=
  for_go S2 wk (fr_unl (Γ := Γ) hu w)
theorem fr_none {J : L2.It} {t : Tg} {b : Sms} (S : StR U y1 σ H1 s) (wk : Walk U J y1 H1 ds) (w : wpS U W y1 H1 (frB Γ t b ds [] s) D) :
    ∃ W' : Nat → Nat → L2.St → Hp → Prop, (∃ m, W' 0 m σ H1) ∧ ∀ i m σ H, W' i m σ H →
      (J.stop i H ∧ D.nx σ H) ∨ (J.go i H ∧ ∃ N : L2.St → Hp → Prop, (∀ σ' H', N σ' H' → ∃ m', m' < m ∧ W' (i + 1) m' σ' H') ∧ ∀ x H', J.yld i H x H' → rdG U W Γ t x σ H' fun σ2 H2 => rdSs U W Γ b { D with nx := N, ct := N, bk := D.nx } σ2 H2) :=
  fr_core (ods := []) S Unl.id wk w
/-! ### ranges -/
section
variable {tg a a2 a3 : Expr} {body : List Stmt} {t : Tg} {ia ib ic : Ex} {b : Sms} {p pos pos2 : Pos}
theorem snd_forR1 (hp : PassesOwn (model X.prog X.w) X.A X.env X.xe) (hc : X.calm = true) (hgl : Gl X "range") (hm : X.mg "range" = none) (ha : PE X a (rdE U W Γ ia)) (hg : PG X tg (rdG U W Γ t)) (hb : PSs X body (rdSs U W Γ b))
    (hs1 : starEach [a] X.env = [(false, eval a X.env)] := by rfl) (hs : ∀ x, foldedSetIterable (.Call (.Name "range" p) [a] [] pos2) X.env x = pure x := by intro _; rfl) : PS X (.For tg (.Call (.Name "range" p) [a] [] pos2) body [] pos) (rdS U W Γ (.fr t (.r1 ia) b .nil)) :=
  PS.imp (ps_for hp hc (pi_range1 hgl hm (pa_cons ha pa_nil hs1) hs1) hg hb hs) fun D σ H ⟨y, s, S, w⟩ => by
    rw [rS_fr] at w
    simp only [rI, R.bind_andS] at w
    refine rdE.seqS S w fun x s1 y1 H1 e1 S1 w1 v hv => ?_
    obtain ⟨d, fr⟩ := x
    cases d with
    | int n =>
      simp only at w1
      split at w1
      · rename_i hn
        have := hn.1
        unfold rOk at this
        exact ⟨n, by rw [hv.int], by omega, by omega, fr_none S1 walk_r (w1.base e1.any)⟩
      · exact w1.elim
    | _ => exact w1.elim
theorem snd_forR2 (hp : PassesOwn (model X.prog X.w) X.A X.env X.xe) (hc : X.calm = true) (hgl : Gl X "range") (hm : X.mg "range" = none) (ha : PE X a (rdE U W Γ ia)) (ha2 : PE X a2 (rdE U W Γ ib)) (hg : PG X tg (rdG U W Γ t)) (hb : PSs X body (rdSs U W Γ b))
    (hs1 : starEach [a, a2] X.env = [(false, eval a X.env), (false, eval a2 X.env)] := by rfl) (hs2 : starEach [a2] X.env = [(false, eval a2 X.env)] := by rfl) (hs : ∀ x, foldedSetIterable (.Call (.Name "range" p) [a, a2] [] pos2) X.env x = pure x := by intro _; rfl) : PS X (.For tg (.Call (.Name "range" p) [a, a2] [] pos2) body [] pos) (rdS U W Γ (.fr t (.r2 ia ib) b .nil)) :=
  PS.imp (ps_for hp hc (pi_range2 hgl hm (pa_cons ha (pa_cons ha2 pa_nil hs2) (by rw [hs1, hs2])) hs1 hs2) hg hb hs) fun D σ H ⟨y, s, S, w⟩ => by
    rw [rS_fr] at w
    simp only [rI, R.bind_andS] at w
    refine rdE.seqS S w fun x s1 y1 H1 e1 S1 w1 v hv => ?_
    refine rdE.seqS S1 (w1.base e1.any) fun x2 s2 y2 H2 e2 S2 w2 v2 hv2 => ?_
    obtain ⟨d, fr⟩ := x
    obtain ⟨d2, fr2⟩ := x2
    cases d with
    | int i =>
      cases d2 with
      | int j =>
        simp only at w2
        split at w2
        · rename_i hn
          have h1 := hn.1
          have h2 := hn.2.1
          unfold rOk at h1 h2
          exact ⟨i, j, by rw [hv.int, hv2.int], ⟨by omega, by omega, by omega, by omega⟩, fr_none S2 walk_r (w2.base e2.any)⟩
        · exact w2.elim
      | _ => exact w2.elim
    | _ => exact w2.elim
/-! ### what an operand shows -/
/-- a thing that is no owned container -/
theorem nolock_other {x : OD} {v : V} {d : Pyl.D} (S : StR U y σ H s) (hv : ODR U H0 y H σ x v) (g : x.get s = some d) (h1 : ∀ ds, d ≠ .lst ds) (h2 : ∀ kvs, d ≠ .dct kvs) : x.lock s = (false, s) := by
  refine nolock_sv fun d' hs => ?_
  obtain ⟨o, l, p⟩ := plc_sv (x := x) (s := s) (by rw [hs]; intro z; cases z)
  obtain ⟨a, _, _, c⟩ := at_plc p S hv hs (by intro z; cases z)
  have him : ∀ d fr, x ≠ .im d fr := fun d fr z => by subst z; cases hs
  rw [get_sv him, hs] at g
  cases g
  rcases c.ref with ⟨ds, rfl⟩ | ⟨kvs, rfl⟩
  · exact h1 ds rfl
  · exact h2 kvs rfl
theorem lock1_none {x : OD} (h : x.lock s = (false, s)) : lockAll [x] s = ([], s) := by simp only [lockAll, h]; rfl
theorem src_tup {v : V} {d : Pyl.D} (p : PV U y H d v) (hd : d = .tup ds ∨ d = .ktp ds) : ∃ a xs, v = .ref a ∧ SqT U.K H a xs ∧ Reps U y H ds xs ∧ ∀ y' H', Ext false y H y' H' → SqT U.K H' a xs := by
  rcases hd with rfl | rfl
  · have p : Rep U y H (.tup ds) v := p
    obtain ⟨a, xs, e, h1, h2⟩ := Rep.tup_.1 p
    exact ⟨a, xs, e, .of h1, h2, fun y' H' ex => .of (ex.tr.tp a xs h1)⟩
  · have p : Rep U y H (.ktp ds) v := p
    obtain ⟨a, xs, e, h1, h2⟩ := Rep.ktp_.1 p
    exact ⟨a, xs, e, sqT_ofK h1, h2, fun y' H' ex => sqT_ofK h1⟩
theorem src_kls {v : V} (p : PV U y H (.kls ds) v) : ∃ a xs, v = .ref a ∧ SqL U.K H a xs ∧ Reps U y H ds xs ∧ ∀ y' H', Ext false y H y' H' → SqL U.K H' a xs := by
  have p : Rep U y H (.kls ds) v := p
  obtain ⟨a, xs, e, h1, h2⟩ := Rep.kls_.1 p
  refine ⟨a, xs, e, sqL_of h1, h2, fun y' H' ex => ?_⟩
  rcases h1 with ⟨n, o, h1⟩ | h1
  · exact .inl (.inr ⟨o, (ex.tr.fx a _ n h1 True.intro).1⟩)
  · exact .inr h1
/-- lists, tuples, texts -/
def wOn (K : PySem.W.Frag) (to : TE) : TI := fun σ H R => iList K to σ H R ∨ (iTup K to σ H R ∨ iStr to σ H R)
theorem pi_on {iter : Expr} {to : TE} (h : PE X iter to) : PI X tg iter (wOn X.K to) := PI.or (pi_list h) (PI.or (pi_tup h) (pi_str h))
/-- an operand that comes out well -/
theorem rdO_ok {io : On} {x : OD} {Q : VK} (S : StR U y σ H s) (hr : rO Γ io s = .ok x s1) (k : ∀ y' H', Ext (qO io) y H y' H' → StR U y' σ H' s1 → ∀ v, ODR U H y' H' σ x v → Q v H') : rdO U W Γ io σ H Q :=
  ⟨y, s, S, by rw [hr]; exact k⟩
theorem rdO_er {io : On} {x : Xn} {Q : VK} (S : StR U y σ H s) (hr : rO Γ io s = .er x s1) (k : ∀ y' H' cls dd, Ext false y H y' H' → StR U y' σ H' s1 → ExR U x cls dd H' → W cls dd σ H') : rdO U W Γ io σ H Q :=
  ⟨y, s, S, by rw [hr]; exact k⟩
/-- .. that is no dict -/
theorem on_core {io : On} {s0 : St} (hK : U.K = X.K) (S : StR U y σ H s0) (hnd : ∀ x s1 kvs, rO Γ io s0 = .ok x s1 → x.get s1 ≠ some (.dct kvs)) (w : wpS U W y H (rS Γ (.fr t (.on io) b .nil) s0) D) :
    wOn X.K (rdO U W Γ io) σ H fun J H1 => ∃ W' : Nat → Nat → L2.St → Hp → Prop, (∃ m, W' 0 m σ H1) ∧ ∀ i m σ H, W' i m σ H →
      (J.stop i H ∧ D.nx σ H) ∨ (J.go i H ∧ ∃ N : L2.St → Hp → Prop, (∀ σ' H', N σ' H' → ∃ m', m' < m ∧ W' (i + 1) m' σ' H') ∧ ∀ x H', J.yld i H x H' → rdG U W Γ t x σ H' fun σ2 H2 => rdSs U W Γ b { D with nx := N, ct := N, bk := D.nx } σ2 H2) := by
  rw [rS_fr] at w
  simp only [rI, R.bind_andS] at w
  cases hr : rO Γ io s0 with
  | sk => rw [hr] at w; exact w.elim
  | er x s1 =>
    rw [hr] at w
    exact .inl (rdO_er S hr fun y' H' cls dd e S' hx => w y' H' σ cls dd e S' hx)
  | ok x s1 =>
    have hnd := hnd x s1
    rw [hr] at w
    simp only [R.andS_ok] at w
    have p1 : ∀ {y' : Ly} {H' : Hp} {v : V} {d : Pyl.D}, StR U y' σ H' s1 → ODR U H y' H' σ x v → x.get s1 = some d → PV U y' H' d v := fun S' hv g => hv.later (Ext.refl true _ _) S' (fun _ => rfl) g
    split at w
    · rename_i ds g
      refine .inl (rdO_ok S hr fun y1 H1 e1 S1 v hv => ?_)
      obtain ⟨a, xs, y2, rfl, x2, S2, r2, st, hu⟩ := src_list S1 hv g
      exact ⟨a, rfl, ⟨xs, .of (st y2 H1 (Ext.refl _ _ _))⟩, fr_core S2 hu (walk_l r2 fun y' H' e => .of (st y' H' e)) (w.base e1.any)⟩
    · rename_i ds g
      refine .inr (.inl (rdO_ok S hr fun y1 H1 e1 S1 v hv => ?_))
      obtain ⟨a, xs, rfl, h1, r1, st⟩ := src_tup (p1 S1 hv g) (.inl rfl)
      rw [hK] at h1 st
      have hl := lock1_none (nolock_other S1 hv g (fun _ z => by cases z) (fun _ z => by cases z))
      exact ⟨a, rfl, ⟨xs, h1⟩, fr_core (ods := [x]) (by rw [hl]; exact S1) (by rw [hl]; exact Unl.id) (walk_t r1 st) (w.base e1.any)⟩
    · rename_i ds g
      refine .inl (rdO_ok S hr fun y1 H1 e1 S1 v hv => ?_)
      obtain ⟨a, xs, rfl, h1, r1, st⟩ := src_kls (p1 S1 hv g)
      rw [hK] at h1 st
      have hl := lock1_none (nolock_other S1 hv g (fun _ z => by cases z) (fun _ z => by cases z))
      exact ⟨a, rfl, ⟨xs, h1⟩, fr_core (ods := [x]) (by rw [hl]; exact S1) (by rw [hl]; exact Unl.id) (walk_l r1 st) (w.base e1.any)⟩
    · rename_i ds g
      refine .inr (.inl (rdO_ok S hr fun y1 H1 e1 S1 v hv => ?_))
      obtain ⟨a, xs, rfl, h1, r1, st⟩ := src_tup (p1 S1 hv g) (.inr rfl)
      rw [hK] at h1 st
      have hl := lock1_none (nolock_other S1 hv g (fun _ z => by cases z) (fun _ z => by cases z))
      exact ⟨a, rfl, ⟨xs, h1⟩, fr_core (ods := [x]) (by rw [hl]; exact S1) (by rw [hl]; exact Unl.id) (walk_t r1 st) (w.base e1.any)⟩
    · rename_i kvs g
      exact absurd g (hnd kvs hr)
    · rename_i z g
      split at w
      · refine .inr (.inr (rdO_ok S hr fun y1 H1 e1 S1 v hv => ?_))
        have := (p1 S1 hv g).str
        subst this
        exact ⟨z, rfl, fr_none S1 walk_s (w.base e1.any)⟩
      · exact w.elim
    · exact w.elim
/-- over an expression's value -/
theorem snd_forX {iter : Expr} {ie : Ex} (hK : U.K = X.K) (hp : PassesOwn (model X.prog X.w) X.A X.env X.xe) (hc : X.calm = true) (ho : PE X iter (rdO U W Γ (.ex ie))) (hg : PG X tg (rdG U W Γ t)) (hb : PSs X body (rdSs U W Γ b))
    (hs : ∀ x, foldedSetIterable iter X.env x = pure x := by intro _; rfl) : PS X (.For tg iter body [] pos) (rdS U W Γ (.fr t (.on (.ex ie)) b .nil)) :=
  PS.imp (ps_for hp hc (pi_on ho) hg hb hs) fun D σ H ⟨y, s, S, w⟩ => by
    by_cases hd : ∃ x s1 kvs, rO Γ (.ex ie) s = .ok x s1 ∧ x.get s1 = some (.dct kvs)
    · obtain ⟨x, s1, kvs, hr, g⟩ := hd
      exfalso
      rw [rS_fr] at w
      simp only [rI, R.bind_andS, hr, R.andS_ok, g] at w
      have him : x.isIm = true := by
        simp only [rO] at hr
        cases he : rE Γ ie s with
        | ok p s' => rw [he] at hr; cases hr; rfl
        | er x s' => rw [he] at hr; cases hr
        | sk => rw [he] at hr; cases hr
      rw [him] at w
      exact w
    · exact on_core hK S (fun x s1 kvs h1 h2 => hd ⟨x, s1, kvs, h1, h2⟩) w
end
end
end Pyl
set_option Elab.async false
set_option linter.all false
set_option maxRecDepth 100000
set_option maxHeartbeats 2000000
/-! SndFor4: for over dicts, enumerate, zip. -/
namespace Pyl
open PySem PySem.Spec PyProof.Rows L2
section
variable {U : Uni} {W : WX} {Γ : Env} {X : Cx} {σ σ' : L2.St} {H H' H0 H1 H2 : Hp} {y y' y1 y2 : Ly} {s s' s1 s2 : St} {q : Bool} {D : Ends} {ds : List Pyl.D} {kvs : List (Ky × Pyl.D)}
variable {tg : Expr} {body : List Stmt} {t : Tg} {b : Sms} {p pos pos2 : Pos}
/-- the ends within a lock -/
abbrev lockD (D : Ends) (d : Addr) (od : Obj) (u : HO) : Ends := ⟨fun σ' H' => H' d = some (.frz od u) ∧ D.nx σ' (upd H' d u), fun v H' => H' d = some (.frz od u) ∧ D.rt v (upd H' d u), fun σ' H' => H' d = some (.frz od u) ∧ D.bk σ' (upd H' d u), fun σ' H' => H' d = some (.frz od u) ∧ D.ct σ' (upd H' d u)⟩
theorem fr_unlD {r : RS} {g : St → St} {a : Addr} {od : Obj} {u : HO} {Hz : Hp} (hz : ∀ o' u', Hz a ≠ some (.frz o' u')) (hu : UnlD U y H y1 H1 a od u g) (w : wpS U W y H (match r.post g with
    | .nx s => rSs Γ .nil s
    | .bk s => .nx s
    | r => r) D) : wpS U (WU Hz W) y1 H1 r { lockD D a od u with bk := (lockD D a od u).nx } := by
  cases r with
  | nx s' =>
    simp only [RS.post, rSs] at w
    intro y' H' σ' e S
    obtain ⟨k, y3, e3, S3, _⟩ := hu y' H' σ' s' e S
    exact ⟨k, w y3 _ σ' e3 S3⟩
  | bk s' =>
    intro y' H' σ' e S
    obtain ⟨k, y3, e3, S3, _⟩ := hu y' H' σ' s' e S
    exact ⟨k, w y3 _ σ' e3 S3⟩
  | ct s' =>
    intro y' H' σ' e S
    obtain ⟨k, y3, e3, S3, _⟩ := hu y' H' σ' s' e S
    exact ⟨k, w y3 _ σ' e3 S3⟩
  | rt d fr s' =>
    intro y' H' σ' v e S hv
    obtain ⟨k, y3, e3, S3, k2⟩ := hu y' H' σ' s' e S
    exact ⟨k, w y3 _ σ' v e3 S3 (k2 _ _ hv)⟩
  | er x s' =>
    intro y' H' σ' cls dd e S hx
    obtain ⟨k, y3, e3, S3, _⟩ := hu y' H' σ' s' e S
    exact ⟨a, od, u, k, hz, w y3 _ σ' cls dd e3 S3 hx⟩
  | sk => exact w
/-- a dict's statement: wi W: the reading of its iterator, g: its items -/
theorem dict_ps {iter : Expr} {io : On} {wi : WX → TI} {g : List (Ky × Pyl.D) → List Pyl.D} {okk : List (Ky × Pyl.D) → Bool} (hp : PassesOwn (model X.prog X.w) X.A X.env X.xe) (hc : X.calm = true) (tk : Takes X W) (bl : Blind W) (hio : io.isOp = true)
    (hPI : ∀ W', Takes X W' → Blind W' → PI X tg iter (wi W')) (hsp : ∀ W' σ H R, rdO U W' Γ io σ H (fun v H1 => ∃ y1 kvs, LkDct U y1 H1 kvs v ∧ okk kvs = true ∧ ∀ J, Walk U J y1 H1 (g kvs) → R J H1) → wi W' σ H R)
    (hg : ∀ W', Takes X W' → Blind W' → PG X tg (rdG U W' Γ t)) (hb : ∀ W', Takes X W' → Blind W' → PSs X body (rdSs U W' Γ b)) (hs : ∀ x, foldedSetIterable iter X.env x = pure x) :
    PS X (.For tg iter body [] pos) (fun D σ H => ∃ y s x kvs, StR U y σ H s ∧ rO Γ io s = .ok x s ∧ (∀ d fr, x ≠ .im d fr) ∧ x.get s = some (.dct kvs) ∧ okk kvs = true ∧ wpS U W y H (frB Γ t b (g kvs) [x] s) D) := by
  have base := fun W' tk' bl' => ps_for (pos := pos) hp hc (hPI W' tk' bl') (hg W' tk' bl') (hb W' tk' bl') hs
  refine PS.imp (PS.or (base W tk bl) (PS.or (ps_lockF (base W tk bl)) (ps_lockX (base (WU X.H_0 W) (Pyl.Takes.unlock tk) (Pyl.Blind.unlock bl))))) ?_
  rintro D σ H ⟨y, s, x, kvs, S, hr, him, hget, hok, w⟩
  obtain ⟨v, hv⟩ := rO_odr (H0 := H) hio S hr
  have nolk : x.lock s = (false, s) → ∀ {y1 : Ly} {H1 : Hp}, Ext false y H y1 H1 → StR U y1 σ H1 s → LkDct U y1 H1 kvs v → ODR U H y1 H1 σ x v → tFor (wi W) (rdG U W Γ t) (rdSs U W Γ b) D σ H1 := fun hl y1 H1 e1 S1 lk hv1 => by
    refine hsp W σ H1 _ (rdO_ok S1 hr fun y2 H2 e2 S2 v2 hv2 => ?_)
    have hq : qO io = true := by cases io <;> first | rfl | cases hio
    rw [hq] at e2
    have := odr_same him hv1 e2 hv2
    subst this
    refine ⟨y2, kvs, ?_, hok, fun J wk => ?_⟩
    · obtain ⟨a, o, e, lk⟩ := lk
      refine ⟨a, o, e, ?_⟩
      rcases lk with ⟨kk, h1, h2, h3⟩ | ⟨kk, h1, h2, h3⟩
      · exact .inl ⟨kk, fun y' H' ex => h1 y' H' (e2.any.trans ex), h2, Repk.tr e2.tr _ _ h3⟩
      · exact .inr ⟨kk, fun y' H' ex => h1 y' H' (e2.any.trans ex), h2, Repk.tr e2.tr _ _ h3.1, h3.2⟩
    · have hl1 := lock1_none hl
      exact fr_core (ods := [x]) (by rw [hl1]; exact S2) (by rw [hl1]; exact Unl.id) wk (w.base (e1.trans e2.any))
  rcases src_dict S hv him hget with ⟨hl, lk⟩ | ⟨hl, a, u, rfl, ha, hu, k⟩ | ⟨hl, a, u, l, rfl, ha, hu, k⟩
  · exact .inl (nolk hl (Ext.refl _ _ _) S lk hv)
  · refine .inr (.inl ⟨a, u, ha, mut_dct hu, fun od => ?_⟩)
    obtain ⟨S1, e1, lk⟩ := k od
    refine nolk hl e1 S1 lk ?_
    cases x with
    | im d fr => exact absurd rfl (him d fr)
    | sl i => exact hv
    | fd n f =>
      obtain ⟨c, C, dx, vs, k1, k2, k3⟩ := hv
      have n : c ≠ a := fun z => by rw [z, ha] at k2; cases k2; exact hu
      exact ⟨c, C, dx, vs, k1, by rw [upd_ne n]; exact k2, k3⟩
  · refine .inr (.inr ⟨a, u, ha, mut_dct hu, fun od hz => ?_⟩)
    obtain ⟨S1, lk, un⟩ := k od
    refine hsp (WU X.H_0 W) σ _ _ (rdO_ok S1 (rO_lock hio hr hl) fun y2 H2 e2 S2 v2 hv2 => ?_)
    have hq : qO io = true := by cases io <;> first | rfl | cases hio
    rw [hq] at e2
    have hv1 : ODR U H (y.set a (some l)) (upd H a (.frz od u)) σ x (.ref a) := by
      cases x with
      | im d fr => exact absurd rfl (him d fr)
      | sl i => exact hv
      | fd n f =>
        obtain ⟨c, C, dx, vs, k1, k2, k3⟩ := hv
        have n : c ≠ a := fun z => by rw [z, ha] at k2; cases k2; exact hu
        exact ⟨c, C, dx, vs, k1, by rw [upd_ne n]; exact k2, k3⟩
    have := odr_same him hv1 e2 hv2
    subst this
    refine ⟨y2, kvs, ?_, hok, fun J wk => ?_⟩
    · obtain ⟨a, o, e, lk⟩ := lk
      refine ⟨a, o, e, ?_⟩
      rcases lk with ⟨kk, h1, h2, h3⟩ | ⟨kk, h1, h2, h3⟩
      · exact .inl ⟨kk, fun y' H' ex => h1 y' H' (e2.any.trans ex), h2, Repk.tr e2.tr _ _ h3⟩
      · exact .inr ⟨kk, fun y' H' ex => h1 y' H' (e2.any.trans ex), h2, Repk.tr e2.tr _ _ h3.1, h3.2⟩
    · have hla : lockAll [x] s = ([x], (x.lock s).2) := by simp only [lockAll, hl, if_true]
      unfold frB at w
      rw [hla] at w
      have k := fr_unlD (Γ := Γ) (Hz := X.H_0) hz (g := unlockAll [x]) un w
      exact for_go S2 wk (k.base e2.any)
/-- d, d.keys: over what stands at a name or a field -/
theorem snd_forP {iter : Expr} {io : On} (hK : U.K = X.K) (hp : PassesOwn (model X.prog X.w) X.A X.env X.xe) (hc : X.calm = true) (tk : Takes X W) (bl : Blind W) (hio : io.isOp = true) (ho : ∀ W', Takes X W' → Blind W' → PE X iter (rdO U W' Γ io))
    (hg : ∀ W', Takes X W' → Blind W' → PG X tg (rdG U W' Γ t)) (hb : ∀ W', Takes X W' → Blind W' → PSs X body (rdSs U W' Γ b)) (hs : ∀ x, foldedSetIterable iter X.env x = pure x := by intro _; rfl) : PS X (.For tg iter body [] pos) (rdS U W Γ (.fr t (.on io) b .nil)) := by
  have dp := dict_ps (wi := fun W' => iKeys (rdO U W' Γ io)) (g := fun kvs => kvs.map fun p => Ky.d p.1) (okk := fun _ => true) (pos := pos) hp hc tk bl hio (fun W' tk' bl' => pi_keys (ho W' tk' bl')) (fun W' σ H R h => ?_) hg hb hs
  · refine PS.imp (PS.or (ps_for hp hc (pi_on (ho W tk bl)) (hg W tk bl) (hb W tk bl) hs) dp) fun D σ H ⟨y, s, S, w⟩ => ?_
    by_cases hd : ∃ x s1 kvs, rO Γ io s = .ok x s1 ∧ x.get s1 = some (.dct kvs)
    · obtain ⟨x, s1, kvs, hr, g⟩ := hd
      have : s1 = s := by
        rcases rO_op (Γ := Γ) (s := s) hio with ⟨x', h⟩ | h
        · rw [hr] at h; cases h; rfl
        · rw [hr] at h; cases h
      subst this
      rw [rS_fr] at w
      simp only [rI, R.bind_andS, hr, R.andS_ok, g] at w
      cases him : x.isIm with
      | true => rw [him] at w; exact w.elim
      | false =>
        rw [him] at w
        refine .inr ⟨y, s1, x, kvs, S, hr, fun d fr z => (by subst z; cases him), g, rfl, w⟩
    · exact .inl (on_core hK S (fun x s1 kvs h1 h2 => hd ⟨x, s1, kvs, h1, h2⟩) w)
  · obtain ⟨y, s, S, w⟩ := h
    refine ⟨y, s, S, w.mono fun x s1 y1 H1 _ e1 S1 h v hv => ?_⟩
    obtain ⟨y2, kvs, lk, _, k⟩ := h v hv
    obtain ⟨a, o, rfl, hh⟩ := walk_keys lk
    rcases hh with ⟨kk, h1, h2⟩ | ⟨kk, h1, h2⟩
    · exact ⟨a, o, rfl, .inl ⟨kk, h1, k _ h2⟩⟩
    · exact ⟨a, o, rfl, .inr ⟨kk, h1, k _ h2⟩⟩
/-- the operand of an items' or values' call, and what holds of its dict -/
theorem dict_sp {io : On} {R : L2.It → Hp → Prop} {W' : WX} {g : List (Ky × Pyl.D) → List Pyl.D} {Q : V → Hp → Prop} (h : rdO U W' Γ io σ H (fun v H1 => ∃ y1 kvs, LkDct U y1 H1 kvs v ∧ (kvs.all fun p => p.1.isLeft) = true ∧ ∀ J, Walk U J y1 H1 (g kvs) → R J H1))
    (k : ∀ v H1, (∃ y1 kvs, ∃ a o kk, v = .ref a ∧ (∀ y' H', Ext false y1 H1 y' H' → H' a = some (.frz o (.dK kk))) ∧ kvs.map (·.1) = kk.map (fun p => Sum.inl p.1) ∧ Repk U y1 H1 kvs (kk.map (·.2)) ∧ ∀ J, Walk U J y1 H1 (g kvs) → R J H1) → Q v H1) : rdO U W' Γ io σ H Q := by
  obtain ⟨y, s, S, w⟩ := h
  refine ⟨y, s, S, w.mono fun x s1 y1 H1 _ e1 S1 h v hv => k v H1 ?_⟩
  obtain ⟨y2, kvs, lk, ha, kk⟩ := h v hv
  obtain ⟨a, o, kks, e, h1, h2, h3⟩ := lk_left lk ha
  exact ⟨y2, kvs, a, o, kks, e, h1, h2, h3, kk⟩
theorem walk_it {a : Addr} {o : Obj} {kk : List (Key × V)} (h1 : ∀ y' H', Ext false y H y' H' → H' a = some (.frz o (.dK kk))) (h2 : kvs.map (·.1) = kk.map (fun p => Sum.inl p.1)) (h3 : Repk U y H kvs (kk.map (·.2))) : Walk U (Iti a o kk) y H (kvs.map fun p => .tup [Ky.d p.1, p.2]) ∧ Walk U (Itd a o kk) y H (kvs.map (·.2)) := by
  obtain ⟨a', o', kk', e, k1, k2, k3⟩ := walk_items (v := .ref a) ⟨a, o, rfl, .inl ⟨kk, h1, h2, h3⟩⟩ ⟨a, o, kk, rfl, h1, h2, h3⟩
  cases e
  have := h1 y H (Ext.refl _ _ _)
  rw [k1] at this; cases this
  exact ⟨k2, k3⟩
theorem snd_forI {e : Expr} {io : On} {elts : List Expr} {kk : Nat} {tpos apos cpos : Pos} (hp : PassesOwn (model X.prog X.w) X.A X.env X.xe) (hc : X.calm = true) (tk : Takes X W) (bl : Blind W) (hio : io.isOp = true) (ho : ∀ W', Takes X W' → Blind W' → PE X e (rdO U W' Γ io))
    (hg : ∀ W', Takes X W' → Blind W' → PG X (.Tuple elts kk tpos) (rdG U W' Γ t)) (hb : ∀ W', Takes X W' → Blind W' → PSs X body (rdSs U W' Γ b)) (hbase : attributeBase e "items" X.env (eval e X.env) = eval e X.env := by rfl) (hline : (apos.endLine == cpos.line) = true := by rfl)
    (hs : ∀ x, foldedSetIterable (.Call (.Attribute e "items" apos) [] [] cpos) X.env x = pure x := by intro _; rfl) : PS X (.For (.Tuple elts kk tpos) (.Call (.Attribute e "items" apos) [] [] cpos) body [] pos) (rdS U W Γ (.fr t (.itm io) b .nil)) := by
  have dp := dict_ps (wi := fun W' => iItems (rdO U W' Γ io)) (g := fun kvs => kvs.map fun p => .tup [Ky.d p.1, p.2]) (okk := fun kvs => kvs.all fun p => p.1.isLeft) (pos := pos) hp hc tk bl hio (fun W' tk' bl' => pi_items (ho W' tk' bl') hbase hline)
    (fun W' σ H R h => dict_sp h fun v H1 ⟨y1, kvs, a, o, kk, e, h1, h2, h3, k⟩ => ⟨a, o, kk, e, h1 y1 H1 (Ext.refl _ _ _), k _ (walk_it h1 h2 h3).1⟩) hg hb hs
  refine PS.imp dp fun D σ H ⟨y, s, S, w⟩ => ?_
  rw [rS_fr] at w
  simp only [rI, R.bind_andS] at w
  rcases rO_op (Γ := Γ) (s := s) hio with ⟨x, hr⟩ | hr
  · rw [hr] at w
    simp only [R.andS_ok] at w
    split at w
    · rename_i kvs g
      split at w
      · exact w.elim
      · rename_i hn
        simp only [Bool.or_eq_true, Bool.not_eq_true', not_or, Bool.not_eq_true, Bool.not_eq_false] at hn
        exact ⟨y, s, x, kvs, S, hr, fun d fr z => (by subst z; cases hn.1), g, hn.2, w⟩
    · exact w.elim
  · rw [hr] at w; exact w.elim
theorem snd_forV {e : Expr} {io : On} {apos cpos : Pos} (hp : PassesOwn (model X.prog X.w) X.A X.env X.xe) (hc : X.calm = true) (tk : Takes X W) (bl : Blind W) (hio : io.isOp = true) (ho : ∀ W', Takes X W' → Blind W' → PE X e (rdO U W' Γ io))
    (hg : ∀ W', Takes X W' → Blind W' → PG X tg (rdG U W' Γ t)) (hb : ∀ W', Takes X W' → Blind W' → PSs X body (rdSs U W' Γ b)) (hbase : attributeBase e "values" X.env (eval e X.env) = eval e X.env := by rfl) (hline : (apos.endLine == cpos.line) = true := by rfl)
    (hs : ∀ x, foldedSetIterable (.Call (.Attribute e "values" apos) [] [] cpos) X.env x = pure x := by intro _; rfl) : PS X (.For tg (.Call (.Attribute e "values" apos) [] [] cpos) body [] pos) (rdS U W Γ (.fr t (.vls io) b .nil)) := by
  have dp := dict_ps (wi := fun W' => iVals (rdO U W' Γ io)) (g := fun kvs => kvs.map (·.2)) (okk := fun kvs => kvs.all fun p => p.1.isLeft) (pos := pos) hp hc tk bl hio (fun W' tk' bl' => pi_values (ho W' tk' bl') hbase hline)
    (fun W' σ H R h => dict_sp h fun v H1 ⟨y1, kvs, a, o, kk, e, h1, h2, h3, k⟩ => ⟨a, o, kk, e, h1 y1 H1 (Ext.refl _ _ _), k _ (walk_it h1 h2 h3).2⟩) hg hb hs
  refine PS.imp dp fun D σ H ⟨y, s, S, w⟩ => ?_
  rw [rS_fr] at w
  simp only [rI, R.bind_andS] at w
  rcases rO_op (Γ := Γ) (s := s) hio with ⟨x, hr⟩ | hr
  · rw [hr] at w
    simp only [R.andS_ok] at w
    split at w
    · rename_i kvs g
      split at w
      · exact w.elim
      · rename_i hn
        simp only [Bool.or_eq_true, Bool.not_eq_true', not_or, Bool.not_eq_true, Bool.not_eq_false] at hn
        exact ⟨y, s, x, kvs, S, hr, fun d fr z => (by subst z; cases hn.1), g, hn.2, w⟩
    · exact w.elim
  · rw [hr] at w; exact w.elim
/-! ### enumerate, zip of lists -/
theorem enumL_get : ∀ (ds : List Pyl.D) (k : Int) (i : Nat), (enumL k ds)[i]? = (ds[i]?).map fun d => .tup [.int (k + i), d]
  | [], k, i => by simp [enumL]
  | d :: r, k, 0 => by simp [enumL]
  | d :: r, k, i + 1 => by
    simp only [enumL, List.getElem?_cons_succ, enumL_get r (k + 1) i]
    congr 1
    funext d'
    congr 3
    push_cast
    omega
theorem enumL_len : ∀ (ds : List Pyl.D) (k : Int), (enumL k ds).length = ds.length
  | [], _ => rfl
  | d :: r, k => by simp [enumL, enumL_len r]
theorem walk_e {K : PySem.W.Frag} {a : Addr} {xs : List V} (hr : Reps U y H ds xs) (h : ∀ y' H', Ext false y H y' H' → SqL K H' a xs) : Walk U (Ite K a) y H (enumL 0 ds) := by
  intro y' H' e t i
  have hs := h y' H' e
  refine ⟨fun d hd => ?_, fun hi => ⟨xs, hs, by rw [enumL_len] at hi; rw [hr.length]; exact hi⟩⟩
  rw [enumL_get] at hd
  cases hp : ds[i]? with
  | none => rw [hp] at hd; cases hd
  | some d0 =>
    rw [hp] at hd; cases hd
    obtain ⟨x, hx, rx⟩ := hr.get hp
    refine ⟨⟨xs, x, hs, hx⟩, fun z H'' ⟨T, x', z1, z2, z3, z4⟩ => ?_⟩
    subst z1; subst z3
    have := z4 xs hs
    rw [hx] at this; cases this
    have ex := Ext.new (q := true) (o := .tup [.int (i : Nat), x]) t z2 none
    refine ⟨y'.set T none, ex, Fr1.new t z2 none (.inl rfl), Rep.tup_.2 ⟨T, _, rfl, upd_same, ?_⟩⟩
    exact Reps.cons_.2 ⟨_, _, rfl, Rep.int_.2 (by rw [Int.zero_add]), Reps.one (Rep.tr ex.tr _ _ (Rep.tr e.tr _ _ rx))⟩
theorem zipL_get : ∀ (as bs : List Pyl.D) (i : Nat), (zipL as bs)[i]? = match as[i]?, bs[i]? with
    | some a, some b => some (.tup [a, b])
    | _, _ => none
  | [], bs, i => by simp [zipL]
  | a :: as, [], i => by
    simp only [zipL, List.getElem?_nil]
    cases (a :: as)[i]? <;> rfl
  | a :: as, b :: bs, 0 => by simp [zipL]
  | a :: as, b :: bs, i + 1 => by simp only [zipL, List.getElem?_cons_succ]; exact zipL_get as bs i
theorem zipL_len : ∀ (as bs : List Pyl.D), (zipL as bs).length = min as.length bs.length
  | [], bs => by simp [zipL]
  | a :: as, [] => by simp [zipL]
  | a :: as, b :: bs => by simp only [zipL, List.length_cons, zipL_len as bs]; omega
theorem walk_z {K : PySem.W.Frag} {a c : Addr} {xs zs : List V} {ds2 : List Pyl.D} (hr : Reps U y H ds xs) (hr2 : Reps U y H ds2 zs) (h : ∀ y' H', Ext false y H y' H' → SqL K H' a xs) (h2 : ∀ y' H', Ext false y H y' H' → SqL K H' c zs) : Walk U (Itz K a c) y H (zipL ds ds2) := by
  intro y' H' e t i
  have hs := h y' H' e
  have hs2 := h2 y' H' e
  refine ⟨fun d hd => ?_, fun hi => ⟨xs, zs, hs, hs2, by rw [zipL_len] at hi; rw [hr.length, hr2.length]; omega⟩⟩
  rw [zipL_get] at hd
  cases hp : ds[i]? with
  | none => rw [hp] at hd; cases hd
  | some d0 =>
    cases hp2 : ds2[i]? with
    | none => rw [hp, hp2] at hd; cases hd
    | some d1 =>
      rw [hp, hp2] at hd; cases hd
      obtain ⟨x, hx, rx⟩ := hr.get hp
      obtain ⟨x2, hx2, rx2⟩ := hr2.get hp2
      refine ⟨⟨xs, zs, x, x2, hs, hs2, hx, hx2⟩, fun z H'' ⟨T, x', x'', z1, z2, z3, z4, z5⟩ => ?_⟩
      subst z1; subst z3
      have := z4 xs hs
      rw [hx] at this; cases this
      have := z5 zs hs2
      rw [hx2] at this; cases this
      have ex := Ext.new (q := true) (o := .tup [x, x2]) t z2 none
      refine ⟨y'.set T none, ex, Fr1.new t z2 none (.inl rfl), Rep.tup_.2 ⟨T, _, rfl, upd_same, ?_⟩⟩
      exact Reps.cons_.2 ⟨_, _, rfl, Rep.tr ex.tr _ _ (Rep.tr e.tr _ _ rx), Reps.one (Rep.tr ex.tr _ _ (Rep.tr e.tr _ _ rx2))⟩
theorem odr_ext {x : OD} {v : V} {q2 : Bool} (hv : ODR U H0 y H σ x v) (e : Ext q2 y H y' H') (hq : (∃ n f, x = .fd n f) → q2 = true) : ODR U H0 y' H' σ x v := by
  cases x with
  | im d fr => exact VR.ext hv e
  | sl i => exact hv
  | fd n f =>
    obtain ⟨a, C, dx, vs, k1, k2, k3⟩ := hv
    exact ⟨a, C, dx, vs, e.tr.A _ _ k1, e.q (hq ⟨n, f, rfl⟩) _ _ k2 (by rintro ⟨ps, z⟩; cases z), k3⟩
/-- two lists -/
theorem src_zip {x z : OD} {v v2 : V} {es : List Pyl.D} {Hx : Hp} (S : StR U y σ H s) (hv : ODR U H0 y H σ x v) (hv2 : ODR U Hx y H σ z v2) (g : x.get s = some (.lst ds)) (g2 : z.get s = some (.lst es)) :
    ∃ a c xs zs y2, v = .ref a ∧ v2 = .ref c ∧ StR U y2 σ H (lockAll [x, z] s).2 ∧ Reps U y2 H ds xs ∧ Reps U y2 H es zs ∧ (∀ y' H', Ext false y2 H y' H' → H' a = some (.lst xs)) ∧ (∀ y' H', Ext false y2 H y' H' → H' c = some (.lst zs)) ∧ Unl U y H y2 H (unlockAll (lockAll [x, z] s).1) := by
  obtain ⟨a, xs, y2, rfl, x2, S2, r2, st, hu⟩ := src_list S hv g
  have g2' : z.get (x.lock s).2 = some (.lst es) := by rw [get_lock]; exact g2
  obtain ⟨c, zs, y3, rfl, x3, S3, r3, st3, hu3⟩ := src_list S2 (odr_ext hv2 x2 fun _ => rfl) g2'
  refine ⟨a, c, xs, zs, y3, rfl, rfl, S3, r2.tr x3.tr, r3, fun y' H' e => st y' H' (x3.any.trans e), st3, ?_⟩
  have k := Unl.comp hu hu3
  have e : unlockAll (lockAll [x, z] s).1 = fun s' => unlockAll (lockAll [x] s).1 (unlockAll (lockAll [z] (x.lock s).2).1 s') := by
    funext s'
    simp only [lockAll]
    cases (x.lock s).1 <;> rfl
  rw [e]; exact k
theorem snd_forE {e : Expr} {io : On} {elts : List Expr} {kk : Nat} {tpos : Pos} (hK : U.K = X.K) (hp : PassesOwn (model X.prog X.w) X.A X.env X.xe) (hc : X.calm = true) (hgl : Gl X "enumerate") (hm : X.mg "enumerate" = none) (ho : PE X e (rdO U W Γ io))
    (hg : PG X (.Tuple elts kk tpos) (rdG U W Γ t)) (hb : PSs X body (rdSs U W Γ b)) (hs1 : starEach [e] X.env = [(false, eval e X.env)] := by rfl)
    (hs : ∀ x, foldedSetIterable (.Call (.Name "enumerate" p) [e] [] pos2) X.env x = pure x := by intro _; rfl) : PS X (.For (.Tuple elts kk tpos) (.Call (.Name "enumerate" p) [e] [] pos2) body [] pos) (rdS U W Γ (.fr t (.enu io) b .nil)) :=
  PS.imp (ps_for hp hc (pi_enum hgl hm (pa_cons ho pa_nil hs1) hs1) hg hb hs) fun D σ H ⟨y, s, S, w⟩ => by
    rw [rS_fr] at w
    simp only [rI, R.bind_andS] at w
    cases hr : rO Γ io s with
    | sk => rw [hr] at w; exact w.elim
    | er x s1 => rw [hr] at w; exact rdO_er S hr fun y' H' cls dd e S' hx => w y' H' σ cls dd e S' hx
    | ok x s1 =>
      rw [hr] at w
      simp only [R.andS_ok] at w
      split at w
      · rename_i ds g
        refine rdO_ok S hr fun y1 H1 e1 S1 v hv => ?_
        obtain ⟨a, xs, y2, rfl, x2, S2, r2, st, hu⟩ := src_list S1 hv g
        exact ⟨a, xs, rfl, .of (st y2 H1 (Ext.refl _ _ _)), fr_core S2 hu (walk_e r2 fun y' H' e => .of (st y' H' e)) (w.base e1.any)⟩
      · exact w.elim
theorem snd_forZ {e e2 : Expr} {io io2 : On} {elts : List Expr} {kk : Nat} {tpos : Pos} (hK : U.K = X.K) (hp : PassesOwn (model X.prog X.w) X.A X.env X.xe) (hc : X.calm = true) (hgl : Gl X "zip") (hm : X.mg "zip" = none) (ho : PE X e (rdO U W Γ io)) (ho2 : PE X e2 (rdO U W Γ io2)) (hpf : (!io.isPf || qO io2) = true := by decide)
    (hg : PG X (.Tuple elts kk tpos) (rdG U W Γ t)) (hb : PSs X body (rdSs U W Γ b)) (hs1 : starEach [e, e2] X.env = (false, eval e X.env) :: starEach [e2] X.env := by rfl) (hs2 : starEach [e2] X.env = (false, eval e2 X.env) :: starEach [] X.env := by rfl) (hpl : (backTo pos2 (starEach [e2] X.env)).any (·.1) = false := by rfl)
    (hs : ∀ x, foldedSetIterable (.Call (.Name "zip" p) [e, e2] [] pos2) X.env x = pure x := by intro _; rfl) : PS X (.For (.Tuple elts kk tpos) (.Call (.Name "zip" p) [e, e2] [] pos2) body [] pos) (rdS U W Γ (.fr t (.zp io io2) b .nil)) :=
  PS.imp (ps_for hp hc (pi_zip hgl hm (pa_cons ho (pa_cons ho2 pa_nil hs2) hs1) hs1 hpl) hg hb hs) fun D σ H ⟨y, s, S, w⟩ => by
    rw [rS_fr] at w
    simp only [rI, R.bind_andS] at w
    refine rdO.seqS S w fun x1 s1 y1 H1 hx1 e1 S1 w1 v1 hv1 => ?_
    refine rdO.seqS S1 (w1.base e1.any) fun x2 s2 y2 H2 hx2 e2 S2 w2 v2 hv2 => ?_
    split at w2
    · rename_i ds es g1 g2
      have hv1' := odr_ext hv1 e2 fun z => by have := hx1 z; simp [this] at hpf; exact hpf
      obtain ⟨a, c, xs, zs, y3, rfl, rfl, S3, r1, r2, st1, st2, hu⟩ := src_zip S2 hv1' hv2 g1 g2
      exact ⟨a, c, xs, zs, rfl, .of (st1 y3 H2 (Ext.refl _ _ _)), .of (st2 y3 H2 (Ext.refl _ _ _)), fr_core S3 hu (walk_z r1 r2 (fun y' H' e => .of (st1 y' H' e)) fun y' H' e => .of (st2 y' H' e)) (w2.base e2.any)⟩
    · exact w2.elim
end
end Pyl
set_option Elab.async false
set_option linter.all false
set_option maxRecDepth 100000
set_option maxHeartbeats 2000000
/-! SndLc: list comprehensions. -/
namespace Pyl
open PySem PySem.Spec PyProof.Rows L2
section
variable {U : Uni} {W : WX} {Γ : Env} {X : Cx} {σ σ' : L2.St} {H H' H0 H1 H2 : Hp} {y y' y1 y2 : Ly} {s s' s1 s2 : St} {q : Bool} {D : Ends} {ds : List Pyl.D} {kvs : List (Ky × Pyl.D)} {vs : List Nat}
/-! ### a comprehension's own slots -/
theorem wipe_set (i : Nat) : ∀ (vs : List Nat) (σ : L2.St), wipe (σ.set i none) vs = (wipe σ vs).set i none
  | [], σ => rfl
  | v :: vs, σ => by
    show (wipe (σ.set i none) vs).set v none = ((wipe σ vs).set v none).set i none
    rw [wipe_set i vs]
    by_cases e : i = v
    · subst e; rfl
    · rw [List.set_comm _ _ e]
theorem wipe_at {i : Nat} : ∀ (vs : List Nat), i ∉ vs → (wipe σ vs)[i]? = σ[i]?
  | [], _ => rfl
  | v :: vs, h => by
    simp only [List.mem_cons, not_or] at h
    show ((wipe σ vs).set v none)[i]? = _
    rw [List.getElem?_set_ne (fun z => h.1 z.symm)]
    exact wipe_at vs h.2
theorem wipe_in {i : Nat} {v : V} : ∀ (vs : List Nat), (wipe σ vs)[i]? = some (some v) → i ∉ vs := fun vs h => (wipe_some h).2
theorem ss_put {i : Nat} {v : SV} (hv : v = .em ∨ ∃ d, v = .vl d) (h : ssOk vs s = true) : ssOk vs (s.put i v) = true := by
  unfold ssOk at h ⊢
  rw [List.all_eq_true] at h ⊢
  intro j hj
  have := h j hj
  show (match gt (pt s.sl i v) j with | .em | .vl _ => true | _ => false) = true
  by_cases e : i = j
  · subst e
    by_cases hl : i < s.sl.length
    · rw [gt_pt_same hl]
      rcases hv with rfl | ⟨d, rfl⟩ <;> rfl
    · rw [gt_out (by rw [pt_len]; omega)]
  · rw [gt_pt_ne e]; exact this
theorem ss_nlk {i : Nat} (h : ssOk vs s = true) (hi : i ∈ vs) : ∀ e, gt s.sl i ≠ .lk e := by
  unfold ssOk at h
  rw [List.all_eq_true] at h
  have := h i hi
  intro e z
  rw [z] at this
  cases this
theorem clr_str : ∀ {vs : List Nat} {σ : L2.St} {s : St}, ssOk vs s = true → StR U y σ H s → StR U y (wipe σ vs) H (clr vs s)
  | [], σ, s, _, S => S
  | i :: vs, σ, s, h, S => by
    have S1 := S.bindem (i := i) (o := none) (ss_nlk h (List.mem_cons_self ..))
    have h2 : ssOk vs (s.put i .em) = true := ss_put (.inl rfl) (by
      unfold ssOk at h ⊢
      simp only [List.all_cons, Bool.and_eq_true] at h
      exact h.2)
    have S2 := clr_str h2 S1
    rw [wipe_set] at S2
    exact S2
theorem clr_at {i : Nat} : ∀ {vs : List Nat} {s : St}, i ∉ vs → gt (clr vs s).sl i = gt s.sl i
  | [], s, _ => rfl
  | v :: vs, s, h => by
    simp only [List.mem_cons, not_or] at h
    show gt (clr vs (s.put v .em)).sl i = _
    rw [clr_at h.2]
    exact gt_pt_ne (fun z => h.1 z.symm)
theorem clr_sto : ∀ {vs : List Nat} {s : St}, (clr vs s).sto = s.sto
  | [], s => rfl
  | v :: vs, s => by show (clr vs (s.put v .em)).sto = _; rw [clr_sto]; rfl
theorem rst_sto : ∀ {vs : List Nat} {ws : List SV} {s : St}, (rst vs ws s).sto = s.sto
  | [], _, s => by cases ‹List SV› <;> rfl
  | v :: vs, [], s => rfl
  | v :: vs, w :: ws, s => by show (rst vs ws (s.put v w)).sto = _; rw [rst_sto]; rfl
theorem rst_len : ∀ {vs : List Nat} {ws : List SV} {s : St}, (rst vs ws s).sl.length = s.sl.length
  | [], _, s => by cases ‹List SV› <;> rfl
  | v :: vs, [], s => rfl
  | v :: vs, w :: ws, s => by show (rst vs ws (s.put v w)).sl.length = _; rw [rst_len]; exact pt_len
theorem rst_out {i : Nat} : ∀ {vs : List Nat} {ws : List SV} {s : St}, i ∉ vs → gt (rst vs ws s).sl i = gt s.sl i
  | [], _, s, _ => by cases ‹List SV› <;> rfl
  | v :: vs, [], s, _ => rfl
  | v :: vs, w :: ws, s, h => by
    simp only [List.mem_cons, not_or] at h
    show gt (rst vs ws (s.put v w)).sl i = _
    rw [rst_out h.2]
    exact gt_pt_ne (fun z => h.1 z.symm)
theorem rst_in {i : Nat} {s0 : St} : ∀ {vs : List Nat} {s : St}, i ∈ vs → i < s.sl.length → gt (rst vs (svs vs s0) s).sl i = gt s0.sl i
  | [], s, h, _ => by cases h
  | v :: vs, s, h, hl => by
    show gt (rst vs (svs vs s0) (s.put v (gt s0.sl v))).sl i = _
    by_cases hi : i ∈ vs
    · exact rst_in hi (by show i < (pt s.sl v _).length; rw [pt_len]; exact hl)
    · have e : i = v := by rcases List.mem_cons.1 h with h | h; exact h; exact absurd h hi
      subst e
      rw [rst_out hi]
      exact gt_pt_same hl
/-- the slots as they were -/
theorem rst_str {q : Bool} (S0 : StR U y σ H s) (ok : ssOk vs s = true) (e : Ext q y H y' H') (S : StR U y' (wipe σ vs) H' s') : StR U y' σ H' (rst vs (svs vs s) s') := by
  have hlen : s'.sl.length = s.sl.length := by rw [S.len, wipe_length, S0.len]
  refine ⟨by rw [rst_len, S.len, wipe_length], fun j hj => ?_, by rw [rst_sto]; exact S.sto, fun i a hw => ?_⟩
  · rw [rst_len] at hj
    by_cases hm : j ∈ vs
    · rw [rst_in hm hj]
      obtain ⟨o, e1, r⟩ := S0.sl j (by omega)
      refine ⟨o, e1, ?_⟩
      rcases r with r | ⟨v, e2, r⟩
      · exact .inl r
      · have := ss_nlk ok hm
        cases hs : gt s.sl j with
        | em => exact .inl rfl
        | vl d => rw [hs] at r; exact .inr ⟨v, e2, Rep.tr e.tr _ _ r⟩
        | lk d => exact absurd hs (this d)
        | bx d =>
          unfold ssOk at ok
          rw [List.all_eq_true] at ok
          have := ok j hm
          rw [hs] at this; cases this
    · rw [rst_out hm]
      obtain ⟨o, e1, r⟩ := S.sl j hj
      rw [wipe_at vs hm] at e1
      exact ⟨o, e1, r⟩
  · obtain ⟨d, h1, h2⟩ := S.lks i a hw
    have hm := wipe_in vs h2
    rw [wipe_at vs hm] at h2
    exact ⟨d, by rw [rst_out hm]; exact h1, h2⟩
/-! ### targets in a block: names, and tuples of names -/
def WF : WX := fun _ _ _ _ => False
theorem blind_wf : Blind WF := fun _ _ _ _ _ h => h
def Same (ss : List Nat) (σ σ' : L2.St) : Prop := σ'.length = σ.length ∧ ∀ j, j ∉ ss → σ'[j]? = σ[j]?
def rdGc (U : Uni) (Γ : Env) (t : Tg) : TG := fun v σ H Q => ∃ y s d, StR U y σ H s ∧ Rep U y H d v ∧ ∃ s', rT Γ t d false s = .ok () s' ∧ ∀ σ', StR U y σ' H s' → Same (tgSlots t) σ σ' → Q σ' H
def rdGcs (U : Uni) (Γ : Env) (ts : Tgs) : TGs := fun vs σ H Q => ∃ y s ds, StR U y σ H s ∧ Reps U y H ds vs ∧ ∃ s', rTs Γ ts ds s = .ok () s' ∧ ∀ σ', StR U y σ' H s' → Same (tgSlots.tgsSlots ts) σ σ' → Q σ' H
theorem Same.refl {ss : List Nat} : Same ss σ σ := ⟨rfl, fun _ _ => rfl⟩
theorem snd_cnm {i : Nat} {x : Str} {pos : Pos} (hN : X.N.Nodup) (hi : X.N[i]? = some x) (hx : Loc X.env.scope x) (hf : X.fn x = true ∨ X.env.scope.names.lookup x = some .local) : PG X (.Name x pos) (rdGc U Γ (.nm i)) :=
  PG.imp (pg_name hN hi hx hf) fun v σ H Q ⟨y, s, d, S, r, s', h, k⟩ => by
    simp only [rT] at h
    split at h
    · cases h
    · rename_i n
      cases h
      exact k _ (S.bindv r (fun d z => n d z)) ⟨by simp, fun j hj => by
        have : i ≠ j := fun z => hj (by subst z; exact List.mem_cons_self ..)
        rw [List.getElem?_set_ne this]⟩
theorem snd_cs0 : PGs X [] (rdGcs U Γ .nil) := PGs.imp pgs_nil fun vs σ H Q ⟨y, s, ds, S, r, s', h, k⟩ => by
  cases ds with
  | nil =>
    simp only [rTs] at h
    cases h
    rw [Reps] at r
    exact ⟨r, k σ S Same.refl⟩
  | cons d ds => simp only [rTs] at h; cases h
theorem snd_csc {e : Expr} {es : List Expr} {t : Tg} {ts : Tgs} (h : PG X e (rdGc U Γ t)) (hr : PGs X es (rdGcs U Γ ts)) (hs : (assignEach (e :: es) X.env).map (·.2) = assign e X.env :: (assignEach es X.env).map (·.2) := by rfl) : PGs X (e :: es) (rdGcs U Γ (.cons t ts)) :=
  PGs.imp (pgs_cons h hr hs) fun vs σ H Q ⟨y, s, ds, S, r, s', h, k⟩ => by
    cases ds with
    | nil => simp only [rTs] at h; cases h
    | cons d ds =>
      simp only [rTs] at h
      obtain ⟨v, vs', rfl, r1, r2⟩ := Reps.cons_.1 r
      cases h1 : rT Γ t d false s with
      | ok u s2 =>
        rw [h1, R.bind_ok] at h
        refine ⟨v, vs', rfl, y, s, d, S, r1, s2, h1, fun σ' S' m => ⟨y, s2, ds, S', r2, s', h, fun σ2 S2 m2 => k σ2 S2 ⟨m2.1.trans m.1, fun j hj => ?_⟩⟩⟩
        simp only [tgSlots.tgsSlots, List.mem_append, not_or] at hj
        rw [m2.2 j hj.2, m.2 j hj.1]
      | er x s2 => rw [h1] at h; cases h
      | sk => rw [h1] at h; cases h
theorem snd_ctp {es : List Expr} {ts : Tgs} {k : Nat} {pos : Pos} {n : Nat} (hK : U.K = X.K) (hc : X.calm = true) (h : PGs X es (rdGcs U Γ ts)) (hl : ts.len = n := by rfl) (hn : (assignEach es X.env).length = n := by rfl) (hst : (assignEach es X.env).findIdx? (·.1) = none := by rfl) :
    PG X (.Tuple es k pos) (rdGc U Γ (.tp ts)) :=
  PG.imp (pg_tup hc h hn hst) fun v σ H Q ⟨y, s, d, S, r, s', h, kk⟩ => by
    simp only [rT] at h
    split at h
    · rename_i ds
      split at h
      · rename_i hlen
        obtain ⟨a, xs, rfl, h1, h2⟩ := Rep.tup_.1 r
        exact ⟨a, xs, rfl, hK ▸ sqT_of h1, by rw [h2.length, hlen, hl], y, s, ds, S, h2, s', h, kk⟩
      · cases h
    · cases h
/-! ### ifs -/
def rdC (U : Uni) (W : WX) (Γ : Env) (c : Exo) : TT := fun σ H Q => ∃ y s, StR U y σ H s ∧ wp U W (qX c) y H σ (rC Γ c s) (fun b _ _ H' => Q b H')
theorem PTs.imp {ifs : List Expr} {t t' : TT} (h : PTs X ifs t) (f : ∀ σ H Q, t' σ H Q → t σ H Q) : PTs X ifs t' := ⟨fun pins s σ H Q I w => h.run pins s σ H Q I (f σ H Q w)⟩
theorem snd_c0 : PTs X [] (rdC U W Γ .no) := PTs.imp pts_nil fun σ H Q ⟨y, s, S, w⟩ => by
  simp only [rC] at w
  exact w.ok S
theorem snd_c1 {c : Expr} {ic : Ex} (h : PT X c (rdT U W Γ ic)) : PTs X [c] (rdC U W Γ (.yes ic)) := PTs.imp (pts_one h) fun σ H Q ⟨y, s, S, w⟩ => ⟨y, s, S, by
  have e : rC Γ (.yes ic) s = truR (rE Γ ic s) := by
    simp only [rC]; rfl
  rw [e] at w; exact w⟩
/-! ### the loop -/
abbrev lcF (Γ : Env) (t : Tg) (c : Exo) (e : Ex) : Pyl.D → St → R (Option Pyl.D) := fun x s => (rT Γ t x false s).bind fun _ s => (rC Γ c s).bind fun b s => if b then (rE Γ e s).bind fun y s => clrR (tgSlots t) (some y.1) s else clrR (tgSlots t) none s
theorem same_wipe : ∀ {vs : List Nat} {σ σ' : L2.St}, Same vs (wipe σ vs) σ' → wipe σ' vs = wipe σ vs := fun {vs σ σ'} h => by
  apply List.ext_getElem?
  intro j
  by_cases hj : j ∈ vs
  · have k : ∀ (τ : L2.St) (ws : List Nat), j ∈ ws → (wipe τ ws)[j]? = if j < τ.length then some none else none := by
      intro τ ws
      induction ws with
      | nil => intro z; cases z
      | cons w ws ih =>
        intro z
        show ((wipe τ ws).set w none)[j]? = _
        by_cases e : w = j
        · subst e
          by_cases hl : w < τ.length
          · rw [List.getElem?_set_self (by rw [wipe_length]; exact hl), if_pos hl]
          · rw [List.getElem?_eq_none (by rw [List.length_set, wipe_length]; omega), if_neg hl]
        · rw [List.getElem?_set_ne e]
          exact ih (by rcases List.mem_cons.1 z with z | z; exact absurd z.symm e; exact z)
    rw [k σ' vs hj, k σ vs hj]
    have := h.1
    rw [wipe_length] at this
    rw [this]
  · rw [wipe_at vs hj, h.2 j hj]
theorem lcL_acc {f : Pyl.D → St → R (Option Pyl.D)} {res : List Pyl.D} {sE : St} : ∀ {ds acc : List Pyl.D} {s : St}, lcL f ds acc s = .ok res sE → acc.length ≤ res.length ∧ res.length ≤ acc.length + ds.length
  | [], acc, s, h => by simp only [lcL] at h; cases h; simp
  | x :: xs, acc, s, h => by
    simp only [lcL] at h
    split at h
    · rename_i o s' _
      have := lcL_acc h
      cases o with
      | none => simp at this ⊢; omega
      | some d => simp at this ⊢; omega
    · cases h
theorem lc_go {J : L2.It} {t : Tg} {c : Exo} {e : Ex} {res : List Pyl.D} {sE : St} {Q : VK} {A : Addr} (hA : H1 A = none) (S2 : StR U y2 (wipe σ (tgSlots t)) H1 s2) (wk : Walk U J y2 H1 ds) (hl : ds.length < LIM) (hr : lcL (lcF Γ t c e) ds [] s2 = .ok res sE)
    (hQ : ∀ y' H', Ext false y2 H1 y' H' → StR U y' (wipe σ (tgSlots t)) H' sE → VR U H1 y' H' (.lst res, true) (.ref A) → Q (.ref A) H') :
    ∃ W' : Nat → Nat → Hp → Prop, (∃ m, W' 0 m (upd H1 A (.lst []))) ∧ ∀ i m H, W' i m H →
      (J.stop i H ∧ Q (.ref A) H) ∨ (J.go i H ∧ ∃ Nx : Hp → Prop, (∀ H', Nx H' → ∃ m', m' < m ∧ W' (i + 1) m' H') ∧ ∀ x H', J.yld i H x H' → rdGc U Γ t x (wipe σ (tgSlots t)) H' fun σ2 H2 => wipe σ2 (tgSlots t) = wipe σ (tgSlots t) ∧ rdC U WF Γ c σ2 H2 fun b H3 =>
        if b = true then rdE U WF Γ e σ2 H3 fun y H4 => ∃ acc, H4 A = some (.lst acc) ∧ acc.length < sizeLine ∧ Nx (upd H4 A (.lst (acc ++ [y]))) else Nx H3) := by
  let f := lcF Γ t c e
  let P : Nat → Hp → Prop := fun i H' => i ≤ ds.length ∧ ∃ y' s' accD acc, Ext false y2 H1 y' H' ∧ StR U y' (wipe σ (tgSlots t)) H' s' ∧ y'.own A = some .nw ∧ H' A = some (.lst acc) ∧ Reps U y' H' accD acc ∧ accD.length ≤ i ∧ lcL f (ds.drop i) accD s' = .ok res sE
  have x0 := Ext.new (q := false) (o := .lst []) S2.trk hA (some .nw)
  have f0 := Fr1.new (o := .lst []) S2.trk hA (some .nw) (.inr (.inl rfl))
  refine ⟨fun i m H' => m = ds.length - i ∧ P i H', ⟨ds.length, rfl, Nat.zero_le _, y2.set A (some .nw), s2, [], [], x0, S2.fr f0, Ly.set_same _ _ _, upd_same, Reps.nil_.2 rfl, Nat.le_refl _, hr⟩, ?_⟩
  rintro i m H3 ⟨rfl, hi, y3, s3, accD, acc, e3, S3, o3, a3, r3, l3, h3⟩
  obtain ⟨k1, k2⟩ := wk y3 H3 e3 S3.trk i
  by_cases hi' : ds.length ≤ i
  · rw [List.drop_eq_nil_of_le hi'] at h3
    simp only [lcL] at h3
    cases h3
    exact .inl ⟨k2 hi', hQ y3 H3 e3 S3 (VR.of_new hA o3 ⟨acc, a3, r3⟩)⟩
  · have hi2 : i < ds.length := by omega
    obtain ⟨g1, g2⟩ := k1 _ (List.getElem?_eq_getElem hi2)
    rw [List.drop_eq_getElem_cons hi2] at h3
    simp only [lcL] at h3
    refine .inr ⟨g1, P (i + 1), fun H' h => ⟨ds.length - (i + 1), by omega, rfl, h⟩, fun x H4 hy => ?_⟩
    obtain ⟨y4, e4, f4, r4⟩ := g2 x H4 hy
    have S4 := S3.fr f4
    obtain ⟨o4, a4⟩ := e4.ex A .nw True.intro o3
    have a4 := a4.trans a3
    have h3 : (match f ds[i] s3 with
      | .ok o s' => lcL f (ds.drop (i + 1)) (match o with | some d => accD ++ [d] | none => accD) s'
      | _ => .sk) = .ok res sE := h3
    cases hf : f ds[i] s3 with
    | er z s' => rw [hf] at h3; cases h3
    | sk => rw [hf] at h3; cases h3
    | ok o s9 =>
      rw [hf] at h3
      have hf : (rT Γ t ds[i] false s3).bind (fun _ s => (rC Γ c s).bind fun b s => if b then (rE Γ e s).bind fun y s => clrR (tgSlots t) (some y.1) s else clrR (tgSlots t) none s) = .ok o s9 := hf
      cases ht : rT Γ t ds[i] false s3 with
      | er z s' => rw [ht] at hf; cases hf
      | sk => rw [ht] at hf; cases hf
      | ok u s5 =>
        rw [ht, R.bind_ok] at hf
        refine ⟨y4, s3, ds[i], S4, r4, s5, ht, fun σ5 S5 m5 => ?_⟩
        have hw := same_wipe m5
        refine ⟨hw, ?_⟩
        cases hc : rC Γ c s5 with
        | er z s' => rw [hc] at hf; cases hf
        | sk => rw [hc] at hf; cases hf
        | ok b s6 =>
          rw [hc, R.bind_ok] at hf
          refine ⟨y4, s5, S5, ?_⟩
          rw [hc]
          intro y6 H6 e6 S6
          obtain ⟨o6, a6⟩ := e6.ex A .nw True.intro o4
          have a6 := a6.trans a4
          cases b with
          | false =>
            simp only [Bool.false_eq_true, if_false] at hf ⊢
            unfold clrR at hf
            split at hf
            rotate_left
            · cases hf
            rename_i hss
            cases hf
            have S6 := clr_str hss S6
            rw [hw] at S6
            exact ⟨hi2, y6, _, accD, acc, (e3.trans (e4.any.trans e6.any)), S6, o6, a6, (r3.tr e4.tr).tr e6.tr, by omega, h3⟩
          | true =>
            simp only [if_true] at hf ⊢
            cases he : rE Γ e s6 with
            | er z s' => rw [he] at hf; cases hf
            | sk => rw [he] at hf; cases hf
            | ok p s7 =>
              rw [he, R.bind_ok] at hf
              unfold clrR at hf
              split at hf
              rotate_left
              · cases hf
              rename_i hss
              cases hf
              refine ⟨y6, s6, S6, ?_⟩
              rw [he]
              intro y7 H7 e7 S7 v hv
              obtain ⟨y8, x8, f8, r8⟩ := hv.thaw e7 S6.trk S7.trk
              have S8 := S7.fr f8
              obtain ⟨o8, a8⟩ := x8.ex A .nw True.intro o6
              have a8 := a8.trans a6
              have fA := Fr.mut (w := some .nw) (u := .lst (acc ++ [v])) o8 a8 True.intro S8.trk
              rw [Ly.set_id o8] at fA
              have S9 := (S8.fr (fA.more fun w hw => by rcases hw with h | h; exact h; cases h; rfl))
              have S9 := clr_str hss S9
              rw [hw] at S9
              have eAll := e3.trans (e4.any.trans (e6.any.trans x8.any))
              have racc := ((r3.tr e4.tr).tr e6.tr).tr x8.tr
              refine ⟨acc, a8, ?_, hi2, y8, _, accD ++ [p.1], acc ++ [v], ?_, S9, o8, upd_same, (racc.tr fA.tr).app (Reps.one (Rep.tr fA.tr _ _ r8)), by simp; omega, h3⟩
              · rw [r3.length]
                have := lim_line
                omega
              · refine ⟨eAll.tr.trans fA.tr, fun a w ow h => ?_, fun a h => ?_, fun z => by cases z⟩
                · obtain ⟨p1, p2⟩ := eAll.ex a w ow h
                  have n : a ≠ A := fun z => by subst z; exact S2.trk _ _ h hA
                  exact ⟨p1, by rw [upd_ne n]; exact p2⟩
                · by_cases n : a = A
                  · rw [n, upd_same]; intro z; cases z
                  · rw [upd_ne n]; exact eAll.kt a h
/-- a comprehension over known items -/
def lcB (Γ : Env) (t : Tg) (c : Exo) (e : Ex) (ds : List Pyl.D) (ods : List OD) (s : St) : R (Pyl.D × Bool) := if ds.length < LIM && ssOk (tgSlots t) s then
    (lcL (lcF Γ t c e) ds [] (lockAll ods (clr (tgSlots t) s)).2).bind fun ds s' => .ok (.lst ds, true) (rst (tgSlots t) (svs (tgSlots t) s) (unlockAll (lockAll ods (clr (tgSlots t) s)).1 s'))
  else .sk
theorem rE_lc {t : Tg} {it : Pyl.It} {c : Exo} {e : Ex} : rE Γ (.lc t it c e) s = (rI Γ it s).bind fun p s => lcB Γ t c e p.1 p.2 s := by simp only [rE]; rfl
theorem lcL_er {f : Pyl.D → St → R (Option Pyl.D)} {x : Xn} {sE : St} : ∀ {ds acc : List Pyl.D} {s : St}, lcL f ds acc s ≠ .er x sE
  | [], acc, s, h => by simp only [lcL] at h; cases h
  | x :: xs, acc, s, h => by
    simp only [lcL] at h
    split at h
    · exact lcL_er h
    · cases h
/-- what a comprehension's reading wants of its iterator -/
abbrev LcR (U : Uni) (Γ : Env) (t : Tg) (c : Exo) (e : Ex) (σ : L2.St) (Q : VK) : L2.It → Hp → Prop := fun J H1 => ∀ A, H1 A = none → ∃ W' : Nat → Nat → Hp → Prop, (∃ m, W' 0 m (upd H1 A (.lst []))) ∧ ∀ i m H, W' i m H →
      (J.stop i H ∧ Q (.ref A) H) ∨ (J.go i H ∧ ∃ Nx : Hp → Prop, (∀ H', Nx H' → ∃ m', m' < m ∧ W' (i + 1) m' H') ∧ ∀ x H', J.yld i H x H' → rdGc U Γ t x (wipe σ (tgSlots t)) H' fun σ2 H2 => wipe σ2 (tgSlots t) = wipe σ (tgSlots t) ∧ rdC U WF Γ c σ2 H2 fun b H3 =>
        if b = true then rdE U WF Γ e σ2 H3 fun y H4 => ∃ acc, H4 A = some (.lst acc) ∧ acc.length < sizeLine ∧ Nx (upd H4 A (.lst (acc ++ [y]))) else Nx H3)
theorem lc_core1 {J : L2.It} {t : Tg} {c : Exo} {e : Ex} {ods : List OD} {Q : VK} (S1 : StR U y1 σ H1 s1) (e1 : Ext false y H y1 H1) (w : wp U W false y H σ (lcB Γ t c e ds ods s1) (QE U H Q))
    (src : ssOk (tgSlots t) s1 = true → StR U y1 (wipe σ (tgSlots t)) H1 (clr (tgSlots t) s1) → ∃ y2, StR U y2 (wipe σ (tgSlots t)) H1 (lockAll ods (clr (tgSlots t) s1)).2 ∧ Unl U y1 H1 y2 H1 (unlockAll (lockAll ods (clr (tgSlots t) s1)).1) ∧ Walk U J y2 H1 ds) : LcR U Γ t c e σ Q J H1 := by
  intro A hA
  unfold lcB at w
  split at w
  · rename_i hcond
    simp only [Bool.and_eq_true, decide_eq_true_eq] at hcond
    obtain ⟨hl, hss⟩ := hcond
    obtain ⟨y2, S2, hu, wk⟩ := src hss (clr_str hss S1)
    cases hr : lcL (lcF Γ t c e) ds [] (lockAll ods (clr (tgSlots t) s1)).2 with
    | er x sE => exact absurd hr lcL_er
    | sk => rw [hr] at w; exact w.elim
    | ok res sE =>
      rw [hr, R.bind_ok] at w
      refine lc_go hA S2 wk hl hr fun y' H' ex S' hv => ?_
      obtain ⟨y3, x3, S3, k3⟩ := hu y' H' _ sE ex S'
      exact w.at (e1.trans x3) (rst_str S1 hss x3 S3) _ ((k3 _ _ hv).lower e1.kt)
  · exact w.elim
/-- a row without locks -/
theorem lc_src0 {J : L2.It} {t : Tg} (wk : Walk U J y1 H1 ds) : ssOk (tgSlots t) s1 = true → StR U y1 (wipe σ (tgSlots t)) H1 (clr (tgSlots t) s1) → ∃ y2, StR U y2 (wipe σ (tgSlots t)) H1 (lockAll [] (clr (tgSlots t) s1)).2 ∧ Unl U y1 H1 y2 H1 (unlockAll (lockAll [] (clr (tgSlots t) s1)).1) ∧ Walk U J y2 H1 ds :=
  fun _ S => ⟨y1, S, Unl.id, wk⟩
/-- the operand is not one of the block's own slots -/
def OD.apart (vs : List Nat) : OD → Bool
  | .sl i => !vs.contains i
  | _ => true
def On.apart (vs : List Nat) : On → Bool
  | .pk i => !vs.contains i
  | _ => true
theorem od_apart {io : On} {x : OD} (h : io.apart vs = true) (hr : rO Γ io s = .ok x s') : x.apart vs = true := by
  cases io with
  | ex e =>
    simp only [rO] at hr
    cases he : rE Γ e s with
    | ok p t => rw [he] at hr; cases hr; rfl
    | er x t => rw [he] at hr; cases hr
    | sk => rw [he] at hr; cases hr
  | pk i =>
    simp only [rO] at hr
    split at hr
    · cases hr
    · cases hr; exact h
  | pf i f =>
    simp only [rO] at hr
    split at hr
    · split at hr <;> cases hr; rfl
    · split at hr <;> cases hr; rfl
    · cases hr
theorem apart_get {x : OD} (h : x.apart vs = true) : x.get (clr vs s) = x.get s := by
  cases x with
  | im d fr => rfl
  | sl i =>
    have h : i ∉ vs := by simpa [OD.apart] using h
    simp only [OD.get, clr_at h]
  | fd n f => simp only [OD.get, St.fld, clr_sto]
theorem apart_odr {x : OD} {v : V} (h : x.apart vs = true) (hv : ODR U H0 y H σ x v) : ODR U H0 y H (wipe σ vs) x v := by
  cases x with
  | im d fr => exact hv
  | sl i =>
    have h : i ∉ vs := by simpa [OD.apart] using h
    show (wipe σ vs)[i]? = _
    rw [wipe_at vs h]; exact hv
  | fd n f => exact hv
end
end Pyl
set_option Elab.async false
set_option linter.all false
set_option maxRecDepth 100000
set_option maxHeartbeats 2000000
/-! SndLc2: the shapes of comprehensions. -/
namespace Pyl
open PySem PySem.Spec PyProof.Rows L2
section
variable {U : Uni} {W : WX} {Γ : Env} {X : Cx} {σ σ' : L2.St} {H H' H0 H1 H2 : Hp} {y y' y1 y2 : Ly} {s s' s1 s2 : St} {q : Bool} {D : Ends} {ds : List Pyl.D} {kvs : List (Ky × Pyl.D)} {vs : List Nat}
variable {tg iter elt : Expr} {ifs : List Expr} {scope : Scope} {own : List (Str × Nat)} {pos spos : Pos} {t : Tg} {it : Pyl.It} {c : Exo} {e : Ex} {wi : TI}
/-- what a comprehension's shape is to show -/
abbrev LcOk (U : Uni) (W : WX) (Γ : Env) (t : Tg) (it : Pyl.It) (c : Exo) (e : Ex) (wi : TI) : Prop := ∀ (σ : L2.St) (H : Hp) (Q : VK) (y : Ly) (s : St), StR U y σ H s → wp U W false y H σ (rE Γ (.lc t it c e) s) (QE U H Q) → wi σ H (LcR U Γ t c e σ Q)
/-- the block's parts -/
structure Blk (U : Uni) (Γ : Env) (X : Cx) (tg elt : Expr) (ifs : List Expr) (scope : Scope) (own : List (Str × Nat)) (t : Tg) (c : Exo) (e : Ex) : Prop where
  ok : BlkOk X.N X.env.scope scope own
  vs : own.map (·.2) = tgSlots t
  g : ∀ (s : Shared) (H : Hp) (C : Addr) (cl : List (Str × Addr)) (fp : List Addr), PG (X.blk s H scope (compEnvC scope cl C X.env) fp) tg (rdGc U Γ t)
  t : ∀ (s : Shared) (H : Hp) (C : Addr) (cl : List (Str × Addr)) (fp : List Addr), PTs (X.blk s H scope (compEnvC scope cl C X.env) fp) ifs (rdC U WF Γ c)
  e : ∀ (s : Shared) (H : Hp) (C : Addr) (cl : List (Str × Addr)) (fp : List Addr), PE (X.blk s H scope (compEnvC scope cl C X.env) fp) elt (rdE U WF Γ e)
theorem lc_pe (hc : X.calm = true) (hN : X.N.Nodup) (B : Blk U Γ X tg elt ifs scope own t c e) (hi : PI X tg iter wi) (hs : ∀ x, foldedSetIterable iter X.env x = pure x) :
    PE X (.ListComp elt [⟨tg, iter, ifs, 0⟩] scope pos) (fun σ H Q => wi σ H (LcR U Γ t c e σ Q)) := by
  have k := pe_lc (pos := pos) hc hN hi B.ok B.g B.t B.e hs
  rw [B.vs] at k
  exact k
theorem lc_ps {i : Nat} {x : Str} {py : Pos} (hc : X.calm = true) (hN : X.N.Nodup) (B : Blk U Γ X tg elt ifs scope own t c e) (hi : PI X tg iter wi) (hs : ∀ x, foldedSetIterable iter X.env x = pure x) (hy : X.N[i]? = some x) (hyl : X.env.scope.names.lookup x = some .local)
    (hsw : swapsWith (.ListComp elt [⟨tg, iter, ifs, 0⟩] scope pos) (some (.Name x py)) spos.line X.env = pure true) :
    PS X (.Assign [.Name x py] (.ListComp elt [⟨tg, iter, ifs, 0⟩] scope pos) spos) (fun D σ H => wi σ H (LcR U Γ t c e σ fun v H1 => D.nx (σ.set i (some v)) H1)) := by
  have k := ps_setLc hc hN hy hyl hsw hi B.ok B.g B.t B.e hs
  rw [B.vs] at k
  exact k
/-- a value into a name -/
theorem rdG_nm {tt : Tg} {i : Nat} {v : V} {Q : L2.St → Hp → Prop} (ht : tt.nmIx = some i) (h : rdG U W Γ tt v σ H Q) : Q (σ.set i (some v)) H := by
  obtain ⟨y, s, d, fr, S, hv, w⟩ := h
  cases hr : rT Γ tt d fr s with
  | ok u s' =>
    rw [hr] at w
    obtain ⟨y', e, S'⟩ := bindT (p := (d, fr)) ht hr S hv
    exact w y' H _ e S'
  | er x s' => exact (rT_nm (p := (d, fr)) ht hr).elim
  | sk => rw [hr] at w; exact w.elim
theorem asg_wp {tt : Tg} {i : Nat} {ie : Ex} (ht : tt.nmIx = some i) (hq : qE ie = false) (S : StR U y σ H s) (w : wpS U W y H (rS Γ (.asg tt ie) s) D) : wp U W false y H σ (rE Γ ie s) (QE U H fun v H1 => D.nx (σ.set i (some v)) H1) := by
  obtain ⟨y', s', S', w'⟩ : rdE U W Γ ie σ H _ := asg_core (t := tt) S w
  simp only [rS] at w
  cases hr : rE Γ ie s with
  | ok p s1 =>
    rw [hr] at w
    intro y1 H1 e1 S1 v hv
    refine rdG_nm (U := U) (W := W) (Γ := Γ) ht ⟨y1, s1, p.1, p.2, S1, hv.vn, ?_⟩
    simp only [R.andS_ok] at w
    exact w.tg e1 S.trk hv.fresh fun s' y' H' σ' _ ex S' w2 => w2 y' H' σ' ex S'
  | er x s1 => rw [hr] at w; exact fun y1 H1 cls dd e1 S1 z => w y1 H1 σ cls dd e1 S1 z
  | sk => rw [hr] at w; exact w.elim
theorem snd_lc (hc : X.calm = true) (hN : X.N.Nodup) (B : Blk U Γ X tg elt ifs scope own t c e) (hi : PI X tg iter wi) (h : LcOk U W Γ t it c e wi) (hs : ∀ x, foldedSetIterable iter X.env x = pure x := by intro _; rfl) :
    PE X (.ListComp elt [⟨tg, iter, ifs, 0⟩] scope pos) (rdE U W Γ (.lc t it c e)) := PE.imp (lc_pe hc hN B hi hs) fun σ H Q ⟨y, s, S, w⟩ => h σ H Q y s S w
theorem snd_setLc {tt : Tg} {i : Nat} {x : Str} {py : Pos} (hc : X.calm = true) (hN : X.N.Nodup) (B : Blk U Γ X tg elt ifs scope own t c e) (hi : PI X tg iter wi) (h : LcOk U W Γ t it c e wi) (ht : tt.nmIx = some i) (hy : X.N[i]? = some x) (hyl : X.env.scope.names.lookup x = some .local)
    (hsw : swapsWith (.ListComp elt [⟨tg, iter, ifs, 0⟩] scope pos) (some (.Name x py)) spos.line X.env = pure true) (hs : ∀ x, foldedSetIterable iter X.env x = pure x := by intro _; rfl) :
    PS X (.Assign [.Name x py] (.ListComp elt [⟨tg, iter, ifs, 0⟩] scope pos) spos) (rdS U W Γ (.asg tt (.lc t it c e))) :=
  PS.imp (lc_ps hc hN B hi hs hy hyl hsw) fun D σ H ⟨y, s, S, w⟩ => h σ H _ y s S (asg_wp ht rfl S w)
/-! ### shapes without locks of dicts -/
theorem lcok_r1 {ia : Ex} : LcOk U W Γ t (.r1 ia) c e (iRng1 (tCons (rdE U W Γ ia) tNil)) := fun σ H Q y s S w => by
  rw [rE_lc] at w
  simp only [rI] at w
  have w : wp U W false y H σ ((rE Γ ia s).bind fun x s => match x.1 with
    | .int n => if rOk n ∧ n ≤ LIM then lcB Γ t c e (rangeL 0 1 n.toNat) [] s else .sk
    | _ => .sk) (QE U H Q) := by
    cases hr : rE Γ ia s with
    | er x t => rw [hr] at w; exact w
    | sk => rw [hr] at w; exact w
    | ok p t' =>
      rw [hr] at w
      obtain ⟨d, fr⟩ := p
      simp only [R.bind_ok] at w ⊢
      cases d with
      | int n =>
        simp only at w ⊢
        split
        · rename_i hn; rw [if_pos hn] at w; exact w
        · rename_i hn; rw [if_neg hn] at w; exact w
      | _ => exact w
  refine rdE.seq (q := false) S w (fun z => by cases z) fun p s1 y1 H1 _ e1 S1 w1 v hv => ?_
  obtain ⟨d, fr⟩ := p
  cases d with
  | int n =>
    simp only at w1
    split at w1
    · rename_i hn
      have := hn.1
      unfold rOk at this
      exact ⟨n, by rw [hv.int], by omega, by omega, lc_core1 S1 e1.any w1 (lc_src0 walk_r)⟩
    · exact w1.elim
  | _ => exact w1.elim
theorem lcok_r2 {ia ib : Ex} : LcOk U W Γ t (.r2 ia ib) c e (iRng2 (tCons (rdE U W Γ ia) (tCons (rdE U W Γ ib) tNil))) := fun σ H Q y s S w => by
  rw [rE_lc] at w
  simp only [rI] at w
  have w : wp U W false y H σ ((rE Γ ia s).bind fun x s => (rE Γ ib s).bind fun z s => match x.1, z.1 with
    | .int i, .int j => if rOk i ∧ rOk j ∧ j - i ≤ LIM then lcB Γ t c e (rangeL i 1 (j - i).toNat) [] s else .sk
    | _, _ => .sk) (QE U H Q) := by
    cases hr : rE Γ ia s with
    | er x t => rw [hr] at w; exact w
    | sk => rw [hr] at w; exact w
    | ok p t' =>
      rw [hr] at w
      simp only [R.bind_ok] at w ⊢
      cases hr2 : rE Γ ib t' with
      | er x t => rw [hr2] at w; exact w
      | sk => rw [hr2] at w; exact w
      | ok p2 t2 =>
        rw [hr2] at w
        obtain ⟨d, fr⟩ := p
        obtain ⟨d2, fr2⟩ := p2
        simp only [R.bind_ok] at w ⊢
        cases d with
        | int n =>
          cases d2 with
          | int m =>
            simp only at w ⊢
            split
            · rename_i hn; rw [if_pos hn] at w; exact w
            · rename_i hn; rw [if_neg hn] at w; exact w
          | _ => exact w
        | _ => exact w
  refine rdE.seq (q := false) S w (fun z => by cases z) fun p s1 y1 H1 _ e1 S1 w1 v hv => ?_
  refine rdE.seq (q := false) S1 (w1.base e1.any fun z => by cases z) (fun z => by cases z) fun p2 s2 y2 H2 _ e2 S2 w2 v2 hv2 => ?_
  obtain ⟨d, fr⟩ := p
  obtain ⟨d2, fr2⟩ := p2
  cases d with
  | int i =>
    cases d2 with
    | int j =>
      simp only at w2
      split at w2
      · rename_i hn
        have h1 := hn.1
        have h2 := hn.2.1
        unfold rOk at h1 h2
        refine ⟨i, j, by rw [hv.int, hv2.int], ⟨by omega, by omega, by omega, by omega⟩, lc_core1 (y := y1) (H := H1) S2 e2.any (w2.mono fun p s3 y3 H3 _ e3 S3 h v hv => h v (hv.lower e1.kt)) (lc_src0 walk_r)⟩
      · exact w2.elim
    | _ => exact w2.elim
  | _ => exact w2.elim
/-- over a row that stands at an operand, no dict -/
theorem lc_on {io : On} (hK : U.K = X.K) (ha : io.apart (tgSlots t) = true) (S : StR U y σ H s) (hnd : ∀ x s1 kvs, rO Γ io s = .ok x s1 → x.get s1 ≠ some (.dct kvs)) {Q : VK} (w : wp U W false y H σ (rE Γ (.lc t (.on io) c e) s) (QE U H Q)) : wOn X.K (rdO U W Γ io) σ H (LcR U Γ t c e σ Q) := by
  rw [rE_lc] at w
  simp only [rI] at w
  cases hr : rO Γ io s with
  | sk => rw [hr] at w; exact w.elim
  | er x s1 =>
    rw [hr] at w
    exact .inl (rdO_er S hr w)
  | ok x s1 =>
    have hnd := hnd x s1
    have hap := od_apart ha hr
    rw [hr] at w
    simp only [R.bind_ok] at w
    have p1 : ∀ {y' : Ly} {H' : Hp} {v : V} {d : Pyl.D}, StR U y' σ H' s1 → ODR U H y' H' σ x v → x.get s1 = some d → PV U y' H' d v := fun S' hv g => hv.later (Ext.refl true _ _) S' (fun _ => rfl) g
    have nol : ∀ {y1 : Ly} {H1 : Hp} {v : V} {d : Pyl.D}, (∀ ds, d ≠ .lst ds) → (∀ kvs, d ≠ .dct kvs) → StR U y1 (wipe σ (tgSlots t)) H1 (clr (tgSlots t) s1) → ODR U H y1 H1 σ x v → x.get s1 = some d → lockAll [x] (clr (tgSlots t) s1) = ([], clr (tgSlots t) s1) := fun h1 h2 Sc hv g =>
      lock1_none (nolock_other Sc (apart_odr hap hv) (by rw [apart_get hap]; exact g) h1 h2)
    split at w
    · rename_i ds g
      refine .inl (rdO_ok S hr fun y1 H1 e1 S1 v hv => ?_)
      have pv := p1 S1 hv g
      obtain ⟨a, xs, rfl, h1, _⟩ := pv.lst
      refine ⟨a, rfl, ⟨xs, .of h1⟩, lc_core1 S1 e1.any w fun _ Sc => ?_⟩
      obtain ⟨a', xs', y2, e', x2, S2, r2, st, hu⟩ := src_list Sc (apart_odr hap hv) (by rw [apart_get hap]; exact g)
      cases e'
      exact ⟨y2, S2, hu, walk_l r2 fun y' H' e => .of (st y' H' e)⟩
    · rename_i ds g
      refine .inr (.inl (rdO_ok S hr fun y1 H1 e1 S1 v hv => ?_))
      have pv := p1 S1 hv g
      obtain ⟨a, xs, rfl, h1, r1, st⟩ := src_tup pv (.inl rfl)
      rw [hK] at h1 st
      refine ⟨a, rfl, ⟨xs, h1⟩, lc_core1 S1 e1.any w fun _ Sc => ⟨y1, ?_, ?_, walk_t r1 st⟩⟩
      · rw [nol (fun _ z => by cases z) (fun _ z => by cases z) Sc hv g]; exact Sc
      · rw [nol (fun _ z => by cases z) (fun _ z => by cases z) Sc hv g]; exact Unl.id
    · rename_i ds g
      refine .inl (rdO_ok S hr fun y1 H1 e1 S1 v hv => ?_)
      have pv := p1 S1 hv g
      obtain ⟨a, xs, rfl, h1, r1, st⟩ := src_kls pv
      rw [hK] at h1 st
      refine ⟨a, rfl, ⟨xs, h1⟩, lc_core1 S1 e1.any w fun _ Sc => ⟨y1, ?_, ?_, walk_l r1 st⟩⟩
      · rw [nol (fun _ z => by cases z) (fun _ z => by cases z) Sc hv g]; exact Sc
      · rw [nol (fun _ z => by cases z) (fun _ z => by cases z) Sc hv g]; exact Unl.id
    · rename_i ds g
      refine .inr (.inl (rdO_ok S hr fun y1 H1 e1 S1 v hv => ?_))
      have pv := p1 S1 hv g
      obtain ⟨a, xs, rfl, h1, r1, st⟩ := src_tup pv (.inr rfl)
      rw [hK] at h1 st
      refine ⟨a, rfl, ⟨xs, h1⟩, lc_core1 S1 e1.any w fun _ Sc => ⟨y1, ?_, ?_, walk_t r1 st⟩⟩
      · rw [nol (fun _ z => by cases z) (fun _ z => by cases z) Sc hv g]; exact Sc
      · rw [nol (fun _ z => by cases z) (fun _ z => by cases z) Sc hv g]; exact Unl.id
    · rename_i kvs g
      exact absurd g (hnd kvs hr)
    · rename_i z g
      split at w
      · refine .inr (.inr (rdO_ok S hr fun y1 H1 e1 S1 v hv => ?_))
        have := (p1 S1 hv g).str
        subst this
        exact ⟨z, rfl, lc_core1 S1 e1.any w (lc_src0 walk_s)⟩
      · exact w.elim
    · exact w.elim
theorem lcok_ex {ie : Ex} (hK : U.K = X.K) : LcOk U W Γ t (.on (.ex ie)) c e (wOn X.K (rdO U W Γ (.ex ie))) := fun σ H Q y s S w => by
  refine lc_on hK rfl S (fun x s1 kvs hr g => ?_) w
  rw [rE_lc] at w
  simp only [rI, hr, R.bind_ok, g] at w
  have him : x.isIm = true := by
    simp only [rO] at hr
    cases he : rE Γ ie s with
    | ok p s' => rw [he] at hr; cases hr; rfl
    | er x s' => rw [he] at hr; cases hr
    | sk => rw [he] at hr; cases hr
  rw [him] at w
  exact w
theorem lcok_enu {io : On} (ha : io.apart (tgSlots t) = true) : LcOk U W Γ t (.enu io) c e (iEnum X.K (tCons (rdO U W Γ io) tNil)) := fun σ H Q y s S w => by
  rw [rE_lc] at w
  simp only [rI] at w
  cases hr : rO Γ io s with
  | sk => rw [hr] at w; exact w.elim
  | er x s1 => rw [hr] at w; exact rdO_er S hr w
  | ok x s1 =>
    have hap := od_apart ha hr
    rw [hr] at w
    simp only [R.bind_ok] at w
    split at w
    · rename_i ds g
      refine rdO_ok S hr fun y1 H1 e1 S1 v hv => ?_
      obtain ⟨a, xs, rfl, h1, _⟩ := (hv.later (Ext.refl true _ _) S1 (fun _ => rfl) g).lst
      refine ⟨a, xs, rfl, .of h1, lc_core1 S1 e1.any w fun _ Sc => ?_⟩
      obtain ⟨a', xs', y2, e', x2, S2, r2, st, hu⟩ := src_list Sc (apart_odr hap hv) (by rw [apart_get hap]; exact g)
      cases e'
      exact ⟨y2, S2, hu, walk_e r2 fun y' H' e => .of (st y' H' e)⟩
    · exact w.elim
theorem lcok_zp {io io2 : On} (ha : io.apart (tgSlots t) = true) (ha2 : io2.apart (tgSlots t) = true) (hpf : (!io.isPf || qO io2) = true) : LcOk U W Γ t (.zp io io2) c e (iZip X.K (tCons (rdO U W Γ io) (tCons (rdO U W Γ io2) tNil))) := fun σ H Q y s S w => by
  rw [rE_lc] at w
  simp only [rI] at w
  cases hr : rO Γ io s with
  | sk => rw [hr] at w; exact w.elim
  | er x s1 => rw [hr] at w; exact rdO_er S hr w
  | ok x s1 =>
    have hap := od_apart ha hr
    rw [hr] at w
    simp only [R.bind_ok] at w
    refine rdO_ok S hr fun y1 H1 e1 S1 v hv => ?_
    cases hr2 : rO Γ io2 s1 with
    | sk => rw [hr2] at w; exact w.elim
    | er x s2 => rw [hr2] at w; exact rdO_er S1 hr2 fun y2 H2 cls dd e2 S2 z => w y2 H2 cls dd (e1.any.trans e2) S2 z
    | ok z s2 =>
      have hap2 := od_apart ha2 hr2
      rw [hr2] at w
      simp only [R.bind_ok] at w
      refine rdO_ok S1 hr2 fun y2 H2 e2 S2 v2 hv2 => ?_
      split at w
      · rename_i ds es g1 g2
        have hv1 := odr_ext hv e2 fun z => by
          obtain ⟨n, f, rfl⟩ := z
          have := rO_fd hr
          simp [this] at hpf; exact hpf
        obtain ⟨a, xs, rfl, h1, _⟩ := (hv1.later (Ext.refl true _ _) S2 (fun _ => rfl) g1).lst
        obtain ⟨b, zs, rfl, h2, _⟩ := (hv2.later (Ext.refl true _ _) S2 (fun _ => rfl) g2).lst
        refine ⟨a, b, xs, zs, rfl, .of h1, .of h2, lc_core1 S2 (e1.any.trans e2.any) w fun _ Sc => ?_⟩
        obtain ⟨a', c', xs', zs', y3, e', e'', S3, r1, r2, st1, st2, hu⟩ := src_zip Sc (apart_odr hap hv1) (apart_odr hap2 hv2) (by rw [apart_get hap]; exact g1) (by rw [apart_get hap2]; exact g2)
        cases e'; cases e''
        exact ⟨y3, S3, hu, walk_z r1 r2 (fun y' H' e => .of (st1 y' H' e)) fun y' H' e => .of (st2 y' H' e)⟩
      · exact w.elim
end
end Pyl
set_option Elab.async false
set_option linter.all false
set_option maxRecDepth 100000
set_option maxHeartbeats 2000000
/-! SndLc3: comprehensions over what stands at a name or a field, dicts among them. -/
namespace Pyl
open PySem PySem.Spec PyProof.Rows L2
section
variable {U : Uni} {W : WX} {Γ : Env} {X : Cx} {σ σ' : L2.St} {H H' H0 H1 H2 : Hp} {y y' y1 y2 : Ly} {s s' s1 s2 : St} {q : Bool} {D : Ends} {ds : List Pyl.D} {kvs : List (Ky × Pyl.D)} {vs : List Nat}
variable {tg iter elt : Expr} {ifs : List Expr} {scope : Scope} {own : List (Str × Nat)} {pos spos : Pos} {t : Tg} {it : Pyl.It} {c : Exo} {e : Ex} {wi : TI}
theorem pt_comm : ∀ {l : List SV} {i j : Nat} {v w : SV}, i ≠ j → pt (pt l i v) j w = pt (pt l j w) i v
  | [], _, _, _, _, _ => rfl
  | _ :: _, 0, 0, _, _, h => absurd rfl h
  | _ :: _, 0, j + 1, _, _, _ => rfl
  | _ :: _, i + 1, 0, _, _, _ => rfl
  | x :: l, i + 1, j + 1, v, w, h => by simp only [pt]; rw [pt_comm (l := l) (by omega)]
theorem put_clr {i : Nat} {v : SV} : ∀ {vs : List Nat} {s : St}, i ∉ vs → clr vs (s.put i v) = (clr vs s).put i v
  | [], s, _ => rfl
  | j :: vs, s, h => by
    simp only [List.mem_cons, not_or] at h
    show clr vs ((s.put i v).put j .em) = _
    have : (s.put i v).put j .em = (s.put j .em).put i v := by
      simp only [St.put]
      rw [pt_comm h.1]
    rw [this, put_clr h.2]
    rfl
theorem setf_clr {n f : Nat} {v : SV} : ∀ {vs : List Nat} {s : St}, clr vs (s.setf n f v) = (clr vs s).setf n f v
  | [], s => rfl
  | j :: vs, s => by
    show clr vs ((s.setf n f v).put j .em) = (clr vs (s.put j .em)).setf n f v
    rw [← setf_clr]
    congr 1
    unfold St.setf
    simp only [St.put]
    split <;> rfl
theorem clr_lock {x : OD} (h : x.apart vs = true) : x.lock (clr vs s) = ((x.lock s).1, clr vs (x.lock s).2) := by
  cases x with
  | im d fr => rfl
  | sl i =>
    have h : i ∉ vs := by simpa [OD.apart] using h
    simp only [OD.lock, clr_at h]
    split
    · rw [put_clr h]
    · rfl
  | fd n f =>
    simp only [OD.lock, St.fld, clr_sto]
    split
    · rw [← setf_clr]
    · rfl
theorem ss_lock {x : OD} (h : x.apart vs = true) : ssOk vs (x.lock s).2 = ssOk vs s := by
  have k : ∀ j ∈ vs, gt (x.lock s).2.sl j = gt s.sl j := by
    intro j hj
    cases x with
    | im d fr => rfl
    | sl i =>
      have h : i ∉ vs := by simpa [OD.apart] using h
      simp only [OD.lock]
      split
      · exact gt_pt_ne fun z => h (by rw [z]; exact hj)
      · rfl
    | fd n f =>
      simp only [OD.lock]
      split
      · show gt (s.setf n f _).sl j = _
        unfold St.setf
        split <;> rfl
      · rfl
  unfold ssOk
  have : ∀ (l : List Nat), (∀ j ∈ l, j ∈ vs) → (l.all fun i => match gt (x.lock s).2.sl i with | .em | .vl _ => true | _ => false) = l.all fun i => match gt s.sl i with | .em | .vl _ => true | _ => false := by
    intro l
    induction l with
    | nil => intro _; rfl
    | cons a l ih =>
      intro hl
      simp only [List.all_cons]
      rw [ih fun j hj => hl j (List.mem_cons_of_mem _ hj), k a (hl a (List.mem_cons_self ..))]
  exact this vs fun j hj => hj
/-- a dict at an operand, as a comprehension walks it -/
theorem dict_lc {io : On} {x : OD} {g : List (Ky × Pyl.D) → List Pyl.D} {okk : List (Ky × Pyl.D) → Bool} {Q : VK} (hsp : ∀ σ H R, rdO U W Γ io σ H (fun v H1 => ∃ y1 kvs, LkDct U y1 H1 kvs v ∧ okk kvs = true ∧ ∀ J, Walk U J y1 H1 (g kvs) → R J H1) → wi σ H R)
    (hio : io.isOp = true) (hap : io.apart (tgSlots t) = true) (S : StR U y σ H s) (hr : rO Γ io s = .ok x s) (him : ∀ d fr, x ≠ .im d fr) (hget : x.get s = some (.dct kvs)) (hok : okk kvs = true) (w : wp U W false y H σ (lcB Γ t c e (g kvs) [x] s) (QE U H Q)) :
    wi σ H (LcR U Γ t c e σ Q) ∨ (∃ d u, H d = some u ∧ Mut (some u) ∧ ∀ od, wi σ (upd H d (.frz od u)) (LcR U Γ t c e σ Q)) ∨
    ∃ d u, H d = some u ∧ Mut (some u) ∧ ∀ od, wi σ (upd H d (.frz od u)) (LcR U Γ t c e σ fun v H' => H' d = some (.frz od u) ∧ Q v (upd H' d u)) := by
  obtain ⟨v, hv⟩ := rO_odr (H0 := H) hio S hr
  have hx := od_apart hap hr
  have hq : qO io = true := by cases io <;> first | rfl | cases hio
  have nolk : x.lock s = (false, s) → ∀ {y1 : Ly} {H1 : Hp}, Ext false y H y1 H1 → StR U y1 σ H1 s → LkDct U y1 H1 kvs v → ODR U H y1 H1 σ x v → wi σ H1 (LcR U Γ t c e σ Q) := fun hl y1 H1 e1 S1 lk hv1 => by
    refine hsp σ H1 _ (rdO_ok S1 hr fun y2 H2 e2 S2 v2 hv2 => ?_)
    rw [hq] at e2
    have := odr_same him hv1 e2 hv2
    subst this
    refine ⟨y2, kvs, ?_, hok, fun J wk => ?_⟩
    · obtain ⟨a, o, e, lk⟩ := lk
      refine ⟨a, o, e, ?_⟩
      rcases lk with ⟨kk, h1, h2, h3⟩ | ⟨kk, h1, h2, h3⟩
      · exact .inl ⟨kk, fun y' H' ex => h1 y' H' (e2.any.trans ex), h2, Repk.tr e2.tr _ _ h3⟩
      · exact .inr ⟨kk, fun y' H' ex => h1 y' H' (e2.any.trans ex), h2, Repk.tr e2.tr _ _ h3.1, h3.2⟩
    · have hl1 : lockAll [x] (clr (tgSlots t) s) = ([], clr (tgSlots t) s) := lock1_none (by rw [clr_lock hx, hl])
      exact lc_core1 S2 (e1.trans e2.any) w fun _ Sc => ⟨y2, by rw [hl1]; exact Sc, by rw [hl1]; exact Unl.id, wk⟩
  rcases src_dict S hv him hget with ⟨hl, lk⟩ | ⟨hl, a, u, rfl, ha, hu, k⟩ | ⟨hl, a, u, l, rfl, ha, hu, k⟩
  · exact .inl (nolk hl (Ext.refl _ _ _) S lk hv)
  · refine .inr (.inl ⟨a, u, ha, mut_dct hu, fun od => ?_⟩)
    obtain ⟨S1, e1, lk⟩ := k od
    refine nolk hl e1 S1 lk ?_
    cases x with
    | im d fr => exact absurd rfl (him d fr)
    | sl i => exact hv
    | fd n f =>
      obtain ⟨c, C, dx, vs, k1, k2, k3⟩ := hv
      have n : c ≠ a := fun z => by rw [z, ha] at k2; cases k2; exact hu
      exact ⟨c, C, dx, vs, k1, by rw [upd_ne n]; exact k2, k3⟩
  · refine .inr (.inr ⟨a, u, ha, mut_dct hu, fun od => ?_⟩)
    obtain ⟨S1, lk, un⟩ := k od
    refine hsp σ _ _ (rdO_ok S1 (rO_lock hio hr hl) fun y2 H2 e2 S2 v2 hv2 => ?_)
    rw [hq] at e2
    have hv1 : ODR U H (y.set a (some l)) (upd H a (.frz od u)) σ x (.ref a) := by
      cases x with
      | im d fr => exact absurd rfl (him d fr)
      | sl i => exact hv
      | fd n f =>
        obtain ⟨c, C, dx, vs, k1, k2, k3⟩ := hv
        have n : c ≠ a := fun z => by rw [z, ha] at k2; cases k2; exact hu
        exact ⟨c, C, dx, vs, k1, by rw [upd_ne n]; exact k2, k3⟩
    have := odr_same him hv1 e2 hv2
    subst this
    refine ⟨y2, kvs, ?_, hok, fun J wk => ?_⟩
    · obtain ⟨a, o, e, lk⟩ := lk
      refine ⟨a, o, e, ?_⟩
      rcases lk with ⟨kk, h1, h2, h3⟩ | ⟨kk, h1, h2, h3⟩
      · exact .inl ⟨kk, fun y' H' ex => h1 y' H' (e2.any.trans ex), h2, Repk.tr e2.tr _ _ h3⟩
      · exact .inr ⟨kk, fun y' H' ex => h1 y' H' (e2.any.trans ex), h2, Repk.tr e2.tr _ _ h3.1, h3.2⟩
    · intro A hA
      unfold lcB at w
      split at w
      · rename_i hcond
        simp only [Bool.and_eq_true, decide_eq_true_eq] at hcond
        obtain ⟨hlen, hss⟩ := hcond
        have hla : lockAll [x] (clr (tgSlots t) s) = ([x], clr (tgSlots t) (x.lock s).2) := by
          simp only [lockAll, clr_lock hx, hl, if_true]
        rw [hla] at w
        have Sc := clr_str (vs := tgSlots t) (by rw [ss_lock hx]; exact hss) S2
        cases hlc : lcL (lcF Γ t c e) (g kvs) [] (clr (tgSlots t) (x.lock s).2) with
        | er z sE => exact absurd hlc lcL_er
        | sk => rw [hlc] at w; exact w.elim
        | ok res sE =>
          rw [hlc, R.bind_ok] at w
          refine lc_go (Q := fun v H' => H' a = some (.frz od u) ∧ Q v (upd H' a u)) hA Sc wk hlen hlc fun y' H' ex S' hv' => ?_
          obtain ⟨k1, y3, x3, S3, k3⟩ := un y' H' _ sE (e2.any.trans ex) S'
          exact ⟨k1, w.at x3 (rst_str S hss x3 S3) _ (k3 _ _ (hv'.lower e2.kt))⟩
      · exact w.elim
/-- over what stands at a name or a field: the value's comprehension -/
abbrev LcP (U : Uni) (W : WX) (Γ : Env) (t : Tg) (it : Pyl.It) (c : Exo) (e : Ex) (wi wd : TI) : Prop := ∀ (σ : L2.St) (H : Hp) (Q : VK) (y : Ly) (s : St), StR U y σ H s → wp U W false y H σ (rE Γ (.lc t it c e) s) (QE U H Q) → wi σ H (LcR U Γ t c e σ Q) ∨ wd σ H (LcR U Γ t c e σ Q) ∨ (∃ d u, H d = some u ∧ Mut (some u) ∧ ∀ od, wd σ (upd H d (.frz od u)) (LcR U Γ t c e σ Q)) ∨
    ∃ d u, H d = some u ∧ Mut (some u) ∧ ∀ od, wd σ (upd H d (.frz od u)) (LcR U Γ t c e σ fun v H' => H' d = some (.frz od u) ∧ Q v (upd H' d u))
theorem snd_lcP {wd : TI} (hc : X.calm = true) (hN : X.N.Nodup) (B : Blk U Γ X tg elt ifs scope own t c e) (hi : PI X tg iter wi) (hd : PI X tg iter wd) (h : LcP U W Γ t it c e wi wd) (hs : ∀ x, foldedSetIterable iter X.env x = pure x := by intro _; rfl) :
    PE X (.ListComp elt [⟨tg, iter, ifs, 0⟩] scope pos) (rdE U W Γ (.lc t it c e)) :=
  PE.imp (PE.or (lc_pe hc hN B hi hs) (PE.or (lc_pe hc hN B hd hs) (PE.or (pe_lockF (lc_pe hc hN B hd hs)) (pe_lock (lc_pe hc hN B hd hs))))) fun σ H Q ⟨y, s, S, w⟩ => h σ H Q y s S w
theorem snd_setLcP {wd : TI} {tt : Tg} {i : Nat} {x : Str} {py : Pos} (hc : X.calm = true) (hN : X.N.Nodup) (B : Blk U Γ X tg elt ifs scope own t c e) (hi : PI X tg iter wi) (hd : PI X tg iter wd) (h : LcP U W Γ t it c e wi wd) (ht : tt.nmIx = some i) (hy : X.N[i]? = some x) (hyl : X.env.scope.names.lookup x = some .local)
    (hsw : swapsWith (.ListComp elt [⟨tg, iter, ifs, 0⟩] scope pos) (some (.Name x py)) spos.line X.env = pure true) (hs : ∀ x, foldedSetIterable iter X.env x = pure x := by intro _; rfl) :
    PS X (.Assign [.Name x py] (.ListComp elt [⟨tg, iter, ifs, 0⟩] scope pos) spos) (rdS U W Γ (.asg tt (.lc t it c e))) :=
  PS.imp (PS.or (lc_ps hc hN B hi hs hy hyl hsw) (PS.or (lc_ps hc hN B hd hs hy hyl hsw) (PS.or (ps_lockF (lc_ps hc hN B hd hs hy hyl hsw)) (ps_lock (lc_ps hc hN B hd hs hy hyl hsw))))) fun D σ H ⟨y, s, S, w⟩ => h σ H _ y s S (asg_wp ht rfl S w)
theorem lcp_on {io : On} (hK : U.K = X.K) (hio : io.isOp = true) (ha : io.apart (tgSlots t) = true) : LcP U W Γ t (.on io) c e (wOn X.K (rdO U W Γ io)) (iKeys (rdO U W Γ io)) := fun σ H Q y s S w => by
  by_cases hd : ∃ x s1 kvs, rO Γ io s = .ok x s1 ∧ x.get s1 = some (.dct kvs)
  · obtain ⟨x, s1, kvs, hr, g⟩ := hd
    have : s1 = s := by
      rcases rO_op (Γ := Γ) (s := s) hio with ⟨x', h⟩ | h
      · rw [hr] at h; cases h; rfl
      · rw [hr] at h; cases h
    subst this
    rw [rE_lc] at w
    simp only [rI, hr, R.bind_ok, g] at w
    cases him : x.isIm with
    | true => rw [him] at w; exact w.elim
    | false =>
      rw [him] at w
      refine .inr (dict_lc (g := fun kvs => kvs.map fun p => Ky.d p.1) (okk := fun _ => true) (fun σ H R h => ?_) hio ha S hr (fun d fr z => (by subst z; cases him)) g rfl w)
      obtain ⟨y, s, S, w⟩ := h
      refine ⟨y, s, S, w.mono fun x s1 y1 H1 _ e1 S1 h v hv => ?_⟩
      obtain ⟨y2, kvs, lk, _, k⟩ := h v hv
      obtain ⟨a, o, rfl, hh⟩ := walk_keys lk
      rcases hh with ⟨kk, h1, h2⟩ | ⟨kk, h1, h2⟩
      · exact ⟨a, o, rfl, .inl ⟨kk, h1, k _ h2⟩⟩
      · exact ⟨a, o, rfl, .inr ⟨kk, h1, k _ h2⟩⟩
  · exact .inl (lc_on hK ha S (fun x s1 kvs h1 h2 => hd ⟨x, s1, kvs, h1, h2⟩) w)
theorem lcp_itm {io : On} (hio : io.isOp = true) (ha : io.apart (tgSlots t) = true) : LcP U W Γ t (.itm io) c e (iItems (rdO U W Γ io)) (iItems (rdO U W Γ io)) := fun σ H Q y s S w => by
  rw [rE_lc] at w
  simp only [rI] at w
  rcases rO_op (Γ := Γ) (s := s) hio with ⟨x, hr⟩ | hr
  · rw [hr] at w
    simp only [R.bind_ok] at w
    split at w
    · rename_i kvs g
      split at w
      · exact w.elim
      · rename_i hn
        simp only [Bool.or_eq_true, Bool.not_eq_true', not_or, Bool.not_eq_true, Bool.not_eq_false] at hn
        exact .inr (dict_lc (g := fun kvs => kvs.map fun p => .tup [Ky.d p.1, p.2]) (okk := fun kvs => kvs.all fun p => p.1.isLeft) (fun σ H R h => dict_sp h fun v H1 ⟨y1, kvs, a, o, kk, e, h1, h2, h3, k⟩ => ⟨a, o, kk, e, h1 y1 H1 (Ext.refl _ _ _), k _ (walk_it h1 h2 h3).1⟩)
          hio ha S hr (fun d fr z => (by subst z; cases hn.1)) g hn.2 w)
    · exact w.elim
  · rw [hr] at w; exact w.elim
theorem lcp_vls {io : On} (hio : io.isOp = true) (ha : io.apart (tgSlots t) = true) : LcP U W Γ t (.vls io) c e (iVals (rdO U W Γ io)) (iVals (rdO U W Γ io)) := fun σ H Q y s S w => by
  rw [rE_lc] at w
  simp only [rI] at w
  rcases rO_op (Γ := Γ) (s := s) hio with ⟨x, hr⟩ | hr
  · rw [hr] at w
    simp only [R.bind_ok] at w
    split at w
    · rename_i kvs g
      split at w
      · exact w.elim
      · rename_i hn
        simp only [Bool.or_eq_true, Bool.not_eq_true', not_or, Bool.not_eq_true, Bool.not_eq_false] at hn
        exact .inr (dict_lc (g := fun kvs => kvs.map (·.2)) (okk := fun kvs => kvs.all fun p => p.1.isLeft) (fun σ H R h => dict_sp h fun v H1 ⟨y1, kvs, a, o, kk, e, h1, h2, h3, k⟩ => ⟨a, o, kk, e, h1 y1 H1 (Ext.refl _ _ _), k _ (walk_it h1 h2 h3).2⟩)
          hio ha S hr (fun d fr z => (by subst z; cases hn.1)) g hn.2 w)
    · exact w.elim
  · rw [hr] at w; exact w.elim
end
end Pyl
set_option Elab.async false
set_option linter.all false
set_option maxRecDepth 100000
set_option maxHeartbeats 2000000
/-! SndFn: a def's body keeps its promise. -/
namespace Pyl
open PySem PySem.Spec PyProof.Rows L2
section
variable {U : Uni} {W : WX} {Γ : Env} {X : Cx} {σ σ' : L2.St} {H H' H0 H1 H2 : Hp} {y y' y1 y2 : Ly} {s s' s1 s2 : St}
theorem gt_map : ∀ {ds : List D} {r : List SV} {i : Nat} {d : D}, ds[i]? = some d → gt (ds.map .vl ++ r) i = .vl d
  | [], _, _, _, h => by simp at h
  | d :: ds, r, 0, d', h => by simp at h; subst h; rfl
  | d :: ds, r, i + 1, d', h => gt_map (ds := ds) (i := i) (by simpa using h)
theorem gt_rep : ∀ {ds : List D} {n i : Nat}, ds[i]? = none → gt (ds.map .vl ++ List.replicate n .em) i = .em
  | [], n, i, _ => by
    show gt (List.replicate n .em) i = .em
    induction n generalizing i with
    | zero => rfl
    | succ n ih =>
      cases i with
      | zero => rfl
      | succ i => exact ih (i := i) rfl
  | d :: ds, n, 0, h => by simp at h
  | d :: ds, n, i + 1, h => gt_rep (ds := ds) (i := i) (by simpa using h)
theorem start_str {N : List Str} {n : Nat} {ds : List D} {vs : List V} {sto : List Cell} (hn : n = N.length) (hl : ds.length ≤ n) (r : Reps U y H ds vs) (S : StoR U y H sto) (nl : ∀ a i, y.own a ≠ some (.lks i)) : StR U y (L2.start N vs) H ⟨startL n ds, sto⟩ := by
  have hv := r.length
  refine ⟨by simp only [startL, L2.start, List.length_append, List.length_map, List.length_replicate, hv, hn], fun i hi => ?_, S, fun i a h => absurd h (nl a i)⟩
  show ∃ o, (L2.start N vs)[i]? = some o ∧ (gt (startL n ds) i = .em ∨ ∃ v, o = some v ∧ SvR U y H (.sl i) (.lks i) (gt (startL n ds) i) v)
  cases hd : ds[i]? with
  | some d =>
    obtain ⟨v, e, rv⟩ := r.get hd
    refine ⟨some v, ?_, .inr ⟨v, rfl, ?_⟩⟩
    · unfold L2.start
      rw [List.getElem?_append_left (by rw [List.length_map]; rw [List.getElem?_eq_some_iff] at e; exact e.1), List.getElem?_map, e]; rfl
    · unfold startL
      rw [gt_map hd]; exact rv
  | none =>
    have hi' : ds.length ≤ i := List.getElem?_eq_none_iff.1 hd
    refine ⟨none, ?_, .inl (gt_rep hd)⟩
    unfold L2.start
    rw [List.getElem?_append_right (by rw [List.length_map, hv]; exact hi'), List.length_map, List.getElem?_replicate, if_pos]
    have : i < (startL n ds).length := hi
    simp only [startL, List.length_append, List.length_map, List.length_replicate] at this
    rw [hv, ← hn]; omega
theorem fn_wpS {F : Pyl.Fn} {ds : List D} {sto : List Cell} {Q : VK} {E : XK} (h : fnP U y H (F.sem Γ ds sto) Q E) : ds.length = F.ps ∧ wpS U (fun c d _ H => E c d H) y H (rSs Γ F.body ⟨startL F.n ds, sto⟩) { nx := fun _ H' => Q .non H', rt := Q } := by
  unfold Fn.sem at h
  split at h
  · rename_i hl
    refine ⟨hl, ?_⟩
    cases hr : rSs Γ F.body ⟨startL F.n ds, sto⟩ with
    | nx s => rw [hr] at h; exact fun y' H' σ' e S => h y' H' .non e S.sto VR.of_non
    | rt d fr s => rw [hr] at h; exact fun y' H' σ' v e S hv => h y' H' v e S.sto hv
    | er x s => rw [hr] at h; exact fun y' H' σ' cls dd e S hx => h y' H' cls dd e S.sto hx
    | bk s => rw [hr] at h; exact h.elim
    | ct s => rw [hr] at h; exact h.elim
    | sk => rw [hr] at h; exact h.elim
  · exact h.elim
/-- THE RULE for a def -/
theorem ok_fn {P : Program} {w : World} {K : PySem.W.Frag} {mg : Str → Option Value} {base : Heap} {x qual : Str} {st : Stmt} {f : Addr} {fd : FuncData} {N ps : List Str} {k : Nat} {F : Pyl.Fn} (Fd : L2.Fun K x qual st f fd) (S : FnScope N ps (defScope st)) (hn : F.n = N.length) (hp : F.ps = ps.length) (hle : ps.length ≤ N.length)
    (hb : ∀ (cdv : Value) (A : Around) (outer : List PySem.Env) (s : Shared) (H : Hp) (E : XK), Room k (A.deeper (envOfC qual (defScope st) s.heap.objs.size f cdv)) → PSs (cxOf (L2.CX P w) P w K mg base N qual (defScope st) f cdv A outer s H E) (defBody st) (rdSs U (fun c d _ H => E c d H) Γ F.body)) :
    FnOk P w K mg base (L2.CX P w) (k + 1) f fd ps (spOf U (F.sem Γ)) := by
  refine Fd.okX S (fun vs H Q E h => ?_) fun cdv A outer s H vs Q E hr h => ⟨_, hb cdv A outer s H E hr, ?_⟩
  · obtain ⟨y, ds, sto, r, _, _, h⟩ := h
    rw [r.length, (fn_wpS h).1, hp]
  · obtain ⟨y, ds, sto, r, So, nl, h⟩ := h
    obtain ⟨hl, wS⟩ := fn_wpS h
    exact ⟨y, _, start_str hn (by rw [hl, hp, hn]; exact hle) r So nl, wS⟩
theorem blind_e {E : XK} : Blind (fun c d _ H => E c d H) := fun _ _ _ _ _ h => h
end
end Pyl
set_option Elab.async false
set_option linter.all false
set_option maxRecDepth 100000
set_option maxHeartbeats 2000000
/-! SndMeth: methods of lists and dicts. -/
namespace Pyl
open PySem PySem.Spec PyProof.Rows L2
section
variable {U : Uni} {W : WX} {Γ : Env} {X : Cx} {σ : L2.St} {H H' H0 : Hp} {Q : VK} {β : Type} {P : β → St → Ly → Hp → Prop} {y y' : Ly} {s s' : St} {q : Bool}
theorem snd_dct0 {pos : Pos} : PE X (.Dict [] [] pos) (rdE U W Γ (.dctD .nil)) := PE.imp pe_dnewK fun σ H Q ⟨y, s, S, w⟩ => by
  simp only [rE, rKV, R.bind_ok] at w
  intro p hp
  exact (wp.new (q := true) (by simpa only [qE, qKv] using w) S fun _ h => h).dct S.trk (vs := []) (u := .dK []) (.inl ⟨[], rfl, rfl, rfl⟩) (by rw [show kMerge ([] : List (Ky × D)) [] = [] from rfl, Repk]) hp
/-- a list stands at the operand -/
theorem isL_tyV {x : OD} {v : V} (S : StR U y σ H s) (hv : ODR U H0 y H σ x v) (h : x.isL s = true) : tyV X.K "list" v H := by
  unfold OD.isL at h
  split at h
  · rename_i ds g
    obtain ⟨a, xs, rfl, h1, _⟩ := (hv.later (Ext.refl true _ _) S (fun _ => rfl) g).lst
    exact .inl ⟨rfl, xs, .of h1⟩
  · rename_i n g
    split at h
    · rename_i ds e
      have p : Rep U y H (.loc n) v := hv.later (Ext.refl true _ _) S (fun _ => rfl) g
      obtain ⟨a, rfl, h1⟩ := Rep.loc_.1 p
      obtain ⟨a', xs, h2, _, h3, _⟩ := S.sto.lst e
      rw [h1] at h2; cases h2
      exact .inl ⟨rfl, xs, .of h3⟩
    · cases h
  · cases h
theorem isD_isD {x : OD} {v : V} (S : StR U y σ H s) (hv : ODR U H0 y H σ x v) (h : x.isD s = true) : ∃ a, v = .ref a ∧ IsD H a := by
  unfold OD.isD at h
  split at h
  · rename_i kvs g
    obtain ⟨a, vs, rfl, h1, _⟩ := (hv.later (Ext.refl true _ _) S (fun _ => rfl) g).dct
    refine ⟨a, rfl, ?_⟩
    rcases h1 with ⟨kk, h1, _⟩ | ⟨kk, h1, _⟩
    · exact .inl ⟨kk, h1⟩
    · exact .inr ⟨kk, h1⟩
  · cases h
/-- the write of a method, in the reading of its rule -/
theorem cont_lst {ds : List D} {a : Addr} (c : Cont U y H (fun u => H a = some u) (.lst ds)) : ∃ xs, H a = some (.lst xs) ∧ Reps U y H ds xs := c
theorem appG_l {d x d' r : D} (h : appG x d = some (d', r)) : ∃ ds, d = .lst ds ∧ ds.length < LIM ∧ d' = .lst (ds ++ [x]) ∧ r = .non := by
  unfold appG at h
  split at h
  · split at h
    · rename_i hl; cases h; exact ⟨_, rfl, hl, rfl, rfl⟩
    · cases h
  · cases h
theorem snd_app {o e : Expr} {io : On} {ie : Ex} {apos cpos : Pos} (ho : PE X o (rdO U W Γ io)) (he : PE X e (rdE U W Γ ie)) (hp : (!io.isPf || qE ie) = true := by decide) (hbase : attributeBase o "append" X.env (eval o X.env) = eval o X.env := by rfl)
    (hfew : ((backTo cpos (starEach [e] X.env)).all (fun x => !x.1) && (backToKw cpos (keywordEach [] X.env)).all (fun x => x.1.isSome)
      && decide (([e] : List Expr).length + ([] : List Keyword).length + (if ([] : List Keyword).isEmpty then 0 else 1) < 30)) = true := by rfl)
    (hline : (apos.endLine == cpos.line) = true := by rfl) (hs : starEach [e] X.env = (false, eval e X.env) :: starEach [] X.env := by rfl) (hplain : (backTo cpos (starEach [] X.env)).any (·.1) = false := by rfl) :
    PE X (.Call (.Attribute o "append" apos) [e] [] cpos) (rdE U W Γ (.app io ie)) :=
  PE.imp (pe_bm PySem.F.plainAttrs_list PySem.F.slot_list_append PySem.F.type_list_append mt_append ho (pa_cons he pa_nil hs) hbase hfew hline hs hplain) fun σ H Q ⟨y, s, S, w⟩ => by
    simp only [rE] at w
    refine rdO.seq S w (fun z => by cases z) fun x1 s1 y1 H1 hx1 e1 S1 w1 v1 hv1 => ?_
    split at w1
    · rename_i hL
      refine ⟨isL_tyV S1 hv1 hL, ?_⟩
      refine rdE.seq (q := false) S1 (w1.base e1.any fun z => by cases z) (fun z => by cases z) fun p s2 y2 H2 _ e2 S2 w2 v2 hv2 => ?_
      cases hm : mutO s2 x1 (appG p.1) with
      | er x s3 => exact (mutO_er hm).elim
      | sk => rw [hm] at w2; exact w2.elim
      | ok r s3 =>
        rw [hm] at w2
        obtain ⟨y3, e3, f3, r3⟩ := hv2.thaw e2 S1.trk S2.trk
        have o2 := odr_later hv1 e3 hx1 hp (mutO_im hm)
        obtain ⟨a, d0, d', rfl, c, hg, Wr⟩ := mutO_snd hm (S2.fr f3) o2
        obtain ⟨ds, rfl, hl, rfl, rfl⟩ := appG_l hg
        obtain ⟨xs, h1, h2⟩ := cont_lst c
        refine ⟨a, xs, v2, rfl, rfl, h1, by rw [h2.length]; exact Nat.lt_of_lt_of_le hl lim_line, ?_⟩
        obtain ⟨e4, S4⟩ := Wr (.lst (xs ++ [v2])) True.intro ⟨_, rfl, h2.app (Reps.one r3)⟩
        exact w2.at (e3.any.trans e4) S4 _ (VR.of_non)
    · exact w1.elim
theorem popG_l {d d' r : D} (h : popG d = some (d', r)) : ∃ ds, d = .lst ds ∧ ds.getLast? = some r ∧ d' = .lst ds.dropLast := by
  unfold popG at h
  split at h
  · split at h
    · rename_i hl; cases h; exact ⟨_, rfl, hl, rfl⟩
    · cases h
  · cases h
theorem reps_dropLast {ds : List D} {xs : List V} (h : Reps U y H ds xs) : Reps U y H ds.dropLast xs.dropLast := by
  rw [List.dropLast_eq_take, List.dropLast_eq_take, h.length]
  exact h.take _
theorem snd_pop {o : Expr} {io : On} {apos cpos : Pos} (ho : PE X o (rdO U W Γ io)) (hbase : attributeBase o "pop" X.env (eval o X.env) = eval o X.env := by rfl) (hline : (apos.endLine == cpos.line) = true := by rfl) :
    PE X (.Call (.Attribute o "pop" apos) [] [] cpos) (rdE U W Γ (.pop io)) :=
  PE.imp (pe_bm0 PySem.F.plainAttrs_list PySem.F.slot_list_pop PySem.F.type_list_pop mt_pop ho hbase hline) fun σ H Q ⟨y, s, S, w⟩ => by
    simp only [rE] at w
    refine rdO.seq S w (fun z => by cases z) fun x1 s1 y1 H1 hx1 e1 S1 w1 v1 hv1 => ?_
    split at w1
    · rename_i hL
      refine ⟨isL_tyV S1 hv1 hL, ?_⟩
      cases hm : mutO s1 x1 popG with
      | er x s3 => exact (mutO_er hm).elim
      | sk => rw [hm] at w1; exact w1.elim
      | ok r s3 =>
        rw [hm] at w1
        obtain ⟨a, d0, d', rfl, c, hg, Wr⟩ := mutO_snd hm S1 hv1
        obtain ⟨ds, rfl, hl, rfl⟩ := popG_l hg
        obtain ⟨xs, h1, h2⟩ := cont_lst c
        rw [List.getLast?_eq_getElem?] at hl
        obtain ⟨v, e2, r2⟩ := h2.get hl
        rw [← h2.length] at e2
        refine ⟨a, xs, v, rfl, rfl, h1, e2, ?_⟩
        obtain ⟨e4, S4⟩ := Wr (.lst xs.dropLast) True.intro ⟨_, rfl, reps_dropLast h2⟩
        exact w1.at (e1.any.trans e4) S4 _ (VR.fz (Rep.tr e4.tr _ _ r2))
    · exact w1.elim
/-- d.get(k) -/
theorem get_core {x1 : OD} {s2 : St} {k : D} {dk : Ky} {kvs : List (Ky × D)} {v1 v2 : V} {y2 : Ly} {H2 : Hp} (pv : PV U y2 H2 (.dct kvs) v1) (rk : PV U y2 H2 k v2) (hk : k.ky = some dk) (ok : kOk kvs dk = true) : ∃ a o, v1 = .ref a ∧ DGx H2 a v2 o ∧ OptR U y2 H2 (kGet kvs dk) o := by
  obtain ⟨a, vs, rfl, h1, h2⟩ := pv.dct
  obtain ⟨o, g, r⟩ := dct_get h1 h2 (ky_pv hk rk).1 ok
  exact ⟨a, o, rfl, g, r⟩
theorem pe_xget1 {o e : Expr} {td ty : TE} {apos cpos : Pos} (hu : X.A.units + 1 < cLine) (ho : PE X o td) (he : PE X e ty) (m : M1 X o "get" apos e cpos) : PE X (.Call (.Attribute o "get" apos) [e] [] cpos) (fun σ H Q => td σ H fun x H1 => ∃ a, x = .ref a ∧ IsD H1 a ∧ ty σ H1 fun y H2 => ∃ o, DGx H2 a y o ∧ Q (o.getD .non) H2) := by
  refine ⟨fun pins s σ H Q I h => ?_⟩
  refine wpAny_Call_method m.base m.few m.line PySem.F.plainAttrs_dict PySem.F.slot_dict_get PySem.F.type_dict_get (thn (ho.run pins s σ H _ I h) fun u s1 ⟨x, H1, I1, rx, a, ex, d, q1⟩ => ?_)
  subst ex
  obtain rfl : u = Value.ref a := rx
  obtain ⟨t1, t2, _⟩ := isD_at I1 d
  refine ⟨t1, t2, ?_⟩
  rw [m.trees]
  refine Calls.callWith_builtin rfl (Calls.evalArgs_plain (Calls.spliced_cons (thn (he.run pins s1 σ H1 _ I1 q1) fun iv s2 ⟨y, H2, I2, ry, ov, g, q2⟩ => Calls.spliced_nil ?_)))
  exact x_get1 hu I2 g ry fun w' s3 I3 rw' => ⟨_, H2, I3, rw', q2⟩
theorem pe_xget2 {o e f : Expr} {td ty tx : TE} {apos cpos : Pos} (hu : X.A.units + 1 < cLine) (ho : PE X o td) (he : PE X e ty) (hf : PE X f tx) (m : M2 X o "get" apos e f cpos) : PE X (.Call (.Attribute o "get" apos) [e, f] [] cpos) (fun σ H Q => td σ H fun x H1 => ∃ a, x = .ref a ∧ IsD H1 a ∧ ty σ H1 fun y H2 => tx σ H2 fun z H3 => ∃ o, DGx H3 a y o ∧ Q (o.getD z) H3) := by
  refine ⟨fun pins s σ H Q I h => ?_⟩
  refine wpAny_Call_method m.base m.few m.line PySem.F.plainAttrs_dict PySem.F.slot_dict_get PySem.F.type_dict_get (thn (ho.run pins s σ H _ I h) fun u s1 ⟨x, H1, I1, rx, a, ex, d, q1⟩ => ?_)
  subst ex
  obtain rfl : u = Value.ref a := rx
  obtain ⟨t1, t2, _⟩ := isD_at I1 d
  refine ⟨t1, t2, ?_⟩
  rw [m.trees]
  refine Calls.callWith_builtin rfl (Calls.evalArgs_plain (Calls.spliced_cons (thn (he.run pins s1 σ H1 _ I1 q1) fun iv s2 ⟨y, H2, I2, ry, q2⟩ =>
    Calls.spliced_cons (thn (hf.run pins s2 σ H2 _ I2 q2) fun fv s3 ⟨z, H3, I3, rz, ov, g, q3⟩ => Calls.spliced_nil ?_))))
  exact x_get2 hu I3 g ry rz fun w' s4 I4 rw' => ⟨_, H3, I4, rw', q3⟩
theorem snd_get1 {o e : Expr} {io : On} {ie : Ex} {apos cpos : Pos} (hu : X.A.units + 64 < cLine) (ho : PE X o (rdO U W Γ io)) (he : PE X e (rdE U W Γ ie)) (m : M1 X o "get" apos e cpos) (hp : (!io.isPf || qE ie) = true := by decide) : PE X (.Call (.Attribute o "get" apos) [e] [] cpos) (rdE U W Γ (.get io ie .no)) :=
  PE.imp (pe_xget1 (by omega) ho he m) fun σ H Q ⟨y, s, S, w⟩ => by
    simp only [rE, qE, qX, Bool.and_true] at w
    refine rdO.seq S w and_l fun x1 s1 y1 H1 hx1 e1 S1 w1 v1 hv1 => ?_
    split at w1
    · rename_i hD
      obtain ⟨a, rfl, hd⟩ := isD_isD S1 hv1 hD
      refine ⟨a, rfl, hd, ?_⟩
      refine rdE.seq (q := qE ie) S1 (w1.base e1 fun z => ⟨and_l z, and_r z⟩) (fun z => z) fun p s2 y2 H2 _ e2 S2 w2 v2 hv2 => ?_
      simp only [rXo, R.bind_ok] at w2
      split at w2
      · rename_i kvs dk g hk
        split at w2
        · rename_i ok
          have pv := hv1.later e2 S2 (fun z => by have := hx1 z; simp [this] at hp; exact hp) g
          obtain ⟨a', o', e', g', r'⟩ := get_core (s2 := s2) (x1 := x1) pv hv2.pv hk ok
          cases e'
          refine ⟨o', g', w2.at e2 S2 _ (VR.fz ?_)⟩
          rcases r' with ⟨z1, z2⟩ | ⟨d', w', z1, z2, z3⟩
          · rw [z1, z2]; exact Rep.non_.2 rfl
          · rw [z1, z2]; exact z3
        · exact w2.elim
      · exact w2.elim
    · exact w1.elim
theorem snd_get2 {o e f : Expr} {io : On} {ie jf : Ex} {apos cpos : Pos} (hu : X.A.units + 64 < cLine) (ho : PE X o (rdO U W Γ io)) (he : PE X e (rdE U W Γ ie)) (hf : PE X f (rdE U W Γ jf)) (m : M2 X o "get" apos e f cpos) (hp : (!io.isPf || (qE ie && qE jf)) = true := by decide) :
    PE X (.Call (.Attribute o "get" apos) [e, f] [] cpos) (rdE U W Γ (.get io ie (.yes jf))) :=
  PE.imp (pe_xget2 (by omega) ho he hf m) fun σ H Q ⟨y, s, S, w⟩ => by
    simp only [rE, qE, qX] at w
    refine rdO.seq S w and_l fun x1 s1 y1 H1 hx1 e1 S1 w1 v1 hv1 => ?_
    split at w1
    · rename_i hD
      obtain ⟨a, rfl, hd⟩ := isD_isD S1 hv1 hD
      refine ⟨a, rfl, hd, ?_⟩
      refine rdE.seq (q := qE ie && qE jf) S1 (w1.base e1 fun z => ⟨and_l z, and_r z⟩) and_l fun p s2 y2 H2 _ e2 S2 w2 v2 hv2 => ?_
      have w2 : wp U W (qE ie && qE jf) y1 H1 σ ((rE Γ jf s2).bind fun z s => match x1.get s, p.1.ky with
        | some (.dct kvs), some k => if kOk kvs k then .ok ((kGet kvs k).getD z.1, false) s else .sk
        | _, _ => .sk) (QE U H Q) := by
        simp only [rXo] at w2
        cases hr : rE Γ jf s2 with
        | ok z t => rw [hr] at w2; exact w2
        | er z t => rw [hr] at w2; exact w2
        | sk => rw [hr] at w2; exact w2
      refine rdE.seq (q := qE jf) S2 (w2.base e2 fun z => ⟨and_l z, and_r z⟩) (fun z => z) fun p3 s3 y3 H3 _ e3 S3 w3 v3 hv3 => ?_
      split at w3
      · rename_i kvs dk g hk
        split at w3
        · rename_i ok
          obtain ⟨y4, e4, f4, r4⟩ := hv3.thaw e3 S2.trk S3.trk
          have S4 := S3.fr f4
          have pv := hv1.later (q := qE ie && qE jf) (e2.trans e4) S4 (fun z => by have := hx1 z; simp [this] at hp; simp [hp]) g
          obtain ⟨a', o', e', g', r'⟩ := get_core (s2 := s2) (x1 := x1) pv (VR.ext hv2 e4).pv hk ok
          cases e'
          refine ⟨o', g', w3.at e4 S4 _ (VR.fz ?_)⟩
          rcases r' with ⟨z1, z2⟩ | ⟨d', w', z1, z2, z3⟩
          · rw [z1, z2]; exact r4
          · rw [z1, z2]; exact z3
        · exact w3.elim
      · exact w3.elim
    · exact w1.elim
end
end Pyl
set_option Elab.async false
set_option linter.all false
set_option maxRecDepth 100000
set_option maxHeartbeats 2000000
/-! K23a: lambdas without parameters as values that are kept: made, put into a list, handed to a def that calls them. -/
namespace Pyl
open PySem PySem.Spec PyProof.Rows L2 LamX
section
variable {X : Cx} {pins : List (Addr × Obj)} {σ : L2.St} {H : Hp} {s : Shared}
/-- the lambda's function object at f, its code object at c -/
def LamO (q : Str) (params : Arguments) (body : Expr) (scope : Scope) (cl : List (Str × Addr)) (f c : Addr) : HO :=
  .ext fun h => ∃ pm ctv : Value, h.get? f = some (PySem.W.kla_obj "<lambda>" q params body scope cl pm c ctv)
theorem lamO_ok {P : Program} {w : World} {h : Heap} {q : Str} {params : Arguments} {body : Expr} {scope : Scope} {cl : List (Str × Addr)} {f c : Addr} {pm ctv : Value} (e : h.get? f = some (PySem.W.kla_obj "<lambda>" q params body scope cl pm c ctv)) :
    ObjOk P w H h f (LamO q params body scope cl f c) := ⟨⟨pm, ctv, e⟩, ⟨_, e⟩, fun _ _ ⟨p, t, z⟩ st => ⟨p, t, st _ z⟩⟩
theorem lamO_at {P : Program} {w : World} {h : Heap} {q : Str} {params : Arguments} {body : Expr} {scope : Scope} {cl : List (Str × Addr)} {f c : Addr} (k : HOk P w H h) (e : H f = some (LamO q params body scope cl f c)) :
    ∃ pm ctv : Value, h.get? f = some (PySem.W.kla_obj "<lambda>" q params body scope cl pm c ctv) := by
  have x : ObjOk P w H h f (.ext fun h => ∃ pm ctv : Value, h.get? f = some (PySem.W.kla_obj "<lambda>" q params body scope cl pm c ctv)) := k f _ e
  exact x.1
/-- no lambda's object is a table -/
theorem lamO_tbl {q : Str} {params : Arguments} {body : Expr} {scope : Scope} {cl : List (Str × Addr)} {f c : Addr} {ps : Array Value} : LamO q params body scope cl f c ≠ .tbl ps := fun z => by
  have z' : HO.ext _ = HO.tbl ps := z
  cases z'
def tMkLam (T : List (Addr × Str)) (q : Str) (params : Arguments) (body : Expr) (scope : Scope) (cl : List (Str × Addr)) : TE := fun σ H Q =>
  Tabs T H ∧ ∀ (f c : Addr) (H1 : Hp), LamX.ExtN H H1 → Tabs T H1 → H1 f = some (LamO q params body scope cl f c) → H1 c = some (CodeO c q) → Q (.ref f) H1
theorem Tabs.upd_new {T : List (Addr × Str)} {a : Addr} {o : HO} (t : Tabs T H) (n : H a = none) : Tabs T (upd H a o) :=
  t.ext fun b u e => by rw [upd_ne (ne_of_none e n)]; exact e
/-- a lambda is made and kept -/
theorem pe_lam {T : List (Addr × Str)} {c P : Addr} {params : Arguments} {body : Expr} {scope : Scope} {pos : Pos} (TB : TabB X.base X.mg c P) (hcode : X.env.code = .ref c) (hm : (P, X.env.qual ++ "<lambda>") ∈ T)
    (hu : ∀ p ∈ T, p.1 = P → p.2 = X.env.qual ++ "<lambda>") (hdef : defaultsOf params X.env = ([], [])) (L : LamS X.env.scope scope) :
    PE X (.Lambda params body scope pos) (tMkLam T (X.env.qual ++ "<lambda>") params body scope (cloFrom X.env.cells scope.names [])) := by
  refine ⟨fun pins s σ H Q I h => ?_⟩
  obtain ⟨hT, h⟩ := h
  obtain ⟨ps, hP, okT, among⟩ := hT _ hm
  have tab : s.heap.get? P = some { cls := .none, data := .fields ps } := I.hok P _ hP
  have blt := TB.bm.keeps I.bk
  -- the end: the function object is pushed onto a heap of which all is known
  have last : ∀ (h' : Heap) (tk : Nat) (H1 : Hp) (c' : Addr) (pm ctv : Value), Inv X pins σ H1 { s with heap := h', toks := tk } → LamX.ExtN H H1 → Tabs T H1 → H1 c' = some (CodeO c' (X.env.qual ++ "<lambda>")) →
      EP X pins σ Q (.ref h'.objs.size) { s with heap := h'.push (PySem.W.kla_obj "<lambda>" (X.env.qual ++ "<lambda>") params body scope (cloFrom X.env.cells scope.names []) pm c' ctv), toks := tk } := fun h' tk H1 c' pm ctv I1 eN T1 hc => by
    have n1 : H1 h'.objs.size = none := I1.hok.fresh (Nat.le_refl _)
    have J := I1.laid (h' := h'.push (PySem.W.kla_obj "<lambda>" (X.env.qual ++ "<lambda>") params body scope (cloFrom X.env.cells scope.names []) pm c' ctv)) (t' := tk) (o := LamO (X.env.qual ++ "<lambda>") params body scope (cloFrom X.env.cells scope.names []) h'.objs.size c') (fun b u e => Heap.get?_push_of_some _ e) (Nat.le_refl h'.objs.size) (lamO_ok (Heap.get?_push_size _ rfl))
    refine ⟨.ref h'.objs.size, _, J, rfl, h _ c' _ (eN.trans (LamX.ExtN.of fun b o e => by rw [upd_ne (ne_of_none e n1)]; exact e)) (Tabs.upd_new T1 n1) upd_same ?_⟩
    rw [upd_ne (ne_of_none hc n1)]
    exact hc
  refine PySem.W.kla_eval hdef ?_
  cases hf : codeAmong pos ps.toList with
  | some cv =>
    obtain ⟨c', rfl, hc⟩ := among pos cv hf
    exact PySem.W.kla_makeFunctionHit (closure_ok (L.has I.ok)) I.ok.glob (I.mod.glob.keeps I.bk) hcode (TB.code.keeps I.bk) tab okT hf blt fun ctv h' tk old _ => last h' tk H c' _ ctv (I.kept old) (LamX.ExtN.refl H) hT hc
  | none =>
    refine PySem.W.kla_makeFunction (closure_ok (L.has I.ok)) I.ok.glob (I.mod.glob.keeps I.bk) hcode (TB.code.keeps I.bk) tab okT hf TB.gP blt fun c' ctv h' tk but big lt rec now => ?_
    obtain ⟨c2, oc, vs, t, e2, hoc, hd, hv⟩ := rec
    cases e2
    have nC : H c' = none := I.hok.fresh big
    have nP := ne_of_none hP nC
    let H1 : Hp := upd (upd H P (.tbl (ps ++ #[rawInt pos.line, rawInt pos.col, .ref c']))) c' (CodeO c' (X.env.qual ++ "<lambda>"))
    have I1 : Inv X pins σ H1 { s with heap := h', toks := tk } := inv_table I hP but now big ⟨oc, vs, t, hoc, hd, hv⟩
    have eN : LamX.ExtN H H1 := fun b o e nt => by
      show upd _ _ _ _ = _
      rw [upd_ne (ne_of_none e nC)]
      by_cases hb : b = P
      · subst hb; rw [hP] at e; exact absurd (Option.some.inj e).symm (nt ps)
      · rw [upd_ne hb]; exact e
    refine last h' tk H1 c' _ ctv I1 eN (fun p hp => ?_) upd_same
    by_cases hb : p.1 = P
    · refine ⟨ps ++ #[rawInt pos.line, rawInt pos.col, .ref c'], ?_, ?_, fun p' cv hcv => ?_⟩
      · show upd _ _ _ _ = _
        rw [hb, upd_ne nP, upd_same]
      · rw [Array.toList_append]; exact PySem.TriplesOk_snoc _ _ _ _ okT
      · rw [Array.toList_append] at hcv
        rw [hu p hp hb]
        rcases among_app _ okT hcv with z | z
        · obtain ⟨c0, e1, e2⟩ := among p' cv z
          exact ⟨c0, e1, eN _ _ e2 codeO_ne⟩
        · exact ⟨c', z, upd_same⟩
    · obtain ⟨ps', a1, a2, a3⟩ := hT p hp
      refine ⟨ps', ?_, a2, fun p' cv hcv => ?_⟩
      · show upd _ _ _ _ = _
        rw [upd_ne (ne_of_none a1 nC), upd_ne hb]; exact a1
      · obtain ⟨c0, e1, e2⟩ := a3 p' cv hcv
        exact ⟨c0, e1, eN _ _ e2 codeO_ne⟩
/-- the lambda is forgotten (its object stays as it is) -/
theorem inv_forget {f : Addr} {φ : Heap → Prop} (I : Inv X pins σ H s) (e : H f = some (.ext φ)) : Inv X pins σ (delH H f) s := by
  have ne : ∀ b u, H b = some u → (∀ φ, u ≠ .ext φ) → delH H f b = some u := fun b u q n => by
    unfold delH
    rw [if_neg fun z => by rw [z, e] at q; exact n φ (Option.some.inj q).symm]
    exact q
  have non : ∀ b, H b = none → delH H f b = none := fun b q => by unfold delH; split <;> simp [*]
  have back : ∀ b u, delH H f b = some u → H b = some u := fun b u q => by
    unfold delH at q
    split at q
    · cases q
    · exact q
  refine ⟨I.ok, I.os, I.bare, ⟨I.base.keep, I.base.slot, fun b o q n x => non b (I.base.free b o q n x), I.base.there, fun b xs q => ne _ _ (I.base.tups b xs q) fun φ z => (by cases z), fun b o u q => ne _ _ (I.base.frzs b o u q) fun φ z => (by cases z), fun b ps q => ?_⟩,
    I.loc, I.cell, non _ I.free, fun x c q => non _ (I.freeC x c q), fun p hp => ?_, fun b o q => ?_, I.len⟩
  · obtain ⟨more, z⟩ := I.base.tbls b ps q
    exact ⟨more, ne _ _ z fun φ z => (by cases z)⟩
  · obtain ⟨a1, a2, a3⟩ := I.pin p hp
    exact ⟨a1, non _ a2, a3⟩
  · exact (I.hok b o (back b o q)).stay (fun _ _ _ z => z) (fun d z => ne _ _ z fun φ z => (by cases z)) fun d xs z => ne _ _ z fun φ z => (by cases z)
/-- what is tracked is no frame -/
theorem inv_nofr {f : Addr} {o : HO} (I : Inv X pins σ H s) (e : H f = some o) : f ∉ frs X.stack := fun z => by
  rw [I.stkFree _ z] at e; cases e
/-! ### a kept lambda handed to a def that calls it -/
structure LamD where
  pa : Arguments
  bo : Expr
  sc : Scope
def LamD.ho (d : LamD) (X : Cx) : Addr → Addr → HO := LamO (X.env.qual ++ "<lambda>") d.pa d.bo d.sc (cloFrom X.env.cells d.sc.names [])
structure LamKit (X : Cx) (k : Nat) (d : LamD) (t : XK → TE) : Prop where
  L : LamS X.env.scope d.sc
  bind : ∀ (q : Str) (cl : List (Str × Addr)) (pm cv ctv : Value), bindArgs (PySem.W.kla_fn "<lambda>" q d.pa d.bo d.sc cl pm cv ctv) ⟨[], []⟩ = pure []
  body : ∀ (A : Around) (outer : List PySem.Env) (s : Shared) (H : Hp) (E : XK) (f c : Addr), Room k (A.deeper (lamEnv X d.sc s.heap.objs.size f c)) → PE (lamCx X A outer s H E d.sc f c) d.bo (t E)
def tKept (q : Str) (n : Nat) (lo : Nat → Addr → Addr → HO) (TT : (XK → Hp → VK → Prop) → Hp → VK → Prop) (t : Nat → XK → TE) (te : TE) : TE := fun σ H Q =>
  te σ H fun v H1 => ∃ i f c, v = .ref f ∧ i < n ∧ H1 f = some (lo i f c) ∧ H1 c = some (CodeO c q) ∧ TT (fun E H' Q' => t i E σ H' Q') (delH H1 f) Q
theorem pe_keptcall {TT : (XK → Hp → VK → Prop) → Hp → VK → Prop} {x a : Str} {g : Addr} {k n : Nat} {pg : Arguments} {bg : List Stmt} {sg : Scope} {dV kV doc pm cdv ct oc : Value} {an od : Option Addr} {osl : Array (Option Value)} {Ng : List Str}
    {ds : Nat → LamD} {lo : Nat → Addr → Addr → HO} {t : Nat → XK → TE} {e : Expr} {te : TE} {p pos : Pos} (hg : Gl X x) (hm : X.mg x = some (.ref g)) (hk : PySem.W.keepIn X.K (.ref g) = true)
    (lk : X.K.lookup g = some ⟨oc, od, .func (PySem.W.fnOf x x pg bg sg dV kV doc pm an cdv ct), osl⟩) (hcg : PySem.W.codeIn X.K cdv x = true) (hb : L2.Binds X.K (PySem.W.fnOf x x pg bg sg dV kV doc pm an cdv ct) [a] []) (Sg : FnScope Ng [a] sg) (hNg : Ng[0]? = some a) (hva : Vis sg a)
    (hG : GivesTo X Ng x sg g cdv bg a (X.env.qual ++ "<lambda>") TT) (hr : Room (k + 2) X.A) (hL : ∀ i, i < n → LamKit X k (ds i) (t i)) (hlo : ∀ i, i < n → lo i = (ds i).ho X) (he : PE X e te)
    (hdb : (x == ("__debug__" : Str)) = false := by decide) (hd : (a == ("__debug__" : Str)) = false := by decide) (hcd : (a == ("__classdict__" : Str)) = false := by decide)
    (hs : starEach [e] X.env = (false, eval e X.env) :: starEach [] X.env := by rfl) (hpl : (backTo pos (starEach [] X.env)).any (·.1) = false := by rfl) :
    PE X (.Call (.Name x p) [e] [] pos) (tKept (X.env.qual ++ "<lambda>") n lo TT t te) := by
  refine ⟨fun pins s σ H Q I h => ?_⟩
  refine wpAny_Call_Name_kw (ld_glob I hg hm ?_ hdb)
  let R : VK := fun v H1 => ∃ i f c, v = .ref f ∧ i < n ∧ H1 f = some (lo i f c) ∧ H1 c = some (CodeO c (X.env.qual ++ "<lambda>")) ∧ TT (fun E H' Q' => t i E σ H' Q') (delH H1 f) Q
  let R1 : List V → Hp → Prop := fun vs H1 => match vs with
    | [v] => R v H1
    | _ => False
  refine PySem.W.callWith_K (h₀ := X.base) I.ok.mod.kin hk (thn ((pa_cons he pa_nil hs).run pos pins s σ H R1 I h) fun us s1 ⟨vs, H1, I1, r1, q1⟩ => ⟨I1.kIn, ?_⟩) hs hpl
  obtain ⟨v, rfl⟩ : ∃ v, vs = [v] := by
    match vs, q1 with
    | [v], _ => exact ⟨v, rfl⟩
  obtain ⟨i, f, c, rfl, hi, hf, hc, q⟩ : R v H1 := q1
  obtain ⟨u, rfl, ru⟩ := vals1 r1
  obtain rfl : u = Value.ref f := ru
  rw [hlo i hi] at hf
  obtain ⟨pm', ctv, hobj⟩ := lamO_at I1.hok hf
  have hnf := inv_nofr I1 hf
  have I2 := inv_forget I1 hf
  have hcf : c ≠ f := fun z => by
    obtain ⟨⟨oc', vs', t', e1, e2, _⟩, _⟩ := I1.hok c _ hc
    rw [z, hobj] at e1
    cases e1
    cases e2
  have K := hL i hi
  have into : codeAny (model X.prog X.w) X.A (.call (.ref g) ⟨[.ref f], []⟩) (CR C8.CX0 X.stack X.prog X.w (delH H1 f) s1 Q C8.E0) s1 :=
    run_ofS (N := Ng) (ps := [a]) (us := [.ref f]) (vs := [.ref f]) lk hcg Sg hr I2.env0 (hb s1 [.ref f] I2.kIn rfl) (.cons rfl .nil) rfl fun room => by
      obtain ⟨tt, w1, w2⟩ := hG f c s1 (delH H1 f) Q (fun E H' Q' => t i E σ H' Q')
        (fun W pn xe E p1 p2 tk hW => pe_act (i := 0) I2 K.L hobj (if_pos rfl) hnf (K.bind _ _ _ _ _) tk hW room (fun A outer s H r2 => K.body A outer s H E f c r2) hNg hva hd hcd) (by unfold delH; rw [if_neg hcf]; exact hc) q
      exact ⟨tt, w1.nox, w2⟩
  refine wpAny_call (codeAny_mono into fun r s2 z => ?_)
  cases r with
  | ok fl =>
    cases fl with
    | ret u => exact I2.after z
    | next => exact (show False from z).elim
    | brk => exact (show False from z).elim
    | cont => exact (show False from z).elim
  | error e => exact (show False from z).elim
end
end Pyl
set_option Elab.async false
set_option linter.all false
set_option maxRecDepth 100000
set_option maxHeartbeats 2000000
/-! K23b: a caught error of an own class asked by isinstance; _law_under. -/
namespace Pyl
open PySem PySem.Spec PyProof.Rows L2 LamX
section
variable {X : Cx}
/-- what isinstance asks of the class D of a caught error -/
structure ErrC (K : PySem.W.Frag) (D : Addr) : Prop where
  isC : (PySem.W.clsIn K D).isSome = true
  ga : PySem.W.findIn K (.ref D) "__getattribute__" = some (some (.builtin "BaseException.__getattribute__"))
  gg : PySem.W.findIn K (.ref D) "__getattr__" = some none
  ex : PySem.W.subIn K (.ref D) (.type "BaseException") = some true
  cc : PySem.W.findIn K (.ref D) "__class__" = some (some (.builtin "object.__class__"))
  sp : PySem.W.specialIn K (.builtin "object.__class__") "__get__" = some (some (.builtin "getset_descriptor.__get__"))
  tk : PySem.W.takesIn K (.builtin "object.__class__") = some true
  mo : PySem.W.mroIn K D (.type "object") = some true
/-- isinstance(e, c), e the caught error at a -/
def rIsX (K : PySem.W.Frag) (a : Addr) (cls : Value) (d : Option Addr) : List V → Hp → VK → Prop := fun xs H Q =>
  ∃ (D : Addr) (c : V) (cv : Value) (b : Bool), cls = .ref D ∧ ErrC K D ∧ (d = none ∨ ∃ dx fs, d = some dx ∧ H dx = some (.xd fs)) ∧ xs = [.ref a, c] ∧ ClsV c cv ∧ PySem.W.kitOne K (.ref D) cv = some b ∧ Q (.bl b) H
theorem call_isX {a : Addr} {oe : Obj} {cls : Value} {d : Option Addr} {pn : List (Addr × Obj)} (hz : Zc cls d oe) (hf : ∃ vs, oe.data = .fields vs) :
    CallR (X.suite a ((a, oe) :: pn)) (.builtin "isinstance") (rIsX X.K a cls d) := by
  intro pins s σ H xs us Q I r h
  obtain ⟨D, c, cv, b, rfl, T, hd, rfl, k, e, q⟩ := h
  obtain ⟨u1, u2, rfl, r1, r2⟩ := vals2 r
  obtain rfl : u1 = Value.ref a := r1
  obtain rfl := k.eq r2
  obtain ⟨ha, _⟩ := I.pin (a, oe) (List.mem_append_left _ List.mem_cons_self)
  obtain ⟨vs, hdat⟩ := hf
  have J : ∃ od, PySem.W.InstAt s.heap a oe D od := by
    rcases hd with rfl | ⟨dx, fs, rfl, hx⟩
    · exact ⟨none, ha, hz.1, by unfold PySem.W.notCls; rw [hdat] <;> rfl, by rw [hz.2]; trivial⟩
    · obtain ⟨mA, ⟨od, es, ep, ho, _⟩, _⟩ := (show ObjOk X.prog X.w H s.heap dx (.xd fs) from I.hok dx _ hx)
      exact ⟨some od, ha, hz.1, by unfold PySem.W.notCls; rw [hdat] <;> rfl, by rw [hz.2]; exact ho⟩
  obtain ⟨od, J⟩ := J
  exact PySem.W.kia_one (PySem.W.kitx_exc T.isC T.ga T.gg T.ex T.cc T.sp T.tk T.mo) I.kIn J e (fun z => nomatch z) fun tk => ⟨.bl b, H, I.tok tk, rfl, q⟩
end
end Pyl
set_option Elab.async false
set_option linter.all false
set_option maxRecDepth 100000
set_option maxHeartbeats 2000000
/-! K23c: _law_under. -/
namespace K23
open PySem PySem.Spec PyProof.Rows L2 Pyl LamX
def top (i : Nat) : Stmt := PySem.Challenge.pw_fencehall_k23_refusals_apart.main.body.getD i (.Pass ⟨0, 0, 0, 0⟩)
theorem PSs.len {X : Cx} {ss : List Stmt} {t : TS} (h : PSs X ss t) : PSs X ss (fun D σ H => σ.length = X.N.length → t D σ H) := ⟨fun pins s σ H D I w => h.run pins s σ H D I (w I.len)⟩
theorem pe_ty {X : Cx} {x : Str} {n : String} {pos : Pos} (hm : X.mg x = none) (hv : bootBuiltins x = some (.type n)) (hg : Gl X x := by rfl) (hn : x ≠ "__name__" := by decide) (hdb : (x == ("__debug__" : Str)) = false := by decide) : PE X (.Name x pos) (tC (.ty n)) :=
  ⟨fun pins s σ H Q I h => ld_blt I hg hm hv ⟨.ty n, H, I, rfl, h⟩ hn hdb⟩
theorem pe_cls {X : Cx} {x : Str} {C : Addr} {pos : Pos} (hm : X.mg x = some (.ref C)) (hg : Gl X x := by rfl) (hd : (x == ("__debug__" : Str)) = false := by decide) : PE X (.Name x pos) (tC (.ref C)) := pe_glob hg hm rfl hd
theorem same_new {H : Hp} {p : Addr} {o : HO} (n : H p = none) : Same H (upd H p o) := fun b u e => by rw [upd_ne (ne_of_none e n)]; exact e
/-- the classes of errors: at Cs j the j-th of the eight; FF the one above them -/
structure Errs (K : PySem.W.Frag) (mg : Str → Option Value) (FF : Addr) (Cs : Nat → Addr) : Prop where
  gF : mg "FenceFault" = some (.ref FF)
  g0 : mg "BadDeed" = some (.ref (Cs 0))
  g1 : mg "BadLine" = some (.ref (Cs 1))
  g2 : mg "BadPlan" = some (.ref (Cs 2))
  g3 : mg "BadSize" = some (.ref (Cs 3))
  g4 : mg "BadText" = some (.ref (Cs 4))
  g5 : mg "NoRoom" = some (.ref (Cs 5))
  g6 : mg "NoSuch" = some (.ref (Cs 6))
  g7 : mg "NoWay" = some (.ref (Cs 7))
  nV : mg "ValueError" = none
  nI : mg "isinstance" = none
  er : ∀ j, j < 8 → ErrC K (Cs j)
  ex : ∀ j, j < 8 → PySem.W.exmOne K (.ref (Cs j)) (.ref FF) = some true
  ki : ∀ j, j < 8 → ∀ i, i < 8 → PySem.W.kitOne K (.ref (Cs j)) (.ref (Cs i)) = some (decide (j = i))
  kv : ∀ j, j < 8 → PySem.W.kitOne K (.ref (Cs j)) (.type "ValueError") = some true
/-- what is told of an error of the j-th class -/
def bits (j : Nat) : List Bool := [decide (j = 0), decide (j = 1), decide (j = 2), decide (j = 3), decide (j = 4), decide (j = 5), decide (j = 6), decide (j = 7), true]
def EUnd (Cs : Nat → Addr) (Q : VK) : XK := fun cls d H => ∃ j, j < 8 ∧ cls = .ref (Cs j) ∧ (d = none ∨ ∃ dx fs, d = some dx ∧ H dx = some (.xd fs)) ∧ ∀ l H', Same H H' → H' l = some (.lst ((bits j).map V.bl)) → Q (.ref l) H'
def TUnd (Cs : Nat → Addr) : (XK → Hp → VK → Prop) → Hp → VK → Prop := fun tl H Q => tl (EUnd Cs Q) H fun _ H' => ([] : List V).length ≤ sizeLine ∧ ∀ p, H' p = none → Q (.ref p) (upd H' p (.lst []))
abbrev sUnd : Stmt := top 35
abbrev Ng : List Str := ["what", "e", "some"]
theorem scU : FnScope Ng ["what"] (defScope sUnd) := ⟨rfl, rfl, rfl, by decide +kernel, rfl, by decide +kernel, by decide +kernel⟩
section
variable {X : Cx} {FF : Addr} {Cs : Nat → Addr}
/-- isinstance(e, C) of the caught error -/
theorem pe_isi {a : Addr} {oe : Obj} {cls : Value} {d : Option Addr} {pn : List (Addr × Obj)} {e c : Expr} {te tc : TE} {p pos : Pos} (hz : Zc cls d oe) (hf : ∃ vs, oe.data = .fields vs) (hm : X.mg "isinstance" = none)
    (he : PE (X.suite a ((a, oe) :: pn)) e te) (hc : PE (X.suite a ((a, oe) :: pn)) c tc)
    (hg : Gl (X.suite a ((a, oe) :: pn)) "isinstance" := by rfl) (h1 : starEach [e, c] X.env = (false, eval e X.env) :: starEach [c] X.env := by rfl) (h2 : starEach [c] X.env = (false, eval c X.env) :: starEach [] X.env := by rfl) (hp : (backTo pos (starEach [c] X.env)).any (·.1) = false := by rfl) :
    PE (X.suite a ((a, oe) :: pn)) (.Call (.Name "isinstance" p) [e, c] [] pos) (tCB (rIsX X.K a cls d) (tCons te (tCons tc tNil))) :=
  pe_callB (call_isX hz hf) hg hm PyProof.Rows.Boot.«isinstance» (pa_cons he (pa_cons hc pa_nil h2) h1) (by decide) (by decide) h1 hp
def tryB : Stmt → List Stmt
  | .Try b _ _ _ _ => b
  | _ => []
def tryH : Stmt → List Stmt
  | .Try _ [.ExceptHandler _ _ b _] _ _ _ => b
  | _ => []
def tIs (K : PySem.W.Frag) (a : Addr) (cls : Value) (d : Option Addr) (C : Addr) : TE := tCB (rIsX K a cls d) (tCons (tVar 1) (tCons (tC (.ref C)) tNil))
def tSuite (K : PySem.W.Frag) (Cs : Nat → Addr) (a : Addr) (cls : Value) (d : Option Addr) : TS :=
  tSeq (tAsg (tLst (tCons (tIs K a cls d (Cs 0)) (tCons (tIs K a cls d (Cs 1)) (tCons (tIs K a cls d (Cs 2)) (tCons (tIs K a cls d (Cs 3)) tNil))))) (gName 2))
  (tSeq (tAsg (tOp rCat (tVar 2) (tLst (tCons (tIs K a cls d (Cs 4)) (tCons (tIs K a cls d (Cs 5)) (tCons (tIs K a cls d (Cs 6)) (tCons (tIs K a cls d (Cs 7)) tNil)))))) (gName 2))
    (tRet (tOp rCat (tVar 2) (tLst (tCons (tCB (rIsX K a cls d) (tCons (tVar 1) (tCons (tC (.ty "ValueError")) tNil))) tNil)))))
theorem und_suite {g : Addr} {cdg : Value} {s : Shared} {H : Hp} (T : Errs X.K X.mg FF Cs) (a : Addr) (oe : Obj) (cls : Value) (d : Option Addr) (pn : List (Addr × Obj)) (hz : Zc cls d oe) (hf : ∃ vs, oe.data = .fields vs) :
    PSs ((cxOf C8.CX0 X.prog X.w X.K X.mg X.base Ng "_law_under" (defScope sUnd) g cdg X.A X.stack s H C8.E0).nox.suite a ((a, oe) :: pn)) (tryH ((defBody sUnd).getD 0 (.Pass ⟨0, 0, 0, 0⟩))) (tSuite X.K Cs a cls d) :=
  pss_cons (ps_set (i := 2) scU.nd rfl (Or.inl rfl) (by exact (pe_lst (pa_cons (pe_isi hz hf T.nI (pv 1) (pe_cls T.g0)) (pa_cons (pe_isi hz hf T.nI (pv 1) (pe_cls T.g1)) (pa_cons (pe_isi hz hf T.nI (pv 1) (pe_cls T.g2)) (pa_cons (pe_isi hz hf T.nI (pv 1) (pe_cls T.g3)) pa_nil)))))))
  (pss_cons (ps_set (i := 2) scU.nd rfl (Or.inl rfl) (by exact (pe_op op_cat (pv 2) (pe_lst (pa_cons (pe_isi hz hf T.nI (pv 1) (pe_cls T.g4)) (pa_cons (pe_isi hz hf T.nI (pv 1) (pe_cls T.g5)) (pa_cons (pe_isi hz hf T.nI (pv 1) (pe_cls T.g6)) (pa_cons (pe_isi hz hf T.nI (pv 1) (pe_cls T.g7)) pa_nil))))))))
  (pss_one (ps_ret (by exact (pe_op op_cat (pv 2) (pe_lst (pa_cons (pe_isi hz hf T.nI (pv 1) (pe_ty T.nV PyProof.Rows.Boot.«ValueError»)) pa_nil)))))))
theorem und_gives (T : Errs X.K X.mg FF Cs) {g : Addr} {cdg : Value} {q : Str} : GivesTo X Ng "_law_under" (defScope sUnd) g cdg (defBody sUnd) "what" q (TUnd Cs) := by
  intro f c' s H Q tl act hc h
  refine ⟨_, pss_cons (ps_try_as (X := (cxOf C8.CX0 X.prog X.w X.K X.mg X.base Ng "_law_under" (defScope sUnd) g cdg X.A X.stack s H C8.E0).nox) (i := 1) (c := .ref FF) (n := "e")
      (tb := fun W D σ H => ∃ Ech : XK, (∀ cls d σ' H', Ech cls d H' → W cls d σ' H') ∧ σ[0]? = some (some (.ref f)) ∧ H c' = some (CodeO c' q) ∧ tl Ech H (fun _ H' => D.nx σ H'))
      (ts := fun a cls d D σ H => σ.length = 3 → tSuite X.K Cs a cls d D σ H) (Wout := fun _ _ _ _ => False)
      rfl rfl scU.nd rfl rfl ⟨rfl, by decide, .inl T.gF⟩ LamX.takes0 (fun W pn xe tk _ => ?_) (fun a oe cls d pn hz hf => PSs.len (und_suite T a oe cls d pn hz hf))) (pss_one (ps_ret (pe_lst pa_nil))), ?_⟩
  · refine ⟨fun pins s' σ H' D I ⟨Ech, hW, h1, h2, h3⟩ => ?_⟩
    have hp := act W pn xe Ech ⟨295, 8, 295, 12⟩ ⟨295, 8, 295, 14⟩ tk hW
    exact (pss_one (ps_expr (pos := ⟨295, 8, 295, 14⟩) hp)).run pins s' σ H' D I ⟨h1, h2, h3⟩
  · refine ⟨fun cls d H' => EUnd Cs Q cls d H', fun cls d σ' H' hE => ?_, rfl, hc, h⟩
    obtain ⟨j, hj, rfl, hd, w⟩ := hE
    refine ⟨true, T.ex j hj, fun _ a ha len => ?_, fun z => nomatch z⟩
    rw [List.length_set] at len
    obtain ⟨x, y, z, rfl⟩ : ∃ x y z, σ' = [x, y, z] := by
      match σ', len with
      | [x, y, z], _ => exact ⟨x, y, z, rfl⟩
    have dd : ∀ {p : Addr} {o : HO} {H1 : Hp}, (d = none ∨ ∃ dx fs, d = some dx ∧ H1 dx = some (.xd fs)) → H1 p = none → (d = none ∨ ∃ dx fs, d = some dx ∧ upd H1 p o dx = some (.xd fs)) := fun {p o H1} h n => by
      rcases h with h | ⟨dx, fs, e, h⟩
      · exact .inl h
      · exact .inr ⟨dx, fs, e, by rw [upd_ne (ne_of_none h n)]; exact h⟩
    have is1 : ∀ (i : Nat) {H1 : Hp} {R : VK} {σ1 : L2.St}, i < 8 → (d = none ∨ ∃ dx fs, d = some dx ∧ H1 dx = some (.xd fs)) → σ1[1]? = some (some (.ref a)) → R (.bl (decide (j = i))) H1 → tIs X.K a (.ref (Cs j)) d (Cs i) σ1 H1 R :=
      fun i {H1 R σ1} hi h1 h2 h3 => ⟨.ref a, h2, Cs j, _, _, _, rfl, T.er j hj, h1, rfl, .own _, T.ki j hj i hi, h3⟩
    refine is1 0 (by decide) hd rfl (is1 1 (by decide) hd rfl (is1 2 (by decide) hd rfl (is1 3 (by decide) hd rfl ⟨(by decide : 4 ≤ sizeLine), fun p1 n1 => ?_⟩)))
    have hd1 := dd (o := .lst [.bl (decide (j = 0)), .bl (decide (j = 1)), .bl (decide (j = 2)), .bl (decide (j = 3))]) hd n1
    refine ⟨_, rfl, is1 4 (by decide) hd1 rfl (is1 5 (by decide) hd1 rfl (is1 6 (by decide) hd1 rfl (is1 7 (by decide) hd1 rfl ⟨(by decide : 4 ≤ sizeLine), fun p2 n2 => ?_⟩)))⟩
    have hd2 := dd (o := .lst [.bl (decide (j = 4)), .bl (decide (j = 5)), .bl (decide (j = 6)), .bl (decide (j = 7))]) hd1 n2
    have n12 : p1 ≠ p2 := ne_of_none upd_same n2
    refine ⟨_, _, _, _, rfl, rfl, by rw [upd_ne n12]; exact upd_same, upd_same, by exact (by decide : 8 ≤ sizeLine), fun p3 n3 => ?_⟩
    have hd3 := dd (o := .lst [.bl (decide (j = 0)), .bl (decide (j = 1)), .bl (decide (j = 2)), .bl (decide (j = 3)), .bl (decide (j = 4)), .bl (decide (j = 5)), .bl (decide (j = 6)), .bl (decide (j = 7))]) hd2 n3
    refine ⟨_, rfl, .ref a, rfl, Cs j, _, _, _, rfl, T.er j hj, hd3, rfl, .ty _, T.kv j hj, (by decide : 1 ≤ sizeLine), fun p4 n4 => ?_⟩
    have n34 : p3 ≠ p4 := ne_of_none upd_same n4
    refine ⟨_, _, _, _, rfl, rfl, by rw [upd_ne n34]; exact upd_same, upd_same, by exact (by decide : 9 ≤ sizeLine), fun p5 n5 => ?_⟩
    exact w p5 _ ((same_new n1).trans ((same_new n2).trans ((same_new n3).trans ((same_new n4).trans (same_new n5))))) upd_same
end
end K23
set_option Elab.async false
set_option linter.all false
set_option maxRecDepth 100000
set_option maxHeartbeats 2000000
/-! GenX: a generator expression over any source that the library can walk; its element reads only. -/
namespace GenX
open PySem PySem.Spec PyProof.Rows L2 GxR
section
variable {X : Cx} {pins : List (Addr × Obj)} {σ : L2.St}
/-- iter(xv) lays one object, a walk of n items, the i-th told by Pf; it looks at fp alone -/
structure Src (X : Cx) (P : Addr) (s : Shared) (xv : Value) (n : Nat) (Pf : Nat → Value → Prop) (fp : List Addr) : Prop where
  go : ∀ {A : Around} {E Q : Value → Shared → Prop}, (∀ (o : Obj) (St : Nat → Heap → Prop), (∀ B : Around, B.handled = none → Walks X.prog X.w B s.heap.objs.size fp [s.heap.objs.size] n Pf St) → St 0 (s.heap.push o) →
    Q (.ref s.heap.objs.size) { s with heap := s.heap.push o }) → wpAny (model X.prog X.w) A (pyIter xv) Q E s
  fp : ∀ b ∈ fp, b ≤ s.heap.objs.size ∧ b ≠ P
/-- the element at each item; href: a later heap, the table's object aside -/
def Elt (X : Cx) (P : Addr) (scope : Scope) (x : Str) (elt : Expr) (s : Shared) (Pf F : Nat → Value → Prop) : Prop :=
  ∀ (href : Heap) (C : Addr) (code : Value) (bi : Addr), (∀ b o, b ≠ P → s.heap.get? b = some o → href.get? b = some o) → s.heap.objs.size < C →
    QuietGen X.prog X.w (genEnv scope (cloFrom X.env.cells scope.names []) C code bi X.env) x [] elt (List.range C) [s.heap.objs.size] Pf (fun _ => true) F href
/-- the generator g is made and may be walked; H1: what was held before -/
def Rdy (X : Cx) (pins : List (Addr × Obj)) (σ : L2.St) (H1 : Hp) (P : Addr) (n : Nat) (F : Nat → Value → Prop) (g : Addr) (s : Shared) : Prop :=
  ∃ (fp wr : List Addr) (G : Array GenState → Array GenState → Prop) (F' : Nat → Value → Prop) (St : Nat → Shared → Prop), WalksS X.prog X.w X.A.in1 g fp wr G n F' St ∧ (∀ i v, F' i v → F i v) ∧ St 0 s ∧
    ∀ s', Moved wr G s s' → ∃ H2, Tabbed P H1 H2 ∧ Inv X pins σ H2 s'
theorem gen_src {c P : Addr} {elt iter : Expr} {x : Str} {px gpos : Pos} {scope : Scope} {te : TE} {k : Nat} {H : Hp} {s : Shared} {Q : Value → Shared → Prop} {Kv : V → Hp → Prop}
    (room : Room k X.A) (TB : GxR.TabB X.base X.mg c P) (code : X.env.code = .ref c) (S : GenS X.env scope x) (hi : PE X iter te) (fold : ∀ v, genFold iter X.env v = pure v) (I : Inv X pins σ H s) (w : te σ H Kv)
    (src : ∀ (v : V) (u : Value) (H1 : Hp) (s1 : Shared), Inv X pins σ H1 s1 → RelV v u → Kv v H1 → TabG H1 P ∧ ∃ n Pf fp F, Src X P s1 u n Pf fp ∧ Elt X P scope x elt s1 Pf F ∧ ∀ g s2, Rdy X pins σ H1 P n F g s2 → Q (.ref g) s2) :
    wpAny (model X.prog X.w) X.A (eval (.GeneratorExp elt [⟨.Name x px, iter, [], 0⟩] scope gpos) X.env) Q X.xe s := by
  have deep := room.dp
  refine wpAny_GeneratorExp_walksQ room.hd S.co (closure_ok S.free) S.cell S.dot S.loc S.kind (by omega) (thn (hi.run pins s σ H Kv I w) fun u s1 ⟨v, H1, I1, ru, kv⟩ => ?_) fold
  obtain ⟨⟨ps, atP, okP⟩, n, Pf, fp, F, sr, el, fin⟩ := src v u H1 s1 I1 ru kv
  refine sr.go fun o St W st0 => ?_
  have tab1 : s1.heap.get? P = some { cls := .none, data := .fields ps } := I1.hok P _ atP
  have ltP := Heap.lt_size tab1
  have up : ∀ b u, s1.heap.get? b = some u → (s1.heap.push o).get? b = some u := fun b u e => Heap.get?_push_of_some _ e
  have hd2 : PySem.W.CodeHd (s1.heap.push o) c P := TB.code.keeps fun b u e => up b u (I1.bk b u e)
  have lim := I1.nolimit.push o
  have static : cStatics < s1.heap.objs.size ∧ cStatics ≠ P := by
    obtain ⟨_, hn, _⟩ := I1.nolimit
    refine ⟨hn.lt, fun z => ?_⟩
    obtain ⟨_, _, _, e1, e2, _⟩ := hn
    rw [z, tab1] at e1
    cases e1; cases e2
  -- behind the code object: h3, in which the table may have grown
  have rest : ∀ (cv : Value) (h3 : Heap) (tk : Nat) (more : Array Value), Heap.ExtBut P (s1.heap.push o) h3 → (s1.heap.push o).objs.size ≤ h3.objs.size → h3.get? P = some { cls := .none, data := .fields (ps ++ more) } → TriplesOk (ps ++ more).toList →
      wpAny (model X.prog X.w) X.A (builtinsFor X.env.globals X.env.builtins) (fun bi s4 =>
        ∃ Ia fp' wr n0 Pz St0 pz Fz, Value.ref s1.heap.objs.size = .ref Ia ∧ (∀ B : Around, B.handled = none → Walks X.prog X.w B Ia fp' wr n0 Pz St0) ∧ St0 0 s4.heap ∧ (∀ b ∈ fp', b < s4.heap.objs.size) ∧ s4.heap.NoLimit ∧ cStatics ∉ wr ∧
          (∀ href : Heap, (∀ b u, s4.heap.get? b = some u → href.get? b = some u) → QuietGen X.prog X.w (genEnv scope (cloFrom X.env.cells scope.names []) s4.heap.objs.size cv bi X.env) x [] elt (List.range s4.heap.objs.size) wr Pz pz Fz href) ∧
          (∀ a h5 tk' gs, gs.bare = true → s4.heap.objs.size < a → h5.objs.size = a + 1 → (∀ b u, s4.heap.get? b = some u → h5.get? b = some u) →
            WalksS X.prog X.w X.A.in4 a (a :: s4.heap.objs.size :: List.range s4.heap.objs.size) (s4.heap.objs.size :: wr) (GenOnlyQ s4.gens.size) (passing pz n0 0).length (fun j y => ∃ i, (passing pz n0 0)[j]? = some i ∧ Fz i y)
              (GenAt X.prog X.w X.A.in4 a s4.gens.size s4.heap.objs.size (List.range s4.heap.objs.size) wr pz n0 Fz) →
            GenAt X.prog X.w X.A.in4 a s4.gens.size s4.heap.objs.size (List.range s4.heap.objs.size) wr pz n0 Fz 0 { s4 with gens := s4.gens.push gs, toks := tk', heap := h5 } →
            Q (.ref a) { s4 with gens := s4.gens.push gs, toks := tk', heap := h5 })) X.xe { s1 with heap := h3, toks := tk } := by
    intro cv h3 tk more but grow tab3 ok3
    obtain ⟨bm, ob, b1, b2, b3, b4, b5, b6, b7, b8⟩ := TB.bm
    have old : ∀ b u, b ≠ P → s1.heap.get? b = some u → h3.get? b = some u := fun b u hb e => but b u hb (up b u e)
    have size2 : (s1.heap.push o).objs.size = s1.heap.objs.size + 1 := Heap.size_push ..
    refine wpAny_builtinsFor (m := X.mg) (by rw [I1.ok.glob]; exact ((I1.mod.glob.keeps I1.bk).push o).extBut but TB.gP) b1 b2 (old _ _ b4 (I1.bk _ _ b5)) b6 b7 b8 ⟨_, fp, [s1.heap.objs.size], n, Pf, St, fun _ => true, F, rfl, W, ?_, fun b hb => ?_, lim.extBut but static.2, ?_, fun href kept => ?_, ?_⟩
    · exact (W X.A room.hd).frame _ _ _ st0 fun b hb u e => but b u (sr.fp b hb).2 e
    · exact Nat.lt_of_le_of_lt (sr.fp b hb).1 (show s1.heap.objs.size < h3.objs.size by omega)
    · intro z
      have := static.1
      rw [List.mem_singleton.mp z] at this
      exact Nat.lt_irrefl _ this
    · exact el href h3.objs.size cv _ (fun b u hb e => kept b u (old b u hb e)) (by omega)
    · intro g h5 tk5 gs bare gt sz5 kept5 W5 at5
      simp only [GxR.passing_true, List.length_range] at W5
      refine fin g _ ⟨_, _, _, _, _, W5.in4_1, fun i y hy => ?_, at5, fun s' mv => ?_⟩
      · obtain ⟨j, ej, hF⟩ := hy
        obtain ⟨lj, e⟩ := List.getElem?_eq_some_iff.mp ej
        rw [List.getElem_range] at e
        subst e
        exact hF
      · have fresh : ∀ b u, s1.heap.get? b = some u → b ∉ h3.objs.size :: [s1.heap.objs.size] := fun b u e hb => by
          have lb := Heap.lt_size e
          rcases List.mem_cons.mp hb with z | z
          · rw [z] at lb
            exact Nat.lt_irrefl s1.heap.objs.size (Nat.lt_of_le_of_lt (show s1.heap.objs.size ≤ h3.objs.size by omega) lb)
          · rw [List.mem_singleton.mp z] at lb
            exact Nat.lt_irrefl _ lb
        have J := GxR.inv_tab (more := more) (h' := s'.heap) (g' := s'.gens) (d' := s'.drawn) (t' := s'.toks) I1 atP (fun b u hb e => mv.heap b u (fresh b u e) (kept5 b u (old b u hb e))) (mv.heap P _ (fresh P _ tab1) (kept5 P _ tab3)) (AllBare.movedS (I1.bare.push bare) mv)
        rw [GxR.sh_eta s1 s' mv.os] at J
        exact ⟨upd H1 P (.tbl (ps ++ more)), ⟨⟨ps ++ more, upd_same, ok3⟩, fun b hb => upd_ne hb⟩, J⟩
  refine ⟨lim, ?_⟩
  cases found : codeAmong gpos ps.toList with
  | some cv =>
    refine wpAny_genexprCode_hit code (hd2.code (up _ _ tab1) okP) found (rest cv (s1.heap.push o) s1.toks #[] (Heap.ExtBut.refl _ _) (Nat.le_refl _) ?_ ?_)
    · rw [Array.append_empty]; exact up _ _ tab1
    · rw [Array.append_empty]; exact okP
  | none =>
    refine wpAny_genexprCodeX code (hd2.code (up _ _ tab1) okP) (hd2.tab (up _ _ tab1)) found fun c' h' tk but le lt co _ tb _ => ?_
    obtain ⟨_, _, _, _, _, _, _, _, _, _, _, _, _, _, _, _, _, _, _, ok', _⟩ := co
    exact rest _ h' tk _ but (Nat.le_trans le (Nat.le_of_lt lt)) tb.2 ok'
/-- any(e for x in d), d an empty dict -/
def tAnyE (P : Addr) (te : TE) : TE := fun σ H Q => te σ H fun v H1 => ∃ d, v = .ref d ∧ H1 d = some (.dK []) ∧ TabG H1 P ∧ ∀ H2, Tabbed P H1 H2 → Q (.bl false) H2
theorem pe_anyE {c P : Addr} {elt iter : Expr} {x : Str} {px p pos gpos : Pos} {scope : Scope} {te : TE} {k : Nat} (room : Room k X.A) (hg : Gl X "any") (hm : X.mg "any" = none) (TB : GxR.TabB X.base X.mg c P) (code : X.env.code = .ref c) (S : GenS X.env scope x) (hi : PE X iter te)
    (fold : ∀ v, genFold iter X.env v = pure v) (he : starEach [.GeneratorExp elt [⟨.Name x px, iter, [], 0⟩] scope gpos] X.env = (false, eval (.GeneratorExp elt [⟨.Name x px, iter, [], 0⟩] scope gpos) X.env) :: starEach [] X.env := by rfl) :
    PE X (.Call (.Name "any" p) [.GeneratorExp elt [⟨.Name x px, iter, [], 0⟩] scope gpos] [] pos) (tAnyE P te) := by
  refine ⟨fun pins s σ H Q I h => wpAny_Call_Name_kw (ld_blt I hg hm PyProof.Rows.Boot.«any» (PyProof.Rows.callWith_builtin1 ?_ he (by rfl)))⟩
  rw [he]
  show wpAny _ _ (spliced ((false, eval (.GeneratorExp elt [⟨.Name x px, iter, [], 0⟩] scope gpos) X.env) :: backTo pos (starEach [] X.env))) _ _ s
  refine Calls.spliced_cons (gen_src room TB code S hi fold I h fun v u H1 s1 I1 ru ⟨d, ev, at1, tab, q⟩ => ?_)
  subst ev
  obtain rfl : u = Value.ref d := ru
  refine ⟨tab, 0, fun _ _ => False, [s1.heap.objs.size, d], fun _ _ => False, ?_, ?_, fun g s2 rd => ?_⟩
  · obtain ⟨_, nsys, vs, kv, D⟩ := (show ObjOk X.prog X.w H1 s1.heap d (.dK []) from I1.hok d _ at1)
    obtain ⟨es, ep, raw, size, _⟩ := D.raw
    have lt : d < s1.heap.objs.size := let ⟨_, e, _⟩ := raw; Heap.lt_size e
    have e0 : es.size = 0 := by
      rw [size]
      cases kv
      rfl
    let St : Nat → Heap → Prop := fun i h => h.IsKeyIter s1.heap.objs.size d i es.size ep ∧ h.DictRaw d es ep
    have ne : s1.heap.objs.size ≠ d := Nat.ne_of_gt lt
    obtain ⟨ps, atP, _⟩ := tab
    refine ⟨fun {A E Q} q => wpAny_pyIter_dict_raw nsys raw (q _ St (fun B hB => ?_) ⟨⟨_, Heap.get?_push_size _ rfl, rfl, rfl⟩, raw.at fun o e => Heap.get?_push_of_some _ e⟩), fun b hb => ?_⟩
    · have W := Walks.rawKeys (prog := X.prog) (w := X.w) hB s1.heap.objs.size d (Nat.ne_of_lt lt) es ep
      have e : ∀ h : Heap, St 0 h → St es.size h := fun h z => (congrArg (fun j => St j h) e0).symm ▸ z
      exact ⟨W.sub, W.frame, fun i s Q E lt => absurd lt (Nat.not_lt_zero _), fun s Q E st => W.done s Q E (e _ st), W.self⟩
    · rcases List.mem_cons.mp hb with z | z
      · rw [z]
        exact ⟨Nat.le_refl _, fun e => Nat.lt_irrefl s1.heap.objs.size (by have l : P < s1.heap.objs.size := (I1.hok P _ atP).lt; rw [← e] at l; exact l)⟩
      · rw [List.mem_singleton.mp z]
        exact ⟨Nat.le_of_lt lt, fun e => by rw [e, atP] at at1; cases at1⟩
  · exact fun href C code bi _ _ => ⟨fun _ _ _ _ _ _ _ z => z.elim, fun _ _ _ _ _ _ _ z => z.elim⟩
  · obtain ⟨fp, wr, G, F', St, W, hF, st, mv⟩ := rd
    refine Calls.spliced_nil (call_any_walkS (W.self 0 _ _ _ st ⟨g, fp, wr, G, _, F', St, fun _ => false, rfl, W, st, fun i v _ _ _ z => (hF i v z).elim, fun s' m => ?_⟩))
    obtain ⟨H2, t2, J⟩ := mv s' m
    exact ⟨.bl false, H2, J, rfl, q H2 t2⟩
end
end GenX
set_option Elab.async false
set_option linter.all false
set_option maxRecDepth 100000
set_option maxHeartbeats 2000000
/-! K23d: the defs that refuse. -/
namespace K23
open PySem PySem.Spec PyProof.Rows L2 LamX
theorem itT {c : Bool} {A B : Prop} (hc : c = true) (h : A) : if c = true then A else B := (if_pos hc).symm ▸ h
theorem itF {c : Bool} {A B : Prop} (hc : c = false) (h : B) : if c = true then A else B := by rw [if_neg (show ¬ c = true by rw [hc]; exact Bool.false_ne_true)]; exact h
/-- what is never reached -/
theorem pss_dead {X : Cx} {ss : List Stmt} : PSs X ss (fun _ _ _ => False) := ⟨fun _ _ _ _ _ _ h => h.elim⟩
theorem ps_dead {X : Cx} {st : Stmt} : PS X st (fun _ _ _ => False) := ⟨fun _ _ _ _ _ _ h => h.elim⟩
abbrev bmVE : List Value := [.type "ValueError", .type "Exception", .type "BaseException", .type "object"]
/-- a class of errors without an __init__ of its own -/
structure Rse (K : PySem.W.Frag) (mg : Str → Option Value) (x : Str) (C : Addr) : Prop where
  g : mg x = some (.ref C)
  q : PySem.W.excIn K C bmVE "ValueError.__new__" = true
  k : PySem.W.keepIn K (.ref C) = true
  s : PySem.W.subIn K (.ref C) (.type "BaseException") = some true
  t : PySem.W.typeIn K (.ref C) = some (.type "type")
/-- under Pr the error of the class at C, all that was held is held -/
def spR (C : Addr) (n : Nat) (Pr : List V → Hp → Prop) : Sp := fun vs H _ E => vs.length = n ∧ Pr vs H ∧ ∀ H', Same H H' → E (.ref C) none H'
section
variable {X : Cx} {C : Addr} {W : WX}
/-- raise C('m') -/
theorem ps_rs {x m : Str} {j : Nat} {p p2 p3 pos : Pos} (hc : X.calm = true) (tk : Takes X W) (T : Rse X.K X.mg x C) (hg : Gl X x := by rfl) (hdb : (x == ("__debug__" : Str)) = false := by decide) :
    PS X (.Raise (some (.Call (.Name x p) [.Constant (.str m) j p2] [] p3)) none pos) (fun _ σ H => W (.ref C) none σ H) :=
  ps_raise hc tk (pmk_own F.excBase_ValueError T.q T.g T.k (raises_own T.s T.t) hg hdb)
/-- raise C(e, ..) -/
theorem ps_rsA {x : Str} {e : Expr} {es : List Expr} {t : TA} {p p3 pos : Pos} (hc : X.calm = true) (tk : Takes X W) (T : Rse X.K X.mg x C) (ha : PA X (e :: es) t) (hg : Gl X x := by rfl) (hdb : (x == ("__debug__" : Str)) = false := by decide)
    (he : starEach (e :: es) X.env = (false, eval e X.env) :: starEach es X.env := by rfl) (hpl : (backTo p3 (starEach es X.env)).any (·.1) = false := by rfl) :
    PS X (.Raise (some (.Call (.Name x p) (e :: es) [] p3)) none pos) (fun _ σ H => t σ H fun vs H1 => vs.length ≤ sizeLine ∧ W (.ref C) none σ H1) :=
  ps_raise hc tk (pmk_ownA F.excBase_ValueError T.q T.g T.k (raises_own T.s T.t) hg ha hdb he hpl)
end
section
variable {P : Program} {w : World} {K : PySem.W.Frag} {mg : Str → Option Value} {base : Heap} {C f : Addr} {fd : FuncData}
/-! ### if x < 1: raise .. -/
def rLt : R2 := rI0 fun i j => .bl (decide (i < j))
def tLow (i : Nat) (n : Int) (E : XK) (C : Addr) : TS := tSeq (tIfS (tTest (tOp rLt (tVar i) (tC (.int n)))) (fun _ _ H => E (.ref C) none H) tNext) fun _ _ _ => False
theorem low_run {i : Nat} {n a : Int} {E : XK} {D : Ends} {σ : L2.St} {H : Hp} (h : σ[i]? = some (some (.int a))) (lt : a < n) (k : E (.ref C) none H) : tLow i n E C D σ H := by
  exact ⟨_, h, _, _, rfl, rfl, _, rfl, itT (decide_eq_true lt) k⟩
abbrev sHeap : Stmt := top 12
theorem scHeap : FnScope ["base"] ["base"] (defScope sHeap) := ⟨rfl, rfl, rfl, by decide +kernel, rfl, by decide +kernel, by decide +kernel⟩
theorem ok_heap (F : Fun K "heap" "heap" sHeap f fd) (T : Rse K mg "BadSize" C) : FnOk P w K mg base (L2.CX P w) 3 f fd ["base"] (spR C 1 fun vs _ => ∃ i, vs = [.int i] ∧ i < 0) :=
  F.okX scHeap (fun vs H Q E h => h.1) fun cdv A outer s H vs Q E hr h => ⟨tLow 0 0 E C, pss_cons (ps_if (pt_cmpR op_lt (pv 0) pe_int (nomark _)) (pss_one (ps_rs rfl (takes_of rfl rfl rfl rfl) T)) pss_nil) pss_dead, by
    obtain ⟨_, ⟨i, rfl, lt⟩, k⟩ := h
    exact low_run rfl lt (k H (Same.refl H))⟩
abbrev sPost : Stmt := inClass (top 28) 0
theorem scPost : FnScope ["self", "long"] ["self", "long"] (defScope sPost) := ⟨rfl, rfl, rfl, by decide +kernel, rfl, by decide +kernel, by decide +kernel⟩
theorem ok_post (F : Fun K "__init__" "PostLine.__init__" sPost f fd) (T : Rse K mg "BadLine" C) : FnOk P w K mg base (L2.CX P w) 3 f fd ["self", "long"] (spR C 2 fun vs _ => ∃ a i, vs = [a, .int i] ∧ i < 1) :=
  F.okX scPost (fun vs H Q E h => h.1) fun cdv A outer s H vs Q E hr h => ⟨tLow 1 1 E C, pss_cons (ps_if (pt_cmpR op_lt (pv 1) pe_int (nomark _)) (pss_one (ps_rs rfl (takes_of rfl rfl rfl rfl) T)) pss_nil) pss_dead, by
    obtain ⟨_, ⟨a, i, rfl, lt⟩, k⟩ := h
    exact low_run rfl lt (k H (Same.refl H))⟩
abbrev sGate : Stmt := inClass (top 23) 0
theorem scGate : FnScope ["self", "steps"] ["self", "steps"] (defScope sGate) := ⟨rfl, rfl, rfl, by decide +kernel, rfl, by decide +kernel, by decide +kernel⟩
theorem ok_gate (F : Fun K "__init__" "Gate.__init__" sGate f fd) (T : Rse K mg "BadPlan" C) : FnOk P w K mg base (L2.CX P w) 3 f fd ["self", "steps"] (spR C 2 fun vs _ => ∃ a i, vs = [a, .int i] ∧ i < 1) :=
  F.okX scGate (fun vs H Q E h => h.1) fun cdv A outer s H vs Q E hr h => ⟨tLow 1 1 E C, pss_cons (ps_if (pt_cmpR op_lt (pv 1) pe_int (nomark _)) (pss_one (ps_rs rfl (takes_of rfl rfl rfl rfl) T)) pss_nil) pss_dead, by
    obtain ⟨_, ⟨a, i, rfl, lt⟩, k⟩ := h
    exact low_run rfl lt (k H (Same.refl H))⟩
/-! ### trips -/
abbrev sTrips : Stmt := top 14
abbrev nTrips : List Str := ["weights", "bears", "places", "rows", "left", "weight", "row"]
theorem scTrips : FnScope nTrips ["weights", "bears", "places"] (defScope sTrips) := ⟨rfl, rfl, rfl, by decide +kernel, rfl, by decide +kernel, by decide +kernel⟩
def rGt : R2 := rI0 fun i j => .bl (decide (j < i))
def tTrips (K : PySem.W.Frag) (E : XK) (C1 C2 : Addr) : TS := tSeq (tIfS (tTest (tOp rLt (tVar 2) (tC (.int 1)))) (fun _ _ H => E (.ref C1) none H) tNext)
  (tSeq (tPar 3 4 (tCons (tLst tNil) (tCons (tC (.int 0)) tNil)))
  (tSeq (tFor (iList K (tVar 0)) (gName 5) (tSeq (tIfS (tTest (tOp rGt (tVar 5) (tVar 1))) (fun _ _ H => E (.ref C2) none H) tNext) fun _ _ _ => False)) fun _ _ _ => False))
theorem ok_trips {C1 C2 : Addr} (F : Fun K "trips" "trips" sTrips f fd) (T1 : Rse K mg "BadSize" C1) (T2 : Rse K mg "NoWay" C2) :
    FnOk P w K mg base (L2.CX P w) 3 f fd ["weights", "bears", "places"] (spR C2 3 fun vs H => ∃ a i b, vs = [.ref a, .int b, .int 1] ∧ H a = some (.lst [.int i]) ∧ b < i) :=
  F.okX scTrips (fun vs H Q E h => h.1) fun cdv A outer s H vs Q E hr h => ⟨tTrips K E C1 C2,
    pss_cons (ps_if (pt_cmpR op_lt (pv 2) pe_int (nomark _)) (pss_one (ps_rs rfl (takes_of rfl rfl rfl rfl) T1)) pss_nil)
      (pss_cons (ps_par (i := 3) (j := 4) rfl scTrips.nd rfl rfl (by decide) rfl rfl (by exact (pa_cons (pe_lst pa_nil) (pa_cons pe_int pa_nil))) rfl)
      (pss_cons (ps_for (passes_of rfl) rfl (pi_list (pv 0)) (pg_name (i := 5) scTrips.nd rfl (Or.inl rfl))
        (pss_cons (ps_if (pt_cmpR op_gt (pv 5) (pv 1) (nomark _)) (pss_one (ps_rs rfl (takes_of rfl rfl rfl rfl) T2)) pss_nil) pss_dead)) pss_dead)), by
    obtain ⟨_, ⟨a, i, b, rfl, at0, lt⟩, k⟩ := h
    refine ⟨_, rfl, _, _, rfl, rfl, _, rfl, itF rfl ⟨by decide, fun l hl => ⟨_, _, rfl, ?_⟩⟩⟩
    have hS : SqL K (upd H l (.lst [])) a [.int i] := .inl (.inl (by rw [upd_ne (ne_of_none at0 hl)]; exact at0))
    refine ⟨_, rfl, a, rfl, ⟨_, hS⟩, for_list (K := K) (a := a) (xs := [.int i]) (fun n σ H' => n = 0 ∧ H' = upd H l (.lst []) ∧ σ = [some (.ref a), some (.int b), some (.int 1), some (.ref l), some (.int 0), none, none])
      ⟨rfl, rfl, rfl⟩ (fun n σ H' _ ⟨_, e, _⟩ => e ▸ hS) ?_ ?_⟩
    · rintro n x σ H' hn ⟨rfl, rfl, rfl⟩
      cases hn
      exact ⟨_, rfl, _, rfl, _, _, rfl, rfl, _, rfl, itT (decide_eq_true lt) (k _ (same_new hl))⟩
    · rintro σ H' ⟨z, _⟩
      exact absurd (show (1 : Nat) = 0 from z) (by decide)⟩
/-! ### centred -/
abbrev sCent : Stmt := top 30
abbrev nCent : List Str := ["rows", "wide", "found", "row"]
theorem scCent : FnScope nCent ["rows", "wide"] (defScope sCent) := ⟨rfl, rfl, rfl, by decide +kernel, rfl, by decide +kernel, by decide +kernel⟩
def rLenS : List V → Hp → VK → Prop := fun xs H Q => ∃ z, xs = [.str z] ∧ z.length ≤ sizeLine ∧ Q (.int z.length) H
def tCent (K : PySem.W.Frag) (E : XK) (C : Addr) : TS := tSeq (tAsg (tLst tNil) (gName 2))
  (tSeq (tFor (iList K (tVar 0)) (gName 3) (tSeq (tIfS (tTest (tOp rGt (tCB rLenS (tCons (tVar 3) tNil)) (tVar 1))) (fun _ σ H => tCons (tVar 3) tNil σ H fun vs H1 => vs.length ≤ sizeLine ∧ E (.ref C) none H1) tNext) fun _ _ _ => False)) fun _ _ _ => False)
theorem ok_cent (F : Fun K "centred" "centred" sCent f fd) (T : Rse K mg "NoRoom" C) (nL : mg "len" = none) :
    FnOk P w K mg base (L2.CX P w) 3 f fd ["rows", "wide"] (spR C 2 fun vs H => ∃ a x b, vs = [.ref a, .int b] ∧ H a = some (.lst [.str x]) ∧ x.length ≤ sizeLine ∧ b < x.length) :=
  F.okX scCent (fun vs H Q E h => h.1) fun cdv A outer s H vs Q E hr h => ⟨tCent K E C,
    pss_cons (ps_set (i := 2) scCent.nd rfl (Or.inl rfl) (pe_lst pa_nil))
      (pss_cons (ps_for (passes_of rfl) rfl (pi_list (pv 0)) (pg_name (i := 3) scCent.nd rfl (Or.inl rfl))
        (pss_cons (ps_if (pt_cmpR op_gt (by exact (pe_callB call_len_str rfl nL PyProof.Rows.Boot.«len» (pa_cons (pv 3) pa_nil))) (pv 1) (nomark _))
          (pss_one (ps_rsA rfl (takes_of rfl rfl rfl rfl) T (by exact (pa_cons (pv 3) pa_nil)))) pss_nil) pss_dead)) pss_dead), by
    obtain ⟨_, ⟨a, x, b, rfl, at0, hx, lt⟩, k⟩ := h
    refine ⟨by decide, fun l hl => ?_⟩
    have hS : SqL K (upd H l (.lst [])) a [.str x] := .inl (.inl (by rw [upd_ne (ne_of_none at0 hl)]; exact at0))
    refine ⟨_, rfl, a, rfl, ⟨_, hS⟩, for_list (K := K) (a := a) (xs := [.str x]) (fun n σ H' => n = 0 ∧ H' = upd H l (.lst []) ∧ σ = [some (.ref a), some (.int b), some (.ref l), none])
      ⟨rfl, rfl, rfl⟩ (fun n σ H' _ ⟨_, e, _⟩ => e ▸ hS) ?_ ?_⟩
    · rintro n y σ H' hn ⟨rfl, rfl, rfl⟩
      cases hn
      exact ⟨_, rfl, x, rfl, hx, _, rfl, _, _, rfl, rfl, _, rfl, itT (decide_eq_true lt) ⟨_, rfl, by exact (by decide : 1 ≤ sizeLine), k _ (same_new hl)⟩⟩
    · rintro σ H' ⟨z, _⟩
      exact absurd (show (1 : Nat) = 0 from z) (by decide)⟩
end
end K23
set_option Elab.async false
set_option linter.all false
set_option maxRecDepth 100000
set_option maxHeartbeats 2000000
/-! KBad: an own error over ValueError whose __init__ says super().__init__('bad text'), then self.row = row (skel 42's Low, turned to that). -/
namespace PySem
namespace BadX
open PySem.W PySem.Calls PyProof.Rows PySem.HandSPX
def iA : Arguments := { posonlyargs := [], args := [{ arg := "self", annotation := none, pos := ⟨21, 17, 21, 21⟩ }, { arg := "row", annotation := none, pos := ⟨21, 23, 21, 26⟩ }], vararg := none, kwonlyargs := [], kw_defaults := [], kwarg := none, defaults := [] }
def iB : List Stmt := [.Expr (.Call (.Attribute (.Call (.Name "super" ⟨22, 8, 22, 13⟩) [] [] ⟨22, 8, 22, 15⟩) "__init__" ⟨22, 8, 22, 24⟩) [.Constant (.str "bad text") 0 ⟨22, 25, 22, 35⟩] [] ⟨22, 8, 22, 36⟩) ⟨22, 8, 22, 36⟩,
  .Assign [.Attribute (.Name "self" ⟨23, 8, 23, 12⟩) "row" ⟨23, 8, 23, 16⟩] (.Name "row" ⟨23, 19, 23, 22⟩) ⟨23, 8, 23, 22⟩]
def iS : Scope := { kind := .function, names := [(PySem.Str.ofString "self", .local), (PySem.Str.ofString "row", .local), (PySem.Str.ofString "__class__", .free), (PySem.Str.ofString "super", .globalImplicit)], isGenerator := false, isCoroutine := false, more := [] }
/-- what the written part says of BadText, at C, of its __init__, at fI, of the cell of __class__, at cc -/
structure BadTxt (prog : Program) (K : Frag) (mg : Str → Option Value) (C fI cc cda : Addr) : Prop where
  gC : mg "BadText" = some (.ref C)
  gS : mg "super" = none
  cls : ∃ nm q N bs bm sn sub ab col dd k0 k1 k2 k3 k5, K.lookup C = some (excClassObj nm q C N bs bm true sn sub ab col dd k0 k1 k2 k3 k5 "ValueError.__new__") ∧ refsVE bm = true
  sa : findIn K (.ref C) "__setattr__" = some (some (.builtin "object.__setattr__"))
  noR : findIn K (.ref C) "row" = some none
  iC : findIn K (.ref C) "__init__" = some (some (.ref fI))
  tC : typeIn K (.ref fI) = some (.type "function")
  kC : keepIn K (.ref C) = true
  exC : subIn K (.ref C) (.type "BaseException") = some true
  veC : subIn K (.ref C) (.type "ValueError") = some true
  tyC : typeIn K (.ref C) = some (.type "type")
  meC : mroIn K C (.ref C) = some true
  suC : ks_superIn K C C "__init__" = some (some (.builtin "ValueError.__init__"))
  opq : nsIn K cStatics "thirdparty.any" = some none
  fn : ∃ (oc : Value) (od : Option Addr) (kV doc pm : Value) (an : Option Addr) (ct : Value) (osl : Array (Option Value)),
    K.lookup fI = some ⟨oc, od, .func (ksFn "__init__" "BadText.__init__" iA iB iS .none kV doc pm an (.ref cda) ct cc), osl⟩ ∧ codeIn K (.ref cda) "BadText.__init__" = true
  code : ∃ ccl cdd vs ccs file tf, K.lookup cda = some ⟨ccl, cdd, .fields vs, ccs⟩ ∧ vs[2]? = some (.str file tf) ∧ ((prog.main.file : Str) == file) = true
  cell : ∃ cl cld csl, K.lookup cc = some ⟨cl, cld, .cell (some (.ref C)), csl⟩
  top : (prog.main.scope.names.lookup ("super" : Str)).isSome = false
/-- what __init__ leaves of a fresh exception at x -/
structure InitEnd (h h' : Heap) (x C dx t1 : Addr) (v : Value) : Prop where
  keep : ∀ b o, b ≠ x → h.get? b = some o → h'.get? b = some o
  obj : h'.get? x = some { cls := .ref C, dict := some dx, data := .fields #[.ref t1, .none, .none, .none, .bool false, .none] }
  dbig : h.objs.size ≤ dx
  dne : dx ≠ x
  ns : h'.Ns1 dx (fun y => if y = "row" then some v else none)
section
variable {prog : Program} {w : World} {A : Around} {E : Value → Shared → Prop} {R : Result → Shared → Prop} {s : Shared} {K : Frag} {mg : Str → Option Value} {C fI cc cda : Addr}
theorem bad_init (T : BadTxt prog K mg C fI cc cda) {x t0 : Addr} {v : Value} (X : K.In s.heap) (glob : s.heap.Ns mainGlobals mg) (blt : ∃ mb, s.heap.Ns builtinsNs mb ∧ ∀ y : Str, y ≠ "__name__" → mb y = bootBuiltins y) (hlim : s.heap.NoLimit)
    (hx : s.heap.get? x = some (excO C t0)) (hnx : K.lookup x = none) (hroom : A.depth < recursionLimit) (hq : ∀ h' tk dx t1, InitEnd s.heap h' x C dx t1 v → R (.ok (.ret .none)) { s with heap := h', toks := tk }) :
    codeAny (model prog w) A (.call (.ref fI) ⟨[.ref x, v], []⟩) R s := by
  obtain ⟨oc, od, kV, doc, pm, an, ct, osl, ho, hcd⟩ := T.fn
  obtain ⟨nm, q, N, bs, bm, sn, sub, ab, col, dd, k0, k1, k2, k3, k5, hC, hbm⟩ := T.cls
  have noCell : ∀ y ∈ iS.names, y.2 ≠ .cell := by decide
  have isLoc : ∀ y ∈ [(("self" : Str), Value.ref x), ("row", v)], iS.names.lookup y.1 = some .local := fun y hy => by
    rcases List.mem_cons.mp hy with rfl | hy
    · rfl
    · rw [List.mem_singleton.mp hy]; rfl
  obtain ⟨ccl, cdd, vs, ccs, file, tf, hcode, hvs, hfile⟩ := T.code
  obtain ⟨cl, cld, csl, hcell⟩ := T.cell
  have hcl : clsIn K C = some { name := nm, bases := bs, mro := .ref C :: bm, ns := N, qualname := q, hasDict := true, slotNames := sn, subclasses := sub, abstract := ab, collection := col, hasDel := false } := by unfold clsIn; rw [hC] <;> rfl
  refine ks_codeAny_call_defAt (fd := ksFn "__init__" "BadText.__init__" iA iB iS .none kV doc pm an (.ref cda) ct cc) (body := iB) (binds := [("self", .ref x), ("row", v)]) hroom (X _ _ ho) rfl hlim (codeRec_of X hcd) rfl
    (BindsTo.of_eq (by first | rfl | with_unfolding_all rfl)) noCell isLoc (fun h1 hn k => ?_) rfl rfl rfl
  have xL : s.heap.objs.size ≠ x := Nat.ne_of_gt (Heap.lt_size hx)
  have X1 : K.In h1 := X.keeps k
  have hx1 := k _ _ hx
  -- super().__init__('bad text')
  refine ks_wpAt_execs_cons (ks_wpAt_Expr_any (ks_wpAt_MethodCall ?_))
  refine ks_wpAt_super_base (ar := { arg := "self", annotation := none, pos := ⟨21, 17, 21, 21⟩ }) (by rfl) (by rfl) (by rfl) rfl (X1 _ _ ho) rfl rfl rfl (X1 _ _ hcode) rfl hvs hfile T.top ?_
  obtain ⟨mb, hb1, hb2⟩ := blt
  refine ks_loadName_global (by rfl) (by rfl) (loadGlobal_builtin (glob.keeps k) T.gS (hb1.keeps k) ((hb2 _ (by decide)).trans PyProof.Rows.Boot.«super») ⟨rfl, ?_⟩)
  have hD2 : h1.get? C = some (excClassObj nm q C N bs bm true sn sub ab col dd k0 k1 k2 k3 k5 "ValueError.__new__") := X1 _ _ hC
  refine wpAny_loadName_free (by rfl) (by rfl) rfl ⟨_, X1 _ _ hcell, rfl⟩ (wpAny_loadName_local (by rfl) (by rfl) hn (by rfl) (ks_wpAny_isType_cls hD2 rfl ⟨rfl, ?_⟩))
  refine ks_wpAny_call_super hD2 rfl hx1 rfl (fun c z => by cases z) (looks_mroIn X1 T.meC) fun h2 e2 k2 => ?_
  have X2 : K.In h2 := X1.keeps k2
  have hx2 := k2 _ _ hx1
  have I2 : InstAt h2 x (excO C t0) C none := ⟨hx2, rfl, rfl, trivial⟩
  have along := T.suC
  unfold ks_superIn at along
  rw [hcl] at along
  refine kxs_getMethod kxs_ValueError e2 (looks_opaque X2 T.opq) (l₀ := .ref C :: bm) (fun A Q E s kk q => wpAny_bind ((looks_clsIn X2 hcl) A _ E s kk (wpAny_pure q))) rfl X2 along (I2.type.andThen (looks_subIn X2 T.veC)) (ks_ne X2 I2 hcl) (by rfl) ?_
  refine kxs_callWith (i := "ValueError.__init__") (x := x) (by rfl) (evalArgs_plain (Calls.spliced_cons ?_))
  refine Calls.Constant_str (k := 0) (pos := ⟨22, 25, 22, 35⟩) (Calls.spliced_nil ⟨Heap.get?_push_size _ rfl, ?_⟩)
  have up3 : ∀ b o, h2.get? b = some o → (h2.push (kxs_mw "ValueError.__init__" x)).get? b = some o := fun b o e => Heap.get?_push_of_some _ e
  refine wpAny_call (codeAny_of_tree ?_)
  show wpAny _ (Around.in1 _) (callAny (.ref h2.objs.size) ⟨[.str "bad text" _], []⟩) _ _ _
  unfold callAny
  refine wpAny_bind (wpAny_load (Heap.get?_push_size _ rfl) ?_)
  refine KFB.if_so (by show (Value.type "method-wrapper" == Value.type "method" || Value.type "method-wrapper" == Value.type "builtin_function_or_method" || Value.type "method-wrapper" == Value.type "method-wrapper") = true; decide) ?_
  refine KFB.if_so (by show (Value.type "method-wrapper" != Value.type "method") = true; decide) ?_
  refine wpAny_bind (check_bound_init PySem.F.excBase_ValueError.toExcCallFacts (up3 _ _ (X2 _ _ hC)) (up3 _ _ hx2) rfl (wpAny_bind (wpAny_pure (wpAny_pure ⟨plainId_quiet PySem.F.excBase_ValueError.init.plain _, codeAny_builtin PySem.F.excBase_ValueError.initEntry ?_⟩))))
  refine exc_init_tree (cls := .ref C) (t0 := t0) (dv := none) (c2 := .none) (c3 := .none) (b4 := .bool false) (up3 _ _ hx2) (by exact (by decide : 1 ≤ sizeLine)) fun h3 k3 e3 _ => ?_
  -- self.row = row
  have X3 : K.In h3 := fun a o e => k3 a o (fun z => by rw [z, hnx] at e; cases e) (up3 _ _ (X2 a o e))
  have keep3 : ∀ b o, b ≠ x → h1.get? b = some o → h3.get? b = some o := fun b o hb e => k3 b o hb (up3 _ _ (k2 b o e))
  have hn3 : h3.Ns s.heap.objs.size fun y => [(("self" : Str), Value.ref x), ("row", v)].reverse.lookup y := by
    obtain ⟨o, es, ep, eo, r⟩ := hn
    exact ⟨o, es, ep, keep3 _ _ xL eo, r⟩
  refine wpAt_of_wpAny (wpAny_execs_cons (plainObj_wpAny_Assign_Attribute ?_))
  refine wpAny_Name (wpAny_loadName_local (by rfl) (by rfl) hn3 (by rfl) ?_) (by decide)
  refine wpAny_Name (wpAny_loadName_local (by rfl) (by rfl) hn3 (by rfl) ?_) (by decide)
  refine set_plain X3 (ox := excO C (h2.push (kxs_mw "ValueError.__init__" x)).objs.size) (od := none) ⟨e3, rfl, rfl, trivial⟩ T.sa ?_
  refine exc_osa X3 e3 hcl (show refsVE (.ref C :: bm) = true from hbm) rfl T.noR (fun h4 tk4 dx k4 dn dne hx4 hn4 => ?_)
  show wpAny _ _ (execs _ _) _ _ _
  have big : s.heap.objs.size < h3.objs.size := hn3.lt
  exact wpAny_execs_nil (hq h4 tk4 dx _ ⟨fun b o hb e => k4 b o hb (keep3 b o hb (k b o e)), hx4, Nat.le_of_lt (Nat.lt_of_lt_of_le big dn), dne, hn4⟩)
/-- a made BadText -/
structure OwnMade (h h' : Heap) (e C d : Addr) (v : Value) : Prop where
  keep : ∀ b o, h.get? b = some o → h'.get? b = some o
  new : h.objs.size ≤ e
  obj : ∃ oe vs, h'.get? e = some oe ∧ oe.cls = .ref C ∧ oe.dict = some d ∧ oe.data = .fields vs ∧ vs[1]? = some .none
  dbig : h.objs.size ≤ d
  dne : d ≠ e
  ns : h'.Ns1 d (fun y => if y = "row" then some v else none)
theorem bad_made (T : BadTxt prog K mg C fI cc cda) {v : Value} (X : K.In s.heap) (glob : s.heap.Ns mainGlobals mg) (blt : ∃ mb, s.heap.Ns builtinsNs mb ∧ ∀ y : Str, y ≠ "__name__" → mb y = bootBuiltins y) (hlim : s.heap.NoLimit)
    (hroom : A.depth + 1 < recursionLimit) (hq : ∀ h' tk e d, OwnMade s.heap h' e C d v → R (.ok (.ret (.ref e))) { s with heap := h', toks := tk }) : codeAny (model prog w) A (.call (.ref C) ⟨[v], []⟩) R s := by
  obtain ⟨nm, q, N, bs, bm, sn, sub, ab, col, dd, k0, k1, k2, k3, k5, hC, hbm⟩ := T.cls
  obtain ⟨hp, g, dr, tk, os⟩ := s
  have k : ∀ b o, hp.get? b = some o → ((hp.push (kdv_tup [v])).push (excO C hp.objs.size)).get? b = some o := fun b o e => Heap.get?_push_of_some _ (Heap.get?_push_of_some _ e)
  have hget : ((hp.push (kdv_tup [v])).push (excO C hp.objs.size)).get? (hp.objs.size + 1) = some (excO C hp.objs.size) := by heap_get
  have hnx : K.lookup (hp.objs.size + 1) = none := by
    cases e : K.lookup (hp.objs.size + 1) with
    | none => rfl
    | some o => exact absurd (Nat.lt_of_succ_lt (Heap.lt_size (show hp.get? (hp.objs.size + 1) = some o from X _ _ e))) (Nat.lt_irrefl _)
  refine call_own PySem.F.excBase_ValueError (fun X => refsVE_contains X bm hbm) (X _ _ hC) (looks_findIn X T.iC) (fun self => bind_fn X self T.tC) (by exact (by decide : 1 ≤ sizeLine)) ?_
  obtain ⟨mb, b1, b2⟩ := blt
  refine bad_init (s := ⟨(hp.push (kdv_tup [v])).push (excO C hp.objs.size), g, dr, tk, os⟩) T (X.keeps k) (glob.keeps k) ⟨mb, b1.keeps k, b2⟩ (hlim.keeps k) hget hnx hroom fun h' tk' dx t1 ⟨k', hx, dn, dne, hns⟩ => ?_
  have old : ∀ b o, hp.get? b = some o → h'.get? b = some o := fun b o e => k' b o (Nat.ne_of_lt (Nat.lt_succ_of_lt (Heap.lt_size e))) (k b o e)
  have z : hp.objs.size + 1 + 1 ≤ dx := by
    have q := dn
    simp only [Heap.size_push] at q
    exact q
  exact ⟨rfl, hq h' tk' (hp.objs.size + 1) dx ⟨old, Nat.le_succ _, ⟨_, _, hx, rfl, rfl, rfl, rfl⟩, Nat.le_trans (Nat.le_trans (Nat.le_succ _) (Nat.le_succ _)) z, dne, hns⟩⟩
end
end BadX
end PySem
namespace L2
open PySem PySem.Spec PyProof.Rows
section
variable {X : Cx} {C fI cc cda : Addr}
/-- BadText(e) -/
def tMkBad (C : Addr) (ta : TA) : St → Hp → XK → Prop := fun σ H Q => ta σ H fun vs H1 => ∃ v, vs = [v] ∧ ∀ d, H1 d = none → Q (.ref C) (some d) (upd H1 d (.xd [(("row" : Str), v)]))
theorem pmk_bad {a : Expr} {ta : TA} {p pos : Pos} {k : Nat} (T : PySem.BadX.BadTxt X.prog X.K X.mg C fI cc cda) (hr : Room k X.A) (ha : PA X [a] ta) (hg : Gl X "BadText" := by rfl)
    (he : starEach (a :: []) X.env = (false, eval a X.env) :: starEach [] X.env := by rfl) (hpl : (backTo pos (starEach [] X.env)).any (·.1) = false := by rfl) :
    PMk X (.Call (.Name "BadText" p) [a] [] pos) (tMkBad C ta) := by
  intro pins s σ H Q I h
  refine wpAny_Call_Name_kw (ld_glob I hg T.gC ?_)
  refine PySem.W.callWith_K (h₀ := X.base) I.ok.mod.kin T.kC (thn (ha.run pos pins s σ H _ I h) fun us s1 hh => ?_) he hpl
  obtain ⟨vs, H1, I1, r1, v, ev, q1⟩ := hh
  subst ev
  refine ⟨I1.kIn, ?_⟩
  obtain ⟨v', rfl, rv⟩ := vals1 r1
  show wpAny _ _ (call (.ref C) [v']) _ _ _
  have hlim := I1.nolimit
  obtain ⟨mb, b1, b2⟩ := I1.mod.blt
  have glob := I1.mod.glob.keeps I1.bk
  have blt := b1.keeps I1.bk
  obtain ⟨hp, g, dr, tk, os⟩ := s1
  refine wpAny_call (PySem.BadX.bad_made T I1.kIn glob ⟨mb, blt, b2⟩ hlim (by have := hr.dp; omega) fun h' tk' e d M => ?_)
  show MkP X pins σ Q (.ref e) ⟨h', g, dr, tk', os⟩
  obtain ⟨oe, fv, hoe, hc, hd, hdat, h1⟩ := M.obj
  have hns := M.ns
  obtain ⟨G', g1, g2⟩ := restrict h' fun b => decide (b ≠ e)
  have gk : ∀ b, b ≠ e → G'.get? b = h'.get? b := fun b hb => g1 b (decide_eq_true hb)
  have ge : G'.get? e = none := g2 e (by simp)
  have old : ∀ b o, hp.get? b = some o → G'.get? b = some o := fun b o q => (gk b (Nat.ne_of_lt (Nat.lt_of_lt_of_le (Heap.lt_size q) M.new))).trans (M.keep b o q)
  have rel : ∀ f, RelO (List.lookup f [(("row" : Str), v)]) (if f = "row" then some v' else none) := fun f => by
    by_cases hw : f = "row"
    · subst hw
      rw [if_pos rfl]
      simp only [List.lookup, BEq.rfl]
      exact rv
    · have qw : (f == ("row" : Str)) = false := by simpa using hw
      rw [if_neg hw]
      simp only [List.lookup, qw]
      trivial
  have ob : ObjOk X.prog X.w (upd H1 d (.xd [(("row" : Str), v)])) G' d (.xd [(("row" : Str), v)]) := ⟨_, hns.at (fun o q => (gk d M.dne).trans q), rel⟩
  have J : Inv X pins σ (upd H1 d (.xd [(("row" : Str), v)])) ⟨G', g, dr, tk', os⟩ := I1.laid (t' := tk') old M.dbig ob
  refine ⟨e, oe, fv, ⟨G', g, dr, tk', os⟩, _, .ref C, some d, rfl, J, fun b o q => ?_, ge, hoe, ⟨hc, hd⟩, hdat, h1, ?_, rfl, I1.bare, raises_own T.exC T.tyC, q1 d (I1.hok.fresh M.dbig)⟩
  · by_cases hb : b = e
    · have q' : G'.get? b = some o := q
      rw [hb, ge] at q'; cases q'
    · exact (gk b hb).symm.trans q
  · rw [upd_ne (Ne.symm M.dne)]
    exact I1.hok.fresh M.new
/-- raise BadText(e) -/
theorem ps_raiseBad {a : Expr} {ta : TA} {W : WX} {p pos pos2 : Pos} {k : Nat} (hc : X.calm = true) (T : PySem.BadX.BadTxt X.prog X.K X.mg C fI cc cda) (hr : Room k X.A) (tk : Takes X W) (ha : PA X [a] ta) (hg : Gl X "BadText" := by rfl)
    (he : starEach (a :: []) X.env = (false, eval a X.env) :: starEach [] X.env := by rfl) (hpl : (backTo pos (starEach [] X.env)).any (·.1) = false := by rfl) :
    PS X (.Raise (some (.Call (.Name "BadText" p) [a] [] pos)) none pos2) (fun _ σ H => tMkBad C ta σ H fun cls d H' => W cls d σ H') := ps_raise hc tk (pmk_bad T hr ha hg he hpl)
end
end L2
set_option Elab.async false
set_option linter.all false
set_option maxRecDepth 100000
set_option maxHeartbeats 2000000
/-! K23e: read_row, Desk. -/
namespace K23
open PySem PySem.Spec PyProof.Rows L2 LamX
section
variable {P : Program} {w : World} {K : PySem.W.Frag} {mg : Str → Option Value} {base : Heap} {C f : Addr} {fd : FuncData}
/-! ### read_row -/
abbrev sRead : Stmt := top 18
abbrev nRead : List Str := ["text", "words", "one", "found"]
theorem scRead : FnScope nRead ["text"] (defScope sRead) := ⟨rfl, rfl, rfl, by decide +kernel, rfl, by decide +kernel, by decide +kernel⟩
/-- under Pr the error BadText, with its row -/
def spB (C : Addr) (n : Nat) (Pr : List V → Hp → Prop) : Sp := fun vs H _ E => vs.length = n ∧ Pr vs H ∧ ∀ H' d fs, Same H H' → H' d = some (.xd fs) → E (.ref C) (some d) H'
def rSpl : V → List V → Hp → VK → Prop := fun x xs H Q => ∃ a b, x = .str a ∧ xs = [.str b] ∧ (b.length == 0) = false ∧ a.length + 2 ≤ sizeLine ∧ rNewStrs (Txt.split a b) H Q
def rLenQ (K : PySem.W.Frag) : List V → Hp → VK → Prop := fun xs H Q => ∃ p ys, xs = [.ref p] ∧ (SqL K H p ys ∨ SqT K H p ys) ∧ Q (.int ys.length) H
def tRead (K : PySem.W.Frag) (C : Addr) (E : XK) : TS := tSeq (tAsg (tM1 rSpl (tVar 0) (tC (.str " "))) (gName 1))
  (tSeq (tIfS (tTest (tOp rNe (tCB (rLenQ K) (tCons (tVar 1) tNil)) (tC (.int 4)))) (fun _ σ H => tMkBad C (tCons (tC (.int 0)) tNil) σ H fun cls d H' => E cls d H') tNext) fun _ _ _ => False)
theorem ok_read {fI cc cda : Addr} (F : Fun K "read_row" "read_row" sRead f fd) (T : PySem.BadX.BadTxt P K mg C fI cc cda) (nL : mg "len" = none) :
    FnOk P w K mg base (L2.CX P w) 4 f fd ["text"] (spB C 1 fun vs _ => ∃ s : Str, vs = [.str s] ∧ s.length + 2 ≤ sizeLine ∧ (Txt.split s " ").length ≠ 4) :=
  F.okX scRead (fun vs H Q E h => h.1) fun cdv A outer s H vs Q E hr h => ⟨tRead K C E,
    pss_cons (ps_set (i := 1) scRead.nd rfl (Or.inl rfl) (by exact (pe_split (pv 0) pe_str)))
      (pss_cons (ps_if (pt_cmpR op_ne (by exact (pe_callB call_len_seq rfl nL PyProof.Rows.Boot.«len» (pa_cons (pv 1) pa_nil))) pe_int (nomark _)) (pss_one (ps_raiseBad rfl T hr (takes_of rfl rfl rfl rfl) (by exact (pa_cons pe_int pa_nil)))) pss_nil) pss_dead), by
    obtain ⟨_, ⟨x, rfl, hl, n4⟩, k⟩ := h
    refine ⟨_, rfl, ⟨_, rfl⟩, _, _, rfl, rfl, by decide, hl, fun p hp => ?_⟩
    refine ⟨_, rfl, p, _, rfl, .inl (.inl (.inl upd_same)), rfl, _, rfl, itT ?_ ⟨_, rfl, fun d hd => k _ d _ ((same_new hp).trans (same_new hd)) upd_same⟩⟩
    rw [List.length_map]
    simp only [Bool.not_eq_true', decide_eq_false_iff_not]
    intro z
    exact n4 (by have := V.int.inj z; omega)⟩
/-! ### Desk -/
abbrev sDesk : Stmt := inClass (top 21) 0
theorem scDesk : FnScope ["self"] ["self"] (defScope sDesk) := ⟨rfl, rfl, rfl, by decide +kernel, rfl, by decide +kernel, by decide +kernel⟩
structure DeskC (K : PySem.W.Frag) (D : Addr) : Prop where
  c : Cls K D
  n1 : NoAttr K D "text"
  n2 : NoAttr K D "deeds"
  n3 : NoAttr K D "undone"
/-- a new desk: nothing was undone -/
def spDesk (D : Addr) : Sp := fun vs H Q _ => ∃ a dx, vs = [.ref a] ∧ H a = some (.ins D dx []) ∧ ∀ H' u fs, (∀ b o, b ≠ a → H b = some o → H' b = some o) → H' a = some (.ins D dx fs) → fs.lookup ("undone" : Str) = some (.ref u) → fs.lookup ("redo" : Str) = none → H' u = some (.lst []) → Q .non H'
def tDesk (K : PySem.W.Frag) : TS := tSeq (sFld K (tVar 0) (tC (.str "1 north posts 5\n2 north rails 9\n2 west posts 3\n3 north breaks 2")) "text") (tSeq (sFld K (tVar 0) (tLst tNil) "deeds") (sFld K (tVar 0) (tLst tNil) "undone"))
theorem ok_desk {D : Addr} (F : Fun K "__init__" "Desk.__init__" sDesk f fd) (T : DeskC K D) : FnOk P w K mg base (L2.CX P w) 3 f fd ["self"] (spDesk D) :=
  F.okX scDesk (fun vs H Q E h => by obtain ⟨_, _, rfl, _⟩ := h; rfl) fun cdv A outer s H vs Q E hr h => ⟨tDesk K,
    pss_cons (ps_fld (pv 0) pe_str (by rfl)) (pss_cons (ps_fld (pv 0) (pe_lst pa_nil) (by rfl)) (pss_one (ps_fld (pv 0) (pe_lst pa_nil) (by rfl)))), by
    obtain ⟨a, dx, rfl, at0, k⟩ := h
    refine ⟨_, rfl, a, D, dx, [], rfl, at0, T.c, T.n1, by decide, by decide, fun p hp => ?_⟩
    have pa : p ≠ a := fun z => by rw [z, upd_same] at hp; cases hp
    refine ⟨_, rfl, a, D, dx, _, rfl, by rw [upd_ne (Ne.symm pa)]; exact upd_same, T.c, T.n2, by exact (by decide : 1 < 1000), by decide, fun q hq => ?_⟩
    have qa : q ≠ a := fun z => by rw [z, upd_same] at hq; cases hq
    refine ⟨_, rfl, a, D, dx, _, rfl, by rw [upd_ne (Ne.symm qa)]; exact upd_same, T.c, T.n3, by exact (by decide : 2 < 1000), ?_⟩
    refine k _ q _ (fun b o hb e => ?_) upd_same (by rfl) (by rfl) (by rw [upd_ne qa]; exact upd_same)
    have e1 := e
    have np : b ≠ p := fun z => by rw [z] at e; rw [upd_ne (z ▸ hb)] at hp; rw [e] at hp; cases hp
    have nq : b ≠ q := fun z => by rw [z] at e; rw [upd_ne (z ▸ hb), upd_ne (z ▸ np), upd_ne (z ▸ hb)] at hq; rw [e] at hq; cases hq
    rw [upd_ne hb, upd_ne nq, upd_ne hb, upd_ne np, upd_ne hb]
    exact e⟩
/-! ### redo -/
abbrev sRedo : Stmt := inClass (top 21) 6
abbrev nRedo : List Str := ["self", "deed"]
theorem scRedo : FnScope nRedo ["self"] (defScope sRedo) := ⟨rfl, rfl, rfl, by decide +kernel, rfl, by decide +kernel, by decide +kernel⟩
def tRedo (K : PySem.W.Frag) (C : Addr) (E : XK) : TS := tSeq (tIfS (tTest (tOp (rEqD K) (tFld K (tVar 0) "undone") (tLst tNil))) (fun _ _ H => E (.ref C) none H) tNext) fun _ _ _ => False
theorem ok_redo {D : Addr} (F : Fun K "redo" "Desk.redo" sRedo f fd) (T : DeskC K D) (R : Rse K mg "BadDeed" C) :
    FnOk P w K mg base (L2.CX P w) 3 f fd ["self"] (spR C 1 fun vs H => ∃ a dx fs u, vs = [.ref a] ∧ H a = some (.ins D dx fs) ∧ fs.lookup ("undone" : Str) = some (.ref u) ∧ H u = some (.lst [])) :=
  F.okX scRedo (fun vs H Q E h => h.1) fun cdv A outer s H vs Q E hr h => ⟨tRedo K C E,
    pss_cons (ps_if (pt_cmpR (op_eqD hr.units) (pe_fld (pv 0) (by rfl)) (pe_lst pa_nil) (nomark _)) (pss_one (ps_rs rfl (takes_of rfl rfl rfl rfl) R)) pss_nil) pss_dead, by
    obtain ⟨_, ⟨a, dx, fs, u, rfl, at0, lk, un⟩, k⟩ := h
    refine ⟨_, rfl, a, D, dx, fs, _, rfl, at0, T.c, T.n3, lk, by decide, fun p hp => ?_⟩
    exact ⟨.list [], .list [], .lst (.inl (.inl (by rw [upd_ne (ne_of_none un hp)]; exact un))) .nil, .lst (.inl (.inl upd_same)) .nil, by decide, by decide, _, rfl, itT (by decide) (k _ (same_new hp))⟩⟩
end
end K23
set_option Elab.async false
set_option linter.all false
set_option maxRecDepth 100000
set_option maxHeartbeats 2000000
/-! LVals: list(d.values()). -/
namespace L2
open PySem PySem.Spec PyProof.Rows
theorem vals_snd : ∀ {kvs : List (Key × V)} {vs : List (Key × Value)} {us : List Value}, KV kvs vs → us.length = vs.length → (∀ (j : Nat) (u : Value), us[j]? = some u → ∃ k : Key, vs[j]? = some (k, u)) → Vals (kvs.map (·.2)) us
  | [], _, us, .nil, hl, _ => by
    cases us with
    | nil => exact .nil
    | cons _ _ => simp at hl
  | _ :: _, _, us, .cons r t, hl, h => by
    cases us with
    | nil => simp at hl
    | cons u us =>
      obtain ⟨k, e⟩ := h 0 u rfl
      simp only [List.getElem?_cons_zero, Option.some.injEq] at e
      subst e
      exact .cons r.2 (vals_snd t (by simpa using hl) fun j w e => by simpa using h (j + 1) w (by simpa using e))
section
variable {X : Cx}
def tListVals (te : TE) : TE := fun σ H Q => te σ H fun x H1 => ∃ a kvs, x = .ref a ∧ H1 a = some (.dK kvs) ∧ ∀ p, H1 p = none → Q (.ref p) (upd H1 p (.lst (kvs.map (·.2))))
theorem pe_listVals {e : Expr} {te : TE} {p pos apos cpos : Pos} (hc : X.calm = true) (he : PE X e te) (hm : X.mg "list" = none) (hg : Gl X "list" := by rfl) (hbase : attributeBase e "values" X.env (eval e X.env) = eval e X.env := by rfl) (hline : (apos.endLine == cpos.line) = true := by rfl)
    (hs : starEach [.Call (.Attribute e "values" apos) [] [] cpos] X.env = (false, eval (.Call (.Attribute e "values" apos) [] [] cpos) X.env) :: starEach [] X.env := by rfl) :
    PE X (.Call (.Name "list" p) [.Call (.Attribute e "values" apos) [] [] cpos] [] pos) (tListVals te) := by
  refine ⟨fun pins s σ H Q I hq => wpAny_Call_Name_kw (ld_blt I hg hm PyProof.Rows.Boot.«list» (PyProof.Rows.callWith_type1 ?_ hs rfl))⟩
  rw [hs]
  show wpAny _ _ (spliced ((false, eval (.Call (.Attribute e "values" apos) [] [] cpos) X.env) :: backTo pos (starEach [] X.env))) _ _ s
  refine Calls.spliced_cons (wpAny_Call_method (T := "dict") (id := "dict.values") hbase rfl hline F.plainAttrs_dict F.slot_dict_values F.type_dict_values (thn (he.run pins s σ H _ I hq) fun u s1 ⟨x, H1, I1, rx, a, kvs, ex, ha, q⟩ => ?_))
  subst ex
  obtain rfl : u = Value.ref a := rx
  obtain ⟨hz, hsys, vs, rel, D⟩ := (show ObjOk X.prog X.w H1 s1.heap a (.dK kvs) from I1.hok a _ ha)
  obtain ⟨ep, at1⟩ := D.dictAt
  have len : kvs.length = vs.length := Paired.length rel
  let vw : Obj := { cls := .type "dict_values", data := .fields #[.ref a] }
  have up : ∀ b o, s1.heap.get? b = some o → (s1.heap.push vw).get? b = some o := fun b o e => Heap.get?_push_of_some _ e
  refine ⟨D.typeIs, D.mapOf.noDict, ?_⟩
  show wpAny _ _ (callWith cpos (.builtin "dict.values") [.ref a] [] []) _ X.xe s1
  refine method_meetsIn F.slot_dict_values F.entry_dict_values rfl (PySem.evalArgs_none ⟨rfl, D.typeIs, F.args_dict_values_1 _, _, meets_dict_values (mixKind X.prog X.w) a hsys, ⟨vs, D⟩, Calls.spliced_nil ?_⟩)
  have n1 : H1 (s1.heap.push vw).objs.size = none := by
    refine I1.hok.fresh ?_
    rw [Heap.size_push]
    exact Nat.le_succ _
  refine PySem.W.kdl_call (PySem.W.kdl_values (knd := mixKind X.prog X.w) (d := a) (r := s1.heap.objs.size) (kvs := vs) (ep := ep)) (I1.ok.hd hc) ⟨⟨_, Heap.get?_push_size _ rfl, rfl, rfl⟩, at1.keep up⟩ (by rw [← len]; exact hz) fun h' tk acc c keep new its => ?_
  have V : Vals (kvs.map (·.2)) acc.toList := vals_snd rel (by rw [Array.length_toList]; exact its.1) fun j u e => its.2 j u (by rw [← Array.getElem?_toList]; exact e)
  have ob : ObjOk X.prog X.w (upd H1 (s1.heap.push vw).objs.size (.lst (kvs.map (·.2)))) h' (s1.heap.push vw).objs.size (.lst (kvs.map (·.2))) :=
    ⟨by rw [List.length_map]; exact hz, acc.toList, c, V, by rw [Array.toArray_toList]; exact new⟩
  exact ⟨.ref _, _, I1.laid (t' := tk) (fun b o e => keep b o (up b o e)) (by show s1.heap.objs.size ≤ (s1.heap.push vw).objs.size; rw [Heap.size_push]; exact Nat.le_succ _) ob, rfl, q _ n1⟩
end
end L2
set_option Elab.async false
set_option linter.all false
set_option maxRecDepth 100000
set_option maxHeartbeats 4000000
/-! K23f: Fence. -/
namespace K23
open PySem PySem.Spec PyProof.Rows L2
section
variable {P : Program} {w : World} {K : PySem.W.Frag} {mg : Str → Option Value} {base : Heap} {C f : Addr} {fd : FuncData}
/-! ### mend, of a fence without breaks -/
structure FenceC (K : PySem.W.Frag) (D : Addr) : Prop where
  c : Cls K D
  n1 : NoAttr K D "long"
  n2 : NoAttr K D "parts"
  n3 : NoAttr K D "breaks"
  n4 : NoAttr K D "mended"
abbrev sMend : Stmt := inClass (top 26) 2
abbrev nMend : List Str := ["self", "place", "kind"]
theorem scMend : FnScope nMend ["self", "place"] (defScope sMend) := ⟨rfl, rfl, rfl, by decide +kernel, rfl, by decide +kernel, by decide +kernel⟩
def tMend (K : PySem.W.Frag) (C : Addr) (E : XK) : TS := tSeq (tIfS (tB (tDNotIn (tVar 1) (tFld K (tVar 0) "breaks"))) (fun _ _ H => E (.ref C) none H) tNext) fun _ _ _ => False
theorem ok_mend {D : Addr} (F : Fun K "mend" "Fence.mend" sMend f fd) (T : FenceC K D) (R : Rse K mg "NoSuch" C) :
    FnOk P w K mg base (L2.CX P w) 3 f fd ["self", "place"] (spR C 2 fun vs H => ∃ a dx fs u i, vs = [.ref a, .int i] ∧ H a = some (.ins D dx fs) ∧ fs.lookup ("breaks" : Str) = some (.ref u) ∧ H u = some (.dK [])) :=
  F.okX scMend (fun vs H Q E h => h.1) fun cdv A outer s H vs Q E hr h => ⟨tMend K C E,
    pss_cons (ps_if (pt_cmp (pc_dnotin (hu_of hr) (pv 1) (pe_fld (pv 0) (by rfl)))) (pss_one (ps_rs rfl (takes_of rfl rfl rfl rfl) R)) pss_nil) pss_dead, by
    obtain ⟨_, ⟨a, dx, fs, u, i, rfl, at0, lk, un⟩, k⟩ := h
    exact ⟨_, rfl, _, rfl, a, D, dx, fs, _, rfl, at0, T.c, T.n3, lk, u, none, rfl, DGet.k (k := .inl i) un, _, rfl, itT rfl (k H (Same.refl H))⟩⟩
/-! ### Fence(long, {}) -/
abbrev sFence : Stmt := inClass (top 26) 0
abbrev nFence : List Str := ["self", "long", "parts", "kind"]
theorem scFence : FnScope nFence ["self", "long", "parts"] (defScope sFence) := ⟨rfl, rfl, rfl, by decide +kernel, rfl, by decide +kernel, by decide +kernel⟩
def kinds : List Str := ["post", "rail", "wire"]
/-- the comprehension's turns -/
def Cw (K : PySem.W.Frag) (H1 : Hp) (D : Addr) (i : Nat) (H : Hp) : Prop := Same H1 H ∧ ∃ ps : List Addr, ps.length = i ∧ H D = some (.lst (ps.map V.ref)) ∧ Paired (fun p (kv : Key × V) => SqT K H p [kV kv.1, kv.2]) ps ((kinds.take i).map fun k => (Sum.inr k, V.int 0))
theorem paired_snoc {α β : Type} {R : α → β → Prop} : ∀ {xs : List α} {ys : List β} {x : α} {y : β}, Paired R xs ys → R x y → Paired R (xs ++ [x]) (ys ++ [y])
  | [], _, _, _, .nil, h => .cons h .nil
  | _ :: _, _ :: _, _, _, .cons a b, h => .cons a (paired_snoc b h)
theorem sqT_same {H H' : Hp} {p : Addr} {xs : List V} (e : Same H H') (h : SqT K H p xs) : SqT K H' p xs := by
  rcases h with (h | ⟨o, h⟩) | h
  · exact .inl (.inl (e _ _ h))
  · exact .inl (.inr ⟨o, e _ _ h⟩)
  · exact .inr h
theorem kinds_take : ∀ {i : Nat} {k : Str}, kinds[i]? = some k → kinds.take (i + 1) = kinds.take i ++ [k]
  | 0, k, h => by cases h; rfl
  | 1, k, h => by cases h; rfl
  | 2, k, h => by cases h; rfl
  | n + 3, k, h => by cases h
theorem cw_step {H1 H : Hp} {D p : Addr} {i : Nat} {k : Str} (hD : H1 D = none) (c : Cw K H1 D i H) (hk : kinds[i]? = some k) (hp : H p = none) :
    ∃ acc, upd H p (.tup [.str k, .int 0]) D = some (.lst acc) ∧ acc.length < sizeLine ∧ Cw K H1 D (i + 1) (upd (upd H p (.tup [.str k, .int 0])) D (.lst (acc ++ [.ref p]))) := by
  obtain ⟨s, ps, len, at0, pr⟩ := c
  have Dp : D ≠ p := ne_of_none at0 hp
  have li : i < 3 := (List.getElem?_eq_some_iff.mp hk).1
  have hD2 : ∀ {b : Addr} {o : HO}, H1 b = some o → b ≠ D := fun {b o} e z => by rw [z, hD] at e; cases e
  have keep : ∀ b o, b ≠ D → H b = some o → upd (upd H p (.tup [.str k, .int 0])) D (.lst (ps.map V.ref ++ [.ref p])) b = some o := fun b o hb e => by
    rw [upd_ne hb, upd_ne (ne_of_none e hp)]; exact e
  refine ⟨ps.map V.ref, by rw [upd_ne Dp]; exact at0, ?_, fun b o e => keep b o (hD2 e) (s b o e), ps ++ [p], by rw [List.length_append, len]; rfl, ?_, ?_⟩
  · rw [List.length_map, len]
    exact Nat.lt_trans li (by decide)
  · rw [upd_same, List.map_append]; rfl
  · rw [kinds_take hk, List.map_append]
    refine paired_snoc (L2.Paired.mapP pr fun q kv h => ?_) (.inl (.inl (by rw [upd_ne (Ne.symm Dp)]; exact upd_same)))
    rcases h with (h | ⟨o, h⟩) | h
    · exact .inl (.inl (keep _ _ (fun z => by rw [z, at0] at h; cases h) h))
    · exact .inl (.inr ⟨o, keep _ _ (fun z => by rw [z, at0] at h; cases h) h⟩)
    · exact .inr h
def rDctP (K : PySem.W.Frag) : List V → Hp → VK → Prop := fun xs H Q => ∃ (a : Addr) (ps : List Addr) (kvs : List (Key × V)), xs = [.ref a] ∧ SqL K H a (ps.map V.ref) ∧ Paired (fun p kv => SqT K H p [kV kv.1, kv.2]) ps kvs ∧ ∀ p, H p = none → Q (.ref p) (upd H p (.dK (mergeK [] kvs)))
def tKGet : TE := fun σ H Q => tVar 2 σ H fun x H1 => ∃ a, x = .ref a ∧ IsD H1 a ∧ tVar 3 σ H1 fun y H2 => tC (.int 0) σ H2 fun z H3 => ∃ o, Pyl.DGx H3 a y o ∧ Q (o.getD z) H3
def tKinds (K : PySem.W.Frag) (ki : Addr) : TE := tCB (rDctP K) (tCons (tLc (iTup K (tC (.ref ki))) (gName 3) tYes (tTup (tCons (tVar 3) (tCons tKGet tNil))) [3]) tNil)
def tFence (K : PySem.W.Frag) (ki P1 C1 C2 : Addr) (E : XK) : TS :=
  tSeq (tIfS (tTest (tOp rLt (tVar 1) (tC (.int 1)))) (fun _ _ H => E (.ref C1) none H) tNext)
  (tSeq (tIfS (tOr (tB (GenX.tAnyE P1 (tVar 2))) (tTest (tOp rLt (tCB (rMin K) (tCons (tOp rCat (tListVals (tVar 2)) (tLst (tCons (tC (.int 0)) tNil))) tNil)) (tC (.int 0))))) (fun _ _ H => E (.ref C2) none H) tNext)
  (tSeq (sFld K (tVar 0) (tVar 1) "long") (tSeq (sFld K (tVar 0) (tKinds K ki) "parts") (tSeq (sFld K (tVar 0) tDNewK "breaks") (sFld K (tVar 0) (tTup tNil) "mended")))))
/-- all but what stands at a stays -/
def But (a : Addr) (H H' : Hp) : Prop := ∀ b o, b ≠ a → H b = some o → H' b = some o
theorem But.of {p : Addr} {H H' : Hp} (h : Same H H') : But p H H' := fun b o _ e => h b o e
theorem But.trans {a : Addr} {H H1 H2 : Hp} (x : But a H H1) (y : But a H1 H2) : But a H H2 := fun b o n e => y b o n (x b o n e)
theorem But.set {a : Addr} {o : HO} {H : Hp} : But a H (upd H a o) := fun b u n e => by rw [upd_ne n]; exact e
/-- of a fence that was just made: no breaks -/
def spFence (D P1 : Addr) : Sp := fun vs H Q _ => ∃ a dx i d, vs = [.ref a, .int i, .ref d] ∧ 1 ≤ i ∧ H a = some (.ins D dx []) ∧ H d = some (.dK []) ∧ GxR.TabG H P1 ∧
  ∀ H' u fs, (∀ b o, b ≠ a → (∀ ps, o ≠ .tbl ps) → H b = some o → H' b = some o) → H' a = some (.ins D dx fs) → fs.lookup ("breaks" : Str) = some (.ref u) → fs.lookup ("mend" : Str) = none → H' u = some (.dK []) → Q .non H'
/-- self.parts, self.breaks, self.mended are stored -/
theorem fence_two {D ki a dx d : Addr} {i : Int} {Q : VK} {H4 : Hp} (T : FenceC K D) (sk : ∀ H, SqT K H ki (kinds.map V.str)) (at4 : H4 a = some (.ins D dx [("long", .int i)])) (ad4 : H4 d = some (.dK []))
    (k : ∀ H' u fs, But a H4 H' → H' a = some (.ins D dx fs) → fs.lookup ("breaks" : Str) = some (.ref u) → fs.lookup ("mend" : Str) = none → H' u = some (.dK []) → Q .non H') :
    tSeq (sFld K (tVar 0) (tKinds K ki) "parts") (tSeq (sFld K (tVar 0) tDNewK "breaks") (sFld K (tVar 0) (tTup tNil) "mended")) { nx := fun _ H' => Q .non H', rt := Q } [some (.ref a), some (.int i), some (.ref d), none] H4 := by
  refine ⟨ki, rfl, ⟨_, sk _⟩, fun L hL => lc_tup (K := K) (a := ki) (xs := kinds.map V.str) (Cw K H4 L) ⟨same_new hL, [], rfl, upd_same, .nil⟩ (fun _ H _ _ => sk H) (fun j x H' hj c => ?_) fun H' c => ?_⟩
  · obtain ⟨k', ek, rfl⟩ : ∃ k', kinds[j]? = some k' ∧ x = V.str k' := by
      rw [List.getElem?_map] at hj
      cases e : kinds[j]? with
      | none => rw [e] at hj; cases hj
      | some k' => rw [e] at hj; exact ⟨k', rfl, (Option.some.inj hj).symm⟩
    refine ⟨rfl, ?_⟩
    simp only [tYes, if_true]
    refine ⟨_, rfl, _, rfl, d, rfl, .inl ⟨[], .inl (c.1 _ _ ad4)⟩, _, rfl, none, .inl (DGet.k (k := .inr k') (c.1 _ _ ad4)), by exact (by decide : 2 ≤ sizeLine), fun p hp => ?_⟩
    exact cw_step hL c ek hp
  · obtain ⟨s5, ps, len, at5, pr⟩ := c
    have e3 : (kinds.map V.str).length = 3 := rfl
    rw [e3] at len pr
    refine ⟨L, ps, _, rfl, .inl (.inl at5), pr, fun m hm => ?_⟩
    have s6 : Same H4 (upd H' m (.dK (mergeK [] ((kinds.take 3).map fun k => (Sum.inr k, V.int 0))))) := s5.trans (same_new hm)
    refine ⟨_, rfl, a, D, dx, _, rfl, s6 _ _ at4, T.c, T.n2, by exact (by decide : 1 < 1000), fun u hu => ?_⟩
    have ua : u ≠ a := fun z => by rw [z, upd_same] at hu; cases hu
    refine ⟨_, rfl, a, D, dx, _, rfl, by rw [upd_ne (Ne.symm ua)]; exact upd_same, T.c, T.n3, by exact (by decide : 2 < 1000), by decide, fun v hv => ?_⟩
    have va : v ≠ a := fun z => by rw [z, upd_same] at hv; cases hv
    have uv : u ≠ v := fun z => by rw [← z, upd_ne ua, upd_same] at hv; cases hv
    refine ⟨_, rfl, a, D, dx, _, rfl, by rw [upd_ne (Ne.symm va)]; exact upd_same, T.c, T.n4, by exact (by decide : 3 < 1000), ?_⟩
    exact k _ u _ (((((But.of s6).trans But.set).trans (But.of (same_new hu))).trans But.set).trans ((But.of (same_new hv)).trans But.set)) upd_same (by rfl) (by rfl) (by rw [upd_ne ua, upd_ne uv, upd_ne ua]; exact upd_same)
theorem nofree {l : List (Str × NameKind)} {Z : Str × NameKind → Prop} (h : (l.all fun y => !decide (y.2 = .free)) = true) : ∀ y ∈ l, y.2 = .free → Z y := fun y hy e => by
  have := List.all_eq_true.mp h y hy
  rw [decide_eq_true e] at this
  exact absurd this (by decide)
theorem ok_fence {D ki c1 P1 C1 C2 : Addr} {oc kV doc pm ct : Value} {an od : Option Addr} {osl : Array (Option Value)} (lk : K.lookup f = some ⟨oc, od, .func (PySem.W.fnOf "__init__" "Fence.__init__" (defArgs sFence) (defBody sFence) (defScope sFence) .none kV doc pm an (.ref c1) ct), osl⟩)
    (hcd : PySem.W.codeIn K (.ref c1) "Fence.__init__" = true) (T : FenceC K D) (R1 : Rse K mg "BadLine" C1) (R2 : Rse K mg "BadSize" C2) (TB : GxR.TabB base mg c1 P1) (hki : mg "KINDS" = some (.ref ki)) (sk : ∀ H, SqT K H ki (kinds.map V.str))
    (nA : mg "any" = none) (nM : mg "min" = none) (nL : mg "list" = none) (nD : mg "dict" = none) :
    FnOk P w K mg base (L2.CX P w) 6 f (PySem.W.fnOf "__init__" "Fence.__init__" (defArgs sFence) (defBody sFence) (defScope sFence) .none kV doc pm an (.ref c1) ct) ["self", "long", "parts"] (spFence D P1) :=
  fn_of lk hcd scFence (fun vs H Q E h => by obtain ⟨_, _, _, _, rfl, _⟩ := h; rfl) fun A outer s H vs Q E hr h => ⟨tFence K ki P1 C1 C2 E,
    pss_cons (ps_if (pt_cmpR op_lt (pv 1) pe_int (nomark _)) (pss_one (ps_rs rfl (takes_of rfl rfl rfl rfl) R1)) pss_nil)
    (pss_cons (ps_if (PW.pt (pw_or (pt_val (by exact (GenX.pe_anyE hr rfl nA TB rfl ⟨rfl, rfl, by decide, rfl, rfl, nofree (by decide)⟩ (pv 2) (by intro _; rfl))))
        (pw_or1 (pt_cmpR op_lt (by exact (pe_callB (cr_min rfl) rfl nM PyProof.Rows.Boot.«min» (pa_cons (pe_op op_cat (pe_listVals rfl (pv 2) nL) (pe_lst (pa_cons pe_int pa_nil))) pa_nil))) pe_int (nomark _)))))
        (pss_one (ps_rs rfl (takes_of rfl rfl rfl rfl) R2)) pss_nil)
    (pss_cons (ps_fld (pv 0) (pv 1) (by rfl))
    (pss_cons (ps_fld (pv 0) (by exact (pe_callTy (call_dictP rfl) rfl nD PyProof.Rows.Boot.«dict» (pa_cons (pe_lc (own := [("kind", 3)]) (g := gName 3) (tt := tYes) rfl scFence.nd (pi_tup (pe_glob rfl hki rfl)) (blkOk_by (N := nFence) (sc := defScope sFence) (by decide +kernel))
        (fun _ _ _ _ _ => pg_name (i := 3) scFence.nd rfl (Or.inl rfl)) (fun _ _ _ _ _ => pts_nil) (fun _ _ _ _ _ => pe_tup (pa_cons (pv 3) (pa_cons (Pyl.pe_xget2 (hu_of hr) (pv 2) (pv 3) pe_int ⟨rfl, rfl, rfl, rfl⟩) pa_nil)))) pa_nil))) (by rfl))
    (pss_cons (ps_fld (pv 0) pe_dnewK (by rfl)) (pss_one (ps_fld (pv 0) (pe_tup pa_nil) (by rfl))))))), by
    obtain ⟨a, dx, i, d, rfl, hi, at0, ad, tab, k⟩ := h
    refine ⟨_, rfl, _, _, rfl, rfl, _, rfl, itF (decide_eq_false (by omega)) ?_⟩
    refine ⟨_, rfl, d, rfl, ad, tab, fun H2 ⟨tab2, o2⟩ => ⟨_, rfl, ?_⟩⟩
    obtain ⟨ps1, t1, _⟩ := tab
    have dP : d ≠ P1 := fun z => by rw [z, t1] at ad; cases ad
    have aP : a ≠ P1 := fun z => by rw [z, t1] at at0; cases at0
    have ad2 : H2 d = some (.dK []) := (o2 d dP).trans ad
    have at2 : H2 a = some (.ins D dx []) := (o2 a aP).trans at0
    rw [if_neg Bool.false_ne_true]
    refine ⟨_, rfl, d, [], rfl, ad2, fun p hp => ⟨by decide, fun q hq => ?_⟩⟩
    have pq : p ≠ q := ne_of_none upd_same hq
    refine ⟨p, q, [], [.int 0], rfl, rfl, by rw [upd_ne pq]; exact upd_same, upd_same, by decide, fun r hr2 => ?_⟩
    refine ⟨r, [0], rfl, .inl (.inl upd_same), by decide, fun m hm _ => ?_⟩
    obtain rfl : m = 0 := by simpa using hm
    refine ⟨_, _, rfl, rfl, _, rfl, itF rfl ?_⟩
    have keep3 : ∀ b o, H2 b = some o → upd (upd (upd H2 p (.lst [])) q (.lst [.int 0])) r (.lst [.int 0]) b = some o := fun b o e => (same_new hp).trans ((same_new hq).trans (same_new hr2)) b o e
    have at3 := keep3 _ _ at2
    have ad3 := keep3 _ _ ad2
    have da : d ≠ a := fun z => by rw [z, at3] at ad3; cases ad3
    exact ⟨_, rfl, _, rfl, a, D, dx, [], rfl, at3, T.c, T.n1, by exact (by decide : 0 < 1000), fence_two T sk upd_same (by rw [upd_ne da]; exact ad3) fun H' u fs bt => k H' u fs fun b o n1 n2 e => bt b o n1 (But.set b o n1 (keep3 b o ((o2 b fun z => by rw [z, t1] at e; exact n2 _ (Option.some.inj e).symm).trans e)))⟩⟩
end
end K23
set_option Elab.async false
set_option linter.all false
set_option maxRecDepth 100000
set_option maxHeartbeats 2000000
/-! Roll: the dice of every law, in Pyl: _law_dice, _law_roll, _law_rounds, and what they give. -/
namespace Pyl
open Ex
abbrev e1 (a : Ex) : Exs := .cons a .nil
abbrev e2 (a b : Ex) : Exs := .cons a (.cons b .nil)
abbrev e3 (a b c : Ex) : Exs := .cons a (.cons b (.cons c .nil))
def iDice : Fn := ⟨1, 1, .cons (.iff (.chn .lt .lt (.bin .sub (.ex (.int 0)) (.ex (.int 10))) (.var 0) (.int 10)) (.cons (.ret (.lsD (e3 (.b1 .abs (.pk 0)) (.int 0) (.int 2)))) .nil) .nil)
  (.cons (.ret (.lsD (e3 (.var 0) (.bin .add (.ex (.int 1)) (.ex (.bin .mod (.ex (.b1 .int (.pk 0))) (.ex (.int 1009))))) (.b1 .int (.ex (.cmp .ge (.pk 0) (.ex (.bin .pow (.ex (.int 10)) (.ex (.int 18))))))))) ) .nil)⟩
/-- held back from simp -/
def ix (i : Nat) (k : Int) : Ex := .idx (.pk i) (.int k)
def iRoll : Fn := ⟨3, 2, .cons (.iff (.orE (e2 (.cmp .eq (.ex (ix 0 2)) (.ex (.int 2))) (.andE (e2 (.cmp .eq (.ex (ix 0 2)) (.ex (.int 1))) (.cmp .gt (.ex (ix 0 0)) (.ex (.int 0)))))))
    (.cons (.asg (.nm 2) (.bin .mod (.ex (.b1 .int (.ex (ix 0 0)))) (.pk 1))) (.cons (.asg (.sb (.pk 0) (.int 0)) (.bin .fdv (.ex (ix 0 0)) (.pk 1))) (.cons (.ret (.var 2)) .nil))) .nil)
  (.cons (.asg (.sb (.pk 0) (.int 2)) (.int 0))
  (.cons (.asg (.sb (.pk 0) (.int 0)) (.bin .mod (.ex (.b1 .int (.ex (.bin .add (.ex (.bin .add (.ex (.bin .mul (.ex (ix 0 0)) (.ex (.int 48271)))) (.ex (.bin .mul (.ex (ix 0 1)) (.ex (.int 69621)))))) (.ex (.int 11)))))) (.ex (.int 2147483647))))
  (.cons (.asg (.sb (.pk 0) (.int 1)) (.bin .add (.ex (ix 0 1)) (.ex (.int 1))))
  (.cons (.ret (.bin .mod (.ex (.b1 .int (.ex (.bin .add (.ex (.bin .fdv (.ex (ix 0 0)) (.ex (.int 7)))) (.ex (ix 0 0)))))) (.pk 1))) .nil))))⟩
/-- dice: the number of _law_dice among the functions -/
def iRounds (dice : Nat) : Fn := ⟨4, 2, .cons (.asg (.nm 2) (.slc (.pk 0) .no (.yes (.var 1)))) (.cons (.iff (.cmp .eq (.pk 2) (.ex (.lstD .nil))) (.cons (.asg (.nm 2) (.lstD (e1 (.int 0)))) .nil) .nil)
  (.cons (.ret (.lc (.nm 3) (.on (.pk 2)) .no (.call dice (e1 (.var 3))))) .nil))⟩
section
variable {Γ : Env}
/-- what _law_dice lays: the three numbers -/
def diceL (c : Int) : List Int := if -10 < c ∧ c < 10 then [if c < 0 then -c else c, 0, 2] else [c, 1 + c.fmod 1009, if (1000000000000000000 : Int) ≤ c then 1 else 0]
def dInts (l : List Int) : Cell := .ls (l.map D.int)
theorem dice_sem (c : Int) (sto : List Cell) : iDice.sem Γ [.int c] sto = .ok (.loc sto.length) false (sto ++ [dInts (diceL c)]) := by
  have p18 : (10 : Int) ^ 18 = 1000000000000000000 := by decide
  by_cases h1 : -10 < c
  · by_cases h2 : c < 10
    · simp [diceL, dInts, Fn.sem, iDice, startL, rSs, rS, rE, rO, rEs, gt, OD.get, SV.d?, binop, cmpop, D.tru, b1op, h1, h2, St.put, pt]
    · by_cases h3 : (1000000000000000000 : Int) ≤ c <;> simp [diceL, dInts, Fn.sem, iDice, startL, rSs, rS, rE, rO, rEs, gt, OD.get, SV.d?, binop, cmpop, D.tru, b1op, h1, h2, h3, p18, St.put, pt]
  · have h3 : ¬ (1000000000000000000 : Int) ≤ c := by omega
    simp [diceL, dInts, Fn.sem, iDice, startL, rSs, rS, rE, rO, rEs, gt, OD.get, SV.d?, binop, cmpop, D.tru, b1op, h1, h3, p18, St.put, pt]
/-- what a roll gives, and the three numbers behind it -/
def rollR (l : List Int) (m : Int) : Int × List Int := match l with
  | [a, b, d] => if d = 2 ∨ (d = 1 ∧ 0 < a) then (a.fmod m, [a.fdiv m, b, d])
    else let x := (a * 48271 + b * 69621 + 11).fmod 2147483647
      ((x.fdiv 7 + x).fmod m, [x, b + 1, 0])
  | _ => (0, [])
theorem atI0 {α : Type} (x y z : α) : atI [x, y, z] 0 = some x := rfl
theorem atI1 {α : Type} (x y z : α) : atI [x, y, z] 1 = some y := rfl
theorem atI2 {α : Type} (x y z : α) : atI [x, y, z] 2 = some z := rfl
theorem ixN0 : ixN 3 0 = some 0 := rfl
theorem ixN1 : ixN 3 1 = some 1 := rfl
theorem ixN2 : ixN 3 2 = some 2 := rfl
abbrev rollT : Ex := .orE (e2 (.cmp .eq (.ex (ix 0 2)) (.ex (.int 2))) (.andE (e2 (.cmp .eq (.ex (ix 0 2)) (.ex (.int 1))) (.cmp .gt (.ex (ix 0 0)) (.ex (.int 0))))))
section
variable {sto : List Cell} {n : Nat} {a b d m : Int} {o : SV}
theorem ix_roll (h : sto[n]? = some (dInts [a, b, d])) : rE Γ (ix 0 0) ⟨[.vl (.loc n), .vl (.int m), o], sto⟩ = .ok (.int a, false) ⟨[.vl (.loc n), .vl (.int m), o], sto⟩ ∧ rE Γ (ix 0 1) ⟨[.vl (.loc n), .vl (.int m), o], sto⟩ = .ok (.int b, false) ⟨[.vl (.loc n), .vl (.int m), o], sto⟩ ∧
    rE Γ (ix 0 2) ⟨[.vl (.loc n), .vl (.int m), o], sto⟩ = .ok (.int d, false) ⟨[.vl (.loc n), .vl (.int m), o], sto⟩ := by
  have h' : sto[n]? = some (.ls [.int a, .int b, .int d]) := h
  refine ⟨?_, ?_, ?_⟩ <;> simp [ix, rE, rO, gt, OD.get, SV.d?, idxOp, items, h', atI0, atI1, atI2]
theorem set_roll {k : Int} {j : Nat} {e : Ex} {x : Int} (h : sto[n]? = some (dInts [a, b, d])) (he : rE Γ e ⟨[.vl (.loc n), .vl (.int m), o], sto⟩ = .ok (.int x, false) ⟨[.vl (.loc n), .vl (.int m), o], sto⟩) (hk : ixN 3 k = some j) :
    rS Γ (.asg (.sb (.pk 0) (.int k)) e) ⟨[.vl (.loc n), .vl (.int m), o], sto⟩ = .nx ⟨[.vl (.loc n), .vl (.int m), o], sto.set n (dInts ([a, b, d].set j x))⟩ := by
  have h' : sto[n]? = some (.ls [.int a, .int b, .int d]) := h
  have e3 : ([D.int a, .int b, .int d].set j (.int x)) = ([a, b, d].set j x).map D.int := by
    rw [List.map_set]; rfl
  simp only [rS, he, R.andS_ok, rT, rO, gt, R.bind_ok, rE, mutO, h', setG, List.length_cons, List.length_nil]
  rw [show (0 + 1 + 1 + 1) = 3 from rfl, hk]
  simp only [e3, R.bind_ok, R.andS_ok]
  rfl
end
theorem roll_sem (sto : List Cell) (n : Nat) (a b d m : Int) (h : sto[n]? = some (dInts [a, b, d])) (m0 : 0 < m) (m1 : m < 1073741824) :
    iRoll.sem Γ [.loc n, .int m] sto = .ok (.int (rollR [a, b, d] m).1) false (sto.set n (dInts (rollR [a, b, d] m).2)) := by
  have hm : m ≠ 0 := by omega
  have hm2 : m.natAbs < 1073741824 := by omega
  have hn : n < sto.length := (List.getElem?_eq_some_iff.mp h).1
  obtain ⟨i0, i1, i2⟩ := ix_roll (Γ := Γ) (m := m) (o := .em) h
  have test : rE Γ rollT ⟨[.vl (.loc n), .vl (.int m), .em], sto⟩ = .ok (.bl (decide (d = 2 ∨ (d = 1 ∧ 0 < a))), false) ⟨[.vl (.loc n), .vl (.int m), .em], sto⟩ := by
    by_cases h1 : d = 2
    · simp [rE, rAnd, rO, i0, i2, OD.get, cmpop, D.pl, D.dep, D.eqv, h1]
    · by_cases h2 : d = 1
      · simp [rE, rAnd, rO, i0, i2, OD.get, cmpop, D.pl, D.dep, D.eqv, h1, h2]
      · simp [rE, rAnd, rO, i0, i2, OD.get, cmpop, D.pl, D.dep, D.eqv, h1, h2]
  have fm : binop .mod (.int a) (.int m) = some (.int (a.fmod m), false) := by simp [binop, hm]
  have fd : binop .fdv (.int a) (.int m) = some (.int (a.fdiv m), false) := by simp [binop, hm, hm2]
  by_cases c : d = 2 ∨ (d = 1 ∧ 0 < a)
  · have v2 : ∀ x : Int, rE Γ (.bin .fdv (.ex (ix 0 0)) (.pk 1)) ⟨[.vl (.loc n), .vl (.int m), .vl (.int x)], sto⟩ = .ok (.int (a.fdiv m), false) ⟨[.vl (.loc n), .vl (.int m), .vl (.int x)], sto⟩ := fun x => by
      obtain ⟨j0, _, _⟩ := ix_roll (Γ := Γ) (m := m) (o := .vl (.int x)) h
      simp [rE, rO, j0, OD.get, gt, SV.d?, fd]
    have s1 : rS Γ (.asg (.nm 2) (.bin .mod (.ex (.b1 .int (.ex (ix 0 0)))) (.pk 1))) ⟨[.vl (.loc n), .vl (.int m), .em], sto⟩ = .nx ⟨[.vl (.loc n), .vl (.int m), .vl (.int (a.fmod m))], sto⟩ := by
      simp [rS, rE, rO, i0, OD.get, gt, SV.d?, b1op, fm, rT, St.put, pt]
    have s2 := set_roll (Γ := Γ) (k := 0) (j := 0) h (v2 (a.fmod m)) rfl
    have r : rollR [a, b, d] m = (a.fmod m, [a.fdiv m, b, d]) := by unfold rollR; simp only [c, if_true]
    rw [r]
    have run : rSs Γ iRoll.body ⟨[.vl (.loc n), .vl (.int m), .em], sto⟩ = .rt (.int (a.fmod m)) false ⟨[.vl (.loc n), .vl (.int m), .vl (.int (a.fmod m))], sto.set n (dInts [a.fdiv m, b, d])⟩ := by
      show (rS Γ (.iff rollT _ _) _).seq _ = _
      have t1 : rS Γ (.iff rollT (.cons (.asg (.nm 2) (.bin .mod (.ex (.b1 .int (.ex (ix 0 0)))) (.pk 1))) (.cons (.asg (.sb (.pk 0) (.int 0)) (.bin .fdv (.ex (ix 0 0)) (.pk 1))) (.cons (.ret (.var 2)) .nil))) .nil) ⟨[.vl (.loc n), .vl (.int m), .em], sto⟩ =
          .rt (.int (a.fmod m)) false ⟨[.vl (.loc n), .vl (.int m), .vl (.int (a.fmod m))], sto.set n (dInts [a.fdiv m, b, d])⟩ := by
        rw [rS, test, R.andS_ok, decide_eq_true c]
        show (rS Γ _ _).seq _ = _
        rw [s1, RS.seq_nx]
        show (rS Γ _ _).seq _ = _
        rw [s2]
        rfl
      rw [t1]
      rfl
    show (match (rSs Γ iRoll.body ⟨[.vl (.loc n), .vl (.int m), .em], sto⟩) with | .nx s => FR.ok .non false s.sto | .rt d fr s => .ok d fr s.sto | .er x s => .er x s.sto | _ => .sk) = _
    rw [run]
  · let x : Int := (a * 48271 + b * 69621 + 11).fmod 2147483647
    have r : rollR [a, b, d] m = ((x.fdiv 7 + x).fmod m, [x, b + 1, 0]) := by unfold rollR; simp only [c, if_false]; rfl
    rw [r]
    obtain ⟨t1, e1⟩ : ∃ t, t = sto.set n (dInts [a, b, 0]) := ⟨_, rfl⟩
    have h1 : t1[n]? = some (dInts [a, b, 0]) := by rw [e1, List.getElem?_set]; simp [hn]
    have l1 : n < t1.length := (List.getElem?_eq_some_iff.mp h1).1
    have s1 : rS Γ (.asg (.sb (.pk 0) (.int 2)) (.int 0)) ⟨[.vl (.loc n), .vl (.int m), .em], sto⟩ = .nx ⟨[.vl (.loc n), .vl (.int m), .em], t1⟩ := by
      rw [e1]; exact set_roll (k := 2) (j := 2) (e := .int 0) (x := 0) h (by simp [rE]) rfl
    obtain ⟨j0, j1, _⟩ := ix_roll (Γ := Γ) (m := m) (o := .em) h1
    have w1 : rE Γ (.bin .mul (.ex (ix 0 0)) (.ex (.int 48271))) ⟨[.vl (.loc n), .vl (.int m), .em], t1⟩ = .ok (.int (a * 48271), false) ⟨[.vl (.loc n), .vl (.int m), .em], t1⟩ := by
      simp [rE, rO, j0, OD.get, binop, SMALL]
    have w2 : rE Γ (.bin .mul (.ex (ix 0 1)) (.ex (.int 69621))) ⟨[.vl (.loc n), .vl (.int m), .em], t1⟩ = .ok (.int (b * 69621), false) ⟨[.vl (.loc n), .vl (.int m), .em], t1⟩ := by
      simp [rE, rO, j1, OD.get, binop, SMALL]
    have v2 : rE Γ (.bin .mod (.ex (.b1 .int (.ex (.bin .add (.ex (.bin .add (.ex (.bin .mul (.ex (ix 0 0)) (.ex (.int 48271)))) (.ex (.bin .mul (.ex (ix 0 1)) (.ex (.int 69621)))))) (.ex (.int 11)))))) (.ex (.int 2147483647)))
        ⟨[.vl (.loc n), .vl (.int m), .em], t1⟩ = .ok (.int x, false) ⟨[.vl (.loc n), .vl (.int m), .em], t1⟩ := by
      generalize (Ex.bin .mul (.ex (ix 0 0)) (.ex (.int 48271))) = u at w1 ⊢
      generalize (Ex.bin .mul (.ex (ix 0 1)) (.ex (.int 69621))) = v at w2 ⊢
      simp [rE, rO, w1, w2, OD.get, binop, b1op, x]
    obtain ⟨t2, e2⟩ : ∃ t, t = t1.set n (dInts [x, b, 0]) := ⟨_, rfl⟩
    have h2 : t2[n]? = some (dInts [x, b, 0]) := by rw [e2, List.getElem?_set]; simp [l1]
    have l2 : n < t2.length := (List.getElem?_eq_some_iff.mp h2).1
    have s2 := set_roll (k := 0) (j := 0) h1 v2 rfl
    have e2' : t1.set n (dInts ([a, b, 0].set 0 x)) = t2 := by rw [e2]; rfl
    rw [e2'] at s2
    obtain ⟨_, p1, _⟩ := ix_roll (Γ := Γ) (m := m) (o := .em) h2
    have v3 : rE Γ (.bin .add (.ex (ix 0 1)) (.ex (.int 1))) ⟨[.vl (.loc n), .vl (.int m), .em], t2⟩ = .ok (.int (b + 1), false) ⟨[.vl (.loc n), .vl (.int m), .em], t2⟩ := by
      simp [rE, rO, p1, OD.get, binop]
    obtain ⟨t3, e3⟩ : ∃ t, t = sto.set n (dInts [x, b + 1, 0]) := ⟨_, rfl⟩
    have e3' : t2.set n (dInts [x, b + 1, 0]) = t3 := by rw [e2, e1, e3, List.set_set, List.set_set]
    have h3 : t3[n]? = some (dInts [x, b + 1, 0]) := by rw [e3, List.getElem?_set]; simp [hn]
    have s3 : rS Γ (.asg (.sb (.pk 0) (.int 1)) (.bin .add (.ex (ix 0 1)) (.ex (.int 1)))) ⟨[.vl (.loc n), .vl (.int m), .em], t2⟩ = .nx ⟨[.vl (.loc n), .vl (.int m), .em], t3⟩ := by
      rw [← e3']; exact set_roll (k := 1) (j := 1) h2 v3 rfl
    obtain ⟨q0, _, _⟩ := ix_roll (Γ := Γ) (m := m) (o := .em) h3
    have w3 : rE Γ (.bin .fdv (.ex (ix 0 0)) (.ex (.int 7))) ⟨[.vl (.loc n), .vl (.int m), .em], t3⟩ = .ok (.int (x.fdiv 7), false) ⟨[.vl (.loc n), .vl (.int m), .em], t3⟩ := by
      simp [rE, rO, q0, OD.get, binop]
    have v4 : rE Γ (.bin .mod (.ex (.b1 .int (.ex (.bin .add (.ex (.bin .fdv (.ex (ix 0 0)) (.ex (.int 7)))) (.ex (ix 0 0)))))) (.pk 1)) ⟨[.vl (.loc n), .vl (.int m), .em], t3⟩ =
        .ok (.int ((x.fdiv 7 + x).fmod m), false) ⟨[.vl (.loc n), .vl (.int m), .em], t3⟩ := by
      generalize (Ex.bin .fdv (.ex (ix 0 0)) (.ex (.int 7))) = u at w3 ⊢
      simp [rE, rO, w3, q0, OD.get, binop, b1op, gt, SV.d?, hm]
    have run : rSs Γ iRoll.body ⟨[.vl (.loc n), .vl (.int m), .em], sto⟩ = .rt (.int ((x.fdiv 7 + x).fmod m)) false ⟨[.vl (.loc n), .vl (.int m), .em], t3⟩ := by
      show (rS Γ (.iff rollT _ _) _).seq _ = _
      have t0 : ∀ B : Sms, rS Γ (.iff rollT B .nil) ⟨[.vl (.loc n), .vl (.int m), .em], sto⟩ = .nx ⟨[.vl (.loc n), .vl (.int m), .em], sto⟩ := fun B => by
        rw [rS, test, R.andS_ok, decide_eq_false c]
        rfl
      rw [t0, RS.seq_nx]
      show (rS Γ _ _).seq _ = _
      rw [s1, RS.seq_nx]
      show (rS Γ _ _).seq _ = _
      rw [s2, RS.seq_nx]
      show (rS Γ _ _).seq _ = _
      rw [s3, RS.seq_nx]
      show (rS Γ (.ret _) _).seq _ = _
      rw [rS, v4, R.andS_ok]
      rfl
    show (match (rSs Γ iRoll.body ⟨[.vl (.loc n), .vl (.int m), .em], sto⟩) with | .nx s => FR.ok .non false s.sto | .rt d fr s => .ok d fr s.sto | .er x s => .er x s.sto | _ => .sk) = _
    rw [run, e3]
theorem rollR_len {l : List Int} {m : Int} (h : l.length = 3) : (rollR l m).2.length = 3 := by
  match l, h with
  | [a, b, d], _ => unfold rollR; dsimp only; split <;> rfl
theorem rollR_lt {l : List Int} {m : Int} (h : 0 < m) : 0 ≤ (rollR l m).1 ∧ (rollR l m).1 < m := by
  unfold rollR
  split
  · split
    · exact ⟨Int.fmod_nonneg_of_pos _ h, Int.fmod_lt_of_pos _ h⟩
    · exact ⟨Int.fmod_nonneg_of_pos _ h, Int.fmod_lt_of_pos _ h⟩
  · exact ⟨Int.le_refl _, h⟩
theorem lc_rounds {dice : Nat} {Γ1 : Env} (hd : Γ.fns[dice]? = some (iDice.sem Γ1)) (x y : SV) (c : Int) (sto : List Cell) :
    rE Γ (.lc (.nm 3) (.on (.pk 2)) .no (.call dice (e1 (.var 3)))) ⟨[x, y, .vl (.lst [.int c]), .em], sto⟩ = .ok (.lst [.loc sto.length], true) ⟨[x, y, .vl (.lst [.int c]), .em], sto ++ [dInts (diceL c)]⟩ := by
  have call : rE Γ (.call dice (e1 (.var 3))) ⟨[x, y, .vl (.lst [.int c]), .vl (.int c)], sto⟩ = .ok (.loc sto.length, false) ⟨[x, y, .vl (.lst [.int c]), .vl (.int c)], sto ++ [dInts (diceL c)]⟩ := by
    simp [rE, rEs, gt, hd, Sem.run, dice_sem]
  generalize (Ex.call dice (e1 (.var 3))) = u at call ⊢
  simp [rE, rI, rO, gt, OD.get, SV.d?, LIM, ssOk, tgSlots, lcL, lockAll, OD.lock, unlockAll, clr, clrR, svs, rst, rT, rC, St.put, pt, call]
theorem slc_lst (ns : List Int) (s : St) : slcOp s (.lst (ns.map D.int)) none (some 1) = some (.lst ((ns.take 1).map D.int), true) := by
  simp only [slcOp, cut, sIx]
  cases ns with
  | nil => rfl
  | cons x r => simp
theorem slc_kls (ns : List Int) (s : St) : slcOp s (.kls (ns.map D.int)) none (some 1) = some (.lst ((ns.take 1).map D.int), true) := slc_lst ns s
theorem rounds_sem {dice : Nat} {Γ1 : Env} (hd : Γ.fns[dice]? = some (iDice.sem Γ1)) (ns : List Int) (sto : List Cell) (x0 : D) (hx : ∀ s, slcOp s x0 none (some 1) = some (.lst ((ns.take 1).map D.int), true)) :
    (iRounds dice).sem Γ [x0, .int 1] sto = .ok (.lst [.loc sto.length]) true (sto ++ [dInts (diceL (ns.headD 0))]) := by
  have s1 : rS Γ (.asg (.nm 2) (.slc (.pk 0) .no (.yes (.var 1)))) ⟨[.vl x0, .vl (.int 1), .em, .em], sto⟩ = .nx ⟨[.vl x0, .vl (.int 1), .vl (.lst ((ns.take 1).map D.int)), .em], sto⟩ := by
    simp [rS, rE, rO, rXI, gt, OD.get, SV.d?, hx, rT, St.put, pt]
  have s2 : rS Γ (.iff (.cmp .eq (.pk 2) (.ex (.lstD .nil))) (.cons (.asg (.nm 2) (.lstD (e1 (.int 0)))) .nil) .nil) ⟨[.vl x0, .vl (.int 1), .vl (.lst ((ns.take 1).map D.int)), .em], sto⟩ =
      .nx ⟨[.vl x0, .vl (.int 1), .vl (.lst [.int (ns.headD 0)]), .em], sto⟩ := by
    cases ns with
    | nil => simp [rS, rSs, rE, rEs, rO, gt, OD.get, SV.d?, cmpop, D.pl, D.pls, D.dep, D.deps, D.eqv, D.eqvs, D.tru, rT, St.put, pt]
    | cons x r => simp [rS, rSs, rE, rEs, rO, gt, OD.get, SV.d?, cmpop, D.pl, D.pls, D.dep, D.deps, D.eqv, D.eqvs, D.tru, rT, St.put, pt]
  have run : rSs Γ (iRounds dice).body ⟨[.vl x0, .vl (.int 1), .em, .em], sto⟩ = .rt (.lst [.loc sto.length]) true ⟨[.vl x0, .vl (.int 1), .vl (.lst [.int (ns.headD 0)]), .em], sto ++ [dInts (diceL (ns.headD 0))]⟩ := by
    show (rS Γ _ _).seq _ = _
    rw [s1, RS.seq_nx]
    show (rS Γ _ _).seq _ = _
    rw [s2, RS.seq_nx]
    show (rS Γ (.ret _) _).seq _ = _
    rw [rS, lc_rounds hd, R.andS_ok]
    rfl
  show (match (rSs Γ (iRounds dice).body ⟨[.vl x0, .vl (.int 1), .em, .em], sto⟩) with | .nx s => FR.ok .non false s.sto | .rt d fr s => .ok d fr s.sto | .er x s => .er x s.sto | _ => .sk) = _
  rw [run]
end
end Pyl
set_option Elab.async false
set_option linter.all false
set_option maxRecDepth 100000
set_option maxHeartbeats 2000000
/-! SndAuto: the shapes of SndExpr .. SndFn in short, their side goals by themselves. -/
namespace Pyl
open PySem PySem.Spec PyProof.Rows L2
section
variable {U : Uni} {W : WX} {Γ : Env} {X : Cx}
theorem sV (i : Nat) {x : Str} {pos : Pos} (hN : X.N[i]? = some x := by rfl) (hv : Vis X.env.scope x := by first | exact Or.inl rfl | exact Or.inr (Or.inl rfl) | exact Or.inr (Or.inr rfl)) (hd : (x == ("__debug__" : Str)) = false := by decide)
    (hcd : (x == ("__classdict__" : Str)) = false := by decide) : PE X (.Name x pos) (rdE U W Γ (.var i)) := snd_var hN hv hd hcd
theorem sP (i : Nat) {x : Str} {pos : Pos} (hN : X.N[i]? = some x := by rfl) (hv : Vis X.env.scope x := by first | exact Or.inl rfl | exact Or.inr (Or.inl rfl) | exact Or.inr (Or.inr rfl)) (hd : (x == ("__debug__" : Str)) = false := by decide)
    (hcd : (x == ("__classdict__" : Str)) = false := by decide) : PE X (.Name x pos) (rdO U W Γ (.pk i)) := snd_pk hN hv hd hcd
theorem sB1B (f : B1) {o : Expr} {io : On} {x : Str} {id : String} {p pos : Pos} (hK : U.K = X.K) (hm : X.mg x = none) (ho : PE X o (rdO U W Γ io)) (hf : f.f = .builtin id := by rfl) (hg : Gl X x := by rfl) (hv : bootBuiltins x = some (.builtin id) := by first | exact PyProof.Rows.Boot.«abs» | exact PyProof.Rows.Boot.«len») (hn : x ≠ "__name__" := by decide)
    (hdb : (x == ("__debug__" : Str)) = false := by decide) (he : starEach [o] X.env = (false, eval o X.env) :: starEach [] X.env := by rfl) (hpl : (backTo pos (starEach [] X.env)).any (·.1) = false := by rfl) : PE X (.Call (.Name x p) [o] [] pos) (rdE U W Γ (.b1 f io)) :=
  snd_b1B hK hf hg hm hv ho hn hdb he hpl
theorem sB1T (f : B1) {o : Expr} {io : On} {x : Str} {id : String} {p pos : Pos} (hK : U.K = X.K) (hm : X.mg x = none) (ho : PE X o (rdO U W Γ io)) (hf : f.f = .type id := by rfl) (hg : Gl X x := by rfl) (hv : bootBuiltins x = some (.type id) := by first | exact PyProof.Rows.Boot.«int» | exact PyProof.Rows.Boot.«str» | exact PyProof.Rows.Boot.«dict») (hn : x ≠ "__name__" := by decide)
    (hdb : (x == ("__debug__" : Str)) = false := by decide) (he : starEach [o] X.env = (false, eval o X.env) :: starEach [] X.env := by rfl) (hpl : (backTo pos (starEach [] X.env)).any (·.1) = false := by rfl) : PE X (.Call (.Name x p) [o] [] pos) (rdE U W Γ (.b1 f io)) :=
  snd_b1T hK hf hg hm hv ho hn hdb he hpl
theorem sTchn (c1 c2 : Cm) {a b c : Expr} {ia ib ic : Ex} {pos : Pos} (hK : U.K = X.K) (hu : X.A.units + 64 < cLine) (ha : PE X a (rdE U W Γ ia)) (hb : PE X b (rdE U W Γ ib)) (hc : PE X c (rdE U W Γ ic)) (hm : lastMarks [c1.m, c2.m] [b, c] = false := by with_unfolding_all rfl) :
    PT X (.Compare a [c1.m, c2.m] [b, c] pos) (rdT U W Γ (.chn c1 c2 ia ib ic)) := snd_tchn hK hu ha hb hc hm
theorem sChn (c1 c2 : Cm) {a b c : Expr} {ia ib ic : Ex} {pos : Pos} (hK : U.K = X.K) (hu : X.A.units + 64 < cLine) (ha : PE X a (rdE U W Γ ia)) (hb : PE X b (rdE U W Γ ib)) (hc : PE X c (rdE U W Γ ic)) (hm : lastMarks [c1.m, c2.m] [b, c] = false := by with_unfolding_all rfl) :
    PE X (.Compare a [c1.m, c2.m] [b, c] pos) (rdE U W Γ (.chn c1 c2 ia ib ic)) := snd_chn hK hu ha hb hc hm
theorem sBin (op : Op) {a b : Expr} {ia ib : On} {pos : Pos} (hK : U.K = X.K) (ha : PE X a (rdO U W Γ ia)) (hb : PE X b (rdO U W Γ ib)) (hp : (!ia.isPf || qO ib) = true := by decide) : PE X (.BinOp a op.m b pos) (rdE U W Γ (.bin op ia ib)) := snd_bin hK ha hb hp
theorem sCmp (c : Cm) {a b : Expr} {ia ib : On} {pos : Pos} (hK : U.K = X.K) (hu : X.A.units + 64 < cLine) (ha : PE X a (rdO U W Γ ia)) (hb : PE X b (rdO U W Γ ib)) (hp : (!ia.isPf || qO ib) = true := by decide) (hm : behindInMarks c.m b = false := by first | exact nomark _ (by decide) (by decide) | rfl) :
    PE X (.Compare a [c.m] [b] pos) (rdE U W Γ (.cmp c ia ib)) := snd_cmp hK hu ha hb hp hm
theorem sTcmp (c : Cm) {a b : Expr} {ia ib : On} {pos : Pos} (hK : U.K = X.K) (hu : X.A.units + 64 < cLine) (ha : PE X a (rdO U W Γ ia)) (hb : PE X b (rdO U W Γ ib)) (hp : (!ia.isPf || qO ib) = true := by decide) (hm : behindInMarks c.m b = false := by first | exact nomark _ (by decide) (by decide) | rfl) :
    PT X (.Compare a [c.m] [b] pos) (rdT U W Γ (.cmp c ia ib)) := snd_tcmp hK hu ha hb hp hm
theorem sG (i : Nat) {x : Str} {pos : Pos} (hN : X.N.Nodup) (hi : X.N[i]? = some x := by rfl) (hx : Loc X.env.scope x := by first | exact Or.inl rfl | exact Or.inr rfl) (hf : X.fn x = true ∨ X.env.scope.names.lookup x = some .local := by first | exact .inl rfl | exact .inr rfl) : PG X (.Name x pos) (rdG U W Γ (.nm i)) :=
  snd_gnm hN hi hx hf
theorem sCall {k : Nat} {f : Addr} {fd : FuncData} {ps : List Str} {j : Nat} {fs : Sem} {x : Str} {p pos : Pos} {e : Expr} {es : List Expr} {ies : Exs} (hbl : Blind W) (F : FnOk X.prog X.w X.K X.mg X.base (CX X.prog X.w) k f fd ps (spOf U fs)) (hj : Γ.fns[j]? = some fs) (hr : Room k X.A) (hm : X.mg x = some (.ref f))
    (hk : PySem.W.keepIn X.K (.ref f) = true) (hb : Binds X.K fd ps []) (tk : Takes X W) (ha : PA X (e :: es) (rdA U W Γ ies)) (hg : Gl X x := by rfl) (hdb : (x == ("__debug__" : Str)) = false := by decide) (he : starEach (e :: es) X.env = (false, eval e X.env) :: starEach es X.env := by rfl)
    (hpl : (backTo pos (starEach es X.env)).any (·.1) = false := by rfl) : PE X (.Call (.Name x p) (e :: es) [] pos) (rdE U W Γ (.call j ies)) := snd_call (CX' := CX X.prog X.w) hbl F hj hr hg hm hk hb tk ha hdb he hpl
end
end Pyl
set_option Elab.async false
set_option linter.all false
set_option maxRecDepth 100000
set_option maxHeartbeats 4000000
/-! K23g: the dice's three defs keep what Pyl says of them. -/
namespace K23
open PySem PySem.Spec PyProof.Rows L2 Pyl
section
variable {P : Program} {w : World} {K : PySem.W.Frag} {mg : Str → Option Value} {base : Heap} {f : Addr} {fd : FuncData} {U : Uni} {Γ : Pyl.Env}
abbrev sDice : Stmt := top 32
theorem scDice : FnScope ["cell"] ["cell"] (defScope sDice) := ⟨rfl, rfl, rfl, by decide +kernel, rfl, by decide +kernel, by decide +kernel⟩
theorem ok_dice (hK : U.K = K) (F : Fun K "_law_dice" "_law_dice" sDice f fd) (nA : mg "abs" = none) (nI : mg "int" = none) : FnOk P w K mg base (L2.CX P w) 4 f fd ["cell"] (spOf U (iDice.sem Γ)) :=
  ok_fn F scDice rfl rfl (by decide) fun cdv A outer s H E hr => by
    exact (snd_ssc (snd_if (sTchn .lt .lt hK hr.units (sBin .sub hK (snd_ex snd_int) (snd_ex snd_int)) (sV 0) snd_int)
      (snd_ss1 (snd_ret (snd_ls (snd_ac (sB1B .abs hK nA (sP 0)) (snd_ac snd_int (snd_ac snd_int snd_a0)))))) snd_ss0)
      (snd_ss1 (snd_ret (snd_ls (snd_ac (sV 0) (snd_ac (sBin .add hK (snd_ex snd_int) (snd_ex (sBin .mod hK (snd_ex (sB1T .int hK nI (sP 0))) (snd_ex snd_int)))) (snd_ac (sB1T .int hK nI (snd_ex (sCmp .ge hK hr.units (sP 0) (snd_ex (sBin .pow hK (snd_ex snd_int) (snd_ex snd_int)))))) snd_a0)))))))
abbrev sRoll : Stmt := top 33
abbrev nRoll : List Str := ["dice", "many", "found"]
theorem scRoll : FnScope nRoll ["dice", "many"] (defScope sRoll) := ⟨rfl, rfl, rfl, by decide +kernel, rfl, by decide +kernel, by decide +kernel⟩
theorem ok_roll (hK : U.K = K) (F : Fun K "_law_roll" "_law_roll" sRoll f fd) (nI : mg "int" = none) : FnOk P w K mg base (L2.CX P w) 4 f fd ["dice", "many"] (spOf U (iRoll.sem Γ)) :=
  ok_fn F scRoll rfl rfl (by decide) fun cdv A outer s H E hr => by
    exact (snd_ssc (snd_if (snd_tor (snd_torC (sTcmp .eq hK hr.units (snd_ex (snd_idx hK hr.units (sP 0) snd_int)) (snd_ex snd_int))
        (snd_tor1 (snd_tand (snd_tandC (sTcmp .eq hK hr.units (snd_ex (snd_idx hK hr.units (sP 0) snd_int)) (snd_ex snd_int)) (snd_tand1 (sTcmp .gt hK hr.units (snd_ex (snd_idx hK hr.units (sP 0) snd_int)) (snd_ex snd_int))))))))
      (snd_ssc (snd_asg (sBin .mod hK (snd_ex (sB1T .int hK nI (snd_ex (snd_idx hK hr.units (sP 0) snd_int)))) (sP 1)) (sG 2 scRoll.nd))
      (snd_ssc (snd_asg (sBin .fdv hK (snd_ex (snd_idx hK hr.units (sP 0) snd_int)) (sP 1)) (snd_gsb hr.units (sP 0) snd_int)) (snd_ss1 (snd_ret (sV 2))))) snd_ss0)
      (snd_ssc (snd_asg snd_int (snd_gsb hr.units (sP 0) snd_int))
      (snd_ssc (snd_asg (sBin .mod hK (snd_ex (sB1T .int hK nI (snd_ex (sBin .add hK (snd_ex (sBin .add hK (snd_ex (sBin .mul hK (snd_ex (snd_idx hK hr.units (sP 0) snd_int)) (snd_ex snd_int))) (snd_ex (sBin .mul hK (snd_ex (snd_idx hK hr.units (sP 0) snd_int)) (snd_ex snd_int))))) (snd_ex snd_int))))) (snd_ex snd_int)) (snd_gsb hr.units (sP 0) snd_int))
      (snd_ssc (snd_asg (sBin .add hK (snd_ex (snd_idx hK hr.units (sP 0) snd_int)) (snd_ex snd_int)) (snd_gsb hr.units (sP 0) snd_int))
      (snd_ss1 (snd_ret (sBin .mod hK (snd_ex (sB1T .int hK nI (snd_ex (sBin .add hK (snd_ex (sBin .fdv hK (snd_ex (snd_idx hK hr.units (sP 0) snd_int)) (snd_ex snd_int))) (snd_ex (snd_idx hK hr.units (sP 0) snd_int)))))) (sP 1))))))))
abbrev sRounds : Stmt := top 34
abbrev nRounds : List Str := ["script", "most", "cells", "cell"]
theorem scRounds : FnScope nRounds ["script", "most"] (defScope sRounds) := ⟨rfl, rfl, rfl, by decide +kernel, rfl, by decide +kernel, by decide +kernel⟩
theorem ok_rounds {fD : Addr} {fdD : FuncData} {Γ1 : Pyl.Env} {j : Nat} (hK : U.K = K) (F : Fun K "_law_rounds" "_law_rounds" sRounds f fd) (D : FnOk P w K mg base (L2.CX P w) 4 fD fdD ["cell"] (spOf U (iDice.sem Γ1))) (bD : Binds K fdD ["cell"] [])
    (gD : mg "_law_dice" = some (.ref fD)) (kD : PySem.W.keepIn K (.ref fD) = true) (hj : Γ.fns[j]? = some (iDice.sem Γ1)) : FnOk P w K mg base (L2.CX P w) 6 f fd ["script", "most"] (spOf U ((iRounds j).sem Γ)) :=
  ok_fn F scRounds rfl rfl (by decide) fun cdv A outer s H E hr => by
    exact (snd_ssc (snd_asg (snd_slc hK (sP 0) snd_po0 (snd_po1 (sV 1))) (sG 2 scRounds.nd))
      (snd_ssc (snd_if (sTcmp .eq hK hr.units (sP 2) (snd_ex (snd_lst snd_a0))) (snd_ss1 (snd_asg (snd_lst (snd_ac snd_int snd_a0)) (sG 2 scRounds.nd))) snd_ss0)
      (snd_ss1 (snd_ret (snd_lcP (own := [("cell", 3)]) rfl scRounds.nd ⟨blkOk_by (N := nRounds) (sc := defScope sRounds) (by decide +kernel), rfl, fun _ _ _ _ _ => snd_cnm (i := 3) scRounds.nd rfl (Or.inl rfl) (.inr rfl), fun _ _ _ _ _ => snd_c0,
        fun _ _ _ _ _ => sCall (fun _ _ _ _ _ h => h) D hj (hr.mono (by decide)) gD kD bD LamX.takes0 (snd_ac (sV 3) snd_a0)⟩ (pi_on (sP 2)) (pi_keys (sP 2)) (lcp_on hK rfl rfl))))))
end
end K23
set_option Elab.async false
set_option linter.all false
set_option maxRecDepth 100000
set_option maxHeartbeats 2000000
/-! RollUse: what Pyl says of the dice, in words of the heap (for a law that is walked by hand). -/
namespace Pyl
open PySem PySem.Spec PyProof.Rows L2 LamX
section
variable {U : Uni} {Γ Γ1 : Env}
theorem reps_ints {y : Ly} {H : Hp} : ∀ {l : List Int} {xs : List V}, Reps U y H (l.map D.int) xs → xs = l.map V.int
  | [], _, h => Reps.nil_.1 h
  | i :: l, xs, h => by
    obtain ⟨v, r, rfl, h1, h2⟩ := Reps.cons_.1 h
    rw [Rep.int_.1 h1, reps_ints h2]; rfl
theorem ints_reps {y : Ly} {H : Hp} : ∀ l : List Int, Reps U y H (l.map D.int) (l.map V.int)
  | [] => Reps.nil_.2 rfl
  | i :: l => Reps.cons_.2 ⟨_, _, rfl, Rep.int_.2 rfl, ints_reps l⟩
def yRoll (H : Hp) (p : Addr) : Ly := ⟨fun n => if n = 0 then some p else none, fun a => if a = p then some (.st 0) else if (H a).isSome then some .ex else none⟩
def spRoll (T : List (Addr × Str)) : Sp := fun vs H Q _ => ∃ (p : Addr) (l : List Int) (m : Int), vs = [.ref p, .int m] ∧ l.length = 3 ∧ 0 < m ∧ m < 1073741824 ∧ H p = some (.lst (l.map V.int)) ∧ Tabs T H ∧
  ∀ H', (∀ b o, b ≠ p → H b = some o → H' b = some o) → H' p = some (.lst ((rollR l m).2.map V.int)) → Q (.int (rollR l m).1) H'
theorem use_roll (vs : List V) (H : Hp) (Q : VK) (E : XK) (h : spRoll U.T vs H Q E) : spOf U (iRoll.sem Γ) vs H Q E := by
  obtain ⟨p, l, m, rfl, h3, m0, m1, at0, tab, k⟩ := h
  obtain ⟨a, b, d, rfl⟩ : ∃ a b d, l = [a, b, d] := by
    match l, h3 with
    | [a, b, d], _ => exact ⟨a, b, d, rfl⟩
  have so : StoR U (yRoll H p) H [dInts [a, b, d]] := by
    refine ⟨fun n c e => ?_, fun n hn => ?_, fun x w e => ?_, tab, fun n f x e => ?_⟩
    · match n, e with
      | 0, e =>
        cases e
        exact ⟨p, rfl, by simp [yRoll], _, at0, ints_reps [a, b, d]⟩
    · show (if n = 0 then some p else none) = none
      rw [if_neg (by intro z; rw [z] at hn; exact absurd (show 1 ≤ 0 from hn) (by decide))]
    · simp only [yRoll] at e
      split at e
      · rename_i z; rw [z, at0]; exact fun z => by cases z
      · split at e
        · rename_i z; intro q; rw [q] at z; cases z
        · cases e
    · simp only [yRoll] at e
      split at e
      · cases e
      · split at e <;> cases e
  refine ⟨yRoll H p, [.loc 0, .int m], [dInts [a, b, d]], ?_, so, fun x i e => ?_, ?_⟩
  · exact Reps.cons_.2 ⟨_, _, rfl, Rep.loc_.2 ⟨p, rfl, by simp [yRoll]⟩, Reps.cons_.2 ⟨_, _, rfl, Rep.int_.2 rfl, Reps.nil_.2 rfl⟩⟩
  · simp only [yRoll] at e
    split at e
    · cases e
    · split at e <;> cases e
  · rw [roll_sem [dInts [a, b, d]] 0 a b d m rfl m0 m1]
    intro y' H' v e S' hv
    obtain rfl := Rep.int_.1 hv.of_fz
    refine k H' (fun x o hx ho => ?_) ?_
    · have := (e.ex x .ex True.intro (by simp [yRoll, hx, ho])).2
      rw [this]; exact ho
    · obtain ⟨p', e1, _, xs, e2, e3⟩ := S'.cell 0 (dInts (rollR [a, b, d] m).2) (by rfl)
      have := e.tr.A 0 p (by simp [yRoll])
      rw [this] at e1
      cases e1
      rw [e2, reps_ints e3]
def yRounds (b : Bool) (H : Hp) (s : Addr) : Ly := ⟨fun _ => none, fun a => if a = s ∧ b = true then none else if (H a).isSome then some .ex else none⟩
def spRounds (K : PySem.W.Frag) (T : List (Addr × Str)) : Sp := fun vs H Q _ => ∃ (s : Addr) (ns : List Int), vs = [.ref s, .int 1] ∧ SqL K H s (ns.map V.int) ∧ Tabs T H ∧
  ∀ H' L p, L2.Same H H' → Tabs T H' → H' L = some (.lst [.ref p]) → H' p = some (.lst ((diceL (ns.headD 0)).map V.int)) → Q (.ref L) H'
theorem use_rounds {j : Nat} (hj : Γ.fns[j]? = some (iDice.sem Γ1)) (vs : List V) (H : Hp) (Q : VK) (E : XK) (h : spRounds U.K U.T vs H Q E) : spOf U ((iRounds j).sem Γ) vs H Q E := by
  obtain ⟨s, ns, rfl, sq, tab, k⟩ := h
  have so : ∀ b, StoR U (yRounds b H s) H [] := fun b => by
    refine ⟨fun n c e => by simp at e, fun n hn => rfl, fun x w e => ?_, tab, fun n f x e => ?_⟩
    · simp only [yRounds] at e
      split at e
      · cases e
      · split at e
        · rename_i z; intro q; rw [q] at z; cases z
        · cases e
    · simp only [yRounds] at e
      split at e
      · cases e
      · split at e <;> cases e
  -- the script: a list that is held, a frozen one, one of the module
  have fin : ∀ (b : Bool) (x0 : D), (∀ st, slcOp st x0 none (some 1) = some (.lst ((ns.take 1).map D.int), true)) → Rep U (yRounds b H s) H x0 (.ref s) → (b = true → ∀ o, H s = some o → Firm o) → spOf U ((iRounds j).sem Γ) [.ref s, .int 1] H Q E := fun b x0 hx rep firm => by
    refine ⟨yRounds b H s, [x0, .int 1], [], Reps.cons_.2 ⟨_, _, rfl, rep, Reps.cons_.2 ⟨_, _, rfl, Rep.int_.2 rfl, Reps.nil_.2 rfl⟩⟩, so b, fun x i e => ?_, ?_⟩
    · simp only [yRounds] at e
      split at e
      · cases e
      · split at e <;> cases e
    · rw [rounds_sem hj ns [] x0 hx]
      intro y' H' v e S' hv
      obtain ⟨L, rfl, _, _, xs, e1, e2⟩ := hv.to_new
      obtain ⟨v, r, rfl, e3, e4⟩ := Reps.cons_.1 e2
      obtain rfl := Reps.nil_.1 e4
      obtain ⟨p, rfl, e5⟩ := Rep.loc_.1 e3
      obtain ⟨p', e6, _, xs, e7, e8⟩ := S'.cell 0 (dInts (diceL (ns.headD 0))) (by rfl)
      have e9 : y'.A 0 = some p := e5
      rw [e9] at e6
      cases e6
      refine k H' L p (fun x o ho => ?_) S'.tab e1 (by rw [e7, reps_ints e8])
      by_cases hs : x = s ∧ b = true
      · obtain ⟨rfl, hb⟩ := hs
        exact (e.tr.fx x o (by simp [yRounds, hb]) ho (firm hb o ho)).1
      · rw [(e.ex x .ex True.intro (by simp only [yRounds, if_neg hs, ho, Option.isSome_some, if_true])).2]
        exact ho
  rcases sq with (h | ⟨o, h⟩) | h
  · exact fin true (.lst (ns.map D.int)) (slc_lst ns) (Rep.lst_.2 ⟨s, _, rfl, ⟨by simp [yRounds], h⟩, ints_reps ns⟩) fun _ o ho => by rw [h] at ho; cases ho; trivial
  · exact fin true (.kls (ns.map D.int)) (slc_kls ns) (Rep.kls_.2 ⟨s, _, rfl, .inl ⟨by simp [yRounds], o, h⟩, ints_reps ns⟩) fun _ o' ho => by rw [h] at ho; cases ho; trivial
  · exact fin false (.kls (ns.map D.int)) (slc_kls ns) (Rep.kls_.2 ⟨s, _, rfl, .inr h, ints_reps ns⟩) fun z => by cases z
end
end Pyl
set_option Elab.async false
set_option linter.all false
set_option maxRecDepth 100000
set_option maxHeartbeats 4000000
/-! K23h: the law's lambdas. -/
namespace K23
open PySem PySem.Spec PyProof.Rows L2 LamX
open Pyl (LamD LamKit pe_lam pe_keptcall tKept tMkLam LamO)
abbrev sLaw : Stmt := top 36
abbrev nLaw : List Str := ["script", "dice", "many", "desk", "whats", "k", "j"]
theorem scLaw : FnScope nLaw ["script"] (defScope sLaw) := ⟨rfl, rfl, rfl, by decide +kernel, rfl, by decide +kernel, by decide +kernel⟩
def lawFor : List Stmt := match defBody sLaw with
  | .For _ _ b _ _ :: _ => b
  | _ => []
def lams : List Expr := match lawFor.getD 1 (.Pass ⟨0, 0, 0, 0⟩) with
  | .Assign _ (.List es _) _ => es
  | _ => []
def lamOf : Expr → LamD
  | .Lambda p b s _ => ⟨p, b, s⟩
  | e => ⟨{ posonlyargs := [], args := [], vararg := none, kwonlyargs := [], kw_defaults := [], kwarg := none, defaults := [] }, e, { kind := .function, names := [], isGenerator := false, isCoroutine := false }⟩
def lam (i : Nat) : LamD := lamOf (lams.getD i (.Name "x" ⟨0, 0, 0, 0⟩))
/-- what the written part has of the law's callees -/
structure Facts (P : Program) (w : World) (K : PySem.W.Frag) (mg : Str → Option Value) (base : Heap) (U : Pyl.Uni) (FF : Addr) (Cs : Nat → Addr) (P1 P2 : Addr) where
  er : Errs K mg FF Cs
  hK : U.K = K
  -- redo
  cD : Addr
  aRedo : Addr
  fdRedo : FuncData
  clsD : Cls K cD
  mRedo : Meth K cD "redo" aRedo
  redo : FnOk P w K mg base (L2.CX P w) 3 aRedo fdRedo ["self"] (spR (Cs 0) 1 fun vs H => ∃ a dx fs u, vs = [.ref a] ∧ H a = some (.ins cD dx fs) ∧ fs.lookup ("undone" : Str) = some (.ref u) ∧ H u = some (.lst []))
  bRedo : Binds K fdRedo ["self"] []
  -- PostLine
  cP : Addr
  aPost : Addr
  fdPost : FuncData
  mkP : Mk K cP aPost
  gP : mg "PostLine" = some (.ref cP)
  post : FnOk P w K mg base (L2.CX P w) 3 aPost fdPost ["self", "long"] (spR (Cs 1) 2 fun vs _ => ∃ a i, vs = [a, .int i] ∧ i < 1)
  bPost : Binds K fdPost ["self", "long"] []
  -- Gate
  cG : Addr
  aGate : Addr
  fdGate : FuncData
  mkG : Mk K cG aGate
  gG : mg "Gate" = some (.ref cG)
  gate : FnOk P w K mg base (L2.CX P w) 3 aGate fdGate ["self", "steps"] (spR (Cs 2) 2 fun vs _ => ∃ a i, vs = [a, .int i] ∧ i < 1)
  bGate : Binds K fdGate ["self", "steps"] []
  -- heap
  aHeap : Addr
  fdHeap : FuncData
  gHeap : mg "heap" = some (.ref aHeap)
  kHeap : PySem.W.keepIn K (.ref aHeap) = true
  heap : FnOk P w K mg base (L2.CX P w) 3 aHeap fdHeap ["base"] (spR (Cs 3) 1 fun vs _ => ∃ i, vs = [.int i] ∧ i < 0)
  bHeap : Binds K fdHeap ["base"] []
  -- read_row
  aRead : Addr
  fdRead : FuncData
  gRead : mg "read_row" = some (.ref aRead)
  kRead : PySem.W.keepIn K (.ref aRead) = true
  read : FnOk P w K mg base (L2.CX P w) 4 aRead fdRead ["text"] (spB (Cs 4) 1 fun vs _ => ∃ s : Str, vs = [.str s] ∧ s.length + 2 ≤ sizeLine ∧ (Txt.split s " ").length ≠ 4)
  bRead : Binds K fdRead ["text"] []
  -- centred
  aCent : Addr
  fdCent : FuncData
  gCent : mg "centred" = some (.ref aCent)
  kCent : PySem.W.keepIn K (.ref aCent) = true
  cent : FnOk P w K mg base (L2.CX P w) 3 aCent fdCent ["rows", "wide"] (spR (Cs 5) 2 fun vs H => ∃ a x b, vs = [.ref a, .int b] ∧ H a = some (.lst [.str x]) ∧ x.length ≤ sizeLine ∧ b < x.length)
  bCent : Binds K fdCent ["rows", "wide"] []
  -- Fence
  cF : Addr
  aFence : Addr
  fdFence : FuncData
  mkF : Mk K cF aFence
  gF : mg "Fence" = some (.ref cF)
  fence : FnOk P w K mg base (L2.CX P w) 6 aFence fdFence ["self", "long", "parts"] (spFence cF P2)
  bFence : Binds K fdFence ["self", "long", "parts"] []
  clsF : Cls K cF
  aMend : Addr
  fdMend : FuncData
  mMend : Meth K cF "mend" aMend
  mend : FnOk P w K mg base (L2.CX P w) 3 aMend fdMend ["self", "place"] (spR (Cs 6) 2 fun vs H => ∃ a dx fs u i, vs = [.ref a, .int i] ∧ H a = some (.ins cF dx fs) ∧ fs.lookup ("breaks" : Str) = some (.ref u) ∧ H u = some (.dK []))
  bMend : Binds K fdMend ["self", "place"] []
  -- trips
  aTrips : Addr
  fdTrips : FuncData
  gTrips : mg "trips" = some (.ref aTrips)
  kTrips : PySem.W.keepIn K (.ref aTrips) = true
  trips : FnOk P w K mg base (L2.CX P w) 3 aTrips fdTrips ["weights", "bears", "places"] (spR (Cs 7) 3 fun vs H => ∃ a i b, vs = [.ref a, .int b, .int 1] ∧ H a = some (.lst [.int i]) ∧ b < i)
  bTrips : Binds K fdTrips ["weights", "bears", "places"] []
section
variable {P : Program} {w : World} {K : PySem.W.Frag} {mg : Str → Option Value} {base : Heap} {U : Pyl.Uni} {FF : Addr} {Cs : Nat → Addr} {P1 P2 : Addr}
def rSub : R2 := rI0 fun i j => .int (i - j)
def rAdd : R2 := rI0 fun i j => .int (i + j)
def rMulS : R2 := fun x y H Q => ∃ (z : Str) (n : Int), x = .str z ∧ y = .int n ∧ MulOk z n ∧ Q (.str (Txt.mul z n)) H
/-- the lambdas' readings; slots 2 and 3: many, desk -/
def tLm (F : Facts P w K mg base U FF Cs P1 P2) : Nat → XK → TE
  | 0, E => tMeth F.cD "redo" (spR (Cs 0) 1 fun vs H => ∃ a dx fs u, vs = [.ref a] ∧ H a = some (.ins F.cD dx fs) ∧ fs.lookup ("undone" : Str) = some (.ref u) ∧ H u = some (.lst [])) [] E (tVar 3) tNil
  | 1, E => tMake F.cP (spR (Cs 1) 2 fun vs _ => ∃ a i, vs = [a, .int i] ∧ i < 1) [] E (tCons (tOp rSub (tC (.int 1)) (tVar 2)) tNil)
  | 2, E => tMake F.cG (spR (Cs 2) 2 fun vs _ => ∃ a i, vs = [a, .int i] ∧ i < 1) [] E (tCons (tOp rSub (tC (.int 1)) (tVar 2)) tNil)
  | 3, E => tCall (spR (Cs 3) 1 fun vs _ => ∃ i, vs = [.int i] ∧ i < 0) [] E (tCons (tOp rSub (tC (.int 0)) (tVar 2)) tNil)
  | 4, E => tCall (spB (Cs 4) 1 fun vs _ => ∃ s : Str, vs = [.str s] ∧ s.length + 2 ≤ sizeLine ∧ (Txt.split s " ").length ≠ 4) [] E (tCons (tOp rMulS (tC (.str "x")) (tVar 2)) tNil)
  | 5, E => tCall (spR (Cs 5) 2 fun vs H => ∃ a x b, vs = [.ref a, .int b] ∧ H a = some (.lst [.str x]) ∧ x.length ≤ sizeLine ∧ b < x.length) [] E (tCons (tLst (tCons (tOp rMulS (tC (.str "a")) (tOp rAdd (tVar 2) (tC (.int 1)))) tNil)) (tCons (tVar 2) tNil))
  | 6, E => tMeth F.cF "mend" (spR (Cs 6) 2 fun vs H => ∃ a dx fs u i, vs = [.ref a, .int i] ∧ H a = some (.ins F.cF dx fs) ∧ fs.lookup ("breaks" : Str) = some (.ref u) ∧ H u = some (.dK [])) [] E
      (tMake F.cF (spFence F.cF P2) [] E0 (tCons (tVar 2) (tCons tDNewK tNil))) (tCons (tVar 2) tNil)
  | 7, E => tCall (spR (Cs 7) 3 fun vs H => ∃ a i b, vs = [.ref a, .int b, .int 1] ∧ H a = some (.lst [.int i]) ∧ b < i) [] E (tCons (tLst (tCons (tOp rAdd (tVar 2) (tC (.int 1))) tNil)) (tCons (tVar 2) (tCons (tC (.int 1)) tNil)))
  | _, _ => fun _ _ _ => False
end
end K23
set_option Elab.async false
set_option linter.all false
set_option maxRecDepth 100000
set_option maxHeartbeats 4000000
/-! K23i: the law's lambdas do what their readings say. -/
namespace K23
open PySem PySem.Spec PyProof.Rows L2 LamX
open Pyl (LamD LamKit pe_lam pe_keptcall tKept tMkLam LamO)
section
variable {P : Program} {w : World} {K : PySem.W.Frag} {mg : Str → Option Value} {base : Heap} {U : Pyl.Uni} {FF : Addr} {Cs : Nat → Addr} {P1 P2 : Addr}
abbrev Xl (P : Program) (w : World) (K : PySem.W.Frag) (mg : Str → Option Value) (base : Heap) (f c1 : Addr) (A : Around) (outer : List PySem.Env) (s : Shared) (H : Hp) (E : XK) : Cx := cxOf (L2.CX P w) P w K mg base nLaw "law" (defScope sLaw) f (.ref c1) A outer s H E
variable {f c1 : Addr} {A : Around} {outer : List PySem.Env} {s : Shared} {H : Hp} {E : XK}
theorem kit0 (F : Facts P w K mg base U FF Cs P1 P2) : LamKit (Xl P w K mg base f c1 A outer s H E) 7 (lam 0) (tLm F 0) :=
  ⟨lamS_by (sc := defScope sLaw) (by decide +kernel), fun _ _ _ _ _ => rfl, fun A outer s H E f c hr => by
    exact (pe_meth0 (pv 3) F.clsD F.mRedo F.redo (hr.mono (by decide)) F.bRedo .nil (passes_call (takes_of rfl rfl rfl rfl) fun _ _ _ _ h => h) (by rfl))⟩
theorem kit1 (F : Facts P w K mg base U FF Cs P1 P2) : LamKit (Xl P w K mg base f c1 A outer s H E) 7 (lam 1) (tLm F 1) :=
  ⟨lamS_by (sc := defScope sLaw) (by decide +kernel), fun _ _ _ _ _ => rfl, fun A outer s H E f c hr => by
    exact (pe_make F.mkP F.post (hr.mono (by decide)) rfl F.gP F.bPost .nil (passes_call (takes_of rfl rfl rfl rfl) fun _ _ _ _ h => h) (pa_cons (pe_op op_sub pe_int (pv 2)) pa_nil))⟩
theorem kit2 (F : Facts P w K mg base U FF Cs P1 P2) : LamKit (Xl P w K mg base f c1 A outer s H E) 7 (lam 2) (tLm F 2) :=
  ⟨lamS_by (sc := defScope sLaw) (by decide +kernel), fun _ _ _ _ _ => rfl, fun A outer s H E f c hr => by
    exact (pe_make F.mkG F.gate (hr.mono (by decide)) rfl F.gG F.bGate .nil (passes_call (takes_of rfl rfl rfl rfl) fun _ _ _ _ h => h) (pa_cons (pe_op op_sub pe_int (pv 2)) pa_nil))⟩
theorem kit3 (F : Facts P w K mg base U FF Cs P1 P2) : LamKit (Xl P w K mg base f c1 A outer s H E) 7 (lam 3) (tLm F 3) :=
  ⟨lamS_by (sc := defScope sLaw) (by decide +kernel), fun _ _ _ _ _ => rfl, fun A outer s H E f c hr => by
    exact (pe_call F.heap (hr.mono (by decide)) rfl F.gHeap F.kHeap F.bHeap .nil (passes_call (takes_of rfl rfl rfl rfl) fun _ _ _ _ h => h) (pa_cons (pe_op op_sub pe_int (pv 2)) pa_nil))⟩
theorem kit4 (F : Facts P w K mg base U FF Cs P1 P2) : LamKit (Xl P w K mg base f c1 A outer s H E) 7 (lam 4) (tLm F 4) :=
  ⟨lamS_by (sc := defScope sLaw) (by decide +kernel), fun _ _ _ _ _ => rfl, fun A outer s H E f c hr => by
    exact (pe_call F.read (hr.mono (by decide)) rfl F.gRead F.kRead F.bRead .nil (passes_call (takes_of rfl rfl rfl rfl) fun _ _ _ _ h => h) (pa_cons (pe_op Pyl.op_mulStr pe_str (pv 2)) pa_nil))⟩
theorem kit5 (F : Facts P w K mg base U FF Cs P1 P2) : LamKit (Xl P w K mg base f c1 A outer s H E) 7 (lam 5) (tLm F 5) :=
  ⟨lamS_by (sc := defScope sLaw) (by decide +kernel), fun _ _ _ _ _ => rfl, fun A outer s H E f c hr => by
    exact (pe_call F.cent (hr.mono (by decide)) rfl F.gCent F.kCent F.bCent .nil (passes_call (takes_of rfl rfl rfl rfl) fun _ _ _ _ h => h) (pa_cons (pe_lst (pa_cons (pe_op Pyl.op_mulStr pe_str (pe_op op_add (pv 2) pe_int)) pa_nil)) (pa_cons (pv 2) pa_nil)))⟩
theorem kit6 (F : Facts P w K mg base U FF Cs P1 P2) : LamKit (Xl P w K mg base f c1 A outer s H E) 7 (lam 6) (tLm F 6) :=
  ⟨lamS_by (sc := defScope sLaw) (by decide +kernel), fun _ _ _ _ _ => rfl, fun A outer s H E f c hr => by
    exact (pe_meth (pe_make F.mkF F.fence hr rfl F.gF F.bFence .nil passL (pa_cons (pv 2) (pa_cons pe_dnewK pa_nil))) F.clsF F.mMend F.mend (hr.mono (by decide)) F.bMend .nil (passes_call (takes_of rfl rfl rfl rfl) fun _ _ _ _ h => h) (pa_cons (pv 2) pa_nil) (by rfl) (by rfl) (by rfl))⟩
theorem kit7 (F : Facts P w K mg base U FF Cs P1 P2) : LamKit (Xl P w K mg base f c1 A outer s H E) 7 (lam 7) (tLm F 7) :=
  ⟨lamS_by (sc := defScope sLaw) (by decide +kernel), fun _ _ _ _ _ => rfl, fun A outer s H E f c hr => by
    exact (pe_call F.trips (hr.mono (by decide)) rfl F.gTrips F.kTrips F.bTrips .nil (passes_call (takes_of rfl rfl rfl rfl) fun _ _ _ _ h => h) (pa_cons (pe_lst (pa_cons (pe_op op_add (pv 2) pe_int) pa_nil)) (pa_cons (pv 2) (pa_cons pe_int pa_nil))))⟩
theorem kits (F : Facts P w K mg base U FF Cs P1 P2) : ∀ i, i < 8 → LamKit (Xl P w K mg base f c1 A outer s H E) 7 (lam i) (tLm F i)
  | 0, _ => kit0 F
  | 1, _ => kit1 F
  | 2, _ => kit2 F
  | 3, _ => kit3 F
  | 4, _ => kit4 F
  | 5, _ => kit5 F
  | 6, _ => kit6 F
  | 7, _ => kit7 F
  | n + 8, h => absurd h (by omega)
end
end K23
set_option Elab.async false
set_option linter.all false
set_option maxRecDepth 100000
set_option maxHeartbeats 4000000
/-! K23j: the law's text read. -/
namespace K23
open PySem PySem.Spec PyProof.Rows L2 LamX
open Pyl (LamD LamKit pe_lam pe_keptcall tKept tMkLam LamO spRoll spRounds)
def qL : Str := (envOfC "law" (defScope sLaw) 0 0 .none).qual ++ "<lambda>"
/-- the tables: the law's, that of Fence.__init__ -/
def Tb (P1 P2 : Addr) : List (Addr × Str) := [(P1, qL), (P2, "g")]
def tMkL (T : List (Addr × Str)) (lo : Addr → Addr → HO) : TE := fun σ H Q => Tabs T H ∧ ∀ (f c : Addr) (H1 : Hp), LamX.ExtN H H1 → Tabs T H1 → H1 f = some (lo f c) → H1 c = some (CodeO c qL) → Q (.ref f) H1
structure Facts2 (P : Program) (w : World) (K : PySem.W.Frag) (mg : Str → Option Value) (base : Heap) (U : Pyl.Uni) (FF : Addr) (Cs : Nat → Addr) (P1 P2 : Addr) extends Facts P w K mg base U FF Cs P1 P2 where
  aRoll : Addr
  fdRoll : FuncData
  gRoll : mg "_law_roll" = some (.ref aRoll)
  kRoll : PySem.W.keepIn K (.ref aRoll) = true
  roll : FnOk P w K mg base (L2.CX P w) 4 aRoll fdRoll ["dice", "many"] (spRoll (Tb P1 P2))
  bRoll : Binds K fdRoll ["dice", "many"] []
  aRounds : Addr
  fdRounds : FuncData
  gRounds : mg "_law_rounds" = some (.ref aRounds)
  kRounds : PySem.W.keepIn K (.ref aRounds) = true
  rounds : FnOk P w K mg base (L2.CX P w) 6 aRounds fdRounds ["script", "most"] (spRounds K (Tb P1 P2))
  bRounds : Binds K fdRounds ["script", "most"] []
  aDesk : Addr
  fdDesk : FuncData
  mkD : Mk K cD aDesk
  gD : mg "Desk" = some (.ref cD)
  desk : FnOk P w K mg base (L2.CX P w) 3 aDesk fdDesk ["self"] (spDesk cD)
  bDesk : Binds K fdDesk ["self"] []
  aU : Addr
  gU : mg "_law_under" = some (.ref aU)
  kU : PySem.W.keepIn K (.ref aU) = true
  lkU : ∃ (oc : Value) (od : Option Addr) (kV doc pm : Value) (an : Option Addr) (cdv ct : Value) (osl : Array (Option Value)), K.lookup aU = some ⟨oc, od, .func (PySem.W.fnOf "_law_under" "_law_under" (defArgs sUnd) (defBody sUnd) (defScope sUnd) .none kV doc pm an cdv ct), osl⟩ ∧ PySem.W.codeIn K cdv "_law_under" = true ∧
    Binds K (PySem.W.fnOf "_law_under" "_law_under" (defArgs sUnd) (defBody sUnd) (defScope sUnd) .none kV doc pm an cdv ct) ["what"] []
  nR : mg "range" = none
section
variable {P : Program} {w : World} {K : PySem.W.Frag} {mg : Str → Option Value} {base : Heap} {U : Pyl.Uni} {FF : Addr} {Cs : Nat → Addr} {P1 P2 : Addr}
/-! ### the readings -/
def tMany (F : Facts2 P w K mg base U FF Cs P1 P2) (m : Int) : TE := tCall (spRoll (Tb P1 P2)) [] E0 (tCons (tVar 1) (tCons (tC (.int m)) tNil))
def tS1 (F : Facts2 P w K mg base U FF Cs P1 P2) : TS := tAsg (tTup (tCons (tOp rAdd (tC (.int 1)) (tMany F 90)) (tCons (tMake F.cD (spDesk F.cD) [] E0 tNil) tNil))) (gTup K 2 (gCons (gName 2) (gCons (gName 3) gNil)))
def tWhats (T : List (Addr × Str)) (lo : Nat → Addr → Addr → HO) : TE := tLst (tCons (tMkL T (lo 0)) (tCons (tMkL T (lo 1)) (tCons (tMkL T (lo 2)) (tCons (tMkL T (lo 3)) (tCons (tMkL T (lo 4)) (tCons (tMkL T (lo 5)) (tCons (tMkL T (lo 6)) (tCons (tMkL T (lo 7)) tNil))))))))
def tUnd (F : Facts2 P w K mg base U FF Cs P1 P2) (lo : Nat → Addr → Addr → HO) : TE := tKept qL 8 lo (TUnd Cs) (tLm F.toFacts) (tOp (rIxL K) (tVar 4) (tVar 5))
def tDue : TE := tOp rCat (tLc (iRng1 (tCons (tC (.int 8)) tNil)) (gName 6) tYes (tOp rEq (tVar 6) (tVar 5)) [6]) (tLst (tCons (tC (.bl true)) tNil))
def tS4 (F : Facts2 P w K mg base U FF Cs P1 P2) (lo : Nat → Addr → Addr → HO) : TS := tIfS (tTest (tOp (rNeD K) (tUnd F lo) tDue)) (tRet (tC (.bl false))) tNext
def tLaw (F : Facts2 P w K mg base U FF Cs P1 P2) (lo : Nat → Addr → Addr → HO) : TS :=
  tSeq (tFor (iList K (tCall (spRounds K (Tb P1 P2)) [] E0 (tCons (tVar 0) (tCons (tC (.int 1)) tNil)))) (gName 1)
    (tSeq (tS1 F) (tSeq (tAsg (tWhats (Tb P1 P2) lo) (gName 4)) (tSeq (tAsg (tMany F 8) (gName 5)) (tS4 F lo))))) (tRet (tC (.bl true)))
variable {f c1 : Addr} {A : Around} {outer : List PySem.Env} {s : Shared} {H : Hp} {E : XK}
theorem lam_is (i : Nat) (hi : i < 8) (TB : TabB base mg c1 P1) (ne : P2 ≠ P1) : PE (Xl P w K mg base f c1 A outer s H E) (lams.getD i (.Name "x" ⟨0, 0, 0, 0⟩)) (tMkL (Tb P1 P2) ((lam i).ho (Xl P w K mg base f c1 A outer s H E))) := by
  have hu : ∀ p ∈ Tb P1 P2, p.1 = P1 → p.2 = qL := fun p hp e => by
    rcases List.mem_cons.mp hp with rfl | hp
    · rfl
    · rw [List.mem_singleton.mp hp] at e
      exact absurd e ne
  have hm : (P1, qL) ∈ Tb P1 P2 := List.mem_cons_self
  match i, hi with
  | 0, _ => exact pe_lam (X := Xl P w K mg base f c1 A outer s H E) TB rfl hm hu rfl (lamS_by (sc := defScope sLaw) (by decide +kernel))
  | 1, _ => exact pe_lam (X := Xl P w K mg base f c1 A outer s H E) TB rfl hm hu rfl (lamS_by (sc := defScope sLaw) (by decide +kernel))
  | 2, _ => exact pe_lam (X := Xl P w K mg base f c1 A outer s H E) TB rfl hm hu rfl (lamS_by (sc := defScope sLaw) (by decide +kernel))
  | 3, _ => exact pe_lam (X := Xl P w K mg base f c1 A outer s H E) TB rfl hm hu rfl (lamS_by (sc := defScope sLaw) (by decide +kernel))
  | 4, _ => exact pe_lam (X := Xl P w K mg base f c1 A outer s H E) TB rfl hm hu rfl (lamS_by (sc := defScope sLaw) (by decide +kernel))
  | 5, _ => exact pe_lam (X := Xl P w K mg base f c1 A outer s H E) TB rfl hm hu rfl (lamS_by (sc := defScope sLaw) (by decide +kernel))
  | 6, _ => exact pe_lam (X := Xl P w K mg base f c1 A outer s H E) TB rfl hm hu rfl (lamS_by (sc := defScope sLaw) (by decide +kernel))
  | 7, _ => exact pe_lam (X := Xl P w K mg base f c1 A outer s H E) TB rfl hm hu rfl (lamS_by (sc := defScope sLaw) (by decide +kernel))
  | n + 8, h => exact absurd h (by omega)
theorem law_read (F : Facts2 P w K mg base U FF Cs P1 P2) (TB : TabB base mg c1 P1) (ne : P2 ≠ P1) (hr : Room 9 (A.deeper (envOfC "law" (defScope sLaw) s.heap.objs.size f (.ref c1)))) :
    PSs (Xl P w K mg base f c1 A outer s H E) (defBody sLaw) (tLaw F fun i => (lam i).ho (Xl P w K mg base f c1 A outer s H E)) := by
  obtain ⟨oc, od, kV, doc, pm, an, cdv, ct, osl, lkU, cU, bU⟩ := F.lkU
  have L := fun i hi => lam_is (P := P) (w := w) (K := K) (f := f) (A := A) (outer := outer) (s := s) (H := H) (E := E) i hi TB ne
  have und : PE (Xl P w K mg base f c1 A outer s H E) (.Call (.Name "_law_under" ⟨314, 11, 314, 21⟩) [.Subscript (.Name "whats" ⟨314, 22, 314, 27⟩) (.Name "k" ⟨314, 28, 314, 29⟩) ⟨314, 22, 314, 30⟩] [] ⟨314, 11, 314, 31⟩) (tUnd F fun i => (lam i).ho (Xl P w K mg base f c1 A outer s H E)) :=
    pe_keptcall (k := 7) (n := 8) (ds := lam) rfl F.gU F.kU lkU cU bU scU rfl (Or.inl rfl) (und_gives F.er) hr (kits F.toFacts) (fun _ _ => rfl) (pe_ix ix_list (pv 4) (pv 5) (by intro _ _; rfl))
  exact (pss_cons (ps_for (passes_of rfl) rfl (pi_list (by exact (pe_call F.rounds (hr.mono (by decide)) rfl F.gRounds F.kRounds F.bRounds .nil passL (pa_cons (pv 0) (pa_cons pe_int pa_nil))))) (pg_name (i := 1) scLaw.nd rfl (Or.inl rfl))
      (pss_cons (ps_asg (pe_tup (pa_cons (pe_op op_add pe_int (by exact (pe_call F.roll (hr.mono (by decide)) rfl F.gRoll F.kRoll F.bRoll .nil passL (pa_cons (pv 1) (pa_cons pe_int pa_nil)))))
          (pa_cons (by exact (pe_make0 F.mkD F.desk (hr.mono (by decide)) rfl F.gD F.bDesk .nil passL)) pa_nil))) (pg_tup rfl (pgs_cons (pg_name (i := 2) scLaw.nd rfl (Or.inr rfl)) (pgs_cons (pg_name (i := 3) scLaw.nd rfl (Or.inr rfl)) pgs_nil))))
      (pss_cons (ps_set (i := 4) scLaw.nd rfl (Or.inl rfl) (pe_lst (pa_cons (L 0 (by decide)) (pa_cons (L 1 (by decide)) (pa_cons (L 2 (by decide)) (pa_cons (L 3 (by decide)) (pa_cons (L 4 (by decide)) (pa_cons (L 5 (by decide)) (pa_cons (L 6 (by decide)) (pa_cons (L 7 (by decide)) pa_nil))))))))))
      (pss_cons (ps_set (i := 5) scLaw.nd rfl (Or.inr rfl) (by exact (pe_call F.roll (hr.mono (by decide)) rfl F.gRoll F.kRoll F.bRoll .nil passL (pa_cons (pv 1) (pa_cons pe_int pa_nil)))))
      (pss_one (ps_if (pt_cmpR (op_neD (hr.mono (by decide : 0 ≤ 9)).units) und
        (by exact (pe_op op_cat (pe_lc (own := [("j", 6)]) (g := gName 6) (tt := tYes) rfl scLaw.nd (pi_range1 rfl F.nR (pa_cons pe_int pa_nil)) (blkOk_by (N := nLaw) (sc := defScope sLaw) (by decide +kernel)) (fun _ _ _ _ _ => pg_name (i := 6) scLaw.nd rfl (Or.inl rfl)) (fun _ _ _ _ _ => pts_nil)
          (fun _ _ _ _ _ => pe_cmpR op_eq (pv 6) (pv 5) (nomark _))) (pe_lst (pa_cons pe_bl pa_nil)))) (nomark _)) (pss_one (ps_ret pe_bl)) pss_nil))))))
    (pss_one (ps_ret pe_bl)))
end
end K23
set_option Elab.async false
set_option linter.all false
set_option maxRecDepth 100000
set_option maxHeartbeats 4000000
/-! K23k: the law answers True. -/
namespace K23
open PySem PySem.Spec PyProof.Rows L2 LamX
open Pyl (LamD LamKit pe_lam pe_keptcall tKept tMkLam LamO spRoll spRounds rollR rollR_len rollR_lt)
section
variable {P : Program} {w : World} {K : PySem.W.Frag} {mg : Str → Option Value} {base : Heap} {U : Pyl.Uni} {FF : Addr} {Cs : Nat → Addr} {P1 P2 : Addr} {T : List (Addr × Str)}
theorem Tabs.but {p : Addr} {H H' : Hp} {o : HO} (t : Tabs T H) (at0 : H p = some o) (n1 : ∀ ps, o ≠ .tbl ps) (n2 : ∀ c q, o ≠ CodeO c q) (k : But p H H') : Tabs T H' := fun q hq => by
  obtain ⟨ps, h1, h2, h3⟩ := t q hq
  refine ⟨ps, k _ _ (fun z => by rw [z, at0] at h1; exact n1 ps (Option.some.inj h1)) h1, h2, fun pos cv e => ?_⟩
  obtain ⟨c, e1, e2⟩ := h3 pos cv e
  exact ⟨c, e1, k _ _ (fun z => by rw [z, at0] at e2; exact n2 _ _ (Option.some.inj e2)) e2⟩
theorem codeO_lst {c : Addr} {q : Str} {xs : List V} : HO.lst xs ≠ CodeO c q := fun z => by
  have z' : HO.lst xs = HO.ext _ := z
  cases z'
theorem codeO_ins {c C d : Addr} {q : Str} {xs : List (Str × V)} : HO.ins C d xs ≠ CodeO c q := fun z => by
  have z' : HO.ins C d xs = HO.ext _ := z
  cases z'
theorem marks (n : Nat) (h : n < 92) : (Txt.split (Txt.mul "x" (n : Int)) " ").length ≠ 4 ∧ (Txt.mul "x" (n : Int)).length = n ∧ (Txt.mul "a" (n : Int)).length = n := by
  have all : (List.range 92).all (fun n => decide ((Txt.split (Txt.mul "x" (n : Int)) " ").length ≠ 4 ∧ (Txt.mul "x" (n : Int)).length = n ∧ (Txt.mul "a" (n : Int)).length = n)) = true := by decide +kernel
  exact of_decide_eq_true (List.all_eq_true.mp all n (List.mem_range.mpr h))
theorem big91 : 91 + 2 ≤ sizeLine := by decide
/-- what the lambdas ask of the heap: the desk without undone deeds, the table of Fence.__init__ -/
structure Held (cD P2 x : Addr) (H : Hp) : Prop where
  desk : ∃ dx fs u, H x = some (.ins cD dx fs) ∧ fs.lookup ("undone" : Str) = some (.ref u) ∧ fs.lookup ("redo" : Str) = none ∧ H u = some (.lst [])
  tab : ∃ ps, H P2 = some (.tbl ps) ∧ TriplesOk ps.toList
theorem same_make {H : Hp} {y dx : Addr} {o1 o2 : HO} (hy : H y = none) (hdx : H dx = none) (ne : dx ≠ y) : Same H (upd (upd H dx o1) y o2) := (same_new hdx).trans (same_new (by rw [upd_ne (Ne.symm ne)]; exact hy))
/-- each lambda refuses in its own way -/
theorem lam_runs (F : Facts P w K mg base U FF Cs P1 P2) {σ : L2.St} {H : Hp} {m : Int} {x : Addr} {Q : VK} {R : VK} (h2 : σ[2]? = some (some (.int m))) (h3 : σ[3]? = some (some (.ref x))) (m1 : 1 ≤ m) (m90 : m ≤ 90) (h : Held F.cD P2 x H) (i : Nat) (hi : i < 8)
    (k : ∀ l H', LamX.ExtN H H' → H' l = some (.lst ((bits i).map V.bl)) → Q (.ref l) H') : tLm F i (EUnd Cs Q) σ H R := by
  have er : ∀ {j : Nat} {H' : Hp}, j < 8 → LamX.ExtN H H' → (∀ l H', LamX.ExtN H H' → H' l = some (.lst ((bits j).map V.bl)) → Q (.ref l) H') → EUnd Cs Q (.ref (Cs j)) none H' := fun {j H'} hj x kk => ⟨j, hj, rfl, .inl rfl, fun l H2 s e => kk l H2 (x.trans (LamX.ExtN.of s)) e⟩
  match i, hi with
  | 0, _ =>
    obtain ⟨dx, fs, u, a1, a2, a3, a4⟩ := h.desk
    exact ⟨_, h3, x, dx, fs, rfl, a1, a3, rfl, ⟨x, dx, fs, u, rfl, a1, a2, a4⟩, fun H' s => er (by decide) (LamX.ExtN.of s) k⟩
  | 1, _ => exact ⟨_, h2, _, _, rfl, rfl, fun y dx hy hdx ne => ⟨rfl, ⟨_, _, rfl, by omega⟩, fun H' s => er (by decide) ((LamX.ExtN.of (same_make hy hdx ne)).trans (LamX.ExtN.of s)) k⟩⟩
  | 2, _ => exact ⟨_, h2, _, _, rfl, rfl, fun y dx hy hdx ne => ⟨rfl, ⟨_, _, rfl, by omega⟩, fun H' s => er (by decide) ((LamX.ExtN.of (same_make hy hdx ne)).trans (LamX.ExtN.of s)) k⟩⟩
  | 3, _ => exact ⟨_, h2, _, _, rfl, rfl, rfl, ⟨_, rfl, by omega⟩, fun H' s => er (by decide) (LamX.ExtN.of s) k⟩
  | 4, _ =>
    obtain ⟨n, rfl⟩ : ∃ n : Nat, m = (n : Int) := ⟨m.toNat, by omega⟩
    obtain ⟨k1, k2, _⟩ := marks n (by omega)
    have L : (Pyl.LIM : Int) = 1000000 := rfl
    have l1 : ("x" : Str).length = 1 := rfl
    refine ⟨_, h2, _, _, rfl, rfl, Pyl.mulOk_of (by omega) (by rw [l1]; show 1 * (n : Int).toNat ≤ 1000000; omega) (by omega), rfl, ⟨_, rfl, ?_, k1⟩, fun H' d fs s hd => ⟨4, by decide, rfl, .inr ⟨d, fs, rfl, hd⟩, fun l H2 s2 e => k l H2 ((LamX.ExtN.of s).trans (LamX.ExtN.of s2)) e⟩⟩
    rw [k2]
    exact Nat.le_trans (by omega) big91
  | 5, _ =>
    obtain ⟨n, rfl⟩ : ∃ n : Nat, m = (n : Int) := ⟨m.toNat, by omega⟩
    obtain ⟨_, _, k3⟩ := marks (n + 1) (by omega)
    have L : (Pyl.LIM : Int) = 1000000 := rfl
    have l1 : ("a" : Str).length = 1 := rfl
    refine ⟨_, h2, _, _, rfl, rfl, _, _, rfl, rfl, Pyl.mulOk_of (by omega) (by rw [l1]; show 1 * ((n : Int) + 1).toNat ≤ 1000000; omega) (by omega), by exact (by decide : 1 ≤ sizeLine), fun p hp => ⟨_, h2, rfl, ⟨p, _, _, rfl, upd_same, ?_, ?_⟩, fun H' s => er (by decide) ((LamX.ExtN.of (same_new hp)).trans (LamX.ExtN.of s)) k⟩⟩
    · have : ((n : Int) + 1) = ((n + 1 : Nat) : Int) := by omega
      rw [this, k3]
      exact Nat.le_trans (by omega) big91
    · have : ((n : Int) + 1) = ((n + 1 : Nat) : Int) := by omega
      rw [this, k3]
      omega
  | 6, _ =>
    obtain ⟨ps, t1, t2⟩ := h.tab
    refine ⟨_, h2, fun d hd y dx hy hdx ne => ?_⟩
    have dy : d ≠ y := fun z => by rw [← z, upd_same] at hy; cases hy
    have dd : d ≠ dx := fun z => by rw [← z, upd_same] at hdx; cases hdx
    have tb : upd H d (.dK []) P2 = some (.tbl ps) := by rw [upd_ne (ne_of_none t1 hd)]; exact t1
    refine ⟨y, dx, m, d, rfl, m1, upd_same, by rw [upd_ne dy, upd_ne dd]; exact upd_same, ⟨ps, by rw [upd_ne (ne_of_none tb hy), upd_ne (ne_of_none tb hdx)]; exact tb, t2⟩, fun H' u fs bt a1 a2 a3 a4 => ⟨rfl, ?_⟩⟩
    refine ⟨y, dx, fs, rfl, a1, a3, _, h2, rfl, ⟨y, dx, fs, u, m, rfl, a1, a2, a4⟩, fun H'' s => er (by decide) (LamX.ExtN.trans (fun b o e nt => ?_) (LamX.ExtN.of s)) k⟩
    have e1 := same_new hd (o := .dK []) b o e
    exact bt b o (fun z => by rw [z, hy] at e1; cases e1) nt (same_make hy hdx ne b o e1)
  | 7, _ => exact ⟨_, h2, _, _, rfl, rfl, by exact (by decide : 1 ≤ sizeLine), fun p hp => ⟨_, h2, rfl, ⟨p, _, _, rfl, upd_same, by omega⟩, fun H' s => er (by decide) ((LamX.ExtN.of (same_new hp)).trans (LamX.ExtN.of s)) k⟩⟩
  | n + 8, h => exact absurd h (by omega)
/-! ### what is due -/
def dueL (kk : Int) (n : Nat) : List V := (List.range n).map fun (j : Nat) => V.bl (decide (V.int (0 + (j : Int)) = V.int kk))
def Dw (H1 : Hp) (D : Addr) (kk : Int) (i : Nat) (H : Hp) : Prop := Same H1 H ∧ H D = some (.lst (dueL kk i))
theorem due_runs {σ : L2.St} {H : Hp} {kk : Int} {Q : VK} (len : σ.length = 7) (h5 : σ[5]? = some (some (.int kk))) (k : ∀ p H', Same H H' → H' p = some (.lst (dueL kk 8 ++ [.bl true])) → Q (.ref p) H') : tDue σ H Q := by
  obtain ⟨a0, a1, a2, a3, a4, a5, a6, rfl⟩ : ∃ a0 a1 a2 a3 a4 a5 a6, σ = [a0, a1, a2, a3, a4, a5, a6] := by
    match σ, len with
    | [a0, a1, a2, a3, a4, a5, a6], _ => exact ⟨a0, a1, a2, a3, a4, a5, a6, rfl⟩
  have e5 : a5 = some (.int kk) := by simpa using h5
  subst e5
  refine ⟨8, rfl, by decide, by decide, fun D hD => lc_range (Dw H D kk) ⟨same_new hD, upd_same⟩ (fun i H' hi c => ?_) fun H' c => ?_⟩
  · obtain ⟨s, at0⟩ := c
    refine ⟨rfl, ?_⟩
    simp only [tYes, if_true]
    refine ⟨_, rfl, _, rfl, rfl, dueL kk i, at0, ?_, fun b o e => ?_, ?_⟩
    · show (dueL kk i).length < sizeLine
      unfold dueL
      rw [List.length_map, List.length_range]
      exact Nat.lt_trans hi (by decide)
    · have : b ≠ D := fun z => by rw [z, hD] at e; cases e
      rw [upd_ne this]
      exact s b o e
    · rw [upd_same]
      unfold dueL
      rw [List.range_succ, List.map_append]
      rfl
  · obtain ⟨s, at0⟩ := c
    refine ⟨by exact (by decide : 1 ≤ sizeLine), fun p hp => ?_⟩
    have Dp := ne_of_none at0 hp
    refine ⟨D, p, dueL kk 8, [.bl true], rfl, rfl, by rw [upd_ne Dp]; exact at0, upd_same, by exact (by decide : 9 ≤ sizeLine), fun r hr => ?_⟩
    exact k r _ ((s.trans (same_new hp)).trans (same_new hr)) upd_same
theorem due_eq (i : Nat) (hi : i < 8) : dueL (i : Int) 8 ++ [.bl true] = (bits i).map V.bl := by
  match i, hi with
  | 0, _ => decide
  | 1, _ => decide
  | 2, _ => decide
  | 3, _ => decide
  | 4, _ => decide
  | 5, _ => decide
  | 6, _ => decide
  | 7, _ => decide
  | n + 8, h => exact absurd h (by omega)
theorem bits_eqv (i : Nat) (hi : i < 8) : SeqAt.shaped (.list ((bits i).map PyData.bool)) = true ∧ PyData.eqv (.list ((bits i).map PyData.bool)) (.list ((bits i).map PyData.bool)) = true := by
  match i, hi with
  | 0, _ => decide
  | 1, _ => decide
  | 2, _ => decide
  | 3, _ => decide
  | 4, _ => decide
  | 5, _ => decide
  | 6, _ => decide
  | 7, _ => decide
  | n + 8, h => exact absurd h (by omega)
theorem dp_bools {H : Hp} : ∀ l : List Bool, DpAll K H (l.map V.bl) (l.map PyData.bool)
  | [] => .nil
  | b :: r => .cons (.bl b) (dp_bools r)
theorem s4_runs (F : Facts2 P w K mg base U FF Cs P1 P2) {lo : Nat → Addr → Addr → HO} (hlo : ∀ i f c, ∃ φ, lo i f c = .ext φ) {D : Ends} {H : Hp} {a p x l : Addr} {m : Int} {i : Nat} {fs : List Addr} {fi ci : Addr} (hi : i < 8) (m1 : 1 ≤ m) (m90 : m ≤ 90)
    (at0 : H l = some (.lst (fs.map V.ref))) (fl : fs.length = 8) (hf : fs[i]? = some fi) (h1 : H fi = some (lo i fi ci)) (h2 : H ci = some (CodeO ci qL)) (held : Held F.cD P2 x H)
    (k : ∀ H', (∀ b o, H b = some o → (∀ ps, o ≠ .tbl ps) → (∀ φ, o ≠ .ext φ) → H' b = some o) → D.nx [some (.ref a), some (.ref p), some (.int m), some (.ref x), some (.ref l), some (.int i), none] H') :
    tS4 F lo D [some (.ref a), some (.ref p), some (.int m), some (.ref x), some (.ref l), some (.int i), none] H := by
  obtain ⟨φ, eφ⟩ := hlo i fi ci
  have held2 : Held F.cD P2 x (delH H fi) := by
    obtain ⟨⟨dx, gs, u, a1, a2, a3, a4⟩, ⟨ps, t1, t2⟩⟩ := held
    have ne : ∀ {b : Addr} {o : HO}, H b = some o → (∀ φ, o ≠ .ext φ) → delH H fi b = some o := fun {b o} e n => by
      unfold delH
      rw [if_neg fun z => by rw [z, h1, eφ] at e; exact n φ (Option.some.inj e).symm]
      exact e
    exact ⟨⟨dx, gs, u, ne a1 (fun φ z => by cases z), a2, a3, ne a4 (fun φ z => by cases z)⟩, ⟨ps, ne t1 (fun φ z => by cases z), t2⟩⟩
  have ati : L2.atI (fs.map V.ref) (i : Int) = some (.ref fi) := by
    have e : (fs.map V.ref)[i]? = some (.ref fi) := by rw [List.getElem?_map, hf]; rfl
    unfold L2.atI L2.ixN
    rw [if_pos (by omega), if_pos (by rw [List.length_map, fl]; omega)]
    exact e
  refine ⟨_, rfl, _, rfl, l, fs.map V.ref, _, _, rfl, rfl, .inl (.inl at0), ati, i, fi, ci, rfl, hi, h1, h2, ?_⟩
  refine lam_runs F.toFacts (x := x) (m := m) rfl rfl m1 m90 held2 i hi fun b H1 ex atb => ?_
  refine due_runs (kk := (i : Int)) rfl rfl fun q H2 same atq => ?_
  rw [due_eq i hi] at atq
  obtain ⟨b1, b2⟩ := bits_eqv i hi
  refine ⟨_, _, .lst (.inl (.inl (same _ _ atb))) (dp_bools (bits i)), .lst (.inl (.inl atq)) (dp_bools (bits i)), b1, b1, _, rfl, ?_⟩
  rw [b2]
  refine itF rfl (k H2 fun b o e n1 n2 => same b o (ex b o ?_ n1))
  unfold delH
  rw [if_neg fun z => by rw [z, h1, eφ] at e; exact n2 φ (Option.some.inj e).symm]
  exact e
/-! ### the law -/
def spLaw (K : PySem.W.Frag) (P1 P2 : Addr) : Sp := fun vs H Q _ => ∃ (a : Addr) (ns : List Int), vs = [.ref a] ∧ SqL K H a (ns.map V.int) ∧ H P1 = some (.tbl #[]) ∧ H P2 = some (.tbl #[]) ∧ ∀ H', Q (.bl true) H'
theorem extN_at {H H' : Hp} {b : Addr} {o : HO} (e : LamX.ExtN H H') (h : H b = some o) (n : ∀ ps, o ≠ .tbl ps := by intro _ z; cases z) : H' b = some o := e b o h n
/-- the eight lambdas, each kept -/
structure Lams (lo : Nat → Addr → Addr → HO) (fs : List (Addr × Addr)) (H : Hp) : Prop where
  at_ : ∀ i f c, fs[i]? = some (f, c) → H f = some (lo i f c) ∧ H c = some (CodeO c qL)
theorem Lams.ext {lo : Nat → Addr → Addr → HO} (hlo : ∀ i f c, ∃ φ, lo i f c = .ext φ) {fs : List (Addr × Addr)} {H H' : Hp} (L : Lams lo fs H) (e : LamX.ExtN H H') : Lams lo fs H' := ⟨fun i f c h => by
  obtain ⟨h1, h2⟩ := L.at_ i f c h
  obtain ⟨φ, q⟩ := hlo i f c
  exact ⟨e _ _ h1 (fun ps z => by rw [q] at z; cases z), e _ _ h2 fun ps => codeO_ne ps⟩⟩
theorem Lams.snoc {lo : Nat → Addr → Addr → HO} (hlo : ∀ i f c, ∃ φ, lo i f c = .ext φ) {fs : List (Addr × Addr)} {H H' : Hp} {f c : Addr} (L : Lams lo fs H) (e : LamX.ExtN H H') (h1 : H' f = some (lo fs.length f c)) (h2 : H' c = some (CodeO c qL)) : Lams lo (fs ++ [(f, c)]) H' := ⟨fun i g d h => by
  rw [List.getElem?_append] at h
  split at h
  · exact (L.ext hlo e).at_ i g d h
  · rename_i n
    have : i = fs.length := by
      have := (List.getElem?_eq_some_iff.mp h).1
      simp only [List.length_cons, List.length_nil] at this
      omega
    subst this
    rw [Nat.sub_self] at h
    cases h
    exact ⟨h1, h2⟩⟩
/-- one more lambda in the list -/
theorem lam_step {lo : Nat → Addr → Addr → HO} (hlo : ∀ i f c, ∃ φ, lo i f c = .ext φ) {σ : L2.St} {H0 H : Hp} {fs : List (Addr × Addr)} {Q : VK} (tab : Tabs (Tb P1 P2) H) (ex : LamX.ExtN H0 H) (L : Lams lo fs H)
    (k : ∀ f c H', Tabs (Tb P1 P2) H' → LamX.ExtN H0 H' → Lams lo (fs ++ [(f, c)]) H' → Q (.ref f) H') : tMkL (Tb P1 P2) (lo fs.length) σ H Q :=
  ⟨tab, fun f c H1 e t h1 h2 => k f c H1 t (ex.trans e) (L.snoc hlo e h1 h2)⟩
theorem whats_run {lo : Nat → Addr → Addr → HO} (hlo : ∀ i f c, ∃ φ, lo i f c = .ext φ) {σ : L2.St} {H : Hp} {Q : VK} (tab : Tabs (Tb P1 P2) H) (k : ∀ l fs H', fs.length = 8 → Tabs (Tb P1 P2) H' → LamX.ExtN H H' → Lams lo fs H' → H' l = some (.lst (fs.map fun q => V.ref q.1)) → Q (.ref l) H') :
    tWhats (Tb P1 P2) lo σ H Q := by
  simp only [tWhats, tLst, tCons, tNil]
  refine lam_step hlo (fs := []) tab (LamX.ExtN.refl H) ⟨fun i f c h => by simp at h⟩ fun f0 c0 H0 t0 e0 L0 => ?_
  refine lam_step hlo (fs := [(f0, c0)]) t0 e0 L0 fun f1 c1 H1 t1 e1 L1 => ?_
  refine lam_step hlo (fs := [(f0, c0), (f1, c1)]) t1 e1 L1 fun f2 c2 H2 t2 e2 L2 => ?_
  refine lam_step hlo (fs := [(f0, c0), (f1, c1), (f2, c2)]) t2 e2 L2 fun f3 c3 H3 t3 e3 L3 => ?_
  refine lam_step hlo (fs := [(f0, c0), (f1, c1), (f2, c2), (f3, c3)]) t3 e3 L3 fun f4 c4 H4 t4 e4 L4 => ?_
  refine lam_step hlo (fs := [(f0, c0), (f1, c1), (f2, c2), (f3, c3), (f4, c4)]) t4 e4 L4 fun f5 c5 H5 t5 e5 L5 => ?_
  refine lam_step hlo (fs := [(f0, c0), (f1, c1), (f2, c2), (f3, c3), (f4, c4), (f5, c5)]) t5 e5 L5 fun f6 c6 H6 t6 e6 L6 => ?_
  refine lam_step hlo (fs := [(f0, c0), (f1, c1), (f2, c2), (f3, c3), (f4, c4), (f5, c5), (f6, c6)]) t6 e6 L6 fun f7 c7 H7 t7 e7 L7 => ?_
  refine ⟨by exact (by decide : 8 ≤ sizeLine), fun l hl => ?_⟩
  have en : LamX.ExtN H7 (upd H7 l (.lst [.ref f0, .ref f1, .ref f2, .ref f3, .ref f4, .ref f5, .ref f6, .ref f7])) := LamX.ExtN.of (same_new hl)
  exact k l [(f0, c0), (f1, c1), (f2, c2), (f3, c3), (f4, c4), (f5, c5), (f6, c6), (f7, c7)] _ rfl (LamX.Tabs.ext t7 (same_new hl)) (e7.trans en) (L7.ext hlo en) upd_same
theorem rest_runs (F : Facts2 P w K mg base U FF Cs P1 P2) {lo : Nat → Addr → Addr → HO} (hlo : ∀ i f c, ∃ φ, lo i f c = .ext φ) {D : Ends} {a p x L dx u : Addr} {m : Int} {l1 : List Int} {fs : List (Str × V)} {H4 : Hp} (m1 : 1 ≤ m) (m90 : m ≤ 90) (l3 : l1.length = 3) (tab : Tabs (Tb P1 P2) H4)
    (p4 : H4 p = some (.lst (l1.map V.int))) (x4 : H4 x = some (.ins F.cD dx fs)) (lk1 : fs.lookup ("undone" : Str) = some (.ref u)) (lk2 : fs.lookup ("redo" : Str) = none) (u4 : H4 u = some (.lst [])) (L4 : H4 L = some (.lst [.ref p]))
    (k : ∀ σ H', H' L = some (.lst [.ref p]) → D.nx σ H') :
    tSeq (tAsg (tWhats (Tb P1 P2) lo) (gName 4)) (tSeq (tAsg (tMany F 8) (gName 5)) (tS4 F lo)) D [some (.ref a), some (.ref p), some (.int m), some (.ref x), none, none, none] H4 := by
  show tWhats (Tb P1 P2) lo [some (.ref a), some (.ref p), some (.int m), some (.ref x), none, none, none] H4 fun v H' => tSeq (tAsg (tMany F 8) (gName 5)) (tS4 F lo) D [some (.ref a), some (.ref p), some (.int m), some (.ref x), some v, none, none] H'
  refine whats_run hlo tab fun l gs H5 fl tab5 ex5 L5 atl => ?_
  have p5 := extN_at ex5 p4
  have x5 := extN_at ex5 x4
  have u5 := extN_at ex5 u4
  have L5' := extN_at ex5 L4
  have np : ∀ {b : Addr} {o : HO}, H5 b = some o → (∀ xs, o = .lst xs → xs.length ≠ 3) → b ≠ p := fun {b o} e n z => by
    rw [z, p5] at e
    exact n _ (Option.some.inj e).symm (by rw [List.length_map]; exact l3)
  refine ⟨_, rfl, p, l1, 8, rfl, l3, by decide, by decide, p5, tab5, fun H6 bt6 _ => ?_⟩
  obtain ⟨r0, r8⟩ := rollR_lt (l := l1) (m := 8) (by decide)
  obtain ⟨i, hi⟩ : ∃ i : Nat, (rollR l1 8).1 = (i : Int) := ⟨(rollR l1 8).1.toNat, by omega⟩
  have i8 : i < 8 := by omega
  obtain ⟨fi, ci, e⟩ : ∃ fi ci, gs[i]? = some (fi, ci) := by
    have : i < gs.length := by rw [fl]; exact i8
    exact ⟨_, _, List.getElem?_eq_getElem this⟩
  obtain ⟨q1, q2⟩ := L5.at_ i fi ci e
  obtain ⟨φ, eφ⟩ := hlo i fi ci
  have f6 := bt6 _ _ (np q1 fun xs z => by rw [eφ] at z; cases z) q1
  have c6 := bt6 _ _ (np q2 fun xs z => absurd z.symm codeO_lst) q2
  have x6 := bt6 _ _ (np x5 fun xs z => by cases z) x5
  have u6 := bt6 _ _ (np u5 fun xs z => by cases z; exact fun h => absurd (show 0 = 3 from h) (by decide)) u5
  have l6 := bt6 _ _ (np atl fun xs z => by cases z; rw [List.length_map, fl]; decide) atl
  have L6 := bt6 _ _ (np L5' fun xs z => by cases z; exact fun h => absurd (show 1 = 3 from h) (by decide)) L5'
  obtain ⟨ps, t1, t2, _⟩ := tab5 (P2, "g") (List.mem_cons_of_mem _ List.mem_cons_self)
  have t6 := bt6 _ _ (np t1 fun xs z => by cases z) t1
  have run := s4_runs F hlo (D := D) (H := H6) (a := a) (p := p) (x := x) (l := l) (m := m) (i := i) (fs := gs.map (·.1)) (fi := fi) (ci := ci) i8 m1 m90 (by rw [List.map_map]; exact l6) (by rw [List.length_map]; exact fl) (by rw [List.getElem?_map, e]; rfl) f6 c6 ⟨⟨dx, fs, u, x6, lk1, lk2, u6⟩, ⟨ps, t6, t2⟩⟩
    (fun H' keep => k _ H' (keep _ _ L6 (fun ps z => by cases z) fun φ z => by cases z))
  rw [← hi] at run
  exact run
theorem law_runs (F : Facts2 P w K mg base U FF Cs P1 P2) {lo : Nat → Addr → Addr → HO} (hlo : ∀ i f c, ∃ φ, lo i f c = .ext φ) (vs : List V) (H : Hp) (Q : VK) (E : XK) (h : spLaw K P1 P2 vs H Q E) :
    tLaw F lo { nx := fun _ H' => Q .non H', rt := Q } (start nLaw vs) H := by
  obtain ⟨a, ns, rfl, sq, p1, p2, k⟩ := h
  have tab : Tabs (Tb P1 P2) H := fun q hq => by
    rcases List.mem_cons.mp hq with rfl | hq
    · exact TabS.nil p1
    · rw [List.mem_singleton.mp hq]
      exact TabS.nil p2
  refine ⟨_, rfl, a, ns, rfl, sq, tab, fun H1 L p s1 tab1 atL atp => ⟨L, rfl, ⟨_, .inl (.inl atL)⟩, for_list (K := K) (a := L) (xs := [.ref p])
    (fun n σ H' => n = 0 ∧ H' = H1 ∧ σ = start nLaw [.ref a] ∨ n = 1 ∧ H' L = some (.lst [.ref p])) (.inl ⟨rfl, rfl, rfl⟩) (fun n σ H' hn c => ?_) (fun n y σ H' hn c => ?_) fun σ H' _ => ?_⟩⟩
  · rcases c with ⟨_, rfl, _⟩ | ⟨_, c⟩
    · exact .inl (.inl atL)
    · exact .inl (.inl c)
  · rcases c with ⟨rfl, rfl, rfl⟩ | ⟨rfl, _⟩
    · cases hn
      have l3 : (Pyl.diceL (ns.headD 0)).length = 3 := by unfold Pyl.diceL; split <;> rfl
      generalize Pyl.diceL (ns.headD 0) = l0 at atp l3
      have Lp : L ≠ p := fun z => by
        rw [z, atp] at atL
        have := congrArg List.length (HO.lst.inj (Option.some.inj atL))
        rw [List.length_map, l3] at this
        exact absurd (show 3 = 1 from this) (by decide)
      refine ⟨_, rfl, p, l0, 90, rfl, l3, by decide, by decide, atp, tab1, fun H2 bt2 atp2 => ⟨_, _, rfl, rfl, fun x dx hx hdx ne => ⟨x, dx, rfl, upd_same, fun H3 u fs bt3 atx lk1 lk2 atu => ⟨rfl, by exact (by decide : 2 ≤ sizeLine), fun t ht => ?_⟩⟩⟩⟩
      have tab2 : Tabs (Tb P1 P2) H2 := Tabs.but tab1 atp (fun ps z => by cases z) (fun c q => codeO_lst) bt2
      have s23 : Same H2 H3 := fun b o e => bt3 b o (fun z => by rw [z, hx] at e; cases e) (same_make hx hdx ne b o e)
      obtain ⟨r0, r90⟩ := rollR_lt (l := l0) (m := 90) (by decide)
      refine ⟨t, _, rfl, .inl (.inl upd_same), rfl, _, _, rfl, _, _, rfl, rfl, ?_⟩
      exact rest_runs F hlo (m := 1 + (rollR l0 90).1) (l1 := (rollR l0 90).2) (by omega) (by omega) (rollR_len l3) (LamX.Tabs.ext tab2 (s23.trans (same_new ht))) (same_new ht _ _ (s23 _ _ atp2)) (same_new ht _ _ atx) lk1 lk2 (same_new ht _ _ atu) (same_new ht _ _ (s23 _ _ (bt2 _ _ Lp atL))) (fun σ H' e => .inr ⟨rfl, e⟩)
    · cases hn
  · exact k H'
end
end K23
set_option Elab.async false
set_option linter.all false
set_option maxRecDepth 100000
set_option maxHeartbeats 4000000
/-! K23l: what the head tells, read: the facts of the written part. -/
namespace K23
open PySem PySem.Spec PyProof.Rows L2 LamX
open Pyl (LamD LamKit pe_lam pe_keptcall tKept tMkLam LamO ErrC spRoll spRounds use_roll use_rounds iDice iRoll iRounds)
/-- a def without defaults -/
theorem fun_of {K : PySem.W.Frag} {x q : Str} {st : Stmt} {f : Addr} {fd : FuncData} (F : FunD K x q (defArgs st) (defBody st) (defScope st) [] [] f fd) : Fun K x q st f fd := by
  obtain ⟨oc, od, dV, kV, doc, pm, an, cdv, ct, osl, e, lk, hcd, hD, _⟩ := F.ex
  rcases hD with ⟨_, rfl⟩ | ⟨z, _⟩
  · exact ⟨⟨oc, od, kV, doc, pm, an, cdv, ct, osl, e, lk, hcd⟩, F.kp⟩
  · exact absurd rfl z
theorem gx_tab {base : Heap} {mg : Str → Option Value} {c p : Addr} (T : LamX.TabB base mg c p) : GxR.TabB base mg c p := ⟨T.code, T.bm, T.gP⟩
/-! ### what is asked of the classes of errors -/
def errN : List Str := ["BadDeed", "BadLine", "BadPlan", "BadSize", "BadText", "NoRoom", "NoSuch", "NoWay"]
def cs (K : PySem.W.Frag) (j : Nat) : Addr := He.ga K (errN.getD j "BadDeed")
def errB (K : PySem.W.Frag) (D : Addr) : Bool := (PySem.W.clsIn K D).isSome && (He.eqO (PySem.W.findIn K (.ref D) "__getattribute__") (some (some (.builtin "BaseException.__getattribute__"))) &&
  (He.eqO (PySem.W.findIn K (.ref D) "__getattr__") (some none) && (decide (PySem.W.subIn K (.ref D) (.type "BaseException") = some true) && (He.eqO (PySem.W.findIn K (.ref D) "__class__") (some (some (.builtin "object.__class__"))) &&
  (He.eqO (PySem.W.specialIn K (.builtin "object.__class__") "__get__") (some (some (.builtin "getset_descriptor.__get__"))) && (decide (PySem.W.takesIn K (.builtin "object.__class__") = some true) && decide (PySem.W.mroIn K D (.type "object") = some true)))))))
theorem errB_ok {K : PySem.W.Frag} {D : Addr} (h : errB K D = true) : ErrC K D := by
  obtain ⟨h1, h⟩ := He.ba h
  obtain ⟨h2, h⟩ := He.ba h
  obtain ⟨h3, h⟩ := He.ba h
  obtain ⟨h4, h⟩ := He.ba h
  obtain ⟨h5, h⟩ := He.ba h
  obtain ⟨h6, h⟩ := He.ba h
  obtain ⟨h7, h8⟩ := He.ba h
  exact ⟨h1, He.eqO_ok h2, He.eqO_ok h3, of_decide_eq_true h4, He.eqO_ok h5, He.eqO_ok h6, of_decide_eq_true h7, of_decide_eq_true h8⟩
def errsB (K : PySem.W.Frag) : Bool := (List.range 8).all fun j => errB K (cs K j) && (decide (PySem.W.exmOne K (.ref (cs K j)) (.ref (He.ga K "FenceFault")) = some true) &&
  (decide (PySem.W.kitOne K (.ref (cs K j)) (.type "ValueError") = some true) && (List.range 8).all fun i => decide (PySem.W.kitOne K (.ref (cs K j)) (.ref (cs K i)) = some (decide (j = i)))))
theorem errsB_ok {K : PySem.W.Frag} (h : errsB K = true) (j : Nat) (hj : j < 8) : ErrC K (cs K j) ∧ PySem.W.exmOne K (.ref (cs K j)) (.ref (He.ga K "FenceFault")) = some true ∧ PySem.W.kitOne K (.ref (cs K j)) (.type "ValueError") = some true ∧
    ∀ i, i < 8 → PySem.W.kitOne K (.ref (cs K j)) (.ref (cs K i)) = some (decide (j = i)) := by
  obtain ⟨h1, h⟩ := He.ba (List.all_eq_true.mp h j (List.mem_range.mpr hj))
  obtain ⟨h2, h⟩ := He.ba h
  obtain ⟨h3, h4⟩ := He.ba h
  exact ⟨errB_ok h1, of_decide_eq_true h2, of_decide_eq_true h3, fun i hi => of_decide_eq_true (List.all_eq_true.mp h4 i (List.mem_range.mpr hi))⟩
/-! ### BadText -/
def pBad : Str × Option Str := ("BadText", some "__init__")
def cellOf (K : PySem.W.Frag) (f : Addr) : Addr := match K.lookup f with
  | some ⟨_, _, .func fd, _⟩ => (match fd.closure with
    | [(_, a)] => a
    | _ => 0)
  | _ => 0
abbrev FnB : Type := Option (Str × Str × Arguments × FuncBody × Scope × Addr × List Str × Addr)
def fnB (K : PySem.W.Frag) (f : Addr) : FnB := match K.lookup f with
  | some ⟨_, _, .func fd, _⟩ => some (fd.name, fd.qualname, fd.params, fd.body, fd.scope, fd.globals, fd.closure.map (·.1), fd.builtins)
  | _ => none
def badV : FnB := some ("__init__", "BadText.__init__", PySem.BadX.iA, .stmts PySem.BadX.iB, PySem.BadX.iS, mainGlobals, ["__class__"], builtinsNs)
def fnOkB (K : PySem.W.Frag) (f c : Addr) (q : Str) : Bool := match K.lookup f with
  | some ⟨_, _, .func fd, _⟩ => PySem.W.codeIn K fd.code q && (He.relB (.ref c) fd.code && He.dflB K fd.defaults [])
  | _ => false
theorem fnB_ok {K : PySem.W.Frag} {f c : Addr} (e : fnB K f = badV) (b : fnOkB K f c "BadText.__init__" = true) : ∃ (oc : Value) (od : Option Addr) (kV doc pm : Value) (an : Option Addr) (ct : Value) (osl : Array (Option Value)),
    K.lookup f = some ⟨oc, od, .func (PySem.W.ksFn "__init__" "BadText.__init__" PySem.BadX.iA PySem.BadX.iB PySem.BadX.iS .none kV doc pm an (.ref c) ct (cellOf K f)), osl⟩ ∧ PySem.W.codeIn K (.ref c) "BadText.__init__" = true := by
  unfold fnB at e
  unfold fnOkB at b
  unfold cellOf
  cases q : K.lookup f with
  | none =>
    rw [q] at b
    cases b
  | some o =>
    obtain ⟨oc, od, dt, osl⟩ := o
    rw [q] at b e
    cases dt with
    | func fd =>
      obtain ⟨n1, n2, n3, n4, n5, n6, n7, n8, n9, n10, n11, n12, n13, n14, n15⟩ := fd
      have e2 : (some (n1, n2, n3, n4, n5, n6, n7.map (·.1), n15) : FnB) = badV := e
      simp only [badV, Option.some.injEq, Prod.mk.injEq] at e2
      obtain ⟨h1, h2, h3, h4, h5, h6, h7, h8⟩ := e2
      subst h1 h2 h3 h4 h5 h6 h8
      have b2 : (PySem.W.codeIn K n13 "BadText.__init__" && (He.relB (.ref c) n13 && He.dflB K n8 [])) = true := b
      obtain ⟨b3, b4⟩ := He.ba b2
      obtain ⟨b5, b6⟩ := He.ba b4
      have e13 : n13 = .ref c := He.relB_ok b5
      subst e13
      have e8 : n8 = .none := by
        cases n8 with
        | none => rfl
        | _ => cases b6
      subst e8
      match n7, h7 with
      | [(x, a)], h7 =>
        have : x = "__class__" := by
          injection h7
        subst this
        exact ⟨oc, od, n9, n10, n11, n12, n14, osl, rfl, b3⟩
    | _ => cases b
def badClsB (K : PySem.W.Frag) (C : Addr) : Bool := match K.lookup C with
  | some ⟨.type "type", _, .cls cd, sl⟩ => (match cd.mro, sl.toList with
    | .ref C' :: bm, [_, _, _, _, some (.builtin n), _] => C' == C && (n == "ValueError.__new__" && (!cd.hasDel && (cd.hasDict && PySem.HandSPX.refsVE bm)))
    | _, _ => false)
  | _ => false
theorem badClsB_ok {K : PySem.W.Frag} {C : Addr} (q : badClsB K C = true) : ∃ nm q N bs bm sn sub ab col dd k0 k1 k2 k3 k5, K.lookup C = some (excClassObj nm q C N bs bm true sn sub ab col dd k0 k1 k2 k3 k5 "ValueError.__new__") ∧ PySem.HandSPX.refsVE bm = true := by
  unfold badClsB at q
  split at q
  · rename_i dd cd sl ho
    split at q
    · rename_i C' bm k0 k1 k2 k3 n k5 hm hs
      obtain ⟨q1, q⟩ := He.ba q
      obtain ⟨q2, q⟩ := He.ba q
      obtain ⟨q3, q⟩ := He.ba q
      obtain ⟨q4, q5⟩ := He.ba q
      have c1 := beq_iff_eq.mp q1
      have c2 := beq_iff_eq.mp q2
      subst c1 c2
      obtain ⟨nm, bs, mro, ns, qn, hd, sn, sub, ab, col, del⟩ := cd
      dsimp only at hm q3 q4
      have q3' : del = false := by
        cases del with
        | false => rfl
        | true => cases q3
      subst hm q3' q4
      obtain ⟨l⟩ := sl
      simp only at hs
      subst hs
      exact ⟨nm, qn, ns, bs, bm, sn, sub, ab, col, dd, k0, k1, k2, k3, k5, ho, q5⟩
    · cases q
  · cases q
def codeB (K : PySem.W.Frag) (c : Addr) (file : Str) : Bool := match K.lookup c with
  | some ⟨_, _, .fields vs, _⟩ => (match (vs[2]? : Option Value) with
    | some (.str z _) => file == z
    | _ => false)
  | _ => false
theorem codeB_ok {K : PySem.W.Frag} {c : Addr} {x : Str} (h : codeB K c x = true) : ∃ ccl cdd vs ccs file tf, K.lookup c = some ⟨ccl, cdd, .fields vs, ccs⟩ ∧ vs[2]? = some (.str file tf) ∧ (x == file) = true := by
  unfold codeB at h
  cases q : K.lookup c with
  | none =>
    rw [q] at h
    cases h
  | some o =>
    obtain ⟨oc, od, dt, osl⟩ := o
    rw [q] at h
    cases dt with
    | fields vs =>
      have h1 : (match (vs[2]? : Option Value) with | some (.str z _) => x == z | _ => false) = true := h
      cases e : vs[2]? with
      | none =>
        rw [e] at h1
        cases h1
      | some v =>
        rw [e] at h1
        cases v with
        | str z t => exact ⟨oc, od, vs, osl, z, t, rfl, e, h1⟩
        | _ => cases h1
    | _ => cases h
def cellB (K : PySem.W.Frag) (c C : Addr) : Bool := match K.lookup c with
  | some ⟨_, _, .cell (some v), _⟩ => He.relB (.ref C) v
  | _ => false
theorem cellB_ok {K : PySem.W.Frag} {c C : Addr} (h : cellB K c C = true) : ∃ cl cld csl, K.lookup c = some ⟨cl, cld, .cell (some (.ref C)), csl⟩ := by
  unfold cellB at h
  cases q : K.lookup c with
  | none =>
    rw [q] at h
    cases h
  | some o =>
    obtain ⟨oc, od, dt, osl⟩ := o
    rw [q] at h
    cases dt with
    | cell v =>
      cases v with
      | none => cases h
      | some v =>
        have e : v = .ref C := He.relB_ok (v := .ref C) h
        subst e
        exact ⟨oc, od, osl, rfl⟩
    | _ => cases h
def badB (K : PySem.W.Frag) (C fI cc cda : Addr) (file : Str) : Bool := badClsB K C && (He.eqO (PySem.W.findIn K (.ref C) "__setattr__") (some (some (.builtin "object.__setattr__"))) && (He.eqO (PySem.W.findIn K (.ref C) "row") (some none) &&
  (He.eqO (PySem.W.findIn K (.ref C) "__init__") (some (some (.ref fI))) && (decide (PySem.W.typeIn K (.ref fI) = some (.type "function")) && (PySem.W.keepIn K (.ref C) && (decide (PySem.W.subIn K (.ref C) (.type "BaseException") = some true) &&
  (decide (PySem.W.subIn K (.ref C) (.type "ValueError") = some true) && (decide (PySem.W.typeIn K (.ref C) = some (.type "type")) && (decide (PySem.W.mroIn K C (.ref C) = some true) && (He.eqO (PySem.W.ks_superIn K C C "__init__") (some (some (.builtin "ValueError.__init__"))) &&
  (He.eqO (PySem.W.nsIn K cStatics "thirdparty.any") (some none) && (fnOkB K fI cda "BadText.__init__" && (codeB K cda file && cellB K cc C)))))))))))))
theorem badB_ok {P : Program} {K : PySem.W.Frag} {mg : Str → Option Value} {C fI cda : Addr} (gC : mg "BadText" = some (.ref C)) (gS : mg "super" = none) (ht : (P.main.scope.names.lookup ("super" : Str)).isSome = false) (e : fnB K fI = badV) (h : badB K C fI (cellOf K fI) cda P.main.file = true) : PySem.BadX.BadTxt P K mg C fI (cellOf K fI) cda := by
  obtain ⟨h1, h⟩ := He.ba h
  obtain ⟨h2, h⟩ := He.ba h
  obtain ⟨h3, h⟩ := He.ba h
  obtain ⟨h4, h⟩ := He.ba h
  obtain ⟨h5, h⟩ := He.ba h
  obtain ⟨h6, h⟩ := He.ba h
  obtain ⟨h7, h⟩ := He.ba h
  obtain ⟨h8, h⟩ := He.ba h
  obtain ⟨h9, h⟩ := He.ba h
  obtain ⟨h10, h⟩ := He.ba h
  obtain ⟨h11, h⟩ := He.ba h
  obtain ⟨h12, h⟩ := He.ba h
  obtain ⟨h13, h⟩ := He.ba h
  obtain ⟨h14, h15⟩ := He.ba h
  exact ⟨gC, gS, badClsB_ok h1, He.eqO_ok h2, He.eqO_ok h3, He.eqO_ok h4, of_decide_eq_true h5, h6, of_decide_eq_true h7, of_decide_eq_true h8, of_decide_eq_true h9, of_decide_eq_true h10, He.eqO_ok h11, He.eqO_ok h12, fnB_ok e h13, codeB_ok h14, cellB_ok h15, ht⟩
end K23
set_option Elab.async false
set_option linter.all false
set_option maxRecDepth 100000
set_option maxHeartbeats 4000000
/-! K23m: the head's Hook; from it the facts of the law. -/
namespace K23
open PySem PySem.Spec PyProof.Rows L2 LamX
open Pyl (LamD LamKit pe_lam pe_keptcall tKept tMkLam LamO ErrC spRoll spRounds use_roll use_rounds iDice iRoll iRounds)
/-! ### the Hook -/
def asY (g : Addr → Option Obj) (n : Nat) : List Addr := cStatics :: He.asD g n
abbrev AlY : Type := He.AlD × Bool × FnB
def obsY (n : Nat) (fa : List He.Fa) (fn : List He.DefD) (tf : List He.Defn) (ex : PySem.W.Frag → Bool) (g : Addr → Option Obj) : AlY := (fun K => (He.obsD fa fn K, ex K && He.tabsB g tf K, fnB K (He.fAd K pBad))) (He.frT g (asY g n))
def valY (fn : List He.DefD) : AlY := (He.valD fn, true, badV)
structure SaysY (fa : List He.Fa) (fn : List He.DefD) (tf : List He.Defn) (ex : PySem.W.Frag → Bool) (h : Heap) (K : PySem.W.Frag) : Prop where
  d : He.SaysD fa fn K
  bad : fnB K (He.fAd K pBad) = badV
  more : ex K = true
  hd : ∀ p ∈ tf, PySem.W.codeHdIn K (He.cT K p).1 (He.cT K p).2 = true
  out : ∀ p ∈ tf, K.lookup (He.cT K p).2 = none
  empty : ∀ p ∈ tf, h.get? (He.cT K p).2 = some { cls := .none, data := .fields #[] }
theorem saysY_of {n : Nat} {fa : List He.Fa} {fn : List He.DefD} {tf : List He.Defn} {ex : PySem.W.Frag → Bool} {h : Heap} (e : obsY n fa fn tf ex h.get? = valY fn) : SaysY fa fn tf ex h (He.frT h.get? (asY h.get? n)) := by
  have e1 : He.obsD fa fn (He.frT h.get? (asY h.get? n)) = He.valD fn := congrArg (fun z : AlY => z.1) e
  have e2 : (ex (He.frT h.get? (asY h.get? n)) && He.tabsB h.get? tf (He.frT h.get? (asY h.get? n))) = true := congrArg (fun z : AlY => z.2.1) e
  have e3 : fnB (He.frT h.get? (asY h.get? n)) (He.fAd (He.frT h.get? (asY h.get? n)) pBad) = badV := congrArg (fun z : AlY => z.2.2) e
  generalize hK : He.frT h.get? (asY h.get? n) = K at e1 e2 e3
  have none_of : ∀ {a : Addr} {o : Obj}, h.get? a = some o → He.emptyTab o = true → K.lookup a = none := fun {a o} q z => by rw [← hK]; exact He.frT_none q z
  obtain ⟨h1, h2⟩ := He.ba e2
  have key : ∀ p ∈ tf, PySem.W.codeHdIn K (He.cT K p).1 (He.cT K p).2 = true ∧ ∃ o, h.get? (He.cT K p).2 = some o ∧ He.emptyTab o = true := fun p hp => by
    obtain ⟨h3, h4⟩ := He.ba (List.all_eq_true.mp h2 p hp)
    refine ⟨h3, ?_⟩
    cases q : h.get? (He.cT K p).2 with
    | none =>
      rw [q] at h4
      cases h4
    | some o =>
      rw [q] at h4
      exact ⟨o, rfl, h4⟩
  refine ⟨e1, e3, h1, fun p hp => (key p hp).1, fun p hp => ?_, fun p hp => ?_⟩
  · obtain ⟨_, o, q, z⟩ := key p hp
    exact none_of q z
  · obtain ⟨_, o, q, z⟩ := key p hp
    rw [q, He.emptyTab_eq z]
def hookY (n : Nat) (fa : List He.Fa) (fn : List He.DefD) (tf : List He.Defn) (ex : PySem.W.Frag → Bool) : PySem.W.Hook where
  α := AlY
  obs := fun s => obsY n fa fn tf ex s.heap.get?
  val := fun _ => valY fn
  says := fun _ h => ∃ K : PySem.W.Frag, K.In h ∧ SaysY fa fn tf ex h K
  of := fun _ _ e => ⟨_, He.frT_in, saysY_of e⟩
  keeps := fun _ _ _ ⟨K, hK, c⟩ k => ⟨K, PySem.W.Frag.In.keeps hK k, ⟨c.d, c.bad, c.more, c.hd, c.out, fun p hp => k _ _ (c.empty p hp)⟩⟩
/-! ### what is asked -/
def fnl (x : Str) (st : Stmt) : He.DefD := ⟨(x, none), x, x, defArgs st, defBody st, defScope st, [], []⟩
def mel (c m q : Str) (st : Stmt) : He.DefD := ⟨(c, some m), m, q, defArgs st, defBody st, defScope st, [], []⟩
def fns : List He.DefD := [fnl "_law_dice" sDice, fnl "_law_roll" sRoll, fnl "_law_rounds" sRounds, fnl "_law_under" sUnd, fnl "law" sLaw, fnl "heap" sHeap, fnl "trips" sTrips, fnl "read_row" sRead, fnl "centred" sCent,
  mel "Desk" "__init__" "Desk.__init__" sDesk, mel "Desk" "redo" "Desk.redo" sRedo, mel "Gate" "__init__" "Gate.__init__" sGate, mel "Fence" "__init__" "Fence.__init__" sFence, mel "Fence" "mend" "Fence.mend" sMend, mel "PostLine" "__init__" "PostLine.__init__" sPost]
def excN : List Str := ["BadDeed", "BadLine", "BadPlan", "BadSize", "NoRoom", "NoSuch", "NoWay"]
def gloN : List Str := ["FenceFault", "BadDeed", "BadLine", "BadPlan", "BadSize", "BadText", "NoRoom", "NoSuch", "NoWay", "heap", "trips", "read_row", "Desk", "Gate", "KINDS", "Fence", "PostLine", "centred", "_law_dice", "_law_roll", "_law_rounds", "_law_under", "law"]
def freN : List Str := ["ValueError", "isinstance", "super", "any", "min", "list", "dict", "abs", "int", "range", "len"]
def noaN : List (Str × Str) := [("Desk", "text"), ("Desk", "deeds"), ("Desk", "undone"), ("Fence", "long"), ("Fence", "parts"), ("Fence", "breaks"), ("Fence", "mended")]
def midF : List He.Fa := [.cls "Desk", .cls "Fence", .meth "Desk" "redo", .meth "Fence" "mend", .mkr "Desk", .mkr "Gate", .mkr "Fence", .mkr "PostLine"]
def fas : List He.Fa := (gloN.map He.Fa.glo) ++
  (freN.map He.Fa.free) ++ (noaN.map fun q => He.Fa.noat q.1 q.2) ++
  midF ++ excN.map He.Fa.exc
def tfs : List He.Defn := [("law", none), ("Fence", some "__init__")]
def filS : Str := "/claim/cut.py"
def exs (K : PySem.W.Frag) : Bool := errsB K && (badB K (cs K 4) (He.fAd K pBad) (cellOf K (He.fAd K pBad)) (He.codeOf K pBad) filS && (He.tupB K "KINDS" (kinds.map He.Dv.str) && decide ((He.cT K ("Fence", some "__init__")).2 ≠ (He.cT K ("law", none)).2)))
abbrev hkY : PySem.W.Hook := hookY 5 fas fns tfs exs
def obH (s : PySem.W.SharedT) : AlY := obsY 5 fas fns tfs exs (HandSHeadRun.getT s)
theorem obH_eq (s : PySem.W.SharedT) : obH s = hkY.obs s.abs := by
  have e : HandSHeadRun.getT s = s.abs.heap.get? := funext (HandSHeadRun.getT_eq s)
  unfold obH
  rw [e] <;> rfl
section
variable {P : Program} {w : World} {K : PySem.W.Frag} {mg : Str → Option Value} {base h : Heap}
theorem fa_of (c : SaysY fas fns tfs exs h K) {f : He.Fa} (hf : f ∈ fas) : f.ok K = true := He.SaysD.facts c.d hf
theorem glo_of (X : K.In h) (G : h.Ns mainGlobals mg) (c : SaysY fas fns tfs exs h K) (x : Str) (hf : x ∈ gloN := by decide) : mg x = some (.ref (He.ga K x)) :=
  He.glo_ok X G (fa_of c (List.mem_append_left _ (List.mem_append_left _ (List.mem_append_left _ (List.mem_append_left _ (List.mem_map_of_mem hf))))))
theorem free_of (X : K.In h) (G : h.Ns mainGlobals mg) (c : SaysY fas fns tfs exs h K) (x : Str) (hf : x ∈ freN := by decide) : mg x = none :=
  He.free_ok X G (fa_of c (List.mem_append_left _ (List.mem_append_left _ (List.mem_append_left _ (List.mem_append_right _ (List.mem_map_of_mem hf))))))
theorem noat_of (c : SaysY fas fns tfs exs h K) (x f : Str) (hf : (x, f) ∈ noaN := by decide) : NoAttr K (He.ga K x) f :=
  He.noat_ok (fa_of c (List.mem_append_left _ (List.mem_append_left _ (List.mem_append_right _ (List.mem_map_of_mem (f := fun q : Str × Str => He.Fa.noat q.1 q.2) hf)))))
theorem exc_of (X : K.In h) (G : h.Ns mainGlobals mg) (c : SaysY fas fns tfs exs h K) (x : Str) (hf : x ∈ excN := by decide) (hg : x ∈ gloN := by decide) : Rse K mg x (He.ga K x) := by
  obtain ⟨h1, h2, h3, h4⟩ := He.exc_ok (fa_of c (List.mem_append_right _ (List.mem_map_of_mem hf)))
  exact ⟨glo_of X G c x hg, h1, h2, h3, h4⟩
theorem mid_of (c : SaysY fas fns tfs exs h K) {f : He.Fa} (hf : f ∈ midF) : f.ok K = true := fa_of c (List.mem_append_left _ (List.mem_append_right _ hf))
theorem def_at (c : SaysY fas fns tfs exs h K) {d : He.DefD} (hd : d ∈ fns) : ∃ fd, FunD K d.name d.qual d.params d.body d.scope (d.dvs K) (d.kws K) (He.fAd K d.at_) fd := He.SaysD.defs c.d hd
theorem fnl_of (c : SaysY fas fns tfs exs h K) {x : Str} {st : Stmt} (hd : fnl x st ∈ fns) : ∃ fd, Fun K x x st (He.ga K x) fd := by
  obtain ⟨fd, F⟩ := def_at c hd
  exact ⟨fd, fun_of F⟩
theorem mel_of (c : SaysY fas fns tfs exs h K) {x m q : Str} {st : Stmt} (hd : mel x m q st ∈ fns) : ∃ fd, Fun K m q st (He.ma K (He.ga K x) m) fd := by
  obtain ⟨fd, F⟩ := def_at c hd
  exact ⟨fd, fun_of F⟩
end
end K23
set_option Elab.async false
set_option linter.all false
set_option maxRecDepth 100000
set_option maxHeartbeats 0
/-! K23r: the top's run. -/
namespace K23
open PySem PySem.Spec PyProof.Rows L2 LamX
abbrev RR : PySem.W.OpenRow := PySem.W.OpenLaw.row PySem.Challenge.rw_fencehall_k23_refusals_apart
def looseN : List PySem.Str := ["_wall", "FenceFault", "BadLine", "BadPlan", "BadSize", "NoSuch", "NoRoom", "NoWay", "BadText", "BadDeed", "heap", "trips", "DEEDS", "Row", "read_row", "Fencebook", "Desk", "Gate", "KINDS", "Fence", "PostLine", "centred", "_law_dice", "_law_roll", "_law_rounds", "_law_under"]
theorem run (w : World) : HandSHeadRun.RunEq RR (PySem.W.view RR.prog [36]) hkY obH 12000 looseN w := by
  intro os
  kernel_rfl
end K23
set_option Elab.async false
set_option linter.all false
set_option maxRecDepth 100000
set_option maxHeartbeats 4000000
/-! K23n: from the head the law's facts; the law's promise. -/
namespace K23
open PySem PySem.Spec PyProof.Rows L2 LamX
open Pyl (LamD LamKit pe_lam pe_keptcall tKept tMkLam LamO ErrC spRoll spRounds use_roll use_rounds iDice iRoll iRounds)
section
variable {P : Program} {w : World} {K : PySem.W.Frag} {mg : Str → Option Value} {base h : Heap}
theorem fnB1 (c : SaysY fas fns tfs exs h K) (ps : List Str) (x : Str) (st : Stmt) (i : Nat) (hd : fns[i]? = some (fnl x st))
    (hb : ∀ (kV doc pm : Value) (an : Option Addr) (cdv ct : Value) (us : List Value), us.length = ps.length → bindArgs (PySem.W.fnOf x x (defArgs st) (defBody st) (defScope st) .none kV doc pm an cdv ct) ⟨us, []⟩ = pure (ps.zip us)) :
    ∃ fd, Fun K x x st (He.ga K x) fd ∧ Binds K fd ps [] := by
  obtain ⟨fd, F⟩ := def_at c (List.mem_of_getElem? hd)
  have F' : FunD K x x (defArgs st) (defBody st) (defScope st) [] [] (He.ga K x) fd := F
  exact ⟨fd, fun_of F', F'.bindsN hb⟩
theorem meB1 (c : SaysY fas fns tfs exs h K) (ps : List Str) (x m q : Str) (st : Stmt) (i : Nat) (hd : fns[i]? = some (mel x m q st))
    (hb : ∀ (kV doc pm : Value) (an : Option Addr) (cdv ct : Value) (us : List Value), us.length = ps.length → bindArgs (PySem.W.fnOf m q (defArgs st) (defBody st) (defScope st) .none kV doc pm an cdv ct) ⟨us, []⟩ = pure (ps.zip us)) :
    ∃ fd, Fun K m q st (He.ma K (He.ga K x) m) fd ∧ Binds K fd ps [] := by
  obtain ⟨fd, F⟩ := def_at c (List.mem_of_getElem? hd)
  have F' : FunD K m q (defArgs st) (defBody st) (defScope st) [] [] (He.ma K (He.ga K x) m) fd := F
  exact ⟨fd, fun_of F', F'.bindsN hb⟩
/-- the code object of a def found by the head -/
theorem code_at {p : He.Defn} {f : Addr} (e : He.fAd K p = f) {oc : Value} {od : Option Addr} {osl : Array (Option Value)} {x q : Str} {as : Arguments} {b : List Stmt} {sc : Scope} {kV doc pm cdv ct : Value} {an : Option Addr}
    (lk : K.lookup f = some ⟨oc, od, .func (PySem.W.fnOf x q as b sc .none kV doc pm an cdv ct), osl⟩) (hcd : PySem.W.codeIn K cdv q = true) : cdv = .ref (He.codeOf K p) := by
  obtain ⟨c, rfl⟩ := He.codeIn_ref hcd
  rw [← e] at lk
  rw [He.codeOf_eq lk rfl]
abbrev tabL (K : PySem.W.Frag) : Addr := (He.cT K ("law", none)).2
abbrev tabF (K : PySem.W.Frag) : Addr := (He.cT K ("Fence", some "__init__")).2
def uni (K : PySem.W.Frag) : Pyl.Uni where
  K := K
  cls := fun _ => 0
  exc := fun _ => 0
  fnm := fun n => ⟨Array.replicate n 0⟩
  T := Tb (tabL K) (tabF K)
  inj := fun f g e => by
    have := congrArg (fun s : Str => s.cps.size) e
    simpa using this
theorem errs (X : K.In h) (G : h.Ns mainGlobals mg) (c : SaysY fas fns tfs exs h K) : Errs K mg (He.ga K "FenceFault") (cs K) := by
  have e := errsB_ok (He.ba c.more).1
  exact { gF := glo_of X G c "FenceFault", g0 := glo_of X G c "BadDeed", g1 := glo_of X G c "BadLine", g2 := glo_of X G c "BadPlan", g3 := glo_of X G c "BadSize", g4 := glo_of X G c "BadText", g5 := glo_of X G c "NoRoom", g6 := glo_of X G c "NoSuch", g7 := glo_of X G c "NoWay",
          nV := free_of X G c "ValueError", nI := free_of X G c "isinstance", er := fun j hj => (e j hj).1, ex := fun j hj => (e j hj).2.1, ki := fun j hj i hi => (e j hj).2.2.2 i hi, kv := fun j hj => (e j hj).2.2.1 }
theorem facts (X : K.In h) (G : h.Ns mainGlobals mg) (c : SaysY fas fns tfs exs h K) (hP : P.main.file = filS) (ht : (P.main.scope.names.lookup ("super" : Str)).isSome = false) (XB : K.In base) (GB : base.Ns mainGlobals mg) (TF : TabB base mg (He.codeOf K ("Fence", some "__init__")) (tabF K)) :
    Nonempty (Facts2 P w K mg base (uni K) (He.ga K "FenceFault") (cs K) (tabL K) (tabF K)) := by
  obtain ⟨_, c2⟩ := He.ba c.more
  obtain ⟨cB, c3⟩ := He.ba c2
  obtain ⟨cK, _⟩ := He.ba c3
  have bad : PySem.BadX.BadTxt P K mg (cs K 4) (He.fAd K pBad) (cellOf K (He.fAd K pBad)) (He.codeOf K pBad) := badB_ok (glo_of X G c "BadText") (free_of X G c "super") ht c.bad (by rw [hP]; exact cB)
  have sk : ∀ H, SqT K H (He.ga K "KINDS") (kinds.map V.str) := fun H => He.tupB_ok cK H
  obtain ⟨fdDi, FDi, bDi⟩ := fnB1 c ["cell"] "_law_dice" sDice 0 rfl (fun _ _ _ _ _ _ us hl => match us, hl with | [_], _ => rfl)
  obtain ⟨fdRo, FRo, bRo⟩ := fnB1 c ["dice", "many"] "_law_roll" sRoll 1 rfl (fun _ _ _ _ _ _ us hl => match us, hl with | [_, _], _ => rfl)
  obtain ⟨fdRs, FRs, bRs⟩ := fnB1 c ["script", "most"] "_law_rounds" sRounds 2 rfl (fun _ _ _ _ _ _ us hl => match us, hl with | [_, _], _ => rfl)
  obtain ⟨fdU, FU, bU⟩ := fnB1 c ["what"] "_law_under" sUnd 3 rfl (fun _ _ _ _ _ _ us hl => match us, hl with | [_], _ => rfl)
  obtain ⟨fdH, FH, bH⟩ := fnB1 c ["base"] "heap" sHeap 5 rfl (fun _ _ _ _ _ _ us hl => match us, hl with | [_], _ => rfl)
  obtain ⟨fdT, FT, bT⟩ := fnB1 c ["weights", "bears", "places"] "trips" sTrips 6 rfl (fun _ _ _ _ _ _ us hl => match us, hl with | [_, _, _], _ => rfl)
  obtain ⟨fdRe, FRe, bRe⟩ := fnB1 c ["text"] "read_row" sRead 7 rfl (fun _ _ _ _ _ _ us hl => match us, hl with | [_], _ => rfl)
  obtain ⟨fdCe, FCe, bCe⟩ := fnB1 c ["rows", "wide"] "centred" sCent 8 rfl (fun _ _ _ _ _ _ us hl => match us, hl with | [_, _], _ => rfl)
  obtain ⟨fdDe, FDe, bDe⟩ := meB1 c ["self"] "Desk" "__init__" "Desk.__init__" sDesk 9 rfl (fun _ _ _ _ _ _ us hl => match us, hl with | [_], _ => rfl)
  obtain ⟨fdRd, FRd, bRd⟩ := meB1 c ["self"] "Desk" "redo" "Desk.redo" sRedo 10 rfl (fun _ _ _ _ _ _ us hl => match us, hl with | [_], _ => rfl)
  obtain ⟨fdGa, FGa, bGa⟩ := meB1 c ["self", "steps"] "Gate" "__init__" "Gate.__init__" sGate 11 rfl (fun _ _ _ _ _ _ us hl => match us, hl with | [_, _], _ => rfl)
  obtain ⟨fdFe, FFe, bFe⟩ := meB1 c ["self", "long", "parts"] "Fence" "__init__" "Fence.__init__" sFence 12 rfl (fun _ _ _ _ _ _ us hl => match us, hl with | [_, _, _], _ => rfl)
  obtain ⟨fdMe, FMe, bMe⟩ := meB1 c ["self", "place"] "Fence" "mend" "Fence.mend" sMend 13 rfl (fun _ _ _ _ _ _ us hl => match us, hl with | [_, _], _ => rfl)
  obtain ⟨fdPo, FPo, bPo⟩ := meB1 c ["self", "long"] "PostLine" "__init__" "PostLine.__init__" sPost 14 rfl (fun _ _ _ _ _ _ us hl => match us, hl with | [_, _], _ => rfl)
  have nL := free_of X G c "len"
  have clD : Cls K (He.ga K "Desk") := He.cls_ok (mid_of c (List.mem_of_getElem? (i := 0) rfl))
  have clF : Cls K (He.ga K "Fence") := He.cls_ok (mid_of c (List.mem_of_getElem? (i := 1) rfl))
  have deskC : DeskC K (He.ga K "Desk") := ⟨clD, noat_of c "Desk" "text", noat_of c "Desk" "deeds", noat_of c "Desk" "undone"⟩
  have fenC : FenceC K (He.ga K "Fence") := ⟨clF, noat_of c "Fence" "long", noat_of c "Fence" "parts", noat_of c "Fence" "breaks", noat_of c "Fence" "mended"⟩
  have fence : FnOk P w K mg base (L2.CX P w) 6 (He.ma K (He.ga K "Fence") "__init__") fdFe ["self", "long", "parts"] (spFence (He.ga K "Fence") (tabF K)) := by
    obtain ⟨oc, od, kV, doc, pm, an, cdv, ct, osl, e, lk, hcd⟩ := FFe.ex
    subst e
    have ec := code_at (p := ("Fence", some "__init__")) rfl lk hcd
    subst ec
    exact ok_fence lk hcd fenC (exc_of X G c "BadLine") (exc_of X G c "BadSize") (gx_tab TF) (glo_of X G c "KINDS") sk (free_of X G c "any") (free_of X G c "min") (free_of X G c "list") (free_of X G c "dict")
  have dice : FnOk P w K mg base (L2.CX P w) 4 (He.ga K "_law_dice") fdDi ["cell"] (Pyl.spOf (uni K) (iDice.sem ⟨[], [], fun _ _ => false, []⟩)) := ok_dice rfl FDi (free_of X G c "abs") (free_of X G c "int")
  exact ⟨{ er := errs X G c, hK := rfl
           cD := He.ga K "Desk", aRedo := _, fdRedo := _, clsD := clD, mRedo := He.meth_ok (mid_of c (List.mem_of_getElem? (i := 2) rfl)), redo := ok_redo FRd deskC (exc_of X G c "BadDeed"), bRedo := bRd
           cP := He.ga K "PostLine", aPost := _, fdPost := _, mkP := He.mkr_ok (mid_of c (List.mem_of_getElem? (i := 7) rfl)), gP := glo_of X G c "PostLine", post := ok_post FPo (exc_of X G c "BadLine"), bPost := bPo
           cG := He.ga K "Gate", aGate := _, fdGate := _, mkG := He.mkr_ok (mid_of c (List.mem_of_getElem? (i := 5) rfl)), gG := glo_of X G c "Gate", gate := ok_gate FGa (exc_of X G c "BadPlan"), bGate := bGa
           aHeap := _, fdHeap := _, gHeap := glo_of X G c "heap", kHeap := FH.kp, heap := ok_heap FH (exc_of X G c "BadSize"), bHeap := bH
           aRead := _, fdRead := _, gRead := glo_of X G c "read_row", kRead := FRe.kp, read := ok_read FRe bad nL, bRead := bRe
           aCent := _, fdCent := _, gCent := glo_of X G c "centred", kCent := FCe.kp, cent := ok_cent FCe (exc_of X G c "NoRoom") nL, bCent := bCe
           cF := He.ga K "Fence", aFence := _, fdFence := _, mkF := He.mkr_ok (mid_of c (List.mem_of_getElem? (i := 6) rfl)), gF := glo_of X G c "Fence", fence := fence, bFence := bFe
           clsF := clF, aMend := _, fdMend := _, mMend := He.meth_ok (mid_of c (List.mem_of_getElem? (i := 3) rfl)), mend := ok_mend FMe fenC (exc_of X G c "NoSuch"), bMend := bMe
           aTrips := _, fdTrips := _, gTrips := glo_of X G c "trips", kTrips := FT.kp, trips := ok_trips FT (exc_of X G c "BadSize") (exc_of X G c "NoWay"), bTrips := bT
           aRoll := _, fdRoll := _, gRoll := glo_of X G c "_law_roll", kRoll := FRo.kp, roll := (ok_roll (U := uni K) (Γ := ⟨[], [], fun _ _ => false, []⟩) rfl FRo (free_of X G c "int")).imp (use_roll (U := uni K)), bRoll := bRo
           aRounds := _, fdRounds := _, gRounds := glo_of X G c "_law_rounds", kRounds := FRs.kp, rounds := (ok_rounds (U := uni K) (Γ := ⟨[iDice.sem ⟨[], [], fun _ _ => false, []⟩], [], fun _ _ => false, []⟩) (j := 0) rfl FRs dice bDi (glo_of X G c "_law_dice") FDi.kp rfl).imp (use_rounds (U := uni K) (Γ1 := ⟨[], [], fun _ _ => false, []⟩) rfl), bRounds := bRs
           aDesk := _, fdDesk := _, mkD := He.mkr_ok (mid_of c (List.mem_of_getElem? (i := 4) rfl)), gD := glo_of X G c "Desk", desk := ok_desk FDe deskC, bDesk := bDe
           aU := _, gU := glo_of X G c "_law_under", kU := FU.kp
           lkU := by
             obtain ⟨oc, od, kV, doc, pm, an, cdv, ct, osl, e, lk, hcd⟩ := FU.ex
             subst e
             exact ⟨oc, od, kV, doc, pm, an, cdv, ct, osl, lk, hcd, bU⟩
           nR := free_of X G c "range" }⟩
/-- the law keeps its promise -/
theorem law_ok (X : K.In h) (G : h.Ns mainGlobals mg) (c : SaysY fas fns tfs exs h K) (hP : P.main.file = filS) (ht : (P.main.scope.names.lookup ("super" : Str)).isSome = false) :
    ∃ fd : FuncData, (∀ (s : Shared) (u : Value), BindsTo s fd ⟨[u], []⟩ [("script", u)]) ∧ ∀ base : Heap, K.In base → base.Ns mainGlobals mg → (∀ p ∈ tfs.map (He.cT K), TabB base mg p.1 p.2) →
      FnOk P w K mg base (L2.CX P w) 10 (He.ga K "law") fd ["script"] (spLaw K (tabL K) (tabF K)) := by
  obtain ⟨fd, F⟩ := def_at c (List.mem_of_getElem? (i := 4) (l := fns) (a := fnl "law" sLaw) rfl)
  have F' : FunD K "law" "law" (defArgs sLaw) (defBody sLaw) (defScope sLaw) [] [] (He.ga K "law") fd := F
  have b := FunD.bindsA (ps := ["script"]) F' fun _ _ _ _ _ _ us hl => match us, hl with | [_], _ => rfl
  refine ⟨fd, fun s u => b s [u] rfl, fun base XB GB TB => ?_⟩
  obtain ⟨oc, od, kV, doc, pm, an, cdv, ct, osl, e, lk, hcd⟩ := (fun_of F').ex
  subst e
  have ec := code_at (p := ("law", none)) rfl lk hcd
  subst ec
  obtain ⟨FA⟩ := facts (w := w) X G c hP ht XB GB (TB _ (List.mem_map_of_mem (List.mem_cons_of_mem _ List.mem_cons_self)))
  have ne : tabF K ≠ tabL K := of_decide_eq_true (He.ba (He.ba (He.ba c.more).2).2).2
  have tb : TabB base mg (He.codeOf K ("law", none)) (tabL K) := TB _ (List.mem_map_of_mem List.mem_cons_self)
  exact fn_of lk hcd scLaw (fun vs H Q E h => by obtain ⟨_, _, rfl, _⟩ := h; rfl) fun A outer s H vs Q E hr h => ⟨tLaw FA _, law_read FA tb ne hr, law_runs FA (fun i f c => ⟨_, rfl⟩) vs H Q E h⟩
end
end K23
set_option Elab.async false
set_option linter.all false
set_option maxRecDepth 100000
set_option maxHeartbeats 0
/-! K23o: the end. -/
open PySem PySem.W PySem.Calls PyProof.Rows
theorem PySem.Challenge.cw_fencehall_k23_refusals_apart_holds : PySem.Challenge.rw_fencehall_k23_refusals_apart.Holds := by
  w_on; o_law
  refine HandSHeadRun.head_any (r := OpenLaw.row PySem.Challenge.rw_fencehall_k23_refusals_apart) (q := view (OpenLaw.row PySem.Challenge.rw_fencehall_k23_refusals_apart).prog [36]) (H := K23.hkY) (ob := K23.obH) (M := 12000) (loose := K23.looseN) (d := HandSHeadRun.topDef (OpenLaw.row PySem.Challenge.rw_fencehall_k23_refusals_apart).prog 36) (kwd := []) K23.obH_eq
    (by kernel_rfl) (fun s => by kernel_rfl) K23.run (by kernel_rfl) (by kernel_rfl) (by kernel_rfl) (by rfl) (by first | assumption | decide +kernel) (by decide +kernel) ⟨rfl, rfl, rfl, rfl, rfl, by decide +kernel⟩ ?hw ?hc
  case hw => w_witness2
  case hc =>
    refine LamX.walk_ofTsE (l := PySem.Challenge.rw_fencehall_k23_refusals_apart) (n := 63) (k := 10) (x := "script") (CX := fun w => L2.CX PySem.Challenge.rw_fencehall_k23_refusals_apart.prog w) rfl (by decide) (by kernel_rfl) ⟨rfl, by decide, by decide⟩ ?F ?hX
    case F =>
      intro w mg fa h Y G hmg0
      obtain ⟨K, KX, c⟩ := Y
      have hmg : mg ("law" : PySem.Str) = some (.ref fa) := by
        have e : (HandSHeadRun.topDef (OpenLaw.row PySem.Challenge.rw_fencehall_k23_refusals_apart).prog 36).name = ("law" : PySem.Str) := by kernel_rfl
        rw [← e]
        exact hmg0
      have e := hmg.symm.trans (K23.glo_of KX G c "law")
      cases e
      obtain ⟨fd, hb, hF⟩ := K23.law_ok (P := PySem.Challenge.rw_fencehall_k23_refusals_apart.prog) (w := w) KX G c (by kernel_rfl) (by kernel_rfl)
      have of : ∀ {Q : Addr × Addr → Prop}, (∀ p ∈ K23.tfs, Q (He.cT K p)) → ∀ p ∈ K23.tfs.map (He.cT K), Q p := fun {Q} f p hp => by
        obtain ⟨q, hq, rfl⟩ := List.mem_map.mp hp
        exact f q hq
      refine ⟨K, KX, fd, K23.tfs.map (He.cT K), K23.spLaw K (K23.tabL K) (K23.tabF K), of c.empty, of c.out, of fun p hp => PySem.W.codeHd_of_K KX (c.hd p hp), hb, fun H a ns hl hbits hT hS => ⟨a, ns, rfl, hS, hT _ (List.mem_map_of_mem List.mem_cons_self), hT _ (List.mem_map_of_mem (List.mem_cons_of_mem _ List.mem_cons_self)), fun _ => rfl⟩, hF⟩
    case hX =>
      intro w H s e s' z
      obtain ⟨a, B, H', cls, d, _, _, _, _, _, _, _, z⟩ := z
      exact z
